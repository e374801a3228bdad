/- Lemmas of this proof. -/
import Derived.Test.YtdnlngbjpdbffaaGreatDoorHJ12
import Derived.Test.YtdnlngbjpdbffaaGreatDoorHJ13
set_option maxHeartbeats 1000000
set_option maxRecDepth 10000
set_option linter.all false
namespace Go.Nt
open Go Go.Sy
def wC(k x:Nat):List Value:=(dg 18446744073709551616 k x).map nv
theorem zfC(k x:Nat):(wC k x).length=k:=by unfold wC;rw[A1,zdW]
theorem ziB(k x i:Nat)(h:i<k):(wC k x)[i]?=some (nv (x/18446744073709551616^i%18446744073709551616)):=by
 unfold wC;rw[Ak,zfE _ k x i h];rfl
theorem zm1(k x:Nat):(wC k x).all (·.oneCell')=true:=zxi _
theorem zqU{W:Nat}(a c s t:Nat)(j:2^s*2^t=W)(hc:c<2^s):(a*2^s%W ||| c)=a*2^s%W+c:=by
 rw[<-j,AN (2^s) (2^t),DT];exact or_add _ _ _ hc
def bel(d i:Nat):Nat:=if i=0 then 0 else d/18446744073709551616^(i-1)%18446744073709551616
theorem znn(d i:Nat):bel d (i+1)=d/18446744073709551616^i%18446744073709551616:=by unfold bel;rw[if_neg q_o,B8]
theorem zw4(d i:Nat):bel d i<18446744073709551616:=by
 unfold bel;split
 ·decide
 ·exact AG _ q_e
theorem zmF(d s t i:Nat)(j:2^s*2^t=18446744073709551616):d*2^s/18446744073709551616^i%18446744073709551616=d/18446744073709551616^i%18446744073709551616*2^s%18446744073709551616+bel d i/2^t:=by
 cases i with
 |zero=>rw[zqg,show bel d 0=0 from rfl,EA,Ax,Co,Bi]
 |succ i=>rw[znn];exact zlu 18446744073709551616 d s t i j.symm
theorem zwc{W u v q:Nat}(hv:0<v)(j:q<W)(h1:q*v<=u)(h2:q+1=W\/u<(q+1)*v):min (W-1) (u/v)=q:=by
 rcases h2 with h|h
 ·have:q<=u/v:=(CI hv).2 h1;rw[BX q_o];omega
 ·rw[(zf5 u v q h1 h).1,E5 q_o]
end Go.Nt
namespace Go.Proofs.YtdnlngbjpdbffaaGreatDoor
open Go Go.Sy Go.Nt Go.RowKit
attribute [local irreducible] Sy SyL SyX Sy.Fn callFunc zg wC
theorem zlL(d s:Nat)(w:World)(P:d<18446744073709551616^16)(U:s<64):
  q_G 329 [zu d,.int .i64 s] w (.agg (wC 17 (d*2^s)).toArray):=by
 refine zz Tryz.func329 Tryz.ntmps329 ?_;have Q:=zb d;have O:=zbF d;have q:=zfC 17 (d*2^s);have F:=ziB 17 (d*2^s);have G:=zm1 17 (d*2^s);obtain⟨t,V⟩:∃t,t=64-s:=⟨_,rfl⟩;have E:(2:Nat)^s*2^t=18446744073709551616:=by rw[<-B6,show s+t=64 by omega]
 have H:=λi=>zmF d s t i E;have I:IntKind.i64.wrap (64-(s:Int))=((t:Nat):Int):=q_w;have A:=λa c=>zqU (W:=18446744073709551616) a c s t E;generalize wC 17 (d*2^s)=l at*;repeat' (first|refine s_t ?_|refine ze 0 ?_;refine zi ?_;intro _;refine zi ?_;intro _|refine q_k 1 ?_|refine ze 2 ?_;refine q_x (zd (B:=zg d)) ?_)
 rename_i S J;refine zX (γ:=Nat) (λi=>[(1,.int .i64 s),(4,.pointer (some ⟨J,0,none⟩)),(5,nv (bel d i)),(8,zu d),(9,.int .i64 i)])
  (λi=>[.blk J 330 (l.take i++List.replicate (17-i) (.int .u64 0))])
  (λi=>i<=16) (λi=>16-i) 0 (AE _) ?_ ?_ ?_
 ·exact q_h
 ·exact q_h
 intro i T;have R:(l.take i++List.replicate (17-i) (Value.int IntKind.u64 0)).length=17:=by rw[A3,Ad,AJ];omega
 have m:=zw4 d i;have M:bel d i/2^t<2^s:=(Af (Ab q_e)).2 (by rw[E];exact m);have K:bel d i/2^t<18446744073709551616:=BQ (C6 _ _) m;by_cases r:i<16
 ·have N:=O i r;have hu:=F i q_o;rw[H i] at hu;have j:=zhy l (.int .u64 0) _ 17 i hu q_o q;have L:=znn d i;have A:=A (d/18446744073709551616^i%18446744073709551616) _ M;generalize d/18446744073709551616^i%18446744073709551616=v at*;rw[<-A] at j;generalize bel d i=e at*;repeat' (first|refine s_t ?_|refine ze 3 ?_;refine q_v zm ?_|refine q_k 4 ?_;refine q_x (zhq (hv:=N)) ?_|refine zal (id:=5) 9 [[],[],[],[1,2],[],[],[5],[4,5,6],[1,2,3,4,5,6,7],[0,1,2,3,4,5,6,7,8],[0,1,2,3,4,5,6,7,8,9]] mixed ?_ ?_;kernel_rfl;refine zO ?_;refine zO ?_;refine zO ?_;refine q_D (zgL (a:=v) (n:=s)) ?_;refine zO ?_;refine zO ?_;refine q_D (zab (hr:=I)) ?_;refine q_D (zgw (a:=e) (n:=t) m) ?_;refine q_D (ziD (a:=v*2^s%18446744073709551616) (b:=e/2^t) (AG _ q_e) K) ?_;refine zaG ?_;refine zR ?_;refine zJ ?_|refine q_k 6 ?_|refine ze 7 ?_;refine za9 ?_;refine zf ?_)
  refine zQ (i+1) ?_ ?_ ?_ ?_
  ·show i+1<=16;omega
  ·show 16-(i+1)<16-i;omega
  ·rw[L];exact q_h
  ·show SubR [.blk J 330 (l.take (i+1)++List.replicate (17-(i+1)) (.int .u64 0))] _;rw[<-j];exact q_h
 obtain rfl:i=16:=q_o;have hu:=F 16 q_o;rw[H 16,Ap P,C3,BA,C3,AU] at hu;have j:=zhy l (.int .u64 0) _ 17 16 hu q_o q;have r:l.take (16+1)=l:=A9 q_o;rw[r,CV,AH] at j;generalize bel d 16=e at*;repeat' (first|refine s_0 ?_|refine ze 3 ?_;refine q_v zm ?_|refine q_k 8 ?_;refine q_v (zab (hr:=I)) ?_;refine q_v (zgw (a:=e) (n:=t) m) ?_;refine zR ?_;refine zJ ?_)
 rw[j];repeat' (first|refine s_0 ?_|refine ze 9 ?_;refine q_v (zd (B:=l)) ?_;refine q_n (zA (B:=l) (hv:=G) (h1:=q.symm)) ?_)
 exact zaq rfl (zB (B:=l) rfl (ty rfl) rfl En Em q.symm) El ⟨rfl,rfl⟩
theorem zoG(L u1 u0 j v0:Nat)(w:World)(h2:L<=j)(h1:u1<18446744073709551616)(h0:u0<18446744073709551616)(U:j<18446744073709551616)(H:v0<18446744073709551616)(I:0<j):
  q_G 330 [nv L,nv u1,nv u0,nv j,nv v0] w (nv (min (18446744073709551616-1) (((L*18446744073709551616+u1)*18446744073709551616+u0)/(j*18446744073709551616+v0)))):=by
 refine zz Tryz.func330 Tryz.ntmps330 ?_;obtain⟨X,hX⟩:∃X,X=L*18446744073709551616+u1:=⟨_,rfl⟩;rw[<-hX];have hV:0<j*18446744073709551616+v0:=q_o;have A:=λq=>zwc (W:=18446744073709551616) (u:=X*18446744073709551616+u0) (q:=q) hV;repeat' (first|refine s_0 ?_|refine zdk ?_|refine zL [0,1] ?_;refine zf ?_|refine q_k 2 ?_;refine q_v zai ?_)
 refine zda (γ:=Nat×Nat) (λg=>[(2,nv u0),(3,nv j),(4,nv v0),(10,.int .u64 0),(11,nv g.1),(12,nv g.2)]) (λ_=>[]) (λg=>g.1*j+g.2=X/\g.2<18446744073709551616/\g.1<18446744073709551616/\(g.1+1=18446744073709551616\/X*18446744073709551616+u0<(g.1+1)*(j*18446744073709551616+v0))) ?_ ?_
 ·refine zew rfl (λhu=>?_) (λhu=>?_)
  ·have hu:=of_decide_eq_true hu;have b0:L=j:=q_o;have e:18446744073709551615*j+(u1+j)=X:=q_o;by_cases hc:18446744073709551616<=u1+j
   ·have hr:(u1+j+0)/18446744073709551616=1:=q_o;have F:decide ((((u1+j+0)/18446744073709551616:Nat):Int)≠0)=true:=decide_eq_true (by rw[hr];decide);repeat' (first|refine s_0 ?_|refine zbO ?_|refine zL [3,4,7] ?_;refine zf ?_|refine q_k 5 ?_;refine q_x (zc8 (hr:=zct u1 j 0 q_e)) ?_|refine q_k 6 ?_;refine q_v (zV (hr:=F)) ?_)
    refine zaq rfl (zj rfl) El ⟨?_,rfl⟩;exact congrArg nv (A 18446744073709551615 q_e (zeh e (zhx H q_e hc)) (.inl rfl)).symm
   ·have V:decide ((((u1+j+0)/18446744073709551616:Nat):Int)≠0)=false:=q_f;repeat' (first|refine s_0 ?_|refine zL [3,4] ?_;refine zf ?_|refine q_k 5 ?_;refine q_x (zc8 (hr:=zct u1 j 0 q_e)) ?_|refine q_k 6 ?_;refine q_v (zV (hr:=V)) ?_)
    exact zam (18446744073709551615,(u1+j+0)%18446744073709551616) ⟨by show 18446744073709551615*j+(u1+j+0)%18446744073709551616=X;omega,by show(u1+j+0)%18446744073709551616<_;omega,by show 18446744073709551615<18446744073709551616;decide,.inl rfl⟩ q_h q_h
  ·have hu:=of_decide_eq_false hu;have Z:=Fo 18446744073709551616 X u0 j v0 I h0;have a8:=AG X I;have R:X/j<18446744073709551616:=(Af I).2 q_o;have hd:=λw=>znH L u1 j w q_o U h1;rw[<-hX] at hd;repeat' (first|refine zaC ?_|refine zaD ?_|refine q_k 8 ?_;refine q_v (za (hc:=q_c hd)) ?_;refine zf ?_)
   exact zam (X/j,X%j) ⟨Z.eq,by show X%j<_;omega,R,.inr Z.up⟩ q_h q_h
 rintro⟨q,r⟩ ⟨E,hr,G,m⟩;dsimp only at E hr G m ⊢;repeat' (first|refine s_t ?_|fail)
 refine zX (γ:=Nat×Nat) (λg=>[(2,nv u0),(3,nv j),(4,nv v0),(10,.int .u64 0),(11,nv g.1),(12,nv g.2)]) (λ_=>[]) (λg=>g.1*j+g.2=X/\g.2<18446744073709551616/\g.1<18446744073709551616/\(g.1+1=18446744073709551616\/X*18446744073709551616+u0<(g.1+1)*(j*18446744073709551616+v0))) (λg=>g.1) (q,r) ⟨E,hr,G,m⟩ ?_ ?_ ?_
 ·exact q_h
 ·exact q_h
 clear E hr G m;rintro⟨q,r⟩ ⟨E,hr,G,m⟩;dsimp only at E hr G m ⊢;have M:=λw=>zjH q v0 w G H;have a7:=Ae (q*v0) 18446744073709551616;have a6:=AG (q*v0) (show 0<18446744073709551616 by decide);refine zfh ?_;repeat' (first|refine s_0 ?_|refine q_k 9 ?_;refine q_v (za (hc:=q_c M)) ?_;refine zf ?_)
 refine zda (γ:=Bool) (λg=>[(2,nv u0),(3,nv j),(4,nv v0),(10,.int .u64 0),(11,nv q),(12,nv r),(54,.bool g)]) (λ_=>[]) (λg=>(g=true->q*v0<=r*18446744073709551616+u0)/\(g=false->r*18446744073709551616+u0<q*v0)) ?_ ?_
 ·generalize q*v0%18446744073709551616=Y,q*v0/18446744073709551616=K at*;rcases DL K r with h|h|h
  ·have J:decide ((K:Int)<(r:Int))=true:=q_d;repeat' (first|refine zaC ?_|refine zaD ?_|refine q_k 10 ?_;refine q_x (zm (hr:=J)) ?_)
   exact zam true ⟨λ_=>by omega,λh=>absurd h q_e⟩ q_h q_h
  ·have J:decide ((K:Int)<(r:Int))=false:=q_f;have N:decide ((K:Int)=(r:Int))=true:=q_d;by_cases hl:Y<=u0
   ·have P:decide ((Y:Int)<=(u0:Int))=true:=q_d;repeat' (first|refine zaC ?_|refine zaD ?_|refine q_k 10 ?_;refine q_x (zm (hr:=J)) ?_;refine q_x (zY (hr:=N)) ?_;refine q_x (zaP (hr:=P)) ?_)
    exact zam true ⟨λ_=>by omega,λh=>absurd h q_e⟩ q_h q_h
   ·have P:decide ((Y:Int)<=(u0:Int))=false:=q_f;repeat' (first|refine zaC ?_|refine zaD ?_|refine q_k 10 ?_;refine q_x (zm (hr:=J)) ?_;refine q_x (zY (hr:=N)) ?_;refine q_x (zaP (hr:=P)) ?_)
    exact zam false ⟨λh=>absurd h q_e,λ_=>by omega⟩ q_h q_h
  ·have J:decide ((K:Int)<(r:Int))=false:=q_f;have N:decide ((K:Int)=(r:Int))=false:=q_f;repeat' (first|refine zaC ?_|refine zaD ?_|refine q_k 10 ?_;refine q_x (zm (hr:=J)) ?_;refine q_x (zY (hr:=N)) ?_)
   exact zam false ⟨λh=>absurd h q_e,λ_=>by omega⟩ q_h q_h
 rintro t ⟨T,Q⟩;cases t with
 |true=>
  have T:=T rfl;repeat' (first|refine s_0 ?_|refine zbO ?_|refine q_k 15 ?_)
  exact zaq rfl (zj rfl) El ⟨congrArg nv (A q G (zeh E T) m).symm,rfl⟩
 |false=>
  have Q:=Q rfl;obtain⟨a9,O⟩:=zjG E (zkR E Q);have B:IntKind.u64.wrap ((q:Int)-1)=((q-1:Nat):Int):=by rw[IntWalk.u64_in _ q_o];omega
  by_cases hc:18446744073709551616<=r+j
  ·have S:(r+j+0)/18446744073709551616=1:=q_o;have F:decide ((((r+j+0)/18446744073709551616:Nat):Int)≠0)=true:=decide_eq_true (by rw[S];decide);repeat' (first|refine s_0 ?_|refine zbO ?_|refine q_k 11 ?_;refine q_x (zab (hr:=B)) ?_|refine zL [12,15] ?_;refine zf ?_|refine q_k 13 ?_;refine q_x (zc8 (hr:=zct r j 0 q_e)) ?_|refine q_k 14 ?_;refine q_v (zV (hr:=F)) ?_)
   exact zaq rfl (zj rfl) El ⟨congrArg nv (A (q-1) q_o (zeh O.eq (zhx H q_o hc)) (.inr O.up)).symm,rfl⟩
  ·have V:decide ((((r+j+0)/18446744073709551616:Nat):Int)≠0)=false:=q_f;repeat' (first|refine s_0 ?_|refine q_k 11 ?_;refine q_x (zab (hr:=B)) ?_|refine q_k 12 ?_|refine q_k 13 ?_;refine q_x (zc8 (hr:=zct r j 0 q_e)) ?_|refine q_k 14 ?_;refine q_v (zV (hr:=V)) ?_)
   refine zQ (q-1,(r+j+0)%18446744073709551616) ⟨by have:=O.eq;show(q-1)*j+(r+j+0)%18446744073709551616=X;omega,by show(r+j+0)%18446744073709551616<_;omega,by show q-1<_;omega,.inr O.up⟩ ?_ ?_ ?_
   ·show q-1<q;omega
   ·exact q_h
   ·exact q_h
theorem zms(k x:Nat):wC k x=(dg 18446744073709551616 k x).map nv:=by unfold wC;rfl
theorem ztb{q v j lo c d u z c' d' k:Nat}(h1:18446744073709551616*j+lo=q*v)(h2:18446744073709551616*k+(lo+c+0)%18446744073709551616=lo+c)(m:c'=j+k)(r:z+(lo+c+0)%18446744073709551616+d=u+d'*18446744073709551616):z+q*v+(c+d)=u+(c'+d')*18446744073709551616:=q_o
theorem zol(A H j n q U V:Nat)(w:World)(a6:¬H=A)(b1:j+n<17)(hU:U<18446744073709551616^17)(hV:V<18446744073709551616^n)(hq:q<18446744073709551616)
  (hC:(Res.blk A 330 (wC 17 U)).holds w)(hB:w.rangeAt H 0 (wC 17 V)):
  Sy.Fn Tryz.prog 331 [.slice (some ⟨A,j,none⟩) (n+1) (n+1),.slice (some ⟨H,0,none⟩) n n,nv q] w (λx=>x=A)
   (λv R=>∃E d,d<=1/\v= .bool (decide (((d:Nat):Int)≠0))/\E<18446744073709551616^17/\E+q*V*18446744073709551616^j=U+d*18446744073709551616^(j+n+1)/\(U<18446744073709551616^(j+n+1)->E<18446744073709551616^(j+n+1))/\R= [.blk A 330 (wC 17 E)]):=by
 have O:Holds w.heap.size (λx=>x=A) [.blk A 330 (wC 17 U)] w:=⟨λx hx=>by obtain rfl:=AC.1 hx;exact hC,Ba _ _,λx hx y hy=>by obtain rfl:=AC.1 hx;exact .inr (Da hy)⟩;refine zaT Tryz.func331 rfl Tryz.ntmps331 q_p O ?_;have a7:=DivJ.start 18446744073709551616 17 U V j q q_e hU;have X:=ziB 17 V;repeat' (first|refine s_t ?_|refine zL [0,1,2] ?_;refine zf ?_)
 refine zX (γ:=Nat×List Nat×Nat×Nat) (λg=>[(0,.slice (some ⟨A,j,none⟩) (n+1) (n+1)),(1,.slice (some ⟨H,0,none⟩) n n),(2,nv q),(6,.bool false),(7,nv g.2.2.2),(8,nv g.2.2.1),(14,.int .i64 n),(15,.int .i64 g.1)])
  (λg=>[.blk A 330 (g.2.1.map nv)])
  (λg=>g.1<=n/\DivJ 18446744073709551616 17 U V j q g.1 g.2.1 g.2.2.1 g.2.2.2) (λg=>n-g.1) (0,dg 18446744073709551616 17 U,0,0) ⟨AE _,a7⟩ ?_ ?_ ?_
 ·exact q_h
 ·show SubR [.blk A 330 ((dg 18446744073709551616 17 U).map nv)] _;rw[<-zms];exact q_h
 rintro⟨i,l,c,d⟩ ⟨hi,B⟩;dsimp only at hi B ⊢;have Z:=B.len;have b3:(l.map nv).length=17:=by rw[List.length_map,Z]
 have W:=B.car;have J:=B.bit;by_cases hlt:i<n
 ·have hu:=B.rest (j+i) (A8 _) q_o;have G:(l.map nv)[j+i]?=some (nv (U/18446744073709551616^(j+i)%18446744073709551616)):=by rw[Ak,hu];rfl
  have a9:w.cell? ⟨H,i,none⟩=some (nv (V/18446744073709551616^i%18446744073709551616)):=by
   have:=hB i _ (X i q_o);rw[AU] at this;exact this
  have a8:U/18446744073709551616^(j+i)%18446744073709551616<18446744073709551616:=AG _ q_e;have M:V/18446744073709551616^i%18446744073709551616<18446744073709551616:=AG _ q_e;have hstep:=λz c' d'=>B.step (z:=z) (c':=c') (d':=d') (show j+i<17 by omega);generalize V/18446744073709551616^i%18446744073709551616=v,U/18446744073709551616^(j+i)%18446744073709551616=u at*;have K:=λw=>zjH q v w hq M;have e1:=Ae (q*v) 18446744073709551616;have Y:q*v/18446744073709551616+(q*v%18446744073709551616+c+0)/18446744073709551616<18446744073709551616:=
   zwC 18446744073709551616 q v c _ (q*v%18446744073709551616) ((q*v%18446744073709551616+c+0)%18446744073709551616) _ hq M W q_o q_o
  have b0:=AG (q*v) (show 0<18446744073709551616 by decide);have e2:=Ae (q*v%18446744073709551616+c+0) 18446744073709551616;have b2:(q*v%18446744073709551616+c+0)%18446744073709551616<18446744073709551616:=AG _ q_e;repeat' (first|refine s_t ?_|refine ze 3 ?_;refine q_v zm ?_|refine zL [4,6] ?_;refine zf ?_|refine q_k 5 ?_;refine zR ?_;refine q_v (zp (hv:=a9) (hn:=a6)) ?_;refine q_v (za (hc:=q_c K)) ?_;refine zf ?_|refine q_k 7 ?_;refine q_x (zc8 (hr:=zct (q*v%18446744073709551616) c 0 q_e)) ?_|refine q_k 8 ?_;refine q_x zeD ?_|refine q_k 9 ?_;refine zR ?_;refine q_x (zM (hv:=G)) ?_;refine q_x (zc8 (hr:=zhF u ((q*v%18446744073709551616+c+0)%18446744073709551616) d J)) ?_;refine zR ?_;refine zJ ?_;refine zf ?_|refine ze 10 ?_;refine za9 ?_;refine zf ?_)
  obtain⟨z,N⟩:∃z,(u+18446744073709551616-(q*v%18446744073709551616+c+0)%18446744073709551616-d)%18446744073709551616=z:=⟨_,rfl⟩;obtain⟨c',I⟩:∃c',(q*v/18446744073709551616+(q*v%18446744073709551616+c+0)/18446744073709551616)%18446744073709551616=c':=⟨_,rfl⟩;obtain⟨d',m⟩:∃d',(if u<(q*v%18446744073709551616+c+0)%18446744073709551616+d then 1 else 0)=d':=⟨_,rfl⟩;rw[N,I,m];have r:d'<=1:=by rw[<-m];split <;> omega
  refine zQ (i+1,l.set (j+i) z,c',d') ⟨by show i+1<=n;omega,hstep z c' d' q_o q_o r ?_⟩ ?_ ?_ ?_
  ·refine ztb e1 q_o (by rw[<-I];exact AA Y) ?_;rw[<-N];generalize (q*v%18446744073709551616+c+0)%18446744073709551616=f at*;rw[<-m];split <;> omega
  ·show n-(i+1)<n-i;omega
  ·exact q_h
  ·show SubR [.blk A 330 ((l.set (j+i) z).map nv)] _;rw[Bw];exact q_h
 obtain rfl:i=n:=q_o;have hu:=B.rest (j+i) (A8 _) q_o;have G:(l.map nv)[j+i]?=some (nv (U/18446744073709551616^(j+i)%18446744073709551616)):=by rw[Ak,hu];rfl
 have a8:U/18446744073709551616^(j+i)%18446744073709551616<18446744073709551616:=AG _ q_e;have F:=λz d'=>B.last (z:=z) (d':=d') (show j+i<17 by omega) hV;generalize U/18446744073709551616^(j+i)%18446744073709551616=u at*;repeat' (first|refine s_0 ?_|refine ze 3 ?_;refine q_v zm ?_|refine q_k 11 ?_;refine zR ?_;refine q_x (zM (hv:=G)) ?_;refine q_x (zc8 (hr:=zhF u c d J)) ?_;refine zR ?_;refine zJ ?_;refine zf ?_)
 obtain⟨z,N⟩:∃z,(u+18446744073709551616-c-d)%18446744073709551616=z:=⟨_,rfl⟩;obtain⟨d',m⟩:∃d',(if u<c+d then 1 else 0)=d':=⟨_,rfl⟩;rw[N,m];have r:d'<=1:=by rw[<-m];split <;> omega
 obtain⟨E,P,Q,S,T⟩:=F z d' q_o (by rw[<-N,<-m];split <;> omega) r;have L:(l.map nv).set (j+i) (nv z)=wC 17 E:=by rw[<-Bw,P,<-zms]
 repeat' (first|refine s_0 ?_|refine q_k 12 ?_;refine zat ?_;refine zf ?_)
 exact zaq rfl (zj rfl) (by (repeat' (first|exact El|apply Es;with_reducible (focus ((repeat (first|exact Ej|apply Ek));done))|apply Ez;(focus ((repeat (first|exact Ej|apply Ek));done))|apply Ew;(focus ((repeat (first|exact Ej|apply Ek));done))|rfl));exact L) ⟨E,d',r,rfl,Q,S,T,rfl⟩
theorem zpW(m G j n U V:Nat)(w:World)(S:¬G=m)(a6:j+n<17)(hU:U<18446744073709551616^17)(hV:V<18446744073709551616^n)
  (hC:(Res.blk m 330 (wC 17 U)).holds w)(hB:w.rangeAt G 0 (wC 17 V)):
  Sy.Fn Tryz.prog 332 [.slice (some ⟨m,j,none⟩) (n+1) (n+1),.slice (some ⟨G,0,none⟩) n n] w (λx=>x=m)
   (λv R=>∃r d,v= .tuple #[]/\r<18446744073709551616^17/\r+d*18446744073709551616^(j+n+1)=U+V*18446744073709551616^j/\(U<18446744073709551616^(j+n+1)->r<18446744073709551616^(j+n+1))/\R= [.blk m 330 (wC 17 r)]):=by
 have I:Holds w.heap.size (λx=>x=m) [.blk m 330 (wC 17 U)] w:=⟨λx Y=>by obtain rfl:=AC.1 Y;exact hC,Ba _ _,λx Y y hy=>by obtain rfl:=AC.1 Y;exact .inr (Da hy)⟩;refine zaT Tryz.func332 rfl Tryz.ntmps332 q_p I ?_;have T:=ResJ.start 18446744073709551616 17 U V j q_e hU;have P:=ziB 17 V;repeat' (first|refine s_t ?_|refine zL [0,1] ?_;refine zf ?_)
 refine zX (γ:=Nat×List Nat×Nat) (λg=>[(0,.slice (some ⟨m,j,none⟩) (n+1) (n+1)),(1,.slice (some ⟨G,0,none⟩) n n),(4,nv g.2.2),(7,.int .i64 n),(8,.int .i64 g.1)])
  (λg=>[.blk m 330 (g.2.1.map nv)])
  (λg=>g.1<=n/\ResJ 18446744073709551616 17 U V j g.1 g.2.1 g.2.2) (λg=>n-g.1) (0,dg 18446744073709551616 17 U,0) ⟨AE _,T⟩ ?_ ?_ ?_
 ·exact q_h
 ·show SubR [.blk m 330 ((dg 18446744073709551616 17 U).map nv)] _;rw[<-zms];exact q_h
 rintro⟨i,l,c⟩ ⟨hi,B⟩;dsimp only at hi B ⊢;have Q:=B.len;have a7:(l.map nv).length=17:=by rw[List.length_map,Q]
 have O:=B.bit;by_cases hlt:i<n
 ·have hu:=B.rest (j+i) (A8 _) q_o;have F:(l.map nv)[j+i]?=some (nv (U/18446744073709551616^(j+i)%18446744073709551616)):=by rw[Ak,hu];rfl
  have X:w.cell? ⟨G,i,none⟩=some (nv (V/18446744073709551616^i%18446744073709551616)):=by
   have:=hB i _ (P i q_o);rw[AU] at this;exact this
  have W:U/18446744073709551616^(j+i)%18446744073709551616<18446744073709551616:=AG _ q_e;have a8:V/18446744073709551616^i%18446744073709551616<18446744073709551616:=AG _ q_e;have hstep:=λz c'=>B.step (z:=z) (c':=c') (show j+i<17 by omega);generalize V/18446744073709551616^i%18446744073709551616=v,U/18446744073709551616^(j+i)%18446744073709551616=u at*;obtain⟨z,hz⟩:∃z,(u+v+c)%18446744073709551616=z:=⟨_,rfl⟩;obtain⟨c',N⟩:∃c',(u+v+c)/18446744073709551616=c':=⟨_,rfl⟩;have A:=zct u v c O;rw[hz,N] at A;have q:(l.map nv).set (j+i) (nv z)=(l.set (j+i) z).map nv:=by rw[Bw]
  repeat' (first|refine s_t ?_|refine ze 2 ?_;refine q_v zm ?_|refine q_k 3 ?_)
  refine zcB (id:=4) mixed ?_
  (refine zcC 17 17 [[],[],[],[],[2,3],[2,3,4],[],[],[6,7],[6,7,8],[],[2,3,4,5,6,7,8,9,10],[2,3,4,5,6,7,8,9,10,11],[2,3,4,5,6,7,8,9,10,11,12],[2,3,4,5,6,7,8,9,10,11,12],[0,1,2,3,4,5,6,7,8,9,10,11,12,13],[0,1,2,3,4,5,6,7,8,9,10,11,12,13,15],[0,1,2,3,4,5,6,7,8,9,10,11,12,13,14,15,16]] [[],[],[],[],[],[],[],[],[],[],[],[],[],[],[],[],[],[]] (some 16) rfl ?_ ?_ ?_;kernel_rfl;kernel_rfl;refine q_E zar ?_;refine q_E zar ?_;refine q_E zar ?_;refine q_E zar ?_;refine zcw ?_;refine q_E (zM (hv:=F)) ?_;refine q_E zar ?_;refine q_E zar ?_;refine zcw ?_;refine q_E (zp (hv:=X) (hn:=S)) ?_;refine q_E zar ?_;refine q_E (zc8 (hr:=A)) ?_;refine q_E zar ?_;refine q_E zan ?_;refine q_E zan ?_;refine zcw ?_;try refine dh_0nE (h:=?_))
  refine zkD (R:=λ_ _ Z=>Z= [.blk m 330 ((l.map nv).set (j+i) (nv z))]) (λ_ _ _=>rfl) (λρ hρ=>FA (zaK (C:=l.map nv) (L':=[.blk m 330 ((l.map nv).set (j+i) (nv z))])) λv L' h=>?_) (h:=?_)
  ·obtain⟨rfl,rfl⟩:=h;exact⟨_,(AH _).symm,rfl⟩
  refine zeJ (h:=?_);rintro ρ ⟨H,-⟩
  (refine zcD [[],[],[],[],[2,3],[2,3,4],[],[],[6,7],[6,7,8],[],[2,3,4,5,6,7,8,9,10],[2,3,4,5,6,7,8,9,10,11],[2,3,4,5,6,7,8,9,10,11,12],[2,3,4,5,6,7,8,9,10,11,12],[0,1,2,3,4,5,6,7,8,9,10,11,12,13],[0,1,2,3,4,5,6,7,8,9,10,11,12,13,15],[0,1,2,3,4,5,6,7,8,9,10,11,12,13,14,15,16]] ?_ ?_;kernel_rfl)
  have H:(ρ 16).2= [.blk m 330 ((l.map nv).set (j+i) (nv z))]:=H;refine F9 (fr':=[(25,nv c'),(0,.slice (some ⟨m,j,none⟩) (n+1) (n+1)),(1,.slice (some ⟨G,0,none⟩) n n),(7,.int .i64 n),(8,.int .i64 i)])
   (L':=[.blk m 330 ((l.set (j+i) z).map nv)]) ?_ ?_ ?_
  ·repeat' (first|refine s_0 ?_|refine ze 5 ?_;refine za9 ?_;refine zf ?_|(refine zx ?_;first|refine zo ?_|fail)|fail)
   refine zQ (i+1,l.set (j+i) z,c') ⟨by show i+1<=n;omega,hstep z c' q_o q_o q_o⟩ ?_ ?_ ?_
   ·show n-(i+1)<n-i;omega
   ·exact q_h
   ·exact q_h
  ·exact q_h
  ·show SubR _ ((ρ 16).2++[]);rw[H,q];exact q_h
 obtain rfl:i=n:=q_o;have hu:=B.rest (j+i) (A8 _) q_o;have F:(l.map nv)[j+i]?=some (nv (U/18446744073709551616^(j+i)%18446744073709551616)):=by rw[Ak,hu];rfl
 have W:U/18446744073709551616^(j+i)%18446744073709551616<18446744073709551616:=AG _ q_e;have E:=λz d'=>B.last (z:=z) (d':=d') (show j+i<17 by omega) hV;generalize U/18446744073709551616^(j+i)%18446744073709551616=u at*;obtain⟨r,J,K,L,M⟩:=E ((u+c)%18446744073709551616) ((u+c)/18446744073709551616) (AG _ q_e) q_e q_o;have q:(l.map nv).set (j+i) (nv ((u+c)%18446744073709551616))=wC 17 r:=by rw[<-Bw,J,<-zms]
 repeat' (first|refine s_0 ?_|refine ze 2 ?_;refine q_v zm ?_|refine q_k 6 ?_;refine zR ?_;refine q_x (zM (hv:=F)) ?_;refine q_v zeD ?_;refine zR ?_;refine zJ ?_)
 refine ze2 (R:=[.blk m 330 (wC 17 r)]) rfl ?_ ?_
 ·(repeat' (first|exact El|apply Es;with_reducible (focus ((repeat (first|exact Ej|apply Ek));done))|apply Ez;(focus ((repeat (first|exact Ej|apply Ek));done))|apply Ew;(focus ((repeat (first|exact Ej|apply Ek));done))|rfl))
  exact q
 ·exact⟨r,_,rfl,K,L,M,rfl⟩
end Go.Proofs.YtdnlngbjpdbffaaGreatDoor
