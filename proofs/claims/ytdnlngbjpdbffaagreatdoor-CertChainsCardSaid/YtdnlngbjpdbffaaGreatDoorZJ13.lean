/- Lemmas. -/
import Derived.Test.YtdnlngbjpdbffaaGreatDoorZJ11
import Derived.Test.YtdnlngbjpdbffaaGreatDoorZJ12
set_option maxHeartbeats 1000000
set_option maxRecDepth 10000
set_option linter.all false
namespace Go.Nt
open Go Go.Sy
def wC(k x:Nat):List Value:=(dg 18446744073709551616 k x).map nv
theorem zgl(k x:Nat):(wC k x).length=k:=by unfold wC;rw[A0,zc3]
theorem zjv(k x i:Nat)(h:i<k):(wC k x)[i]?=some (nv (x/18446744073709551616^i%18446744073709551616)):=by
 unfold wC;rw[AW,zfd _ k x i h];rfl
theorem zo5(k x:Nat):(wC k x).all (·.oneCell')=true:=zyO _
theorem zsK{W:Nat}(a c s t:Nat)(j:2^s*2^t=W)(hc:c<2^s):(a*2^s%W ||| c)=a*2^s%W+c:=by
 rw[<-j,AM (2^s) (2^t),DU];exact or_add _ _ _ hc
def bel(d i:Nat):Nat:=if i=0 then 0 else d/18446744073709551616^(i-1)%18446744073709551616
theorem zon(d i:Nat):bel d (i+1)=d/18446744073709551616^i%18446744073709551616:=by unfold bel;rw[if_neg q_o,Aw]
theorem zyI(d i:Nat):bel d i<18446744073709551616:=by
 unfold bel;split
 ·decide
 ·exact AC _ q_e
theorem zpe(d s t i:Nat)(j:2^s*2^t=18446744073709551616):d*2^s/18446744073709551616^i%18446744073709551616=d/18446744073709551616^i%18446744073709551616*2^s%18446744073709551616+bel d i/2^t:=by
 cases i with
 |zero=>rw[zrG,show bel d 0=0 from rfl,EH,Ao,CH,BZ]
 |succ i=>rw[zon];exact zmG 18446744073709551616 d s t i j.symm
theorem zxg{W u v q:Nat}(hv:0<v)(j:q<W)(h1:q*v<=u)(h2:q+1=W\/u<(q+1)*v):min (W-1) (u/v)=q:=by
 rcases h2 with h|h
 ·have:q<=u/v:=(CU hv).2 h1;rw[BP q_o];omega
 ·rw[(zgW u v q h1 h).1,EA q_o]
end Go.Nt
namespace Go.Proofs.YtdnlngbjpdbffaaGreatDoor
open Go Go.Sy Go.Nt Go.RowKit
attribute [local irreducible] Sy SyL SyX Sy.Fn callFunc zg wC
theorem zmH(d s:Nat)(w:World)(P:d<18446744073709551616^16)(U:s<64):
  q_G 329 [zu d,.int .i64 s] w (.agg (wC 17 (d*2^s)).toArray):=by
 refine zt Tryz.func329 Tryz.ntmps329 ?_;have Q:=zd d;have O:=zbO d;have q:=zgl 17 (d*2^s);have F:=zjv 17 (d*2^s);have G:=zo5 17 (d*2^s);obtain⟨t,V⟩:∃t,t=64-s:=⟨_,rfl⟩;have E:(2:Nat)^s*2^t=18446744073709551616:=by rw[<-Ax,show s+t=64 by omega]
 have H:=λi=>zpe d s t i E;have I:IntKind.i64.wrap (64-(s:Int))=((t:Nat):Int):=q_w;have A:=λa c=>zsK (W:=18446744073709551616) a c s t E;generalize wC 17 (d*2^s)=l at*;repeat' (first|refine s_t ?_|refine zf 0 ?_;refine zk ?_;intro _;refine zk ?_;intro _|refine q_k 1 ?_|refine zf 2 ?_;refine q_x (ze (B:=zg d)) ?_)
 rename_i S J;refine zL (γ:=Nat) (λi=>[(1,.int .i64 s),(4,.pointer (some ⟨J,0,none⟩)),(5,nv (bel d i)),(8,zu d),(9,.int .i64 i)])
  (λi=>[.blk J 330 (l.take i++List.replicate (17-i) (.int .u64 0))])
  (λi=>i<=16) (λi=>16-i) 0 (AA _) ?_ ?_ ?_
 ·exact q_h
 ·exact q_h
 intro i T;have R:(l.take i++List.replicate (17-i) (Value.int IntKind.u64 0)).length=17:=by rw[A4,AS,AL];omega
 have m:=zyI d i;have M:bel d i/2^t<2^s:=(AZ (AU q_e)).2 (by rw[E];exact m);have K:bel d i/2^t<18446744073709551616:=B3 (Bz _ _) m;by_cases r:i<16
 ·have N:=O i r;have hu:=F i q_o;rw[H i] at hu;have j:=zif l (.int .u64 0) _ 17 i hu q_o q;have L:=zon d i;have A:=A (d/18446744073709551616^i%18446744073709551616) _ M;generalize d/18446744073709551616^i%18446744073709551616=v at*;rw[<-A] at j;generalize bel d i=e at*;repeat' (first|refine s_t ?_|refine zf 3 ?_;refine zaf ?_|refine q_k 4 ?_;refine q_x (zkQ (hv:=N)) ?_|refine zai (id:=5) 9 [[],[],[],[1,2],[],[],[5],[4,5,6],[1,2,3,4,5,6,7],[0,1,2,3,4,5,6,7,8],[0,1,2,3,4,5,6,7,8,9]] mixed ?_ ?_;kernel_rfl;refine zB ?_;refine zB ?_;refine zB ?_;refine q_D (zhs (a:=v) (n:=s)) ?_;refine zB ?_;refine zB ?_;refine q_D (zK (hr:=I)) ?_;refine q_D (zhp (a:=e) (n:=t) m) ?_;refine q_D (zjk (a:=v*2^s%18446744073709551616) (b:=e/2^t) (AC _ q_e) K) ?_;refine zaF ?_;refine zQ ?_;refine zP ?_|refine q_k 6 ?_|refine zf 7 ?_;refine zba ?_;refine zb ?_)
  refine zC (i+1) ?_ ?_ ?_ ?_
  ·show i+1<=16;omega
  ·show 16-(i+1)<16-i;omega
  ·rw[L];exact q_h
  ·show SubR [.blk J 330 (l.take (i+1)++List.replicate (17-(i+1)) (.int .u64 0))] _;rw[<-j];exact q_h
 obtain rfl:i=16:=q_o;have hu:=F 16 q_o;rw[H 16,An P,CF,BF,CF,Aa] at hu;have j:=zif l (.int .u64 0) _ 17 16 hu q_o q;have r:l.take (16+1)=l:=A6 q_o;rw[r,Cf,AJ] at j;generalize bel d 16=e at*;repeat' (first|refine s_0 ?_|refine zf 3 ?_;refine zaf ?_|refine q_k 8 ?_;refine q_v (zK (hr:=I)) ?_;refine q_v (zhp (a:=e) (n:=t) m) ?_;refine zQ ?_;refine zP ?_)
 rw[j];repeat' (first|refine s_0 ?_|refine zf 9 ?_;refine q_v (ze (B:=l)) ?_;refine q_n (zG (B:=l) (hv:=G) (h1:=q.symm)) ?_)
 exact zar rfl (zE (B:=l) rfl (ty rfl) rfl Ey Ex q.symm) Ev ⟨rfl,rfl⟩
theorem zpB(L u1 u0 j v0:Nat)(w:World)(h2:L<=j)(h1:u1<18446744073709551616)(h0:u0<18446744073709551616)(U:j<18446744073709551616)(H:v0<18446744073709551616)(I:0<j):
  q_G 330 [nv L,nv u1,nv u0,nv j,nv v0] w (nv (min (18446744073709551616-1) (((L*18446744073709551616+u1)*18446744073709551616+u0)/(j*18446744073709551616+v0)))):=by
 refine zt Tryz.func330 Tryz.ntmps330 ?_;obtain⟨X,hX⟩:∃X,X=L*18446744073709551616+u1:=⟨_,rfl⟩;rw[<-hX];have hV:0<j*18446744073709551616+v0:=q_o;have A:=λq=>zxg (W:=18446744073709551616) (u:=X*18446744073709551616+u0) (q:=q) hV;repeat' (first|refine s_0 ?_|refine zdO ?_|refine zA [0,1] ?_;refine zb ?_|refine q_k 2 ?_;refine q_v zO ?_)
 refine zcu (γ:=Nat×Nat) (λg=>[(2,nv u0),(3,nv j),(4,nv v0),(10,.int .u64 0),(11,nv g.1),(12,nv g.2)]) (λ_=>[]) (λg=>g.1*j+g.2=X/\g.2<18446744073709551616/\g.1<18446744073709551616/\(g.1+1=18446744073709551616\/X*18446744073709551616+u0<(g.1+1)*(j*18446744073709551616+v0))) ?_ ?_
 ·refine ze2 rfl (λhu=>?_) (λhu=>?_)
  ·have hu:=of_decide_eq_true hu;have b0:L=j:=q_o;have e:18446744073709551615*j+(u1+j)=X:=q_o;by_cases hc:18446744073709551616<=u1+j
   ·have hr:(u1+j+0)/18446744073709551616=1:=q_o;have F:decide ((((u1+j+0)/18446744073709551616:Nat):Int)≠0)=true:=decide_eq_true (by rw[hr];decide);repeat' (first|refine s_0 ?_|refine zbY ?_|refine zA [3,4,7] ?_;refine zb ?_|refine q_k 5 ?_;refine q_x (zdA (hr:=zcN u1 j 0 q_e)) ?_|refine q_k 6 ?_;refine q_v (zad (hr:=F)) ?_)
    refine zar rfl (zh rfl) Ev ⟨?_,rfl⟩;exact congrArg nv (A 18446744073709551615 q_e (zeS e (zis H q_e hc)) (.inl rfl)).symm
   ·have V:decide ((((u1+j+0)/18446744073709551616:Nat):Int)≠0)=false:=q_f;repeat' (first|refine s_0 ?_|refine zA [3,4] ?_;refine zb ?_|refine q_k 5 ?_;refine q_x (zdA (hr:=zcN u1 j 0 q_e)) ?_|refine q_k 6 ?_;refine q_v (zad (hr:=V)) ?_)
    exact zaj (18446744073709551615,(u1+j+0)%18446744073709551616) ⟨by show 18446744073709551615*j+(u1+j+0)%18446744073709551616=X;omega,by show(u1+j+0)%18446744073709551616<_;omega,by show 18446744073709551615<18446744073709551616;decide,.inl rfl⟩ q_h q_h
  ·have hu:=of_decide_eq_false hu;have Z:=GB 18446744073709551616 X u0 j v0 I h0;have a8:=AC X I;have R:X/j<18446744073709551616:=(AZ I).2 q_o;have hd:=λw=>zoq L u1 j w q_o U h1;rw[<-hX] at hd;repeat' (first|refine zap ?_|refine zao ?_|refine q_k 8 ?_;refine q_v (za (hc:=q_c hd)) ?_;refine zb ?_)
   exact zaj (X/j,X%j) ⟨Z.eq,by show X%j<_;omega,R,.inr Z.up⟩ q_h q_h
 rintro⟨q,r⟩ ⟨E,hr,G,m⟩;dsimp only at E hr G m ⊢;repeat' (first|refine s_t ?_|fail)
 refine zL (γ:=Nat×Nat) (λg=>[(2,nv u0),(3,nv j),(4,nv v0),(10,.int .u64 0),(11,nv g.1),(12,nv g.2)]) (λ_=>[]) (λg=>g.1*j+g.2=X/\g.2<18446744073709551616/\g.1<18446744073709551616/\(g.1+1=18446744073709551616\/X*18446744073709551616+u0<(g.1+1)*(j*18446744073709551616+v0))) (λg=>g.1) (q,r) ⟨E,hr,G,m⟩ ?_ ?_ ?_
 ·exact q_h
 ·exact q_h
 clear E hr G m;rintro⟨q,r⟩ ⟨E,hr,G,m⟩;dsimp only at E hr G m ⊢;have M:=λw=>zkW q v0 w G H;have a7:=Ad (q*v0) 18446744073709551616;have a6:=AC (q*v0) (show 0<18446744073709551616 by decide);refine zeJ ?_;repeat' (first|refine s_0 ?_|refine q_k 9 ?_;refine q_v (za (hc:=q_c M)) ?_;refine zb ?_)
 refine zcu (γ:=Bool) (λg=>[(2,nv u0),(3,nv j),(4,nv v0),(10,.int .u64 0),(11,nv q),(12,nv r),(54,.bool g)]) (λ_=>[]) (λg=>(g=true->q*v0<=r*18446744073709551616+u0)/\(g=false->r*18446744073709551616+u0<q*v0)) ?_ ?_
 ·generalize q*v0%18446744073709551616=Y,q*v0/18446744073709551616=K at*;rcases Cp K r with h|h|h
  ·have J:decide ((K:Int)<(r:Int))=true:=q_d;repeat' (first|refine zap ?_|refine zao ?_|refine q_k 10 ?_;refine q_x (zn (hr:=J)) ?_)
   exact zaj true ⟨λ_=>by omega,λh=>absurd h q_e⟩ q_h q_h
  ·have J:decide ((K:Int)<(r:Int))=false:=q_f;have N:decide ((K:Int)=(r:Int))=true:=q_d;by_cases hl:Y<=u0
   ·have P:decide ((Y:Int)<=(u0:Int))=true:=q_d;repeat' (first|refine zap ?_|refine zao ?_|refine q_k 10 ?_;refine q_x (zn (hr:=J)) ?_;refine q_x (zS (hr:=N)) ?_;refine q_x (zaA (hr:=P)) ?_)
    exact zaj true ⟨λ_=>by omega,λh=>absurd h q_e⟩ q_h q_h
   ·have P:decide ((Y:Int)<=(u0:Int))=false:=q_f;repeat' (first|refine zap ?_|refine zao ?_|refine q_k 10 ?_;refine q_x (zn (hr:=J)) ?_;refine q_x (zS (hr:=N)) ?_;refine q_x (zaA (hr:=P)) ?_)
    exact zaj false ⟨λh=>absurd h q_e,λ_=>by omega⟩ q_h q_h
  ·have J:decide ((K:Int)<(r:Int))=false:=q_f;have N:decide ((K:Int)=(r:Int))=false:=q_f;repeat' (first|refine zap ?_|refine zao ?_|refine q_k 10 ?_;refine q_x (zn (hr:=J)) ?_;refine q_x (zS (hr:=N)) ?_)
   exact zaj false ⟨λh=>absurd h q_e,λ_=>by omega⟩ q_h q_h
 rintro t ⟨T,Q⟩;cases t with
 |true=>
  have T:=T rfl;repeat' (first|refine s_0 ?_|refine zbY ?_|refine q_k 15 ?_)
  exact zar rfl (zh rfl) Ev ⟨congrArg nv (A q G (zeS E T) m).symm,rfl⟩
 |false=>
  have Q:=Q rfl;obtain⟨a9,O⟩:=zkR E (zl5 E Q);have B:IntKind.u64.wrap ((q:Int)-1)=((q-1:Nat):Int):=by rw[IntWalk.u64_in _ q_o];omega
  by_cases hc:18446744073709551616<=r+j
  ·have S:(r+j+0)/18446744073709551616=1:=q_o;have F:decide ((((r+j+0)/18446744073709551616:Nat):Int)≠0)=true:=decide_eq_true (by rw[S];decide);repeat' (first|refine s_0 ?_|refine zbY ?_|refine q_k 11 ?_;refine q_x (zK (hr:=B)) ?_|refine zA [12,15] ?_;refine zb ?_|refine q_k 13 ?_;refine q_x (zdA (hr:=zcN r j 0 q_e)) ?_|refine q_k 14 ?_;refine q_v (zad (hr:=F)) ?_)
   exact zar rfl (zh rfl) Ev ⟨congrArg nv (A (q-1) q_o (zeS O.eq (zis H q_o hc)) (.inr O.up)).symm,rfl⟩
  ·have V:decide ((((r+j+0)/18446744073709551616:Nat):Int)≠0)=false:=q_f;repeat' (first|refine s_0 ?_|refine q_k 11 ?_;refine q_x (zK (hr:=B)) ?_|refine q_k 12 ?_|refine q_k 13 ?_;refine q_x (zdA (hr:=zcN r j 0 q_e)) ?_|refine q_k 14 ?_;refine q_v (zad (hr:=V)) ?_)
   refine zC (q-1,(r+j+0)%18446744073709551616) ⟨by have:=O.eq;show(q-1)*j+(r+j+0)%18446744073709551616=X;omega,by show(r+j+0)%18446744073709551616<_;omega,by show q-1<_;omega,.inr O.up⟩ ?_ ?_ ?_
   ·show q-1<q;omega
   ·exact q_h
   ·exact q_h
theorem znA(k x:Nat):wC k x=(dg 18446744073709551616 k x).map nv:=by unfold wC;rfl
theorem zvD{q v j lo c d u z c' d' k:Nat}(h1:18446744073709551616*j+lo=q*v)(h2:18446744073709551616*k+(lo+c+0)%18446744073709551616=lo+c)(m:c'=j+k)(r:z+(lo+c+0)%18446744073709551616+d=u+d'*18446744073709551616):z+q*v+(c+d)=u+(c'+d')*18446744073709551616:=q_o
theorem zpW(A H j n q U V:Nat)(w:World)(a6:¬H=A)(b1:j+n<17)(hU:U<18446744073709551616^17)(hV:V<18446744073709551616^n)(hq:q<18446744073709551616)
  (hC:(Res.blk A 330 (wC 17 U)).holds w)(hB:w.rangeAt H 0 (wC 17 V)):
  Sy.Fn Tryz.prog 331 [.slice (some ⟨A,j,none⟩) (n+1) (n+1),.slice (some ⟨H,0,none⟩) n n,nv q] w (λx=>x=A)
   (λv R=>∃E d,d<=1/\v= .bool (decide (((d:Nat):Int)≠0))/\E<18446744073709551616^17/\E+q*V*18446744073709551616^j=U+d*18446744073709551616^(j+n+1)/\(U<18446744073709551616^(j+n+1)->E<18446744073709551616^(j+n+1))/\R= [.blk A 330 (wC 17 E)]):=by
 have O:Holds w.heap.size (λx=>x=A) [.blk A 330 (wC 17 U)] w:=⟨λx hx=>by obtain rfl:=AD.1 hx;exact hC,Bl _ _,λx hx y hy=>by obtain rfl:=AD.1 hx;exact .inr (Dd hy)⟩;refine zaX Tryz.func331 rfl Tryz.ntmps331 q_p O ?_;have a7:=DivJ.start 18446744073709551616 17 U V j q q_e hU;have X:=zjv 17 V;repeat' (first|refine s_t ?_|refine zA [0,1,2] ?_;refine zb ?_)
 refine zL (γ:=Nat×List Nat×Nat×Nat) (λg=>[(0,.slice (some ⟨A,j,none⟩) (n+1) (n+1)),(1,.slice (some ⟨H,0,none⟩) n n),(2,nv q),(6,.bool false),(7,nv g.2.2.2),(8,nv g.2.2.1),(14,.int .i64 n),(15,.int .i64 g.1)])
  (λg=>[.blk A 330 (g.2.1.map nv)])
  (λg=>g.1<=n/\DivJ 18446744073709551616 17 U V j q g.1 g.2.1 g.2.2.1 g.2.2.2) (λg=>n-g.1) (0,dg 18446744073709551616 17 U,0,0) ⟨AA _,a7⟩ ?_ ?_ ?_
 ·exact q_h
 ·show SubR [.blk A 330 ((dg 18446744073709551616 17 U).map nv)] _;rw[<-znA];exact q_h
 rintro⟨i,l,c,d⟩ ⟨hi,B⟩;dsimp only at hi B ⊢;have Z:=B.len;have b3:(l.map nv).length=17:=by rw[List.length_map,Z]
 have W:=B.car;have J:=B.bit;by_cases hlt:i<n
 ·have hu:=B.rest (j+i) (A7 _) q_o;have G:(l.map nv)[j+i]?=some (nv (U/18446744073709551616^(j+i)%18446744073709551616)):=by rw[AW,hu];rfl
  have a9:w.cell? ⟨H,i,none⟩=some (nv (V/18446744073709551616^i%18446744073709551616)):=by
   have:=hB i _ (X i q_o);rw[Aa] at this;exact this
  have a8:U/18446744073709551616^(j+i)%18446744073709551616<18446744073709551616:=AC _ q_e;have M:V/18446744073709551616^i%18446744073709551616<18446744073709551616:=AC _ q_e;have hstep:=λz c' d'=>B.step (z:=z) (c':=c') (d':=d') (show j+i<17 by omega);generalize V/18446744073709551616^i%18446744073709551616=v,U/18446744073709551616^(j+i)%18446744073709551616=u at*;have K:=λw=>zkW q v w hq M;have e1:=Ad (q*v) 18446744073709551616;have Y:q*v/18446744073709551616+(q*v%18446744073709551616+c+0)/18446744073709551616<18446744073709551616:=
   zyR 18446744073709551616 q v c _ (q*v%18446744073709551616) ((q*v%18446744073709551616+c+0)%18446744073709551616) _ hq M W q_o q_o
  have b0:=AC (q*v) (show 0<18446744073709551616 by decide);have e2:=Ad (q*v%18446744073709551616+c+0) 18446744073709551616;have b2:(q*v%18446744073709551616+c+0)%18446744073709551616<18446744073709551616:=AC _ q_e;repeat' (first|refine s_t ?_|refine zf 3 ?_;refine zaf ?_|refine zA [4,6] ?_;refine zb ?_|refine q_k 5 ?_;refine zQ ?_;refine q_v (zo (hv:=a9) (hn:=a6)) ?_;refine q_v (za (hc:=q_c K)) ?_;refine zb ?_|refine q_k 7 ?_;refine q_x (zdA (hr:=zcN (q*v%18446744073709551616) c 0 q_e)) ?_|refine q_k 8 ?_;refine q_x ze1 ?_|refine q_k 9 ?_;refine zQ ?_;refine q_x (zM (hv:=G)) ?_;refine q_x (zdA (hr:=zik u ((q*v%18446744073709551616+c+0)%18446744073709551616) d J)) ?_;refine zQ ?_;refine zP ?_;refine zb ?_|refine zf 10 ?_;refine zba ?_;refine zb ?_)
  obtain⟨z,N⟩:∃z,(u+18446744073709551616-(q*v%18446744073709551616+c+0)%18446744073709551616-d)%18446744073709551616=z:=⟨_,rfl⟩;obtain⟨c',I⟩:∃c',(q*v/18446744073709551616+(q*v%18446744073709551616+c+0)/18446744073709551616)%18446744073709551616=c':=⟨_,rfl⟩;obtain⟨d',m⟩:∃d',(if u<(q*v%18446744073709551616+c+0)%18446744073709551616+d then 1 else 0)=d':=⟨_,rfl⟩;rw[N,I,m];have r:d'<=1:=by rw[<-m];split <;> omega
  refine zC (i+1,l.set (j+i) z,c',d') ⟨by show i+1<=n;omega,hstep z c' d' q_o q_o r ?_⟩ ?_ ?_ ?_
  ·refine zvD e1 q_o (by rw[<-I];exact A9 Y) ?_;rw[<-N];generalize (q*v%18446744073709551616+c+0)%18446744073709551616=f at*;rw[<-m];split <;> omega
  ·show n-(i+1)<n-i;omega
  ·exact q_h
  ·show SubR [.blk A 330 ((l.set (j+i) z).map nv)] _;rw[Bw];exact q_h
 obtain rfl:i=n:=q_o;have hu:=B.rest (j+i) (A7 _) q_o;have G:(l.map nv)[j+i]?=some (nv (U/18446744073709551616^(j+i)%18446744073709551616)):=by rw[AW,hu];rfl
 have a8:U/18446744073709551616^(j+i)%18446744073709551616<18446744073709551616:=AC _ q_e;have F:=λz d'=>B.last (z:=z) (d':=d') (show j+i<17 by omega) hV;generalize U/18446744073709551616^(j+i)%18446744073709551616=u at*;repeat' (first|refine s_0 ?_|refine zf 3 ?_;refine zaf ?_|refine q_k 11 ?_;refine zQ ?_;refine q_x (zM (hv:=G)) ?_;refine q_x (zdA (hr:=zik u c d J)) ?_;refine zQ ?_;refine zP ?_;refine zb ?_)
 obtain⟨z,N⟩:∃z,(u+18446744073709551616-c-d)%18446744073709551616=z:=⟨_,rfl⟩;obtain⟨d',m⟩:∃d',(if u<c+d then 1 else 0)=d':=⟨_,rfl⟩;rw[N,m];have r:d'<=1:=by rw[<-m];split <;> omega
 obtain⟨E,P,Q,S,T⟩:=F z d' q_o (by rw[<-N,<-m];split <;> omega) r;have L:(l.map nv).set (j+i) (nv z)=wC 17 E:=by rw[<-Bw,P,<-znA]
 repeat' (first|refine s_0 ?_|refine q_k 12 ?_;refine zaJ ?_;refine zb ?_)
 exact zar rfl (zh rfl) (by (repeat' (first|exact Ev|apply F3;with_reducible (focus ((repeat (first|exact Eu|apply Ew));done))|apply F9;(focus ((repeat (first|exact Eu|apply Ew));done))|apply F6;(focus ((repeat (first|exact Eu|apply Ew));done))|rfl));exact L) ⟨E,d',r,rfl,Q,S,T,rfl⟩
theorem zrp(m G j n U V:Nat)(w:World)(S:¬G=m)(a6:j+n<17)(hU:U<18446744073709551616^17)(hV:V<18446744073709551616^n)
  (hC:(Res.blk m 330 (wC 17 U)).holds w)(hB:w.rangeAt G 0 (wC 17 V)):
  Sy.Fn Tryz.prog 332 [.slice (some ⟨m,j,none⟩) (n+1) (n+1),.slice (some ⟨G,0,none⟩) n n] w (λx=>x=m)
   (λv R=>∃r d,v= .tuple #[]/\r<18446744073709551616^17/\r+d*18446744073709551616^(j+n+1)=U+V*18446744073709551616^j/\(U<18446744073709551616^(j+n+1)->r<18446744073709551616^(j+n+1))/\R= [.blk m 330 (wC 17 r)]):=by
 have I:Holds w.heap.size (λx=>x=m) [.blk m 330 (wC 17 U)] w:=⟨λx Y=>by obtain rfl:=AD.1 Y;exact hC,Bl _ _,λx Y y hy=>by obtain rfl:=AD.1 Y;exact .inr (Dd hy)⟩;refine zaX Tryz.func332 rfl Tryz.ntmps332 q_p I ?_;have T:=ResJ.start 18446744073709551616 17 U V j q_e hU;have P:=zjv 17 V;repeat' (first|refine s_t ?_|refine zA [0,1] ?_;refine zb ?_)
 refine zL (γ:=Nat×List Nat×Nat) (λg=>[(0,.slice (some ⟨m,j,none⟩) (n+1) (n+1)),(1,.slice (some ⟨G,0,none⟩) n n),(4,nv g.2.2),(7,.int .i64 n),(8,.int .i64 g.1)])
  (λg=>[.blk m 330 (g.2.1.map nv)])
  (λg=>g.1<=n/\ResJ 18446744073709551616 17 U V j g.1 g.2.1 g.2.2) (λg=>n-g.1) (0,dg 18446744073709551616 17 U,0) ⟨AA _,T⟩ ?_ ?_ ?_
 ·exact q_h
 ·show SubR [.blk m 330 ((dg 18446744073709551616 17 U).map nv)] _;rw[<-znA];exact q_h
 rintro⟨i,l,c⟩ ⟨hi,B⟩;dsimp only at hi B ⊢;have Q:=B.len;have a7:(l.map nv).length=17:=by rw[List.length_map,Q]
 have O:=B.bit;by_cases hlt:i<n
 ·have hu:=B.rest (j+i) (A7 _) q_o;have F:(l.map nv)[j+i]?=some (nv (U/18446744073709551616^(j+i)%18446744073709551616)):=by rw[AW,hu];rfl
  have X:w.cell? ⟨G,i,none⟩=some (nv (V/18446744073709551616^i%18446744073709551616)):=by
   have:=hB i _ (P i q_o);rw[Aa] at this;exact this
  have W:U/18446744073709551616^(j+i)%18446744073709551616<18446744073709551616:=AC _ q_e;have a8:V/18446744073709551616^i%18446744073709551616<18446744073709551616:=AC _ q_e;have hstep:=λz c'=>B.step (z:=z) (c':=c') (show j+i<17 by omega);generalize V/18446744073709551616^i%18446744073709551616=v,U/18446744073709551616^(j+i)%18446744073709551616=u at*;obtain⟨z,hz⟩:∃z,(u+v+c)%18446744073709551616=z:=⟨_,rfl⟩;obtain⟨c',N⟩:∃c',(u+v+c)/18446744073709551616=c':=⟨_,rfl⟩;have A:=zcN u v c O;rw[hz,N] at A;have q:(l.map nv).set (j+i) (nv z)=(l.set (j+i) z).map nv:=by rw[Bw]
  repeat' (first|refine s_t ?_|refine zf 2 ?_;refine zaf ?_|refine q_k 3 ?_)
  refine zc0 (id:=4) mixed ?_
  (refine zc1 17 17 [[],[],[],[],[2,3],[2,3,4],[],[],[6,7],[6,7,8],[],[2,3,4,5,6,7,8,9,10],[2,3,4,5,6,7,8,9,10,11],[2,3,4,5,6,7,8,9,10,11,12],[2,3,4,5,6,7,8,9,10,11,12],[0,1,2,3,4,5,6,7,8,9,10,11,12,13],[0,1,2,3,4,5,6,7,8,9,10,11,12,13,15],[0,1,2,3,4,5,6,7,8,9,10,11,12,13,14,15,16]] [[],[],[],[],[],[],[],[],[],[],[],[],[],[],[],[],[],[]] (some 16) rfl ?_ ?_ ?_;kernel_rfl;kernel_rfl;refine q_E zV ?_;refine q_E zV ?_;refine q_E zV ?_;refine q_E zV ?_;refine zcT ?_;refine q_E (zM (hv:=F)) ?_;refine q_E zV ?_;refine q_E zV ?_;refine zcT ?_;refine q_E (zo (hv:=X) (hn:=S)) ?_;refine q_E zV ?_;refine q_E (zdA (hr:=A)) ?_;refine q_E zV ?_;refine q_E zas ?_;refine q_E zas ?_;refine zcT ?_;try refine dh_0nE (h:=?_))
  refine zlB (R:=λ_ _ Z=>Z= [.blk m 330 ((l.map nv).set (j+i) (nv z))]) (λ_ _ _=>rfl) (λρ hρ=>FM (zaO (C:=l.map nv) (L':=[.blk m 330 ((l.map nv).set (j+i) (nv z))])) λv L' h=>?_) (h:=?_)
  ·obtain⟨rfl,rfl⟩:=h;exact⟨_,(AJ _).symm,rfl⟩
  refine zfm (h:=?_);rintro ρ ⟨H,-⟩
  (refine zc2 [[],[],[],[],[2,3],[2,3,4],[],[],[6,7],[6,7,8],[],[2,3,4,5,6,7,8,9,10],[2,3,4,5,6,7,8,9,10,11],[2,3,4,5,6,7,8,9,10,11,12],[2,3,4,5,6,7,8,9,10,11,12],[0,1,2,3,4,5,6,7,8,9,10,11,12,13],[0,1,2,3,4,5,6,7,8,9,10,11,12,13,15],[0,1,2,3,4,5,6,7,8,9,10,11,12,13,14,15,16]] ?_ ?_;kernel_rfl)
  have H:(ρ 16).2= [.blk m 330 ((l.map nv).set (j+i) (nv z))]:=H;refine FL (fr':=[(25,nv c'),(0,.slice (some ⟨m,j,none⟩) (n+1) (n+1)),(1,.slice (some ⟨G,0,none⟩) n n),(7,.int .i64 n),(8,.int .i64 i)])
   (L':=[.blk m 330 ((l.set (j+i) z).map nv)]) ?_ ?_ ?_
  ·repeat' (first|refine s_0 ?_|refine zf 5 ?_;refine zba ?_;refine zb ?_|(refine zx ?_;first|refine zw ?_|fail)|fail)
   refine zC (i+1,l.set (j+i) z,c') ⟨by show i+1<=n;omega,hstep z c' q_o q_o q_o⟩ ?_ ?_ ?_
   ·show n-(i+1)<n-i;omega
   ·exact q_h
   ·exact q_h
  ·exact q_h
  ·show SubR _ ((ρ 16).2++[]);rw[H,q];exact q_h
 obtain rfl:i=n:=q_o;have hu:=B.rest (j+i) (A7 _) q_o;have F:(l.map nv)[j+i]?=some (nv (U/18446744073709551616^(j+i)%18446744073709551616)):=by rw[AW,hu];rfl
 have W:U/18446744073709551616^(j+i)%18446744073709551616<18446744073709551616:=AC _ q_e;have E:=λz d'=>B.last (z:=z) (d':=d') (show j+i<17 by omega) hV;generalize U/18446744073709551616^(j+i)%18446744073709551616=u at*;obtain⟨r,J,K,L,M⟩:=E ((u+c)%18446744073709551616) ((u+c)/18446744073709551616) (AC _ q_e) q_e q_o;have q:(l.map nv).set (j+i) (nv ((u+c)%18446744073709551616))=wC 17 r:=by rw[<-Bw,J,<-znA]
 repeat' (first|refine s_0 ?_|refine zf 2 ?_;refine zaf ?_|refine q_k 6 ?_;refine zQ ?_;refine q_x (zM (hv:=F)) ?_;refine q_v ze1 ?_;refine zQ ?_;refine zP ?_)
 refine zft (R:=[.blk m 330 (wC 17 r)]) rfl ?_ ?_
 ·(repeat' (first|exact Ev|apply F3;with_reducible (focus ((repeat (first|exact Eu|apply Ew));done))|apply F9;(focus ((repeat (first|exact Eu|apply Ew));done))|apply F6;(focus ((repeat (first|exact Eu|apply Ew));done))|rfl))
  exact q
 ·exact⟨r,_,rfl,K,L,M,rfl⟩
end Go.Proofs.YtdnlngbjpdbffaaGreatDoor
