/- Lemmas of this proof. -/
import Derived.Test.YtdnlngbjpdbffaaGreatDoorKJ12
import Derived.Test.YtdnlngbjpdbffaaGreatDoorKJ13
set_option maxHeartbeats 1000000
set_option maxRecDepth 10000
set_option linter.all false
namespace Go.Nt
open Go Go.Sy
def wC(k x:Nat):List Value:=(dg 18446744073709551616 k x).map nv
theorem zfD(k x:Nat):(wC k x).length=k:=by unfold wC;rw[A0,zcq]
theorem zix(k x i:Nat)(h:i<k):(wC k x)[i]?=some (nv (x/18446744073709551616^i%18446744073709551616)):=by
 unfold wC;rw[AY,zeu _ k x i h];rfl
theorem znD(k x:Nat):(wC k x).all (·.oneCell')=true:=zv2 _
theorem zql{W:Nat}(a c s t:Nat)(j:2^s*2^t=W)(hc:c<2^s):(a*2^s%W ||| c)=a*2^s%W+c:=by
 rw[<-j,A8 (2^s) (2^t),Cd];exact znF _ _ _ hc
def bel(d i:Nat):Nat:=if i=0 then 0 else d/18446744073709551616^(i-1)%18446744073709551616
theorem znm(d i:Nat):bel d (i+1)=d/18446744073709551616^i%18446744073709551616:=by unfold bel;rw[if_neg q_o,B4]
theorem zwh(d i:Nat):bel d i<18446744073709551616:=by
 unfold bel;split
 ·decide
 ·exact A7 _ q_e
theorem zmX(d s t i:Nat)(j:2^s*2^t=18446744073709551616):d*2^s/18446744073709551616^i%18446744073709551616=d/18446744073709551616^i%18446744073709551616*2^s%18446744073709551616+bel d i/2^t:=by
 cases i with
 |zero=>rw[zpV,show bel d 0=0 from rfl,EY,Ad,C7,BI]
 |succ i=>rw[znm];exact zlJ 18446744073709551616 d s t i j.symm
theorem zvw{W u v q:Nat}(hv:0<v)(j:q<W)(h1:q*v<=u)(h2:q+1=W\/u<(q+1)*v):min (W-1) (u/v)=q:=by
 rcases h2 with h|h
 ·have:q<=u/v:=(CF hv).2 h1;rw[BO q_o];omega
 ·rw[(zgd u v q h1 h).1,ES q_o]
end Go.Nt
namespace Go.Proofs.YtdnlngbjpdbffaaGreatDoor
open Go Go.Sy Go.Nt Go.RowKit
attribute [local irreducible] Sy SyL SyX Sy.Fn callFunc zf wC
theorem zlb(d s:Nat)(w:World)(O:d<18446744073709551616^16)(T:s<64):
  q_G 329 [zm d,.int .i64 s] w (.agg (wC 17 (d*2^s)).toArray):=by
 refine zo Tryz.func329 Tryz.ntmps329 ?_;have P:=zd d;have N:=zbz d;have q:=zfD 17 (d*2^s);have E:=zix 17 (d*2^s);have F:=znD 17 (d*2^s);obtain⟨t,U⟩:∃t,t=64-s:=⟨_,rfl⟩;have C:(2:Nat)^s*2^t=18446744073709551616:=by rw[<-As,show s+t=64 by omega]
 have G:=λi=>zmX d s t i C;have H:IntKind.i64.wrap (64-(s:Int))=((t:Nat):Int):=q_w;have A:=λa c=>zql (W:=18446744073709551616) a c s t C;generalize wC 17 (d*2^s)=l at*;repeat' (first|refine s_t ?_|refine zg 0 ?_;refine zi ?_;intro _;refine zi ?_;intro _|refine q_k 1 ?_|refine zg 2 ?_;refine q_x (ze (B:=zf d)) ?_)
 rename_i R I;refine zE (γ:=Nat) (λi=>[(1,.int .i64 s),(4,.pointer (some ⟨I,0,none⟩)),(5,nv (bel d i)),(8,zm d),(9,.int .i64 i)])
  (λi=>[.blk I 330 (l.take i++List.replicate (17-i) (.int .u64 0))])
  (λi=>i<=16) (λi=>16-i) 0 (AE _) ?_ ?_ ?_
 ·exact q_h
 ·exact q_h
 intro i S;have Q:(l.take i++List.replicate (17-i) (Value.int IntKind.u64 0)).length=17:=by rw[A2,AU,AK];omega
 have m:=zwh d i;have L:bel d i/2^t<2^s:=(AW (AP q_e)).2 (by rw[C];exact m);have J:bel d i/2^t<18446744073709551616:=Av (Bv _ _) m;by_cases r:i<16
 ·have M:=N i r;have hu:=E i q_o;rw[G i] at hu;have j:=zhF l (.int .u64 0) _ 17 i hu q_o q;have K:=znm d i;have A:=A (d/18446744073709551616^i%18446744073709551616) _ L;generalize d/18446744073709551616^i%18446744073709551616=v at*;rw[<-A] at j;generalize bel d i=e at*;repeat' (first|refine s_t ?_|refine zg 3 ?_;refine zR ?_|refine q_k 4 ?_;refine q_x (zjy (hv:=M)) ?_|refine z5 (id:=5) 9 [[],[],[],[1,2],[],[],[5],[4,5,6],[1,2,3,4,5,6,7],[0,1,2,3,4,5,6,7,8],[0,1,2,3,4,5,6,7,8,9]] mixed ?_ ?_;kernel_rfl;refine zt ?_;refine zt ?_;refine zt ?_;refine q_D (zgu (a:=v) (n:=s)) ?_;refine zt ?_;refine zt ?_;refine q_D (zH (hr:=H)) ?_;refine q_D (zgG (a:=e) (n:=t) m) ?_;refine q_D (zil (a:=v*2^s%18446744073709551616) (b:=e/2^t) (A7 _ q_e) J) ?_;refine zam ?_;refine zD ?_;refine zS ?_|refine q_k 6 ?_|refine zg 7 ?_;refine zaI ?_;refine zb ?_)
  refine zy (i+1) ?_ ?_ ?_ ?_
  ·show i+1<=16;omega
  ·show 16-(i+1)<16-i;omega
  ·rw[K];exact q_h
  ·show SubR [.blk I 330 (l.take (i+1)++List.replicate (17-(i+1)) (.int .u64 0))] _;rw[<-j];exact q_h
 obtain rfl:i=16:=q_o;have hu:=E 16 q_o;rw[G 16,Al O,CC,BJ,CC,AR] at hu;have j:=zhF l (.int .u64 0) _ 17 16 hu q_o q;have r:l.take (16+1)=l:=A6 q_o;rw[r,Cp,AZ] at j;generalize bel d 16=e at*;repeat' (first|refine s_0 ?_|refine zg 3 ?_;refine zR ?_|refine q_k 8 ?_;refine q_v (zH (hr:=H)) ?_;refine q_v (zgG (a:=e) (n:=t) m) ?_;refine zD ?_;refine zS ?_)
 rw[j];repeat' (first|refine s_0 ?_|refine zg 9 ?_;refine q_v (ze (B:=l)) ?_;refine q_n (zC (B:=l) (hv:=F) (h1:=q.symm)) ?_)
 exact zaw rfl (zz (B:=l) rfl (ty rfl) rfl F4 F0 q.symm) F2 ⟨rfl,rfl⟩
theorem zoh(L m u0 j v0:Nat)(w:World)(h2:L<=j)(h1:m<18446744073709551616)(h0:u0<18446744073709551616)(U:j<18446744073709551616)(H:v0<18446744073709551616)(I:0<j):
  q_G 330 [nv L,nv m,nv u0,nv j,nv v0] w (nv (min (18446744073709551616-1) (((L*18446744073709551616+m)*18446744073709551616+u0)/(j*18446744073709551616+v0)))):=by
 refine zo Tryz.func330 Tryz.ntmps330 ?_;obtain⟨X,hX⟩:∃X,X=L*18446744073709551616+m:=⟨_,rfl⟩;rw[<-hX];have hV:0<j*18446744073709551616+v0:=q_o;have B:=λq=>zvw (W:=18446744073709551616) (u:=X*18446744073709551616+u0) (q:=q) hV;repeat' (first|refine s_0 ?_|refine zdd ?_|refine zK [0,1] ?_;refine zb ?_|refine q_k 2 ?_;refine q_v zP ?_)
 refine zb9 (γ:=Nat×Nat) (λg=>[(2,nv u0),(3,nv j),(4,nv v0),(10,.int .u64 0),(11,nv g.1),(12,nv g.2)]) (λ_=>[]) (λg=>g.1*j+g.2=X/\g.2<18446744073709551616/\g.1<18446744073709551616/\(g.1+1=18446744073709551616\/X*18446744073709551616+u0<(g.1+1)*(j*18446744073709551616+v0))) ?_ ?_
 ·refine zej rfl (λhu=>?_) (λhu=>?_)
  ·have hu:=of_decide_eq_true hu;have b0:L=j:=q_o;have e:18446744073709551615*j+(m+j)=X:=q_o;by_cases hc:18446744073709551616<=m+j
   ·have hr:(m+j+0)/18446744073709551616=1:=q_o;have F:decide ((((m+j+0)/18446744073709551616:Nat):Int)≠0)=true:=decide_eq_true (by rw[hr];decide);repeat' (first|refine s_0 ?_|refine zbL ?_|refine zK [3,4,7] ?_;refine zb ?_|refine q_k 5 ?_;refine q_x (zc1 (hr:=zct m j 0 q_e)) ?_|refine q_k 6 ?_;refine q_v (zaC (hr:=F)) ?_)
    refine zaw rfl (zr rfl) F2 ⟨?_,rfl⟩;exact congrArg nv (B 18446744073709551615 q_e (zd0 e (zhz H q_e hc)) (.inl rfl)).symm
   ·have V:decide ((((m+j+0)/18446744073709551616:Nat):Int)≠0)=false:=q_f;repeat' (first|refine s_0 ?_|refine zK [3,4] ?_;refine zb ?_|refine q_k 5 ?_;refine q_x (zc1 (hr:=zct m j 0 q_e)) ?_|refine q_k 6 ?_;refine q_v (zaC (hr:=V)) ?_)
    exact zZ (18446744073709551615,(m+j+0)%18446744073709551616) ⟨by show 18446744073709551615*j+(m+j+0)%18446744073709551616=X;omega,by show(m+j+0)%18446744073709551616<_;omega,by show 18446744073709551615<18446744073709551616;decide,.inl rfl⟩ q_h q_h
  ·have hu:=of_decide_eq_false hu;have Z:=GA 18446744073709551616 X u0 j v0 I h0;have a8:=A7 X I;have R:X/j<18446744073709551616:=(AW I).2 q_o;have hd:=λw=>zm9 L m j w q_o U h1;rw[<-hX] at hd;repeat' (first|refine zav ?_|refine zai ?_|refine q_k 8 ?_;refine q_v (za (hc:=q_c hd)) ?_;refine zb ?_)
   exact zZ (X/j,X%j) ⟨Z.eq,by show X%j<_;omega,R,.inr Z.up⟩ q_h q_h
 rintro⟨q,r⟩ ⟨E,hr,G,A⟩;dsimp only at E hr G A ⊢;repeat' (first|refine s_t ?_|fail)
 refine zE (γ:=Nat×Nat) (λg=>[(2,nv u0),(3,nv j),(4,nv v0),(10,.int .u64 0),(11,nv g.1),(12,nv g.2)]) (λ_=>[]) (λg=>g.1*j+g.2=X/\g.2<18446744073709551616/\g.1<18446744073709551616/\(g.1+1=18446744073709551616\/X*18446744073709551616+u0<(g.1+1)*(j*18446744073709551616+v0))) (λg=>g.1) (q,r) ⟨E,hr,G,A⟩ ?_ ?_ ?_
 ·exact q_h
 ·exact q_h
 clear E hr G A;rintro⟨q,r⟩ ⟨E,hr,G,A⟩;dsimp only at E hr G A ⊢;have M:=λw=>zjM q v0 w G H;have a7:=AV (q*v0) 18446744073709551616;have a6:=A7 (q*v0) (show 0<18446744073709551616 by decide);refine zd4 ?_;repeat' (first|refine s_0 ?_|refine q_k 9 ?_;refine q_v (za (hc:=q_c M)) ?_;refine zb ?_)
 refine zb9 (γ:=Bool) (λg=>[(2,nv u0),(3,nv j),(4,nv v0),(10,.int .u64 0),(11,nv q),(12,nv r),(54,.bool g)]) (λ_=>[]) (λg=>(g=true->q*v0<=r*18446744073709551616+u0)/\(g=false->r*18446744073709551616+u0<q*v0)) ?_ ?_
 ·generalize q*v0%18446744073709551616=Y,q*v0/18446744073709551616=K at*;rcases D8 K r with h|h|h
  ·have J:decide ((K:Int)<(r:Int))=true:=q_d;repeat' (first|refine zav ?_|refine zai ?_|refine q_k 10 ?_;refine q_x (zl (hr:=J)) ?_)
   exact zZ true ⟨λ_=>by omega,λh=>absurd h q_e⟩ q_h q_h
  ·have J:decide ((K:Int)<(r:Int))=false:=q_f;have N:decide ((K:Int)=(r:Int))=true:=q_d;by_cases hl:Y<=u0
   ·have P:decide ((Y:Int)<=(u0:Int))=true:=q_d;repeat' (first|refine zav ?_|refine zai ?_|refine q_k 10 ?_;refine q_x (zl (hr:=J)) ?_;refine q_x (zaa (hr:=N)) ?_;refine q_x (zax (hr:=P)) ?_)
    exact zZ true ⟨λ_=>by omega,λh=>absurd h q_e⟩ q_h q_h
   ·have P:decide ((Y:Int)<=(u0:Int))=false:=q_f;repeat' (first|refine zav ?_|refine zai ?_|refine q_k 10 ?_;refine q_x (zl (hr:=J)) ?_;refine q_x (zaa (hr:=N)) ?_;refine q_x (zax (hr:=P)) ?_)
    exact zZ false ⟨λh=>absurd h q_e,λ_=>by omega⟩ q_h q_h
  ·have J:decide ((K:Int)<(r:Int))=false:=q_f;have N:decide ((K:Int)=(r:Int))=false:=q_f;repeat' (first|refine zav ?_|refine zai ?_|refine q_k 10 ?_;refine q_x (zl (hr:=J)) ?_;refine q_x (zaa (hr:=N)) ?_)
   exact zZ false ⟨λh=>absurd h q_e,λ_=>by omega⟩ q_h q_h
 rintro t ⟨T,Q⟩;cases t with
 |true=>
  have T:=T rfl;repeat' (first|refine s_0 ?_|refine zbL ?_|refine q_k 15 ?_)
  exact zaw rfl (zr rfl) F2 ⟨congrArg nv (B q G (zd0 E T) A).symm,rfl⟩
 |false=>
  have Q:=Q rfl;obtain⟨a9,O⟩:=zjr E (zkX E Q);have C:IntKind.u64.wrap ((q:Int)-1)=((q-1:Nat):Int):=by rw[IntWalk.u64_in _ q_o];omega
  by_cases hc:18446744073709551616<=r+j
  ·have S:(r+j+0)/18446744073709551616=1:=q_o;have F:decide ((((r+j+0)/18446744073709551616:Nat):Int)≠0)=true:=decide_eq_true (by rw[S];decide);repeat' (first|refine s_0 ?_|refine zbL ?_|refine q_k 11 ?_;refine q_x (zH (hr:=C)) ?_|refine zK [12,15] ?_;refine zb ?_|refine q_k 13 ?_;refine q_x (zc1 (hr:=zct r j 0 q_e)) ?_|refine q_k 14 ?_;refine q_v (zaC (hr:=F)) ?_)
   exact zaw rfl (zr rfl) F2 ⟨congrArg nv (B (q-1) q_o (zd0 O.eq (zhz H q_o hc)) (.inr O.up)).symm,rfl⟩
  ·have V:decide ((((r+j+0)/18446744073709551616:Nat):Int)≠0)=false:=q_f;repeat' (first|refine s_0 ?_|refine q_k 11 ?_;refine q_x (zH (hr:=C)) ?_|refine q_k 12 ?_|refine q_k 13 ?_;refine q_x (zc1 (hr:=zct r j 0 q_e)) ?_|refine q_k 14 ?_;refine q_v (zaC (hr:=V)) ?_)
   refine zy (q-1,(r+j+0)%18446744073709551616) ⟨by have:=O.eq;show(q-1)*j+(r+j+0)%18446744073709551616=X;omega,by show(r+j+0)%18446744073709551616<_;omega,by show q-1<_;omega,.inr O.up⟩ ?_ ?_ ?_
   ·show q-1<q;omega
   ·exact q_h
   ·exact q_h
theorem zl7(k x:Nat):wC k x=(dg 18446744073709551616 k x).map nv:=by unfold wC;rfl
theorem ztn{q v j lo c d u z c' d' k:Nat}(h1:18446744073709551616*j+lo=q*v)(h2:18446744073709551616*k+(lo+c+0)%18446744073709551616=lo+c)(m:c'=j+k)(r:z+(lo+c+0)%18446744073709551616+d=u+d'*18446744073709551616):z+q*v+(c+d)=u+(c'+d')*18446744073709551616:=q_o
theorem zn9(t F j n q U V:Nat)(w:World)(Y:¬F=t)(a9:j+n<17)(hU:U<18446744073709551616^17)(hV:V<18446744073709551616^n)(hq:q<18446744073709551616)
  (hC:(FD t 330 (wC 17 U)).holds w)(hB:w.rangeAt F 0 (wC 17 V)):
  Sy.Fn Tryz.prog 331 [.slice (some ⟨t,j,none⟩) (n+1) (n+1),.slice (some ⟨F,0,none⟩) n n,nv q] w (λx=>x=t)
   (λv R=>∃B d,d<=1/\v= .bool (decide (((d:Nat):Int)≠0))/\B<18446744073709551616^17/\B+q*V*18446744073709551616^j=U+d*18446744073709551616^(j+n+1)/\(U<18446744073709551616^(j+n+1)->B<18446744073709551616^(j+n+1))/\R= [.blk t 330 (wC 17 B)]):=by
 have M:Holds w.heap.size (λx=>x=t) [.blk t 330 (wC 17 U)] w:=⟨λx hx=>by obtain rfl:=AF.1 hx;exact hC,Bh _ _,λx hx y hy=>by obtain rfl:=AF.1 hx;exact .inr (E7 hy)⟩;refine zcl Tryz.func331 rfl Tryz.ntmps331 q_p M ?_;have Z:=DivJ.start 18446744073709551616 17 U V j q q_e hU;have T:=zix 17 V;repeat' (first|refine s_t ?_|refine zK [0,1,2] ?_;refine zb ?_)
 refine zE (γ:=Nat×List Nat×Nat×Nat) (λg=>[(0,.slice (some ⟨t,j,none⟩) (n+1) (n+1)),(1,.slice (some ⟨F,0,none⟩) n n),(2,nv q),(6,.bool false),(7,nv g.2.2.2),(8,nv g.2.2.1),(14,.int .i64 n),(15,.int .i64 g.1)])
  (λg=>[.blk t 330 (g.2.1.map nv)])
  (λg=>g.1<=n/\DivJ 18446744073709551616 17 U V j q g.1 g.2.1 g.2.2.1 g.2.2.2) (λg=>n-g.1) (0,dg 18446744073709551616 17 U,0,0) ⟨AE _,Z⟩ ?_ ?_ ?_
 ·exact q_h
 ·show SubR [.blk t 330 ((dg 18446744073709551616 17 U).map nv)] _;rw[<-zl7];exact q_h
 rintro⟨i,l,c,d⟩ ⟨hi,A⟩;dsimp only at hi A ⊢;have X:=A.len;have b1:(l.map nv).length=17:=by rw[List.length_map,X]
 have S:=A.car;have H:=A.bit;by_cases hlt:i<n
 ·have hu:=A.rest (j+i) (A4 _) q_o;have E:(l.map nv)[j+i]?=some (nv (U/18446744073709551616^(j+i)%18446744073709551616)):=by rw[AY,hu];rfl
  have a7:w.cell? ⟨F,i,none⟩=some (nv (V/18446744073709551616^i%18446744073709551616)):=by
   have:=hB i _ (T i q_o);rw[AR] at this;exact this
  have a6:U/18446744073709551616^(j+i)%18446744073709551616<18446744073709551616:=A7 _ q_e;have K:V/18446744073709551616^i%18446744073709551616<18446744073709551616:=A7 _ q_e;have hstep:=λz c' d'=>A.step (z:=z) (c':=c') (d':=d') (show j+i<17 by omega);generalize V/18446744073709551616^i%18446744073709551616=v,U/18446744073709551616^(j+i)%18446744073709551616=u at*;have I:=λw=>zjM q v w hq K;have e1:=AV (q*v) 18446744073709551616;have W:q*v/18446744073709551616+(q*v%18446744073709551616+c+0)/18446744073709551616<18446744073709551616:=
   zv3 18446744073709551616 q v c _ (q*v%18446744073709551616) ((q*v%18446744073709551616+c+0)%18446744073709551616) _ hq K S q_o q_o
  have a8:=A7 (q*v) (show 0<18446744073709551616 by decide);have e2:=AV (q*v%18446744073709551616+c+0) 18446744073709551616;have b0:(q*v%18446744073709551616+c+0)%18446744073709551616<18446744073709551616:=A7 _ q_e;repeat' (first|refine s_t ?_|refine zg 3 ?_;refine zR ?_|refine zK [4,6] ?_;refine zb ?_|refine q_k 5 ?_;refine zD ?_;refine q_v (zn (hv:=a7) (hn:=Y)) ?_;refine q_v (za (hc:=q_c I)) ?_;refine zb ?_|refine q_k 7 ?_;refine q_x (zc1 (hr:=zct (q*v%18446744073709551616) c 0 q_e)) ?_|refine q_k 8 ?_;refine q_x zeh ?_|refine q_k 9 ?_;refine zD ?_;refine q_x (zM (hv:=E)) ?_;refine q_x (zc1 (hr:=zhl u ((q*v%18446744073709551616+c+0)%18446744073709551616) d H)) ?_;refine zD ?_;refine zS ?_;refine zb ?_|refine zg 10 ?_;refine zaI ?_;refine zb ?_)
  obtain⟨z,L⟩:∃z,(u+18446744073709551616-(q*v%18446744073709551616+c+0)%18446744073709551616-d)%18446744073709551616=z:=⟨_,rfl⟩;obtain⟨c',G⟩:∃c',(q*v/18446744073709551616+(q*v%18446744073709551616+c+0)/18446744073709551616)%18446744073709551616=c':=⟨_,rfl⟩;obtain⟨d',m⟩:∃d',(if u<(q*v%18446744073709551616+c+0)%18446744073709551616+d then 1 else 0)=d':=⟨_,rfl⟩;rw[L,G,m];have r:d'<=1:=by rw[<-m];split <;> omega
  refine zy (i+1,l.set (j+i) z,c',d') ⟨by show i+1<=n;omega,hstep z c' d' q_o q_o r ?_⟩ ?_ ?_ ?_
  ·refine ztn e1 q_o (by rw[<-G];exact A3 W) ?_;rw[<-L];generalize (q*v%18446744073709551616+c+0)%18446744073709551616=f at*;rw[<-m];split <;> omega
  ·show n-(i+1)<n-i;omega
  ·exact q_h
  ·show SubR [.blk t 330 ((l.set (j+i) z).map nv)] _;rw[BS];exact q_h
 obtain rfl:i=n:=q_o;have hu:=A.rest (j+i) (A4 _) q_o;have E:(l.map nv)[j+i]?=some (nv (U/18446744073709551616^(j+i)%18446744073709551616)):=by rw[AY,hu];rfl
 have a6:U/18446744073709551616^(j+i)%18446744073709551616<18446744073709551616:=A7 _ q_e;have C:=λz d'=>A.last (z:=z) (d':=d') (show j+i<17 by omega) hV;generalize U/18446744073709551616^(j+i)%18446744073709551616=u at*;repeat' (first|refine s_0 ?_|refine zg 3 ?_;refine zR ?_|refine q_k 11 ?_;refine zD ?_;refine q_x (zM (hv:=E)) ?_;refine q_x (zc1 (hr:=zhl u c d H)) ?_;refine zD ?_;refine zS ?_;refine zb ?_)
 obtain⟨z,L⟩:∃z,(u+18446744073709551616-c-d)%18446744073709551616=z:=⟨_,rfl⟩;obtain⟨d',m⟩:∃d',(if u<c+d then 1 else 0)=d':=⟨_,rfl⟩;rw[L,m];have r:d'<=1:=by rw[<-m];split <;> omega
 obtain⟨B,N,O,P,Q⟩:=C z d' q_o (by rw[<-L,<-m];split <;> omega) r;have J:(l.map nv).set (j+i) (nv z)=wC 17 B:=by rw[<-BS,N,<-zl7]
 repeat' (first|refine s_0 ?_|refine q_k 12 ?_;refine zat ?_;refine zb ?_)
 exact zaw rfl (zr rfl) (by (repeat' (first|exact F2|apply F9;with_reducible (focus ((repeat (first|exact F1|apply F3));done))|apply FC;(focus ((repeat (first|exact F1|apply F3));done))|apply FA;(focus ((repeat (first|exact F1|apply F3));done))|rfl));exact J) ⟨B,d',r,rfl,O,P,Q,rfl⟩
theorem zpH(m F j n U V:Nat)(w:World)(Q:¬F=m)(a6:j+n<17)(hU:U<18446744073709551616^17)(hV:V<18446744073709551616^n)
  (hC:(FD m 330 (wC 17 U)).holds w)(Z:w.rangeAt F 0 (wC 17 V)):
  Sy.Fn Tryz.prog 332 [.slice (some ⟨m,j,none⟩) (n+1) (n+1),.slice (some ⟨F,0,none⟩) n n] w (λx=>x=m)
   (λv R=>∃r d,v= .tuple #[]/\r<18446744073709551616^17/\r+d*18446744073709551616^(j+n+1)=U+V*18446744073709551616^j/\(U<18446744073709551616^(j+n+1)->r<18446744073709551616^(j+n+1))/\R= [.blk m 330 (wC 17 r)]):=by
 have H:Holds w.heap.size (λx=>x=m) [.blk m 330 (wC 17 U)] w:=⟨λx X=>by obtain rfl:=AF.1 X;exact hC,Bh _ _,λx X y hy=>by obtain rfl:=AF.1 X;exact .inr (E7 hy)⟩;refine zcl Tryz.func332 rfl Tryz.ntmps332 q_p H ?_;have S:=ResJ.start 18446744073709551616 17 U V j q_e hU;have O:=zix 17 V;repeat' (first|refine s_t ?_|refine zK [0,1] ?_;refine zb ?_)
 refine zE (γ:=Nat×List Nat×Nat) (λg=>[(0,.slice (some ⟨m,j,none⟩) (n+1) (n+1)),(1,.slice (some ⟨F,0,none⟩) n n),(4,nv g.2.2),(7,.int .i64 n),(8,.int .i64 g.1)])
  (λg=>[.blk m 330 (g.2.1.map nv)])
  (λg=>g.1<=n/\ResJ 18446744073709551616 17 U V j g.1 g.2.1 g.2.2) (λg=>n-g.1) (0,dg 18446744073709551616 17 U,0) ⟨AE _,S⟩ ?_ ?_ ?_
 ·exact q_h
 ·show SubR [.blk m 330 ((dg 18446744073709551616 17 U).map nv)] _;rw[<-zl7];exact q_h
 rintro⟨i,l,c⟩ ⟨hi,A⟩;dsimp only at hi A ⊢;have P:=A.len;have a7:(l.map nv).length=17:=by rw[List.length_map,P]
 have N:=A.bit;by_cases hlt:i<n
 ·have hu:=A.rest (j+i) (A4 _) q_o;have E:(l.map nv)[j+i]?=some (nv (U/18446744073709551616^(j+i)%18446744073709551616)):=by rw[AY,hu];rfl
  have W:w.cell? ⟨F,i,none⟩=some (nv (V/18446744073709551616^i%18446744073709551616)):=by
   have:=Z i _ (O i q_o);rw[AR] at this;exact this
  have T:U/18446744073709551616^(j+i)%18446744073709551616<18446744073709551616:=A7 _ q_e;have a8:V/18446744073709551616^i%18446744073709551616<18446744073709551616:=A7 _ q_e;have hstep:=λz c'=>A.step (z:=z) (c':=c') (show j+i<17 by omega);generalize V/18446744073709551616^i%18446744073709551616=v,U/18446744073709551616^(j+i)%18446744073709551616=u at*;obtain⟨z,hz⟩:∃z,(u+v+c)%18446744073709551616=z:=⟨_,rfl⟩;obtain⟨c',M⟩:∃c',(u+v+c)/18446744073709551616=c':=⟨_,rfl⟩;have t:=zct u v c N;rw[hz,M] at t;have q:(l.map nv).set (j+i) (nv z)=(l.set (j+i) z).map nv:=by rw[BS]
  repeat' (first|refine s_t ?_|refine zg 2 ?_;refine zR ?_|refine q_k 3 ?_)
  refine zb2 (id:=4) mixed ?_
  (refine zbY 17 17 [[],[],[],[],[2,3],[2,3,4],[],[],[6,7],[6,7,8],[],[2,3,4,5,6,7,8,9,10],[2,3,4,5,6,7,8,9,10,11],[2,3,4,5,6,7,8,9,10,11,12],[2,3,4,5,6,7,8,9,10,11,12],[0,1,2,3,4,5,6,7,8,9,10,11,12,13],[0,1,2,3,4,5,6,7,8,9,10,11,12,13,15],[0,1,2,3,4,5,6,7,8,9,10,11,12,13,14,15,16]] [[],[],[],[],[],[],[],[],[],[],[],[],[],[],[],[],[],[]] (some 16) rfl ?_ ?_ ?_;kernel_rfl;kernel_rfl;refine q_E zao ?_;refine q_E zao ?_;refine q_E zao ?_;refine q_E zao ?_;refine zcB ?_;refine q_E (zM (hv:=E)) ?_;refine q_E zao ?_;refine q_E zao ?_;refine zcB ?_;refine q_E (zn (hv:=W) (hn:=Q)) ?_;refine q_E zao ?_;refine q_E (zc1 (hr:=t)) ?_;refine q_E zao ?_;refine q_E zau ?_;refine q_E zau ?_;refine zcB ?_;try refine dh_0nE (h:=?_))
  refine zhg (R:=λ_ _ Y=>Y= [.blk m 330 ((l.map nv).set (j+i) (nv z))]) (λ_ _ _=>rfl) (λρ hρ=>FF (zcn (C:=l.map nv) (L':=[.blk m 330 ((l.map nv).set (j+i) (nv z))])) λv L' h=>?_) (h:=?_)
  ·obtain⟨rfl,rfl⟩:=h;exact⟨_,(AZ _).symm,rfl⟩
  refine zdI (h:=?_);rintro ρ ⟨G,-⟩
  (refine zb1 [[],[],[],[],[2,3],[2,3,4],[],[],[6,7],[6,7,8],[],[2,3,4,5,6,7,8,9,10],[2,3,4,5,6,7,8,9,10,11],[2,3,4,5,6,7,8,9,10,11,12],[2,3,4,5,6,7,8,9,10,11,12],[0,1,2,3,4,5,6,7,8,9,10,11,12,13],[0,1,2,3,4,5,6,7,8,9,10,11,12,13,15],[0,1,2,3,4,5,6,7,8,9,10,11,12,13,14,15,16]] ?_ ?_;kernel_rfl)
  have G:(ρ 16).2= [.blk m 330 ((l.map nv).set (j+i) (nv z))]:=G;refine FI (fr':=[(25,nv c'),(0,.slice (some ⟨m,j,none⟩) (n+1) (n+1)),(1,.slice (some ⟨F,0,none⟩) n n),(7,.int .i64 n),(8,.int .i64 i)])
   (L':=[.blk m 330 ((l.set (j+i) z).map nv)]) ?_ ?_ ?_
  ·repeat' (first|refine s_0 ?_|refine zg 5 ?_;refine zaI ?_;refine zb ?_|(refine zW ?_;first|refine zB ?_|fail)|fail)
   refine zy (i+1,l.set (j+i) z,c') ⟨by show i+1<=n;omega,hstep z c' q_o q_o q_o⟩ ?_ ?_ ?_
   ·show n-(i+1)<n-i;omega
   ·exact q_h
   ·exact q_h
  ·exact q_h
  ·show SubR _ ((ρ 16).2++[]);rw[G,q];exact q_h
 obtain rfl:i=n:=q_o;have hu:=A.rest (j+i) (A4 _) q_o;have E:(l.map nv)[j+i]?=some (nv (U/18446744073709551616^(j+i)%18446744073709551616)):=by rw[AY,hu];rfl
 have T:U/18446744073709551616^(j+i)%18446744073709551616<18446744073709551616:=A7 _ q_e;have B:=λz d'=>A.last (z:=z) (d':=d') (show j+i<17 by omega) hV;generalize U/18446744073709551616^(j+i)%18446744073709551616=u at*;obtain⟨r,I,J,K,L⟩:=B ((u+c)%18446744073709551616) ((u+c)/18446744073709551616) (A7 _ q_e) q_e q_o;have q:(l.map nv).set (j+i) (nv ((u+c)%18446744073709551616))=wC 17 r:=by rw[<-BS,I,<-zl7]
 repeat' (first|refine s_0 ?_|refine zg 2 ?_;refine zR ?_|refine q_k 6 ?_;refine zD ?_;refine q_x (zM (hv:=E)) ?_;refine q_v zeh ?_;refine zD ?_;refine zS ?_)
 refine ze4 (R:=[.blk m 330 (wC 17 r)]) rfl ?_ ?_
 ·(repeat' (first|exact F2|apply F9;with_reducible (focus ((repeat (first|exact F1|apply F3));done))|apply FC;(focus ((repeat (first|exact F1|apply F3));done))|apply FA;(focus ((repeat (first|exact F1|apply F3));done))|rfl))
  exact q
 ·exact⟨r,_,rfl,J,K,L,rfl⟩
end Go.Proofs.YtdnlngbjpdbffaaGreatDoor
