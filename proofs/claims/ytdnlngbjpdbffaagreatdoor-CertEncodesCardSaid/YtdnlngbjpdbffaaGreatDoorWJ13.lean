/- Lemmas of this proof. -/
import Derived.Test.YtdnlngbjpdbffaaGreatDoorWJ11
import Derived.Test.YtdnlngbjpdbffaaGreatDoorWJ12
set_option maxHeartbeats 1000000
set_option maxRecDepth 10000
set_option linter.all false
namespace Go.Nt
open Go Go.Sy
def wC(k x:Nat):List Value:=(dg 18446744073709551616 k x).map nv
theorem zgc(k x:Nat):(wC k x).length=k:=by unfold wC;rw[A0,zcU]
theorem ziG(k x i:Nat)(h:i<k):(wC k x)[i]?=some (nv (x/18446744073709551616^i%18446744073709551616)):=by
 unfold wC;rw[AY,zfc _ k x i h];rfl
theorem zoQ(k x:Nat):(wC k x).all (·.oneCell')=true:=zyS _
theorem zsJ{W:Nat}(a c s t:Nat)(j:2^s*2^t=W)(hc:c<2^s):(a*2^s%W ||| c)=a*2^s%W+c:=by
 rw[<-j,AK (2^s) (2^t),DU];exact or_add _ _ _ hc
def bel(d i:Nat):Nat:=if i=0 then 0 else d/18446744073709551616^(i-1)%18446744073709551616
theorem znR(d i:Nat):bel d (i+1)=d/18446744073709551616^i%18446744073709551616:=by unfold bel;rw[if_neg q_o,Au]
theorem zya(d i:Nat):bel d i<18446744073709551616:=by
 unfold bel;split
 ·decide
 ·exact AC _ q_e
theorem zol(d s t i:Nat)(j:2^s*2^t=18446744073709551616):d*2^s/18446744073709551616^i%18446744073709551616=d/18446744073709551616^i%18446744073709551616*2^s%18446744073709551616+bel d i/2^t:=by
 cases i with
 |zero=>rw[zqT,show bel d 0=0 from rfl,EG,An,CF,BU]
 |succ i=>rw[znR];exact zl6 18446744073709551616 d s t i j.symm
theorem zxb{W u v q:Nat}(hv:0<v)(j:q<W)(h1:q*v<=u)(h2:q+1=W\/u<(q+1)*v):min (W-1) (u/v)=q:=by
 rcases h2 with h|h
 ·have:q<=u/v:=(CQ hv).2 h1;rw[BM q_o];omega
 ·rw[(zgC u v q h1 h).1,EA q_o]
end Go.Nt
namespace Go.Proofs.YtdnlngbjpdbffaaGreatDoor
open Go Go.Sy Go.Nt Go.RowKit
attribute [local irreducible] Sy SyL SyX Sy.Fn callFunc zg wC
theorem zmD(d s:Nat)(w:World)(O:d<18446744073709551616^16)(T:s<64):
  q_G 329 [zr d,.int .i64 s] w (.agg (wC 17 (d*2^s)).toArray):=by
 refine zt Tryz.func329 Tryz.ntmps329 ?_;have P:=zd d;have N:=zbK d;have q:=zgc 17 (d*2^s);have E:=ziG 17 (d*2^s);have F:=zoQ 17 (d*2^s);obtain⟨t,U⟩:∃t,t=64-s:=⟨_,rfl⟩;have C:(2:Nat)^s*2^t=18446744073709551616:=by rw[<-Av,show s+t=64 by omega]
 have G:=λi=>zol d s t i C;have H:IntKind.i64.wrap (64-(s:Int))=((t:Nat):Int):=q_w;have A:=λa c=>zsJ (W:=18446744073709551616) a c s t C;generalize wC 17 (d*2^s)=l at*;repeat' (first|refine s_t ?_|refine zf 0 ?_;refine zj ?_;intro _;refine zj ?_;intro _|refine q_k 1 ?_|refine zf 2 ?_;refine q_x (ze (B:=zg d)) ?_)
 rename_i R I;refine zN (γ:=Nat) (λi=>[(1,.int .i64 s),(4,.pointer (some ⟨I,0,none⟩)),(5,nv (bel d i)),(8,zr d),(9,.int .i64 i)])
  (λi=>[.blk I 330 (l.take i++List.replicate (17-i) (.int .u64 0))])
  (λi=>i<=16) (λi=>16-i) 0 (A9 _) ?_ ?_ ?_
 ·exact q_h
 ·exact q_h
 intro i S;have Q:(l.take i++List.replicate (17-i) (Value.int IntKind.u64 0)).length=17:=by rw[A2,AR,AJ];omega
 have m:=zya d i;have L:bel d i/2^t<2^s:=(AW (AV q_e)).2 (by rw[C];exact m);have J:bel d i/2^t<18446744073709551616:=B1 (Bv _ _) m;by_cases r:i<16
 ·have M:=N i r;have hu:=E i q_o;rw[G i] at hu;have j:=zh3 l (.int .u64 0) _ 17 i hu q_o q;have K:=znR d i;have A:=A (d/18446744073709551616^i%18446744073709551616) _ L;generalize d/18446744073709551616^i%18446744073709551616=v at*;rw[<-A] at j;generalize bel d i=e at*;repeat' (first|refine s_t ?_|refine zf 3 ?_;refine zag ?_|refine q_k 4 ?_;refine q_x (zkl (hv:=M)) ?_|refine zaj (id:=5) 9 [[],[],[],[1,2],[],[],[5],[4,5,6],[1,2,3,4,5,6,7],[0,1,2,3,4,5,6,7,8],[0,1,2,3,4,5,6,7,8,9]] mixed ?_ ?_;kernel_rfl;refine zA ?_;refine zA ?_;refine zA ?_;refine q_D (zg6 (a:=v) (n:=s)) ?_;refine zA ?_;refine zA ?_;refine q_D (zI (hr:=H)) ?_;refine q_D (zg2 (a:=e) (n:=t) m) ?_;refine q_D (zi5 (a:=v*2^s%18446744073709551616) (b:=e/2^t) (AC _ q_e) J) ?_;refine zaB ?_;refine zQ ?_;refine zO ?_|refine q_k 6 ?_|refine zf 7 ?_;refine za4 ?_;refine zb ?_)
  refine zE (i+1) ?_ ?_ ?_ ?_
  ·show i+1<=16;omega
  ·show 16-(i+1)<16-i;omega
  ·rw[K];exact q_h
  ·show SubR [.blk I 330 (l.take (i+1)++List.replicate (17-(i+1)) (.int .u64 0))] _;rw[<-j];exact q_h
 obtain rfl:i=16:=q_o;have hu:=E 16 q_o;rw[G 16,Al O,CA,BF,CA,AZ] at hu;have j:=zh3 l (.int .u64 0) _ 17 16 hu q_o q;have r:l.take (16+1)=l:=A8 q_o;rw[r,CZ,AG] at j;generalize bel d 16=e at*;repeat' (first|refine s_0 ?_|refine zf 3 ?_;refine zag ?_|refine q_k 8 ?_;refine q_v (zI (hr:=H)) ?_;refine q_v (zg2 (a:=e) (n:=t) m) ?_;refine zQ ?_;refine zO ?_)
 rw[j];repeat' (first|refine s_0 ?_|refine zf 9 ?_;refine q_v (ze (B:=l)) ?_;refine q_n (zC (B:=l) (hv:=F) (h1:=q.symm)) ?_)
 exact zap rfl (zB (B:=l) rfl (ty rfl) rfl Ev Et q.symm) Er ⟨rfl,rfl⟩
theorem zpo(K u1 u0 j v0:Nat)(w:World)(h2:K<=j)(h1:u1<18446744073709551616)(h0:u0<18446744073709551616)(T:j<18446744073709551616)(G:v0<18446744073709551616)(H:0<j):
  q_G 330 [nv K,nv u1,nv u0,nv j,nv v0] w (nv (min (18446744073709551616-1) (((K*18446744073709551616+u1)*18446744073709551616+u0)/(j*18446744073709551616+v0)))):=by
 refine zt Tryz.func330 Tryz.ntmps330 ?_;obtain⟨X,Z⟩:∃X,X=K*18446744073709551616+u1:=⟨_,rfl⟩;rw[<-Z];have hV:0<j*18446744073709551616+v0:=q_o;have A:=λq=>zxb (W:=18446744073709551616) (u:=X*18446744073709551616+u0) (q:=q) hV;repeat' (first|refine s_0 ?_|refine zdG ?_|refine zD [0,1] ?_;refine zb ?_|refine q_k 2 ?_;refine q_v zP ?_)
 refine zcn (γ:=Nat×Nat) (λg=>[(2,nv u0),(3,nv j),(4,nv v0),(10,.int .u64 0),(11,nv g.1),(12,nv g.2)]) (λ_=>[]) (λg=>g.1*j+g.2=X/\g.2<18446744073709551616/\g.1<18446744073709551616/\(g.1+1=18446744073709551616\/X*18446744073709551616+u0<(g.1+1)*(j*18446744073709551616+v0))) ?_ ?_
 ·refine zeP rfl (λhu=>?_) (λhu=>?_)
  ·have hu:=of_decide_eq_true hu;have b0:K=j:=q_o;have e:18446744073709551615*j+(u1+j)=X:=q_o;by_cases hc:18446744073709551616<=u1+j
   ·have hr:(u1+j+0)/18446744073709551616=1:=q_o;have E:decide ((((u1+j+0)/18446744073709551616:Nat):Int)≠0)=true:=decide_eq_true (by rw[hr];decide);repeat' (first|refine s_0 ?_|refine zbT ?_|refine zD [3,4,7] ?_;refine zb ?_|refine q_k 5 ?_;refine q_x (zdt (hr:=zcD u1 j 0 q_e)) ?_|refine q_k 6 ?_;refine q_v (zaf (hr:=E)) ?_)
    refine zap rfl (zh rfl) Er ⟨?_,rfl⟩;exact congrArg nv (A 18446744073709551615 q_e (zez e (zid G q_e hc)) (.inl rfl)).symm
   ·have U:decide ((((u1+j+0)/18446744073709551616:Nat):Int)≠0)=false:=q_f;repeat' (first|refine s_0 ?_|refine zD [3,4] ?_;refine zb ?_|refine q_k 5 ?_;refine q_x (zdt (hr:=zcD u1 j 0 q_e)) ?_|refine q_k 6 ?_;refine q_v (zaf (hr:=U)) ?_)
    exact zak (18446744073709551615,(u1+j+0)%18446744073709551616) ⟨by show 18446744073709551615*j+(u1+j+0)%18446744073709551616=X;omega,by show(u1+j+0)%18446744073709551616<_;omega,by show 18446744073709551615<18446744073709551616;decide,.inl rfl⟩ q_h q_h
  ·have hu:=of_decide_eq_false hu;have Y:=Fy 18446744073709551616 X u0 j v0 H h0;have a8:=AC X H;have Q:X/j<18446744073709551616:=(AW H).2 q_o;have hd:=λw=>zoA K u1 j w q_o T h1;rw[<-Z] at hd;repeat' (first|refine zaq ?_|refine zat ?_|refine q_k 8 ?_;refine q_v (za (hc:=q_c hd)) ?_;refine zb ?_)
   exact zak (X/j,X%j) ⟨Y.eq,by show X%j<_;omega,Q,.inr Y.up⟩ q_h q_h
 rintro⟨q,r⟩ ⟨C,hr,F,m⟩;dsimp only at C hr F m ⊢;repeat' (first|refine s_t ?_|fail)
 refine zN (γ:=Nat×Nat) (λg=>[(2,nv u0),(3,nv j),(4,nv v0),(10,.int .u64 0),(11,nv g.1),(12,nv g.2)]) (λ_=>[]) (λg=>g.1*j+g.2=X/\g.2<18446744073709551616/\g.1<18446744073709551616/\(g.1+1=18446744073709551616\/X*18446744073709551616+u0<(g.1+1)*(j*18446744073709551616+v0))) (λg=>g.1) (q,r) ⟨C,hr,F,m⟩ ?_ ?_ ?_
 ·exact q_h
 ·exact q_h
 clear C hr F m;rintro⟨q,r⟩ ⟨C,hr,F,m⟩;dsimp only at C hr F m ⊢;have L:=λw=>zkk q v0 w F G;have a7:=Aa (q*v0) 18446744073709551616;have a6:=AC (q*v0) (show 0<18446744073709551616 by decide);refine zeC ?_;repeat' (first|refine s_0 ?_|refine q_k 9 ?_;refine q_v (za (hc:=q_c L)) ?_;refine zb ?_)
 refine zcn (γ:=Bool) (λg=>[(2,nv u0),(3,nv j),(4,nv v0),(10,.int .u64 0),(11,nv q),(12,nv r),(54,.bool g)]) (λ_=>[]) (λg=>(g=true->q*v0<=r*18446744073709551616+u0)/\(g=false->r*18446744073709551616+u0<q*v0)) ?_ ?_
 ·generalize q*v0%18446744073709551616=V,q*v0/18446744073709551616=J at*;rcases Cm J r with h|h|h
  ·have I:decide ((J:Int)<(r:Int))=true:=q_d;repeat' (first|refine zaq ?_|refine zat ?_|refine q_k 10 ?_;refine q_x (zo (hr:=I)) ?_)
   exact zak true ⟨λ_=>by omega,λh=>absurd h q_e⟩ q_h q_h
  ·have I:decide ((J:Int)<(r:Int))=false:=q_f;have M:decide ((J:Int)=(r:Int))=true:=q_d;by_cases hl:V<=u0
   ·have O:decide ((V:Int)<=(u0:Int))=true:=q_d;repeat' (first|refine zaq ?_|refine zat ?_|refine q_k 10 ?_;refine q_x (zo (hr:=I)) ?_;refine q_x (zS (hr:=M)) ?_;refine q_x (zaF (hr:=O)) ?_)
    exact zak true ⟨λ_=>by omega,λh=>absurd h q_e⟩ q_h q_h
   ·have O:decide ((V:Int)<=(u0:Int))=false:=q_f;repeat' (first|refine zaq ?_|refine zat ?_|refine q_k 10 ?_;refine q_x (zo (hr:=I)) ?_;refine q_x (zS (hr:=M)) ?_;refine q_x (zaF (hr:=O)) ?_)
    exact zak false ⟨λh=>absurd h q_e,λ_=>by omega⟩ q_h q_h
  ·have I:decide ((J:Int)<(r:Int))=false:=q_f;have M:decide ((J:Int)=(r:Int))=false:=q_f;repeat' (first|refine zaq ?_|refine zat ?_|refine q_k 10 ?_;refine q_x (zo (hr:=I)) ?_;refine q_x (zS (hr:=M)) ?_)
   exact zak false ⟨λh=>absurd h q_e,λ_=>by omega⟩ q_h q_h
 rintro t ⟨S,P⟩;cases t with
 |true=>
  have S:=S rfl;repeat' (first|refine s_0 ?_|refine zbT ?_|refine q_k 15 ?_)
  exact zap rfl (zh rfl) Er ⟨congrArg nv (A q F (zez C S) m).symm,rfl⟩
 |false=>
  have P:=P rfl;obtain⟨a9,N⟩:=zkr C (zlV C P);have B:IntKind.u64.wrap ((q:Int)-1)=((q-1:Nat):Int):=by rw[IntWalk.u64_in _ q_o];omega
  by_cases hc:18446744073709551616<=r+j
  ·have R:(r+j+0)/18446744073709551616=1:=q_o;have E:decide ((((r+j+0)/18446744073709551616:Nat):Int)≠0)=true:=decide_eq_true (by rw[R];decide);repeat' (first|refine s_0 ?_|refine zbT ?_|refine q_k 11 ?_;refine q_x (zI (hr:=B)) ?_|refine zD [12,15] ?_;refine zb ?_|refine q_k 13 ?_;refine q_x (zdt (hr:=zcD r j 0 q_e)) ?_|refine q_k 14 ?_;refine q_v (zaf (hr:=E)) ?_)
   exact zap rfl (zh rfl) Er ⟨congrArg nv (A (q-1) q_o (zez N.eq (zid G q_o hc)) (.inr N.up)).symm,rfl⟩
  ·have U:decide ((((r+j+0)/18446744073709551616:Nat):Int)≠0)=false:=q_f;repeat' (first|refine s_0 ?_|refine q_k 11 ?_;refine q_x (zI (hr:=B)) ?_|refine q_k 12 ?_|refine q_k 13 ?_;refine q_x (zdt (hr:=zcD r j 0 q_e)) ?_|refine q_k 14 ?_;refine q_v (zaf (hr:=U)) ?_)
   refine zE (q-1,(r+j+0)%18446744073709551616) ⟨by have:=N.eq;show(q-1)*j+(r+j+0)%18446744073709551616=X;omega,by show(r+j+0)%18446744073709551616<_;omega,by show q-1<_;omega,.inr N.up⟩ ?_ ?_ ?_
   ·show q-1<q;omega
   ·exact q_h
   ·exact q_h
theorem zm7(k x:Nat):wC k x=(dg 18446744073709551616 k x).map nv:=by unfold wC;rfl
theorem zuf{q v j lo c d u z c' d' k:Nat}(h1:18446744073709551616*j+lo=q*v)(h2:18446744073709551616*k+(lo+c+0)%18446744073709551616=lo+c)(m:c'=j+k)(r:z+(lo+c+0)%18446744073709551616+d=u+d'*18446744073709551616):z+q*v+(c+d)=u+(c'+d')*18446744073709551616:=q_o
theorem zo7(A G j n q U V:Nat)(w:World)(Z:¬G=A)(b0:j+n<17)(hU:U<18446744073709551616^17)(hV:V<18446744073709551616^n)(hq:q<18446744073709551616)
  (hC:(Res.blk A 330 (wC 17 U)).holds w)(hB:w.rangeAt G 0 (wC 17 V)):
  Sy.Fn Tryz.prog 331 [.slice (some ⟨A,j,none⟩) (n+1) (n+1),.slice (some ⟨G,0,none⟩) n n,nv q] w (λx=>x=A)
   (λv R=>∃C d,d<=1/\v= .bool (decide (((d:Nat):Int)≠0))/\C<18446744073709551616^17/\C+q*V*18446744073709551616^j=U+d*18446744073709551616^(j+n+1)/\(U<18446744073709551616^(j+n+1)->C<18446744073709551616^(j+n+1))/\R= [.blk A 330 (wC 17 C)]):=by
 have N:Holds w.heap.size (λx=>x=A) [.blk A 330 (wC 17 U)] w:=⟨λx hx=>by obtain rfl:=AE.1 hx;exact hC,Bi _ _,λx hx y hy=>by obtain rfl:=AE.1 hx;exact .inr (De hy)⟩;refine zaW Tryz.func331 rfl Tryz.ntmps331 q_p N ?_;have a6:=DivJ.start 18446744073709551616 17 U V j q q_e hU;have W:=ziG 17 V;repeat' (first|refine s_t ?_|refine zD [0,1,2] ?_;refine zb ?_)
 refine zN (γ:=Nat×List Nat×Nat×Nat) (λg=>[(0,.slice (some ⟨A,j,none⟩) (n+1) (n+1)),(1,.slice (some ⟨G,0,none⟩) n n),(2,nv q),(6,.bool false),(7,nv g.2.2.2),(8,nv g.2.2.1),(14,.int .i64 n),(15,.int .i64 g.1)])
  (λg=>[.blk A 330 (g.2.1.map nv)])
  (λg=>g.1<=n/\DivJ 18446744073709551616 17 U V j q g.1 g.2.1 g.2.2.1 g.2.2.2) (λg=>n-g.1) (0,dg 18446744073709551616 17 U,0,0) ⟨A9 _,a6⟩ ?_ ?_ ?_
 ·exact q_h
 ·show SubR [.blk A 330 ((dg 18446744073709551616 17 U).map nv)] _;rw[<-zm7];exact q_h
 rintro⟨i,l,c,d⟩ ⟨hi,B⟩;dsimp only at hi B ⊢;have Y:=B.len;have b2:(l.map nv).length=17:=by rw[List.length_map,Y]
 have T:=B.car;have I:=B.bit;by_cases hlt:i<n
 ·have hu:=B.rest (j+i) (A6 _) q_o;have F:(l.map nv)[j+i]?=some (nv (U/18446744073709551616^(j+i)%18446744073709551616)):=by rw[AY,hu];rfl
  have a8:w.cell? ⟨G,i,none⟩=some (nv (V/18446744073709551616^i%18446744073709551616)):=by
   have:=hB i _ (W i q_o);rw[AZ] at this;exact this
  have a7:U/18446744073709551616^(j+i)%18446744073709551616<18446744073709551616:=AC _ q_e;have L:V/18446744073709551616^i%18446744073709551616<18446744073709551616:=AC _ q_e;have hstep:=λz c' d'=>B.step (z:=z) (c':=c') (d':=d') (show j+i<17 by omega);generalize V/18446744073709551616^i%18446744073709551616=v,U/18446744073709551616^(j+i)%18446744073709551616=u at*;have J:=λw=>zkk q v w hq L;have e1:=Aa (q*v) 18446744073709551616;have X:q*v/18446744073709551616+(q*v%18446744073709551616+c+0)/18446744073709551616<18446744073709551616:=
   zyi 18446744073709551616 q v c _ (q*v%18446744073709551616) ((q*v%18446744073709551616+c+0)%18446744073709551616) _ hq L T q_o q_o
  have a9:=AC (q*v) (show 0<18446744073709551616 by decide);have e2:=Aa (q*v%18446744073709551616+c+0) 18446744073709551616;have b1:(q*v%18446744073709551616+c+0)%18446744073709551616<18446744073709551616:=AC _ q_e;repeat' (first|refine s_t ?_|refine zf 3 ?_;refine zag ?_|refine zD [4,6] ?_;refine zb ?_|refine q_k 5 ?_;refine zQ ?_;refine q_v (zn (hv:=a8) (hn:=Z)) ?_;refine q_v (za (hc:=q_c J)) ?_;refine zb ?_|refine q_k 7 ?_;refine q_x (zdt (hr:=zcD (q*v%18446744073709551616) c 0 q_e)) ?_|refine q_k 8 ?_;refine q_x zeO ?_|refine q_k 9 ?_;refine zQ ?_;refine q_x (zL (hv:=F)) ?_;refine q_x (zdt (hr:=zhW u ((q*v%18446744073709551616+c+0)%18446744073709551616) d I)) ?_;refine zQ ?_;refine zO ?_;refine zb ?_|refine zf 10 ?_;refine za4 ?_;refine zb ?_)
  obtain⟨z,M⟩:∃z,(u+18446744073709551616-(q*v%18446744073709551616+c+0)%18446744073709551616-d)%18446744073709551616=z:=⟨_,rfl⟩;obtain⟨c',H⟩:∃c',(q*v/18446744073709551616+(q*v%18446744073709551616+c+0)/18446744073709551616)%18446744073709551616=c':=⟨_,rfl⟩;obtain⟨d',m⟩:∃d',(if u<(q*v%18446744073709551616+c+0)%18446744073709551616+d then 1 else 0)=d':=⟨_,rfl⟩;rw[M,H,m];have r:d'<=1:=by rw[<-m];split <;> omega
  refine zE (i+1,l.set (j+i) z,c',d') ⟨by show i+1<=n;omega,hstep z c' d' q_o q_o r ?_⟩ ?_ ?_ ?_
  ·refine zuf e1 q_o (by rw[<-H];exact A7 X) ?_;rw[<-M];generalize (q*v%18446744073709551616+c+0)%18446744073709551616=f at*;rw[<-m];split <;> omega
  ·show n-(i+1)<n-i;omega
  ·exact q_h
  ·show SubR [.blk A 330 ((l.set (j+i) z).map nv)] _;rw[Bq];exact q_h
 obtain rfl:i=n:=q_o;have hu:=B.rest (j+i) (A6 _) q_o;have F:(l.map nv)[j+i]?=some (nv (U/18446744073709551616^(j+i)%18446744073709551616)):=by rw[AY,hu];rfl
 have a7:U/18446744073709551616^(j+i)%18446744073709551616<18446744073709551616:=AC _ q_e;have E:=λz d'=>B.last (z:=z) (d':=d') (show j+i<17 by omega) hV;generalize U/18446744073709551616^(j+i)%18446744073709551616=u at*;repeat' (first|refine s_0 ?_|refine zf 3 ?_;refine zag ?_|refine q_k 11 ?_;refine zQ ?_;refine q_x (zL (hv:=F)) ?_;refine q_x (zdt (hr:=zhW u c d I)) ?_;refine zQ ?_;refine zO ?_;refine zb ?_)
 obtain⟨z,M⟩:∃z,(u+18446744073709551616-c-d)%18446744073709551616=z:=⟨_,rfl⟩;obtain⟨d',m⟩:∃d',(if u<c+d then 1 else 0)=d':=⟨_,rfl⟩;rw[M,m];have r:d'<=1:=by rw[<-m];split <;> omega
 obtain⟨C,O,P,Q,S⟩:=E z d' q_o (by rw[<-M,<-m];split <;> omega) r;have K:(l.map nv).set (j+i) (nv z)=wC 17 C:=by rw[<-Bq,O,<-zm7]
 repeat' (first|refine s_0 ?_|refine q_k 12 ?_;refine zaA ?_;refine zb ?_)
 exact zap rfl (zh rfl) (by (repeat' (first|exact Er|apply F2;with_reducible (focus ((repeat (first|exact Es|apply Eu));done))|apply F7;(focus ((repeat (first|exact Es|apply Eu));done))|apply F3;(focus ((repeat (first|exact Es|apply Eu));done))|rfl));exact K) ⟨C,d',r,rfl,P,Q,S,rfl⟩
theorem zq8(m G j n U V:Nat)(w:World)(S:¬G=m)(a6:j+n<17)(hU:U<18446744073709551616^17)(hV:V<18446744073709551616^n)
  (hC:(Res.blk m 330 (wC 17 U)).holds w)(hB:w.rangeAt G 0 (wC 17 V)):
  Sy.Fn Tryz.prog 332 [.slice (some ⟨m,j,none⟩) (n+1) (n+1),.slice (some ⟨G,0,none⟩) n n] w (λx=>x=m)
   (λv R=>∃r d,v= .tuple #[]/\r<18446744073709551616^17/\r+d*18446744073709551616^(j+n+1)=U+V*18446744073709551616^j/\(U<18446744073709551616^(j+n+1)->r<18446744073709551616^(j+n+1))/\R= [.blk m 330 (wC 17 r)]):=by
 have I:Holds w.heap.size (λx=>x=m) [.blk m 330 (wC 17 U)] w:=⟨λx Y=>by obtain rfl:=AE.1 Y;exact hC,Bi _ _,λx Y y hy=>by obtain rfl:=AE.1 Y;exact .inr (De hy)⟩;refine zaW Tryz.func332 rfl Tryz.ntmps332 q_p I ?_;have T:=ResJ.start 18446744073709551616 17 U V j q_e hU;have P:=ziG 17 V;repeat' (first|refine s_t ?_|refine zD [0,1] ?_;refine zb ?_)
 refine zN (γ:=Nat×List Nat×Nat) (λg=>[(0,.slice (some ⟨m,j,none⟩) (n+1) (n+1)),(1,.slice (some ⟨G,0,none⟩) n n),(4,nv g.2.2),(7,.int .i64 n),(8,.int .i64 g.1)])
  (λg=>[.blk m 330 (g.2.1.map nv)])
  (λg=>g.1<=n/\ResJ 18446744073709551616 17 U V j g.1 g.2.1 g.2.2) (λg=>n-g.1) (0,dg 18446744073709551616 17 U,0) ⟨A9 _,T⟩ ?_ ?_ ?_
 ·exact q_h
 ·show SubR [.blk m 330 ((dg 18446744073709551616 17 U).map nv)] _;rw[<-zm7];exact q_h
 rintro⟨i,l,c⟩ ⟨hi,B⟩;dsimp only at hi B ⊢;have Q:=B.len;have a7:(l.map nv).length=17:=by rw[List.length_map,Q]
 have O:=B.bit;by_cases hlt:i<n
 ·have hu:=B.rest (j+i) (A6 _) q_o;have F:(l.map nv)[j+i]?=some (nv (U/18446744073709551616^(j+i)%18446744073709551616)):=by rw[AY,hu];rfl
  have X:w.cell? ⟨G,i,none⟩=some (nv (V/18446744073709551616^i%18446744073709551616)):=by
   have:=hB i _ (P i q_o);rw[AZ] at this;exact this
  have W:U/18446744073709551616^(j+i)%18446744073709551616<18446744073709551616:=AC _ q_e;have a8:V/18446744073709551616^i%18446744073709551616<18446744073709551616:=AC _ q_e;have hstep:=λz c'=>B.step (z:=z) (c':=c') (show j+i<17 by omega);generalize V/18446744073709551616^i%18446744073709551616=v,U/18446744073709551616^(j+i)%18446744073709551616=u at*;obtain⟨z,hz⟩:∃z,(u+v+c)%18446744073709551616=z:=⟨_,rfl⟩;obtain⟨c',N⟩:∃c',(u+v+c)/18446744073709551616=c':=⟨_,rfl⟩;have A:=zcD u v c O;rw[hz,N] at A;have q:(l.map nv).set (j+i) (nv z)=(l.set (j+i) z).map nv:=by rw[Bq]
  repeat' (first|refine s_t ?_|refine zf 2 ?_;refine zag ?_|refine q_k 3 ?_)
  refine zcQ (id:=4) mixed ?_
  (refine zcX 17 17 [[],[],[],[],[2,3],[2,3,4],[],[],[6,7],[6,7,8],[],[2,3,4,5,6,7,8,9,10],[2,3,4,5,6,7,8,9,10,11],[2,3,4,5,6,7,8,9,10,11,12],[2,3,4,5,6,7,8,9,10,11,12],[0,1,2,3,4,5,6,7,8,9,10,11,12,13],[0,1,2,3,4,5,6,7,8,9,10,11,12,13,15],[0,1,2,3,4,5,6,7,8,9,10,11,12,13,14,15,16]] [[],[],[],[],[],[],[],[],[],[],[],[],[],[],[],[],[],[]] (some 16) rfl ?_ ?_ ?_;kernel_rfl;kernel_rfl;refine q_E zZ ?_;refine q_E zZ ?_;refine q_E zZ ?_;refine q_E zZ ?_;refine zcJ ?_;refine q_E (zL (hv:=F)) ?_;refine q_E zZ ?_;refine q_E zZ ?_;refine zcJ ?_;refine q_E (zn (hv:=X) (hn:=S)) ?_;refine q_E zZ ?_;refine q_E (zdt (hr:=A)) ?_;refine q_E zZ ?_;refine q_E zar ?_;refine q_E zar ?_;refine zcJ ?_;try refine dh_0nE (h:=?_))
  refine zld (R:=λ_ _ Z=>Z= [.blk m 330 ((l.map nv).set (j+i) (nv z))]) (λ_ _ _=>rfl) (λρ hρ=>FH (zaM (C:=l.map nv) (L':=[.blk m 330 ((l.map nv).set (j+i) (nv z))])) λv L' h=>?_) (h:=?_)
  ·obtain⟨rfl,rfl⟩:=h;exact⟨_,(AG _).symm,rfl⟩
  refine ze1 (h:=?_);rintro ρ ⟨H,-⟩
  (refine zcW [[],[],[],[],[2,3],[2,3,4],[],[],[6,7],[6,7,8],[],[2,3,4,5,6,7,8,9,10],[2,3,4,5,6,7,8,9,10,11],[2,3,4,5,6,7,8,9,10,11,12],[2,3,4,5,6,7,8,9,10,11,12],[0,1,2,3,4,5,6,7,8,9,10,11,12,13],[0,1,2,3,4,5,6,7,8,9,10,11,12,13,15],[0,1,2,3,4,5,6,7,8,9,10,11,12,13,14,15,16]] ?_ ?_;kernel_rfl)
  have H:(ρ 16).2= [.blk m 330 ((l.map nv).set (j+i) (nv z))]:=H;refine FI (fr':=[(25,nv c'),(0,.slice (some ⟨m,j,none⟩) (n+1) (n+1)),(1,.slice (some ⟨G,0,none⟩) n n),(7,.int .i64 n),(8,.int .i64 i)])
   (L':=[.blk m 330 ((l.set (j+i) z).map nv)]) ?_ ?_ ?_
  ·repeat' (first|refine s_0 ?_|refine zf 5 ?_;refine za4 ?_;refine zb ?_|(refine zy ?_;first|refine zw ?_|fail)|fail)
   refine zE (i+1,l.set (j+i) z,c') ⟨by show i+1<=n;omega,hstep z c' q_o q_o q_o⟩ ?_ ?_ ?_
   ·show n-(i+1)<n-i;omega
   ·exact q_h
   ·exact q_h
  ·exact q_h
  ·show SubR _ ((ρ 16).2++[]);rw[H,q];exact q_h
 obtain rfl:i=n:=q_o;have hu:=B.rest (j+i) (A6 _) q_o;have F:(l.map nv)[j+i]?=some (nv (U/18446744073709551616^(j+i)%18446744073709551616)):=by rw[AY,hu];rfl
 have W:U/18446744073709551616^(j+i)%18446744073709551616<18446744073709551616:=AC _ q_e;have E:=λz d'=>B.last (z:=z) (d':=d') (show j+i<17 by omega) hV;generalize U/18446744073709551616^(j+i)%18446744073709551616=u at*;obtain⟨r,J,K,L,M⟩:=E ((u+c)%18446744073709551616) ((u+c)/18446744073709551616) (AC _ q_e) q_e q_o;have q:(l.map nv).set (j+i) (nv ((u+c)%18446744073709551616))=wC 17 r:=by rw[<-Bq,J,<-zm7]
 repeat' (first|refine s_0 ?_|refine zf 2 ?_;refine zag ?_|refine q_k 6 ?_;refine zQ ?_;refine q_x (zL (hv:=F)) ?_;refine q_v zeO ?_;refine zQ ?_;refine zO ?_)
 refine zfo (R:=[.blk m 330 (wC 17 r)]) rfl ?_ ?_
 ·(repeat' (first|exact Er|apply F2;with_reducible (focus ((repeat (first|exact Es|apply Eu));done))|apply F7;(focus ((repeat (first|exact Es|apply Eu));done))|apply F3;(focus ((repeat (first|exact Es|apply Eu));done))|rfl))
  exact q
 ·exact⟨r,_,rfl,K,L,M,rfl⟩
end Go.Proofs.YtdnlngbjpdbffaaGreatDoor
