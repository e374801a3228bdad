/- Lemmas of this proof. -/
import Derived.Test.YtdnlngbjpdbffaaGreatDoorHJ09
set_option maxHeartbeats 1000000
set_option maxRecDepth 10000
set_option linter.all false
namespace Go.Proofs.YtdnlngbjpdbffaaGreatDoor
open Go Go.Sy Go.Nt Go.RowKit
attribute [local irreducible] Sy SyL SyX Sy.Fn callFunc zg
theorem zjH(x y:Nat)(w:World)(hx:x<18446744073709551616)(j:y<18446744073709551616):
  q_G 333 [nv x,nv y] w (.tuple #[nv (x*y/18446744073709551616),nv (x*y%18446744073709551616)]):=by
 refine zz Tryz.func333 Tryz.ntmps333 ?_;obtain⟨q,r,A,m⟩:=Lib.mul64_hi x y hx j;repeat' (first|refine s_0 ?_|refine q_k 0 ?_|refine q_k 1 ?_;refine q_x (zjF (a:=x) 32 q_e hx) ?_|refine q_k 2 ?_;refine q_x (zes 32 q_e) ?_|refine q_k 3 ?_;refine q_x (zjF (a:=y) 32 q_e j) ?_|refine q_k 4 ?_;refine q_x (zes 32 q_e) ?_|refine q_k 5 ?_;refine q_x zhg ?_|refine q_k 6 ?_;refine q_x zhg ?_;refine q_v (zes 32 q_e) ?_;refine q_x zeD ?_|refine q_k 7 ?_;refine q_x (zjF 32 q_e (AG _ q_e)) ?_|refine q_k 8 ?_;refine q_x (zes 32 q_e) ?_|refine q_k 9 ?_;refine q_v zhg ?_;refine q_x zeD ?_|refine q_k 10 ?_;refine q_x zhg ?_;refine q_x zeD ?_;refine q_v (zes 32 q_e) ?_;refine q_x zeD ?_|refine q_k 11 ?_;refine q_x zhg ?_)
 refine zT rfl (zj rfl) (zj rfl) El ⟨congrArg (λn=>Value.tuple #[nv n,nv (x*y%18446744073709551616)]) ?_,rfl⟩;have B:=Lib.half_mul_le (a:=x/4294967296) (b:=y/4294967296) q_o q_o;have E:=Lib.half_mul_le (a:=x/4294967296) (b:=y%4294967296) q_o q_o;have F:=Lib.half_mul_le (a:=x%4294967296) (b:=y/4294967296) q_o q_o;have G:=Lib.half_mul_le (a:=x%4294967296) (b:=y%4294967296) q_o q_o;rw[<-m];simp only[show(2:Nat)^32=4294967296 from rfl];generalize (x%4294967296)*(y%4294967296)=d,(x%4294967296)*(y/4294967296)=c,(x/4294967296)*(y%4294967296)=b,(x/4294967296)*(y/4294967296)=a at*;omega
theorem ztm(x y:Nat)(w:World)(hx:x<18446744073709551616^16)(hy:y<18446744073709551616^16):
  q_G 321 [zu x,zu y] w (if x*y<18446744073709551616^16 then .tuple #[zu (x*y),.bool true] else .tuple #[zu 0,.bool false]):=by
 refine zz Tryz.func321 Tryz.ntmps321 ?_;have b5:=zb x;have b7:=zb y;repeat' (first|refine s_t ?_|refine ze 0 ?_;refine zi ?_;intro _;refine zi ?_;intro _;refine z9 ?_;intro _|refine ze 1 ?_;refine zi ?_;intro _|refine zal (id:=2) 3 [[],[0],[],[0,1,2],[0,1,2,3],[0,1,2,3,4]] mixed ?_ ?_;kernel_rfl;refine zc6 ?_;refine q_D (za (hc:=λ_ _ _ _=>(zcx x _ hx))) ?_;refine zc6 ?_;refine zaG ?_;refine q_v (za (hc:=λ_ _ _ _=>(zcx y _ hy))) ?_;refine zo ?_;refine zo ?_|refine q_k 3 ?_)
 rename_i K L G E;have b8:=zcI 18446744073709551616 x 16 q_e hx;have b9:=zcI 18446744073709551616 y 16 q_e hy;have a7:=zcg 18446744073709551616 x q_e;have a9:=zcg 18446744073709551616 y q_e;have T:=zbF x;have U:=zbF y;have Z:=MulJ.start 18446744073709551616 32 x y (nd 18446744073709551616 x) (nd 18446744073709551616 y) q_e;generalize nd 18446744073709551616 y=m,nd 18446744073709551616 x=n at*;refine zX (γ:=Nat×List Nat) (λg=>[(2,.pointer (some ⟨K,0,none⟩)),(3,.pointer (some ⟨L,0,none⟩)),(4,.pointer (some ⟨G,0,none⟩)),(5,.bool false),(6,.pointer (some ⟨E,0,none⟩)),(8,.int .i64 m),(21,.int .i64 n),(22,.int .i64 g.1)])
  (λg=>[.blk E 336 (g.2.map nv),.blk G 131 (List.replicate 16 (Value.int IntKind.u64 0)),.blk L 131 (zg y),.blk K 131 (zg x)])
  (λg=>g.1<=n/\MulJ 18446744073709551616 32 x y n m g.1 0 g.2 0) (λg=>n-g.1) (0,List.replicate 32 0) ⟨AE _,Z⟩ ?_ ?_ ?_
 ·exact q_h
 ·exact q_h
 rintro⟨i,l⟩ ⟨hi,O⟩;dsimp only at hi O ⊢;by_cases J:i<n
 ·repeat' (first|refine s_t ?_|refine ze 4 ?_;refine q_v zm ?_|refine zL [5,6,7] ?_;refine zf ?_)
  refine zX (γ:=Nat×List Nat×Nat) (λg=>[(2,.pointer (some ⟨K,0,none⟩)),(3,.pointer (some ⟨L,0,none⟩)),(4,.pointer (some ⟨G,0,none⟩)),(5,.bool false),(6,.pointer (some ⟨E,0,none⟩)),(8,.int .i64 m),(21,.int .i64 n),(22,.int .i64 i),(9,.int .i64 i),(10,nv g.2.2),(25,.int .i64 m),(26,.int .i64 g.1)])
   (λg=>[.blk E 336 (g.2.1.map nv),.blk G 131 (List.replicate 16 (Value.int IntKind.u64 0)),.blk L 131 (zg y),.blk K 131 (zg x)])
   (λg=>g.1<=m/\MulJ 18446744073709551616 32 x y n m i g.1 g.2.1 g.2.2) (λg=>m-g.1) (0,l,0) ⟨AE _,O⟩ ?_ ?_ ?_
  ·exact q_h
  ·exact q_h
  rintro⟨j,l,c⟩ ⟨V,A⟩;dsimp only at V A ⊢;have I:=A.len;have W:(l.map nv).length=32:=by rw[List.length_map,I]
  have b0:=A.car;by_cases hjl:j<m
  ·have ha:=T i q_o;have M:=U j q_o;have R:x/18446744073709551616^i%18446744073709551616<18446744073709551616:=AG _ q_e;have S:y/18446744073709551616^j%18446744073709551616<18446744073709551616:=AG _ q_e;obtain⟨u,hu⟩:∃u,l[i+j]?=some u:=⟨l[i+j]'q_o,A2 _⟩;have c1:=A.low u (BE hu);have F:(l.map nv)[i+j]?=some (nv u):=by rw[Ak,hu];rfl
   have r:IntKind.i64.wrap ((i:Int)+(j:Int))=((i+j:Nat):Int):=q_w;have hstep:=λz c'=>A.step (z:=z) (c':=c') q_o hjl hu;generalize y/18446744073709551616^j%18446744073709551616=d,x/18446744073709551616^i%18446744073709551616=a at*;repeat' (first|refine s_t ?_|refine ze 8 ?_;refine q_v zm ?_|refine zL [9,11] ?_;refine zf ?_|refine zal (id:=10) 11 [[],[0],[0,1],[],[3],[3,4],[0,1,2,3,4,5],[0,1,2,3,4,5,6],[0,1,2,3,4,5,6,7],[0,1,2,3,4,5,6,7],[0,1,2,3,4,5,6,7,8],[0,1,2,3,4,5,6,7,8,9,10]] mixed ?_ ?_;kernel_rfl;refine zO ?_;refine zaA ?_;refine q_D (zM (hv:=ha)) ?_;refine zO ?_;refine zaA ?_;refine q_D (zM (hv:=M)) ?_;refine q_D (za (hc:=λ_ _ _ _=>(zjH a d _ R S))) ?_;refine zO ?_;refine q_D zan ?_;refine q_D zan ?_;refine q_D zbl ?_;refine zaG ?_;refine zo ?_|refine q_k 12 ?_;refine q_v (zN (hr:=r)) ?_;refine zR ?_;refine q_v (zM (hv:=F)) ?_;refine q_x (zc8 (hr:=zct (a*d%18446744073709551616) u 0 q_e)) ?_|refine q_k 13 ?_;refine q_x zeD ?_|refine q_k 14 ?_;refine q_x (zc8 (hr:=zct ((a*d%18446744073709551616+u+0)%18446744073709551616) c 0 q_e)) ?_|refine q_k 15 ?_;refine q_x (zN (hr:=r)) ?_;refine q_v zeD ?_;refine zR ?_;refine zJ ?_;refine zf ?_|(refine zx ?_;first|refine za9 ?_|refine zw ?_|fail)|refine zb3 ?_)
   have hP:a*d<=340282366920938463426481119284349108225:=BM (Dt (show a<=18446744073709551615 by omega) (show d<=18446744073709551615 by omega)) q_e;generalize a*d=q at*;obtain⟨z,hz⟩:∃z,((q%18446744073709551616+u+0)%18446744073709551616+c+0)%18446744073709551616=z:=⟨_,rfl⟩;obtain⟨e,he⟩:∃e,((q/18446744073709551616+(q%18446744073709551616+u+0)/18446744073709551616)%18446744073709551616+((q%18446744073709551616+u+0)%18446744073709551616+c+0)/18446744073709551616)%18446744073709551616=e:=⟨_,rfl⟩;rw[hz,he];refine zQ (j+1,l.set (i+j) z,e) ⟨by show j+1<=m;omega,hstep z e q_o q_o q_o⟩ ?_ ?_ ?_
   ·show m-(j+1)<m-j;omega
   ·exact q_h
   ·show SubR [.blk E 336 ((l.set (i+j) z).map nv),.blk G 131 (List.replicate 16 (Value.int IntKind.u64 0)),.blk L 131 (zg y),.blk K 131 (zg x)] _;rw[Bw];exact q_h
  obtain rfl:j=m:=q_o;have r:IntKind.i64.wrap ((i:Int)+(j:Int))=((i+j:Nat):Int):=q_w;repeat' (first|refine s_0 ?_|refine ze 8 ?_;refine q_v zm ?_|refine q_k 17 ?_;refine q_x (zN (hr:=r)) ?_;refine zR ?_;refine zJ ?_|refine ze 18 ?_;refine za9 ?_;refine zf ?_)
  refine zQ (i+1,l.set (i+j) c) ⟨by show i+1<=n;omega,A.row q_o a9⟩ ?_ ?_ ?_
  ·show n-(i+1)<n-i;omega
  ·exact q_h
  ·show SubR [.blk E 336 ((l.set (i+j) c).map nv),.blk G 131 (List.replicate 16 (Value.int IntKind.u64 0)),.blk L 131 (zg y),.blk K 131 (zg x)] _;rw[Bw];exact q_h
 obtain rfl:i=n:=q_o;repeat' (first|refine s_t ?_|refine ze 4 ?_;refine q_v zm ?_|refine ze 19 ?_;refine zbR ?_;refine zf ?_)
 have a8:=O.done a7;have I:=O.len;have H:=O.low;have W:(l.map nv).length=32:=by rw[A1,I]
 refine zX (γ:=Nat) (λq=>[(4,.pointer (some ⟨G,0,none⟩)),(6,.pointer (some ⟨E,0,none⟩)),(73,.slice (some ⟨E,16,none⟩) 16 16),(74,.int .i64 16),(75,.int .i64 q)])
  (λ_=>[.blk E 336 (l.map nv),.blk G 131 (List.replicate 16 (Value.int IntKind.u64 0))])
  (λq=>q<=16/\∀p,16<=p->p<16+q->l[p]?=some 0) (λq=>16-q) 0 ⟨AE _,λp h1 h2=>absurd h2 q_o⟩ ?_ ?_ ?_
 ·exact q_h
 ·exact q_h
 rintro q ⟨hq,hz⟩;by_cases hql:q<16
 ·obtain⟨u,hu⟩:∃u,l[16+q]?=some u:=⟨l[16+q]'q_o,A2 _⟩;have F:(l.map nv)[16+q]?=some (nv u):=by rw[Ak,hu];rfl
  by_cases h0:u=0
  ·subst h0;repeat' (first|refine s_t ?_|refine ze 20 ?_;refine q_v zm ?_|refine ze 21 ?_;refine zR ?_;refine q_x (zM (hv:=F)) ?_|refine q_k 22 ?_;refine zat ?_|refine ze 24 ?_;refine za9 ?_;refine zf ?_)
   refine zQ (q+1) ⟨by omega,λp h1 h2=>?_⟩ ?_ ?_ ?_
   ·rcases AK p (16+q) with h|h
    ·exact hz p h1 h
    ·obtain rfl:p=16+q:=q_o;exact hu
   ·show 16-(q+1)<16-q;omega
   ·exact q_h
   ·exact q_h
  ·repeat' (first|refine s_t ?_|refine ze 20 ?_;refine q_v zm ?_|refine ze 21 ?_;refine zR ?_;refine q_x (zM (hv:=F)) ?_|refine q_k 22 ?_;refine zat ?_|refine ze 23 ?_;refine za4 ?_;refine zJ ?_;refine zf ?_)
   have b1:=zeP 18446744073709551616 l (16+q) u 0 hu;have c0:18446744073709551616^16<=u*18446744073709551616^(16+q):=BM (AR q_e (E7 16 q)) (C4 _ q_o);rw[if_neg q_o];exact zT rfl (zB (B:=List.replicate 16 (Value.int IntKind.u64 0)) rfl (ty rfl) rfl En Em rfl) (zj rfl) El ⟨by rw[<-zeY],rfl⟩
 obtain rfl:q=16:=q_o;have Q:l.drop 16=List.replicate 16 0:=by
  apply Cl;intro p;rw[Bl,CX];split
  ·exact hz _ q_o q_o
  ·exact BJ q_o
 have a6:(l.take 16).length=16:=by rw[Ad];omega
 have P:=zii 18446744073709551616 l 16 q_o;rw[Q,zhE,Ed,Bi] at P;have J:=zgG 18446744073709551616 (l.take 16) (λd M=>H d (EO M));have N:=ziN 18446744073709551616 (l.take 16) (λd M=>H d (EO M));rw[a6,<-P,a8] at J N;have X:zg (x*y)=(l.map nv).take 16:=by unfold zg;rw[N,CS]
 have Y:Seg (l.map nv) 0 (zg (x*y)):=λj v h=>by
  rw[X] at h;rw[AU];rw[C7] at h;split at h
  ·exact h
  ·cases h
 repeat' (first|refine s_0 ?_|refine ze 20 ?_;refine q_v zm ?_|refine ze 25 ?_;refine zbR ?_;refine q_v (zt5 (n:=16)) ?_;refine q_v (zd (C:=l.map nv) (B:=zg (x*y)) (hv:=Y) (hz:=(zb (x*y)).symm)) ?_;refine q_y (zk (n:=x*y)) ?_)
 rw[if_pos J];exact zT rfl (zB (B:=zg (x*y)) rfl (ty rfl) rfl En Em (zb _).symm) (zj rfl) El ⟨rfl,rfl⟩
theorem zno(x y:Nat)(w:World)(hx:x<18446744073709551616^16)(A:y<18446744073709551616^16):
  q_G 291 [zu x,zu y] w (if x*y<18446744073709551616^16 then .tuple #[zu (x*y),.int .i64 0] else .tuple #[zu 0,.int .i64 7]):=by
 refine zz Tryz.func291 Tryz.ntmps291 ?_;have q:=zb x;have r:=zb y;have j:=λw=>ztm x y w hx A;by_cases h:x*y<18446744073709551616^16
 ·simp only[if_pos h] at j ⊢;generalize x*y=s at*;have m:=zb s;repeat' (first|refine s_0 ?_|refine ze 0 ?_;refine zi ?_;intro _;refine zi ?_;intro _;refine z9 ?_;intro _|refine q_k 1 ?_;refine zl ?_;refine zf ?_;refine zl ?_;refine q_v (za (hc:=q_c j)) ?_;refine zf ?_;refine zi ?_;intro _;refine q_y (zk (n:=s)) ?_|refine q_k 2 ?_;refine zI ?_|refine ze 4 ?_;refine zl ?_;refine q_v (zfu (n:=s)) ?_;refine q_y (zk (n:=s)) ?_)
  exact zT rfl (zB (B:=zg s) rfl (ty rfl) rfl En Em (zb _).symm) (zj rfl) El ⟨rfl,rfl⟩
 ·simp only[if_neg h] at j ⊢;repeat' (first|refine s_0 ?_|refine ze 0 ?_;refine zi ?_;intro _;refine zi ?_;intro _;refine z9 ?_;intro _|refine q_k 1 ?_;refine zl ?_;refine zf ?_;refine zl ?_;refine q_v (za (hc:=q_c j)) ?_;refine zf ?_;refine zi ?_;intro _;refine q_y (zk (n:=0)) ?_|refine q_k 2 ?_;refine zI ?_|refine ze 3 ?_;refine za4 ?_;refine zJ ?_;refine zf ?_)
  exact zT rfl (zB (B:=List.replicate 16 (Value.int IntKind.u64 0)) rfl (ty rfl) rfl En Em rfl) (zj rfl) El ⟨by rw[<-zeY],rfl⟩
end Go.Proofs.YtdnlngbjpdbffaaGreatDoor
namespace Go.Nt
theorem zin(b x s:Nat)(hb:2<=b)(h:b^s<=x):nd b x=s+nd b (x/b^s):=by
 have q:0<b^s:=Ab q_o;have m:=zcg b (x/b^s) hb;have w:0<x/b^s:=EN h q;have j:=(zey b hb (x/b^s)).2;have r:0<nd b (x/b^s):=by
  rcases AM (nd b (x/b^s)) with h0|h0
  ·rw[h0,Ax] at m;omega
  ·exact h0
 have j:=j r;refine zdY b x _ hb ?_ λ_=>?_
 ·rw[B6,AN];exact(Af q).1 m
 ·rw[show s+nd b (x/b^s)-1=(nd b (x/b^s)-1)+s by omega,B6];exact BM (AP _ j) (Di x _)
def bits8:List UInt8:=[0,1,2,2,3,3,3,3,4,4,4,4,4,4,4,4,5,5,5,5,5,5,5,5,5,5,5,5,5,5,5,5,6,6,6,6,6,6,6,6,6,6,6,6,6,6,6,6,6,6,6,6,6,6,6,6,6,6,6,6,6,6,6,6,7,7,7,7,7,7,7,7,7,7,7,7,7,7,7,7,7,7,7,7,7,7,7,7,7,7,7,7,7,7,7,7,7,7,7,7,7,7,7,7,7,7,7,7,7,7,7,7,7,7,7,7,7,7,7,7,7,7,7,7,7,7,7,7,8,8,8,8,8,8,8,8,8,8,8,8,8,8,8,8,8,8,8,8,8,8,8,8,8,8,8,8,8,8,8,8,8,8,8,8,8,8,8,8,8,8,8,8,8,8,8,8,8,8,8,8,8,8,8,8,8,8,8,8,8,8,8,8,8,8,8,8,8,8,8,8,8,8,8,8,8,8,8,8,8,8,8,8,8,8,8,8,8,8,8,8,8,8,8,8,8,8,8,8,8,8,8,8,8,8,8,8,8,8,8,8,8,8,8,8,8,8,8,8,8,8,8,8,8,8,8,8]
theorem zr6:∀j:Fin 256,∃u,bits8[j.1]?=some u/\j.1<2^u.toNat/\(0<u.toNat->2^(u.toNat-1)<=j.1):=by decide +kernel
theorem zrr(j:Nat)(h:j<256):∃u,bits8[j]?=some u/\u.toNat=nd 2 j:=by
 obtain⟨u,m,q,r⟩:=zr6 ⟨j,h⟩;exact⟨u,m,(zdY 2 j _ q_e q r).symm⟩
end Go.Nt
namespace Go.Proofs.YtdnlngbjpdbffaaGreatDoor
open Go Go.Sy Go.Nt Go.RowKit
attribute [local irreducible] Sy SyL SyX Sy.Fn callFunc zg bits8
theorem zjD(x:Nat)(w:World)(hx:x<18446744073709551616):
  q_G 285 [nv x] w (.int .i64 ((nd 2 x:Nat):Int)):=by
 refine zz Tryz.func285 Tryz.ntmps285 ?_;obtain⟨j,r,M,Q,E⟩:∃j r,nd 2 x=r+nd 2 j/\j<4294967296/\((4294967296<=x/\j=x/2^32/\r=32)\/(x<4294967296/\j=x/\r=0)):=by
  rcases AK x 4294967296 with h|h
  ·exact⟨x,0,by omega,h,.inr ⟨h,rfl,rfl⟩⟩
  ·exact⟨x/2^32,32,zin 2 x 32 q_e h,by omega,.inl ⟨h,rfl,rfl⟩⟩
 obtain⟨m,A,N,R,F⟩:∃m A,nd 2 j=A+nd 2 m/\m<65536/\((65536<=j/\m=j/2^16/\A=16)\/(j<65536/\m=j/\A=0)):=by
  rcases AK j 65536 with h|h
  ·exact⟨j,0,by omega,h,.inr ⟨h,rfl,rfl⟩⟩
  ·exact⟨j/2^16,16,zin 2 j 16 q_e h,by omega,.inl ⟨h,rfl,rfl⟩⟩
 obtain⟨q,B,O,L,G⟩:∃q B,nd 2 m=B+nd 2 q/\q<256/\((256<=m/\q=m/2^8/\B=8)\/(m<256/\q=m/\B=0)):=by
  rcases AK m 256 with h|h
  ·exact⟨m,0,by omega,h,.inr ⟨h,rfl,rfl⟩⟩
  ·exact⟨m/2^8,8,zin 2 m 8 q_e h,by omega,.inl ⟨h,rfl,rfl⟩⟩
 obtain⟨u,hu,K⟩:=zrr q L;rw[M,N,O,<-K];repeat' (first|refine s_0 ?_|refine q_k 0 ?_|refine q_k 1 ?_;refine q_v zai ?_)
 refine zda (γ:=Unit) (λ_=>[(0,nv j),(2,.int .i64 ((r:Nat):Int))]) (λ_=>[]) (λ_=>True) ?_ ?_
 ·refine zew rfl (λh=>?_) (λh=>?_)
  ·have h:=of_decide_eq_true h;obtain⟨-,rfl,rfl⟩:4294967296<=x/\j=x/2^32/\r=32:=by
    rcases E with c|c
    ·exact c
    ·omega
   repeat' (first|refine s_0 ?_|refine q_k 2 ?_;refine q_x (zes 32 q_e) ?_|refine q_k 3 ?_)
   exact zam () trivial q_h q_h
  ·have h:=of_decide_eq_false h;obtain⟨-,rfl,rfl⟩:x<4294967296/\j=x/\r=0:=by
    rcases E with c|c
    ·omega
    ·exact c
   repeat' (first|refine zeB ?_|refine zaD ?_|fail)
   exact zam () trivial q_h q_h
 rintro - -;repeat' (first|refine s_0 ?_|refine q_k 4 ?_;refine q_v zai ?_)
 refine zda (γ:=Unit) (λ_=>[(0,nv m),(2,.int .i64 ((r+A:Nat):Int))]) (λ_=>[]) (λ_=>True) ?_ ?_
 ·refine zew rfl (λh=>?_) (λh=>?_)
  ·have h:=of_decide_eq_true h;obtain⟨-,rfl,rfl⟩:65536<=j/\m=j/2^16/\A=16:=by
    rcases F with c|c
    ·exact c
    ·omega
   repeat' (first|refine s_0 ?_|refine q_k 5 ?_;refine q_x (zes 16 q_e) ?_|refine q_k 6 ?_;refine za9 ?_;refine zf ?_)
   exact zam () trivial q_h q_h
  ·have h:=of_decide_eq_false h;obtain⟨-,rfl,rfl⟩:j<65536/\m=j/\A=0:=by
    rcases F with c|c
    ·omega
    ·exact c
   repeat' (first|refine zeB ?_|refine zaD ?_|fail)
   exact zam () trivial q_h q_h
 rintro - -;repeat' (first|refine s_0 ?_|refine q_k 7 ?_;refine q_v zai ?_)
 refine zda (γ:=Unit) (λ_=>[(0,nv q),(2,.int .i64 ((r+A+B:Nat):Int))]) (λ_=>[]) (λ_=>True) ?_ ?_
 ·refine zew rfl (λh=>?_) (λh=>?_)
  ·have h:=of_decide_eq_true h;obtain⟨-,rfl,rfl⟩:256<=m/\q=m/2^8/\B=8:=by
    rcases G with c|c
    ·exact c
    ·omega
   repeat' (first|refine s_0 ?_|refine q_k 8 ?_;refine q_x (zes 8 q_e) ?_|refine q_k 9 ?_;refine za9 ?_;refine zf ?_)
   exact zam () trivial q_h q_h
  ·have h:=of_decide_eq_false h;obtain⟨-,rfl,rfl⟩:m<256/\q=m/\B=0:=by
    rcases G with c|c
    ·omega
    ·exact c
   repeat' (first|refine zeB ?_|refine zaD ?_|fail)
   exact zam () trivial q_h q_h
 rintro - -;have H:IntKind.u8.wrap (q:Int)=(q:Int):=IntWalk.u8_in _ q_o;have J:bits8.toArray[q]?=some u:=by rw[Bv];exact hu
 have I:IntKind.i64.wrap ((u.toNat:Nat):Int)=((u.toNat:Nat):Int):=IntWalk.i64_in _ (by have:=u.toNat_lt;omega);have P:=u.toNat_lt;repeat' (first|refine s_0 ?_|refine q_k 10 ?_;refine q_v (zaw (hr:=H)) ?_;refine q_v (zas (hv:=Eq.trans (congrArg (λa:Array UInt8=>a[q]?) (show _=bits8.toArray by decide +kernel)) J)) ?_;refine q_v (zaw (hr:=I)) ?_;refine za9 ?_;refine zf ?_)
 exact zaq rfl (zj rfl) El ⟨congrArg (Value.int .i64) q_o,rfl⟩
theorem zpJ(x:Nat)(w:World)(hx:x<18446744073709551616):
  q_G 328 [nv x] w (.int .i64 ((64-nd 2 x:Nat):Int)):=by
 refine zz Tryz.func328 Tryz.ntmps328 ?_;have j:nd 2 x<=64:=zcI 2 x 64 q_e hx;repeat' (first|refine s_0 ?_|refine q_k 0 ?_|refine q_k 1 ?_;refine q_v (za (hc:=λ_ _ _ _=>(zjD x _ hx))) ?_;refine q_x zab ?_)
 exact zaq rfl (zj rfl) El ⟨congrArg (Value.int .i64) q_o,rfl⟩
end Go.Proofs.YtdnlngbjpdbffaaGreatDoor
namespace Go.Nt
theorem zqH(k:Nat):18446744073709551616^k=2^(64*k):=by
 rw[show(18446744073709551616:Nat)=2^64 from rfl,<-BO]
theorem zp7:∃k,k=1024/\18446744073709551616^16=2^k:=by
 obtain⟨m,j⟩:∃m,m=16:=⟨16,rfl⟩;exact⟨64*m,by omega,by rw[<-zqH,j]⟩
theorem zxa{x i:Nat}(j:i<=1024)(h:x<2^i):x<18446744073709551616^16:=by
 obtain⟨k,m,e⟩:=zp7;rw[e];exact AZ h (AR q_e q_o)
theorem zxY{x i:Nat}(h1:2^i<=x)(h:x<18446744073709551616^16):i<1024:=by
 obtain⟨k,j,e⟩:=zp7;rw[e] at h;have:i<k:=(Nat.pow_lt_pow_iff_right q_e).1 (BQ h1 h);omega
theorem zht(b t n:Nat)(hb:b=2^t)(h:t*n=1024):18446744073709551616^16=b^n:=by
 obtain⟨k,j,e⟩:=zp7;rw[e,hb,<-BO,j,h]
theorem zeM{x:Nat}(h:x<18446744073709551616^16):nd 2 x<=1024:=by
 obtain⟨k,j,e⟩:=zp7;rw[e] at h;have:=zcI 2 x k q_e h;omega
theorem zfJ{p k:Nat}(h:p<9223372036854775808):IntKind.i64.wrap ((p:Int).tdiv (k:Int))=((p/k:Nat):Int):=by
 have j:=C6 p k;rw[Cu q_o,show((p:Int)/(k:Int))=((p/k:Nat):Int) from rfl];generalize p/k=q at*;exact IntWalk.i64_in _ q_o
theorem zjY(p k:Nat):(p:Int).tmod (k:Int)=((p%k:Nat):Int):=by
 rw[Dv q_o];rfl
end Go.Nt
namespace Go.Proofs.YtdnlngbjpdbffaaGreatDoor
open Go Go.Sy Go.Nt Go.RowKit
attribute [local irreducible] Sy SyL SyX Sy.Fn callFunc zg
theorem zca(x:Nat)(w:World)(hx:x<18446744073709551616^16):
  q_G 241 [zu x] w (.int .i64 ((nd 2 x:Nat):Int)):=by
 refine zz Tryz.func241 Tryz.ntmps241 ?_;have H:=zb x;rcases AM x with h0|h0
 ·subst h0;have m:=λw=>zcx 0 w hx;rw[ziQ] at m ⊢;repeat' (first|refine s_0 ?_|refine ze 0 ?_;refine z9 ?_;intro _|refine q_k 1 ?_;refine zl ?_;refine q_v (za (hc:=q_c m)) ?_;refine zf ?_|refine q_k 2 ?_;refine zaH ?_|refine q_k 3 ?_)
  exact q_r
 have J:=zcI 18446744073709551616 x 16 q_e hx;have m:=zcg 18446744073709551616 x q_e;have A:=(zey 18446744073709551616 q_e x).2;have q:=λw=>zcx x w hx;have B:=zbF x;generalize nd 18446744073709551616 x=n at*;have E:0<n:=by
  rcases AM n with h|h
  ·subst h;rw[Ax] at m;omega
  ·exact h
 have A:=A E;have G:=B (n-1) q_o;have F:nd 2 x=64*(n-1)+nd 2 (x/18446744073709551616^(n-1)):=by
  rw[zqH] at A ⊢;exact zin 2 x _ q_e A
 have j:x/18446744073709551616^(n-1)<18446744073709551616:=by
  rw[Af (Ab q_e),AN,<-AS,show(n-1).succ=n by omega];exact m
 rw[AA j] at G;have I:=zcI 2 _ 64 q_e j;rw[F];generalize x/18446744073709551616^(n-1)=d at*;have r:IntKind.i64.wrap ((n:Int)-1)=((n-1:Nat):Int):=q_w;repeat' (first|refine s_0 ?_|refine ze 0 ?_;refine z9 ?_;intro _|refine q_k 1 ?_;refine zl ?_;refine q_v (za (hc:=q_c q)) ?_;refine zf ?_|refine q_k 2 ?_;refine zaH ?_|refine q_k 4 ?_;refine q_v (zab (hr:=r)) ?_;refine q_x zaV ?_;refine q_x (zab (hr:=r)) ?_;refine zR ?_;refine q_v (zM (hv:=G)) ?_;refine q_v (za (hc:=λ_ _ _ _=>(zjD d _ j))) ?_;refine za9 ?_;refine zf ?_)
 exact zaq rfl (zj rfl) El ⟨congrArg (Value.int .i64) q_o,rfl⟩
end Go.Proofs.YtdnlngbjpdbffaaGreatDoor
