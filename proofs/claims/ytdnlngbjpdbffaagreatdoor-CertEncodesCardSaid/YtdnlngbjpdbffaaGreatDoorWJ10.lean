/- Lemmas of this proof. -/
import Derived.Test.YtdnlngbjpdbffaaGreatDoorWJ09
set_option maxHeartbeats 1000000
set_option maxRecDepth 10000
set_option linter.all false
namespace Go.Proofs.YtdnlngbjpdbffaaGreatDoor
open Go Go.Sy Go.Nt Go.RowKit
attribute [local irreducible] Sy SyL SyX Sy.Fn callFunc zg
theorem zkk(x y:Nat)(w:World)(hx:x<18446744073709551616)(j:y<18446744073709551616):
  q_G 333 [nv x,nv y] w (.tuple #[nv (x*y/18446744073709551616),nv (x*y%18446744073709551616)]):=by
 refine zt Tryz.func333 Tryz.ntmps333 ?_;obtain⟨q,r,A,m⟩:=Lib.mul64_hi x y hx j;repeat' (first|refine s_0 ?_|refine q_k 0 ?_|refine q_k 1 ?_;refine q_x (zkf (a:=x) 32 q_e hx) ?_|refine q_k 2 ?_;refine q_x (zeW 32 q_e) ?_|refine q_k 3 ?_;refine q_x (zkf (a:=y) 32 q_e j) ?_|refine q_k 4 ?_;refine q_x (zeW 32 q_e) ?_|refine q_k 5 ?_;refine q_x zhK ?_|refine q_k 6 ?_;refine q_x zhK ?_;refine q_v (zeW 32 q_e) ?_;refine q_x zeO ?_|refine q_k 7 ?_;refine q_x (zkf 32 q_e (AC _ q_e)) ?_|refine q_k 8 ?_;refine q_x (zeW 32 q_e) ?_|refine q_k 9 ?_;refine q_v zhK ?_;refine q_x zeO ?_|refine q_k 10 ?_;refine q_x zhK ?_;refine q_x zeO ?_;refine q_v (zeW 32 q_e) ?_;refine q_x zeO ?_|refine q_k 11 ?_;refine q_x zhK ?_)
 refine zU rfl (zh rfl) (zh rfl) Er ⟨congrArg (λn=>Value.tuple #[nv n,nv (x*y%18446744073709551616)]) ?_,rfl⟩;have B:=Lib.half_mul_le (a:=x/4294967296) (b:=y/4294967296) q_o q_o;have C:=Lib.half_mul_le (a:=x/4294967296) (b:=y%4294967296) q_o q_o;have E:=Lib.half_mul_le (a:=x%4294967296) (b:=y/4294967296) q_o q_o;have F:=Lib.half_mul_le (a:=x%4294967296) (b:=y%4294967296) q_o q_o;rw[<-m];simp only[show(2:Nat)^32=4294967296 from rfl];generalize (x%4294967296)*(y%4294967296)=d,(x%4294967296)*(y/4294967296)=c,(x/4294967296)*(y%4294967296)=b,(x/4294967296)*(y/4294967296)=a at*;omega
theorem ztI(x y:Nat)(w:World)(hx:x<18446744073709551616^16)(hy:y<18446744073709551616^16):
  q_G 321 [zr x,zr y] w (if x*y<18446744073709551616^16 then .tuple #[zr (x*y),.bool true] else .tuple #[zr 0,.bool false]):=by
 refine zt Tryz.func321 Tryz.ntmps321 ?_;have b5:=zd x;have b7:=zd y;repeat' (first|refine s_t ?_|refine zf 0 ?_;refine zj ?_;intro _;refine zj ?_;intro _;refine zW ?_;intro _|refine zf 1 ?_;refine zj ?_;intro _|refine zaj (id:=2) 3 [[],[0],[],[0,1,2],[0,1,2,3],[0,1,2,3,4]] mixed ?_ ?_;kernel_rfl;refine zdr ?_;refine q_D (za (hc:=λ_ _ _ _=>(zcI x _ hx))) ?_;refine zdr ?_;refine zaB ?_;refine q_v (za (hc:=λ_ _ _ _=>(zcI y _ hy))) ?_;refine zw ?_;refine zw ?_|refine q_k 3 ?_)
 rename_i K L G E;have b8:=zbc 18446744073709551616 x 16 q_e hx;have b9:=zbc 18446744073709551616 y 16 q_e hy;have a7:=zaS 18446744073709551616 x q_e;have a9:=zaS 18446744073709551616 y q_e;have T:=zbK x;have U:=zbK y;have Z:=MulJ.start 18446744073709551616 32 x y (nd 18446744073709551616 x) (nd 18446744073709551616 y) q_e;generalize nd 18446744073709551616 y=m,nd 18446744073709551616 x=n at*;refine zN (γ:=Nat×List Nat) (λg=>[(2,.pointer (some ⟨K,0,none⟩)),(3,.pointer (some ⟨L,0,none⟩)),(4,.pointer (some ⟨G,0,none⟩)),(5,.bool false),(6,.pointer (some ⟨E,0,none⟩)),(8,.int .i64 m),(21,.int .i64 n),(22,.int .i64 g.1)])
  (λg=>[.blk E 336 (g.2.map nv),.blk G 131 (List.replicate 16 (Value.int IntKind.u64 0)),.blk L 131 (zg y),.blk K 131 (zg x)])
  (λg=>g.1<=n/\MulJ 18446744073709551616 32 x y n m g.1 0 g.2 0) (λg=>n-g.1) (0,List.replicate 32 0) ⟨A9 _,Z⟩ ?_ ?_ ?_
 ·exact q_h
 ·exact q_h
 rintro⟨i,l⟩ ⟨hi,O⟩;dsimp only at hi O ⊢;by_cases J:i<n
 ·repeat' (first|refine s_t ?_|refine zf 4 ?_;refine zag ?_|refine zD [5,6,7] ?_;refine zb ?_)
  refine zN (γ:=Nat×List Nat×Nat) (λg=>[(2,.pointer (some ⟨K,0,none⟩)),(3,.pointer (some ⟨L,0,none⟩)),(4,.pointer (some ⟨G,0,none⟩)),(5,.bool false),(6,.pointer (some ⟨E,0,none⟩)),(8,.int .i64 m),(21,.int .i64 n),(22,.int .i64 i),(9,.int .i64 i),(10,nv g.2.2),(25,.int .i64 m),(26,.int .i64 g.1)])
   (λg=>[.blk E 336 (g.2.1.map nv),.blk G 131 (List.replicate 16 (Value.int IntKind.u64 0)),.blk L 131 (zg y),.blk K 131 (zg x)])
   (λg=>g.1<=m/\MulJ 18446744073709551616 32 x y n m i g.1 g.2.1 g.2.2) (λg=>m-g.1) (0,l,0) ⟨A9 _,O⟩ ?_ ?_ ?_
  ·exact q_h
  ·exact q_h
  rintro⟨j,l,c⟩ ⟨V,A⟩;dsimp only at V A ⊢;have I:=A.len;have W:(l.map nv).length=32:=by rw[List.length_map,I]
  have b0:=A.car;by_cases hjl:j<m
  ·have ha:=T i q_o;have M:=U j q_o;have R:x/18446744073709551616^i%18446744073709551616<18446744073709551616:=AC _ q_e;have S:y/18446744073709551616^j%18446744073709551616<18446744073709551616:=AC _ q_e;obtain⟨u,hu⟩:∃u,l[i+j]?=some u:=⟨l[i+j]'q_o,A1 _⟩;have c1:=A.low u (BY hu);have F:(l.map nv)[i+j]?=some (nv u):=by rw[AY,hu];rfl
   have r:IntKind.i64.wrap ((i:Int)+(j:Int))=((i+j:Nat):Int):=q_w;have hstep:=λz c'=>A.step (z:=z) (c':=c') q_o hjl hu;generalize y/18446744073709551616^j%18446744073709551616=d,x/18446744073709551616^i%18446744073709551616=a at*;repeat' (first|refine s_t ?_|refine zf 8 ?_;refine zag ?_|refine zD [9,11] ?_;refine zb ?_|refine zaj (id:=10) 11 [[],[0],[0,1],[],[3],[3,4],[0,1,2,3,4,5],[0,1,2,3,4,5,6],[0,1,2,3,4,5,6,7],[0,1,2,3,4,5,6,7],[0,1,2,3,4,5,6,7,8],[0,1,2,3,4,5,6,7,8,9,10]] mixed ?_ ?_;kernel_rfl;refine zA ?_;refine zay ?_;refine q_D (zL (hv:=ha)) ?_;refine zA ?_;refine zay ?_;refine q_D (zL (hv:=M)) ?_;refine q_D (za (hc:=λ_ _ _ _=>(zkk a d _ R S))) ?_;refine zA ?_;refine q_D zar ?_;refine q_D zar ?_;refine q_D za6 ?_;refine zaB ?_;refine zw ?_|refine q_k 12 ?_;refine q_v (zF (hr:=r)) ?_;refine zQ ?_;refine q_v (zL (hv:=F)) ?_;refine q_x (zdt (hr:=zcD (a*d%18446744073709551616) u 0 q_e)) ?_|refine q_k 13 ?_;refine q_x zeO ?_|refine q_k 14 ?_;refine q_x (zdt (hr:=zcD ((a*d%18446744073709551616+u+0)%18446744073709551616) c 0 q_e)) ?_|refine q_k 15 ?_;refine q_x (zF (hr:=r)) ?_;refine q_v zeO ?_;refine zQ ?_;refine zO ?_;refine zb ?_|(refine zy ?_;first|refine za4 ?_|refine zaR ?_|fail)|refine zdz ?_)
   have hP:a*d<=340282366920938463426481119284349108225:=BG (CN (show a<=18446744073709551615 by omega) (show d<=18446744073709551615 by omega)) q_e;generalize a*d=q at*;obtain⟨z,hz⟩:∃z,((q%18446744073709551616+u+0)%18446744073709551616+c+0)%18446744073709551616=z:=⟨_,rfl⟩;obtain⟨e,he⟩:∃e,((q/18446744073709551616+(q%18446744073709551616+u+0)/18446744073709551616)%18446744073709551616+((q%18446744073709551616+u+0)%18446744073709551616+c+0)/18446744073709551616)%18446744073709551616=e:=⟨_,rfl⟩;rw[hz,he];refine zE (j+1,l.set (i+j) z,e) ⟨by show j+1<=m;omega,hstep z e q_o q_o q_o⟩ ?_ ?_ ?_
   ·show m-(j+1)<m-j;omega
   ·exact q_h
   ·show SubR [.blk E 336 ((l.set (i+j) z).map nv),.blk G 131 (List.replicate 16 (Value.int IntKind.u64 0)),.blk L 131 (zg y),.blk K 131 (zg x)] _;rw[Bq];exact q_h
  obtain rfl:j=m:=q_o;have r:IntKind.i64.wrap ((i:Int)+(j:Int))=((i+j:Nat):Int):=q_w;repeat' (first|refine s_0 ?_|refine zf 8 ?_;refine zag ?_|refine q_k 17 ?_;refine q_x (zF (hr:=r)) ?_;refine zQ ?_;refine zO ?_|refine zf 18 ?_;refine za4 ?_;refine zb ?_)
  refine zE (i+1,l.set (i+j) c) ⟨by show i+1<=n;omega,A.row q_o a9⟩ ?_ ?_ ?_
  ·show n-(i+1)<n-i;omega
  ·exact q_h
  ·show SubR [.blk E 336 ((l.set (i+j) c).map nv),.blk G 131 (List.replicate 16 (Value.int IntKind.u64 0)),.blk L 131 (zg y),.blk K 131 (zg x)] _;rw[Bq];exact q_h
 obtain rfl:i=n:=q_o;repeat' (first|refine s_t ?_|refine zf 4 ?_;refine zag ?_|refine zf 19 ?_;refine zbN ?_;refine zb ?_)
 have a8:=O.done a7;have I:=O.len;have H:=O.low;have W:(l.map nv).length=32:=by rw[A0,I]
 refine zN (γ:=Nat) (λq=>[(4,.pointer (some ⟨G,0,none⟩)),(6,.pointer (some ⟨E,0,none⟩)),(73,.slice (some ⟨E,16,none⟩) 16 16),(74,.int .i64 16),(75,.int .i64 q)])
  (λ_=>[.blk E 336 (l.map nv),.blk G 131 (List.replicate 16 (Value.int IntKind.u64 0))])
  (λq=>q<=16/\∀p,16<=p->p<16+q->l[p]?=some 0) (λq=>16-q) 0 ⟨A9 _,λp h1 h2=>absurd h2 q_o⟩ ?_ ?_ ?_
 ·exact q_h
 ·exact q_h
 rintro q ⟨hq,hz⟩;by_cases hql:q<16
 ·obtain⟨u,hu⟩:∃u,l[16+q]?=some u:=⟨l[16+q]'q_o,A1 _⟩;have F:(l.map nv)[16+q]?=some (nv u):=by rw[AY,hu];rfl
  by_cases h0:u=0
  ·subst h0;repeat' (first|refine s_t ?_|refine zf 20 ?_;refine zag ?_|refine zf 21 ?_;refine zQ ?_;refine q_x (zL (hv:=F)) ?_|refine q_k 22 ?_;refine zaA ?_|refine zf 24 ?_;refine za4 ?_;refine zb ?_)
   refine zE (q+1) ⟨by omega,λp h1 h2=>?_⟩ ?_ ?_ ?_
   ·rcases AF p (16+q) with h|h
    ·exact hz p h1 h
    ·obtain rfl:p=16+q:=q_o;exact hu
   ·show 16-(q+1)<16-q;omega
   ·exact q_h
   ·exact q_h
  ·repeat' (first|refine s_t ?_|refine zf 20 ?_;refine zag ?_|refine zf 21 ?_;refine zQ ?_;refine q_x (zL (hv:=F)) ?_|refine q_k 22 ?_;refine zaA ?_|refine zf 23 ?_;refine zbb ?_;refine zO ?_;refine zb ?_)
   have b1:=zer 18446744073709551616 l (16+q) u 0 hu;have c0:18446744073709551616^16<=u*18446744073709551616^(16+q):=BG (AB q_e (EC 16 q)) (BQ _ q_o);rw[if_neg q_o];exact zU rfl (zB (B:=List.replicate 16 (Value.int IntKind.u64 0)) rfl (ty rfl) rfl Ev Et rfl) (zh rfl) Er ⟨by rw[<-zfh],rfl⟩
 obtain rfl:q=16:=q_o;have Q:l.drop 16=List.replicate 16 0:=by
  apply Ck;intro p;rw[Bn,CI];split
  ·exact hz _ q_o q_o
  ·exact BV q_o
 have a6:(l.take 16).length=16:=by rw[AR];omega
 have P:=zgH 18446744073709551616 l 16 q_o;rw[Q,zeH,Cy,BU] at P;have J:=zfa 18446744073709551616 (l.take 16) (λd M=>H d (Cp M));have N:=zg9 18446744073709551616 (l.take 16) (λd M=>H d (Cp M));rw[a6,<-P,a8] at J N;have X:zg (x*y)=(l.map nv).take 16:=by unfold zg;rw[N,C9]
 have Y:Seg (l.map nv) 0 (zg (x*y)):=λj v h=>by
  rw[X] at h;rw[AZ];rw[CO] at h;split at h
  ·exact h
  ·cases h
 repeat' (first|refine s_0 ?_|refine zf 20 ?_;refine zag ?_|refine zf 25 ?_;refine zbN ?_;refine q_v (ztH (n:=16)) ?_;refine q_v (ze (C:=l.map nv) (B:=zg (x*y)) (hv:=Y) (hz:=(zd (x*y)).symm)) ?_;refine q_y (zl (n:=x*y)) ?_)
 rw[if_pos J];exact zU rfl (zB (B:=zg (x*y)) rfl (ty rfl) rfl Ev Et (zd _).symm) (zh rfl) Er ⟨rfl,rfl⟩
theorem znA(x y:Nat)(w:World)(hx:x<18446744073709551616^16)(A:y<18446744073709551616^16):
  q_G 291 [zr x,zr y] w (if x*y<18446744073709551616^16 then .tuple #[zr (x*y),.int .i64 0] else .tuple #[zr 0,.int .i64 7]):=by
 refine zt Tryz.func291 Tryz.ntmps291 ?_;have q:=zd x;have r:=zd y;have j:=λw=>ztI x y w hx A;by_cases h:x*y<18446744073709551616^16
 ·simp only[if_pos h] at j ⊢;generalize x*y=s at*;have m:=zd s;repeat' (first|refine s_0 ?_|refine zf 0 ?_;refine zj ?_;intro _;refine zj ?_;intro _;refine zW ?_;intro _|refine q_k 1 ?_;refine zm ?_;refine zb ?_;refine zm ?_;refine q_v (za (hc:=q_c j)) ?_;refine zb ?_;refine zj ?_;intro _;refine q_y (zl (n:=s)) ?_|refine q_k 2 ?_;refine zJ ?_|refine zf 4 ?_;refine zm ?_;refine q_v (zfV (n:=s)) ?_;refine q_y (zl (n:=s)) ?_)
  exact zU rfl (zB (B:=zg s) rfl (ty rfl) rfl Ev Et (zd _).symm) (zh rfl) Er ⟨rfl,rfl⟩
 ·simp only[if_neg h] at j ⊢;repeat' (first|refine s_0 ?_|refine zf 0 ?_;refine zj ?_;intro _;refine zj ?_;intro _;refine zW ?_;intro _|refine q_k 1 ?_;refine zm ?_;refine zb ?_;refine zm ?_;refine q_v (za (hc:=q_c j)) ?_;refine zb ?_;refine zj ?_;intro _;refine q_y (zl (n:=0)) ?_|refine q_k 2 ?_;refine zJ ?_|refine zf 3 ?_;refine zbb ?_;refine zO ?_;refine zb ?_)
  exact zU rfl (zB (B:=List.replicate 16 (Value.int IntKind.u64 0)) rfl (ty rfl) rfl Ev Et rfl) (zh rfl) Er ⟨by rw[<-zfh],rfl⟩
end Go.Proofs.YtdnlngbjpdbffaaGreatDoor
namespace Go.Nt
theorem ziR(b x s:Nat)(hb:2<=b)(h:b^s<=x):nd b x=s+nd b (x/b^s):=by
 have q:0<b^s:=AV q_o;have m:=zaS b (x/b^s) hb;have w:0<x/b^s:=DI h q;have j:=(zdR b hb (x/b^s)).2;have r:0<nd b (x/b^s):=by
  rcases AD (nd b (x/b^s)) with h0|h0
  ·rw[h0,An] at m;omega
  ·exact h0
 have j:=j r;refine zct b x _ hb ?_ λ_=>?_
 ·rw[Av,AK];exact(AW q).1 m
 ·rw[show s+nd b (x/b^s)-1=(nd b (x/b^s)-1)+s by omega,Av];exact BG (AP _ j) (DB x _)
def bits8:List UInt8:=[0,1,2,2,3,3,3,3,4,4,4,4,4,4,4,4,5,5,5,5,5,5,5,5,5,5,5,5,5,5,5,5,6,6,6,6,6,6,6,6,6,6,6,6,6,6,6,6,6,6,6,6,6,6,6,6,6,6,6,6,6,6,6,6,7,7,7,7,7,7,7,7,7,7,7,7,7,7,7,7,7,7,7,7,7,7,7,7,7,7,7,7,7,7,7,7,7,7,7,7,7,7,7,7,7,7,7,7,7,7,7,7,7,7,7,7,7,7,7,7,7,7,7,7,7,7,7,7,8,8,8,8,8,8,8,8,8,8,8,8,8,8,8,8,8,8,8,8,8,8,8,8,8,8,8,8,8,8,8,8,8,8,8,8,8,8,8,8,8,8,8,8,8,8,8,8,8,8,8,8,8,8,8,8,8,8,8,8,8,8,8,8,8,8,8,8,8,8,8,8,8,8,8,8,8,8,8,8,8,8,8,8,8,8,8,8,8,8,8,8,8,8,8,8,8,8,8,8,8,8,8,8,8,8,8,8,8,8,8,8,8,8,8,8,8,8,8,8,8,8,8,8,8,8,8,8]
theorem zst:∀j:Fin 256,∃u,bits8[j.1]?=some u/\j.1<2^u.toNat/\(0<u.toNat->2^(u.toNat-1)<=j.1):=by decide +kernel
theorem zr7(j:Nat)(h:j<256):∃u,bits8[j]?=some u/\u.toNat=nd 2 j:=by
 obtain⟨u,m,q,r⟩:=zst ⟨j,h⟩;exact⟨u,m,(zct 2 j _ q_e q r).symm⟩
end Go.Nt
namespace Go.Proofs.YtdnlngbjpdbffaaGreatDoor
open Go Go.Sy Go.Nt Go.RowKit
attribute [local irreducible] Sy SyL SyX Sy.Fn callFunc zg bits8
theorem zj5(x:Nat)(w:World)(hx:x<18446744073709551616):
  q_G 285 [nv x] w (.int .i64 ((nd 2 x:Nat):Int)):=by
 refine zt Tryz.func285 Tryz.ntmps285 ?_;obtain⟨j,r,L,P,C⟩:∃j r,nd 2 x=r+nd 2 j/\j<4294967296/\((4294967296<=x/\j=x/2^32/\r=32)\/(x<4294967296/\j=x/\r=0)):=by
  rcases AF x 4294967296 with h|h
  ·exact⟨x,0,by omega,h,.inr ⟨h,rfl,rfl⟩⟩
  ·exact⟨x/2^32,32,ziR 2 x 32 q_e h,by omega,.inl ⟨h,rfl,rfl⟩⟩
 obtain⟨m,A,M,Q,E⟩:∃m A,nd 2 j=A+nd 2 m/\m<65536/\((65536<=j/\m=j/2^16/\A=16)\/(j<65536/\m=j/\A=0)):=by
  rcases AF j 65536 with h|h
  ·exact⟨j,0,by omega,h,.inr ⟨h,rfl,rfl⟩⟩
  ·exact⟨j/2^16,16,ziR 2 j 16 q_e h,by omega,.inl ⟨h,rfl,rfl⟩⟩
 obtain⟨q,B,N,K,F⟩:∃q B,nd 2 m=B+nd 2 q/\q<256/\((256<=m/\q=m/2^8/\B=8)\/(m<256/\q=m/\B=0)):=by
  rcases AF m 256 with h|h
  ·exact⟨m,0,by omega,h,.inr ⟨h,rfl,rfl⟩⟩
  ·exact⟨m/2^8,8,ziR 2 m 8 q_e h,by omega,.inl ⟨h,rfl,rfl⟩⟩
 obtain⟨u,hu,J⟩:=zr7 q K;rw[L,M,N,<-J];repeat' (first|refine s_0 ?_|refine q_k 0 ?_|refine q_k 1 ?_;refine q_v zP ?_)
 refine zcn (γ:=Unit) (λ_=>[(0,nv j),(2,.int .i64 ((r:Nat):Int))]) (λ_=>[]) (λ_=>True) ?_ ?_
 ·refine zeP rfl (λh=>?_) (λh=>?_)
  ·have h:=of_decide_eq_true h;obtain⟨-,rfl,rfl⟩:4294967296<=x/\j=x/2^32/\r=32:=by
    rcases C with c|c
    ·exact c
    ·omega
   repeat' (first|refine s_0 ?_|refine q_k 2 ?_;refine q_x (zeW 32 q_e) ?_|refine q_k 3 ?_)
   exact zak () trivial q_h q_h
  ·have h:=of_decide_eq_false h;obtain⟨-,rfl,rfl⟩:x<4294967296/\j=x/\r=0:=by
    rcases C with c|c
    ·omega
    ·exact c
   repeat' (first|refine zeR ?_|refine zat ?_|fail)
   exact zak () trivial q_h q_h
 rintro - -;repeat' (first|refine s_0 ?_|refine q_k 4 ?_;refine q_v zP ?_)
 refine zcn (γ:=Unit) (λ_=>[(0,nv m),(2,.int .i64 ((r+A:Nat):Int))]) (λ_=>[]) (λ_=>True) ?_ ?_
 ·refine zeP rfl (λh=>?_) (λh=>?_)
  ·have h:=of_decide_eq_true h;obtain⟨-,rfl,rfl⟩:65536<=j/\m=j/2^16/\A=16:=by
    rcases E with c|c
    ·exact c
    ·omega
   repeat' (first|refine s_0 ?_|refine q_k 5 ?_;refine q_x (zeW 16 q_e) ?_|refine q_k 6 ?_;refine za4 ?_;refine zb ?_)
   exact zak () trivial q_h q_h
  ·have h:=of_decide_eq_false h;obtain⟨-,rfl,rfl⟩:j<65536/\m=j/\A=0:=by
    rcases E with c|c
    ·omega
    ·exact c
   repeat' (first|refine zeR ?_|refine zat ?_|fail)
   exact zak () trivial q_h q_h
 rintro - -;repeat' (first|refine s_0 ?_|refine q_k 7 ?_;refine q_v zP ?_)
 refine zcn (γ:=Unit) (λ_=>[(0,nv q),(2,.int .i64 ((r+A+B:Nat):Int))]) (λ_=>[]) (λ_=>True) ?_ ?_
 ·refine zeP rfl (λh=>?_) (λh=>?_)
  ·have h:=of_decide_eq_true h;obtain⟨-,rfl,rfl⟩:256<=m/\q=m/2^8/\B=8:=by
    rcases F with c|c
    ·exact c
    ·omega
   repeat' (first|refine s_0 ?_|refine q_k 8 ?_;refine q_x (zeW 8 q_e) ?_|refine q_k 9 ?_;refine za4 ?_;refine zb ?_)
   exact zak () trivial q_h q_h
  ·have h:=of_decide_eq_false h;obtain⟨-,rfl,rfl⟩:m<256/\q=m/\B=0:=by
    rcases F with c|c
    ·omega
    ·exact c
   repeat' (first|refine zeR ?_|refine zat ?_|fail)
   exact zak () trivial q_h q_h
 rintro - -;have G:IntKind.u8.wrap (q:Int)=(q:Int):=IntWalk.u8_in _ q_o;have I:bits8.toArray[q]?=some u:=by rw[BH];exact hu
 have H:IntKind.i64.wrap ((u.toNat:Nat):Int)=((u.toNat:Nat):Int):=IntWalk.i64_in _ (by have:=u.toNat_lt;omega);have O:=u.toNat_lt;repeat' (first|refine s_0 ?_|refine q_k 10 ?_;refine q_v (zam (hr:=G)) ?_;refine q_v (zR (hv:=Eq.trans (congrArg (λa:Array UInt8=>a[q]?) (show _=bits8.toArray by decide +kernel)) I)) ?_;refine q_v (zam (hr:=H)) ?_;refine za4 ?_;refine zb ?_)
 exact zap rfl (zh rfl) Er ⟨congrArg (Value.int .i64) q_o,rfl⟩
theorem zpC(x:Nat)(w:World)(hx:x<18446744073709551616):
  q_G 328 [nv x] w (.int .i64 ((64-nd 2 x:Nat):Int)):=by
 refine zt Tryz.func328 Tryz.ntmps328 ?_;have j:nd 2 x<=64:=zbc 2 x 64 q_e hx;repeat' (first|refine s_0 ?_|refine q_k 0 ?_|refine q_k 1 ?_;refine q_v (za (hc:=λ_ _ _ _=>(zj5 x _ hx))) ?_;refine q_x zI ?_)
 exact zap rfl (zh rfl) Er ⟨congrArg (Value.int .i64) q_o,rfl⟩
end Go.Proofs.YtdnlngbjpdbffaaGreatDoor
namespace Go.Nt
theorem zrm(k:Nat):18446744073709551616^k=2^(64*k):=by
 rw[show(18446744073709551616:Nat)=2^64 from rfl,<-BE]
theorem zqZ:∃k,k=1024/\18446744073709551616^16=2^k:=by
 obtain⟨m,j⟩:∃m,m=16:=⟨16,rfl⟩;exact⟨64*m,by omega,by rw[<-zrm,j]⟩
theorem zyt{x i:Nat}(j:i<=1024)(h:x<2^i):x<18446744073709551616^16:=by
 obtain⟨k,m,e⟩:=zqZ;rw[e];exact AI h (AB q_e q_o)
theorem zzB{x i:Nat}(h1:2^i<=x)(h:x<18446744073709551616^16):i<1024:=by
 obtain⟨k,j,e⟩:=zqZ;rw[e] at h;have:i<k:=(Nat.pow_lt_pow_iff_right q_e).1 (B1 h1 h);omega
theorem zhm(b t n:Nat)(hb:b=2^t)(h:t*n=1024):18446744073709551616^16=b^n:=by
 obtain⟨k,j,e⟩:=zqZ;rw[e,hb,<-BE,j,h]
theorem ze2{x:Nat}(h:x<18446744073709551616^16):nd 2 x<=1024:=by
 obtain⟨k,j,e⟩:=zqZ;rw[e] at h;have:=zbc 2 x k q_e h;omega
theorem zdn{p k:Nat}(h:p<9223372036854775808):IntKind.i64.wrap ((p:Int).tdiv (k:Int))=((p/k:Nat):Int):=by
 have j:=Bv p k;rw[Cw q_o,show((p:Int)/(k:Int))=((p/k:Nat):Int) from rfl];generalize p/k=q at*;exact IntWalk.i64_in _ q_o
theorem zeq(p k:Nat):(p:Int).tmod (k:Int)=((p%k:Nat):Int):=by
 rw[Dz q_o];rfl
end Go.Nt
namespace Go.Proofs.YtdnlngbjpdbffaaGreatDoor
open Go Go.Sy Go.Nt Go.RowKit
attribute [local irreducible] Sy SyL SyX Sy.Fn callFunc zg
theorem zcp(x:Nat)(w:World)(hx:x<18446744073709551616^16):
  q_G 241 [zr x] w (.int .i64 ((nd 2 x:Nat):Int)):=by
 refine zt Tryz.func241 Tryz.ntmps241 ?_;have G:=zd x;rcases AD x with h0|h0
 ·subst h0;have m:=λw=>zcI 0 w hx;rw[zbZ] at m ⊢;repeat' (first|refine s_0 ?_|refine zf 0 ?_;refine zW ?_;intro _|refine q_k 1 ?_;refine zm ?_;refine q_v (za (hc:=q_c m)) ?_;refine zb ?_|refine q_k 2 ?_;refine zaD ?_|refine q_k 3 ?_)
  exact q_r
 have I:=zbc 18446744073709551616 x 16 q_e hx;have m:=zaS 18446744073709551616 x q_e;have A:=(zdR 18446744073709551616 q_e x).2;have q:=λw=>zcI x w hx;have B:=zbK x;generalize nd 18446744073709551616 x=n at*;have C:0<n:=by
  rcases AD n with h|h
  ·subst h;rw[An] at m;omega
  ·exact h
 have A:=A C;have F:=B (n-1) q_o;have E:nd 2 x=64*(n-1)+nd 2 (x/18446744073709551616^(n-1)):=by
  rw[zrm] at A ⊢;exact ziR 2 x _ q_e A
 have j:x/18446744073709551616^(n-1)<18446744073709551616:=by
  rw[AW (AV q_e),AK,<-AN,show(n-1).succ=n by omega];exact m
 rw[A7 j] at F;have H:=zbc 2 _ 64 q_e j;rw[E];generalize x/18446744073709551616^(n-1)=d at*;have r:IntKind.i64.wrap ((n:Int)-1)=((n-1:Nat):Int):=q_w;repeat' (first|refine s_0 ?_|refine zf 0 ?_;refine zW ?_;intro _|refine q_k 1 ?_;refine zm ?_;refine q_v (za (hc:=q_c q)) ?_;refine zb ?_|refine q_k 2 ?_;refine zaD ?_|refine q_k 4 ?_;refine q_v (zI (hr:=r)) ?_;refine q_x zaJ ?_;refine q_x (zI (hr:=r)) ?_;refine zQ ?_;refine q_v (zL (hv:=F)) ?_;refine q_v (za (hc:=λ_ _ _ _=>(zj5 d _ j))) ?_;refine za4 ?_;refine zb ?_)
 exact zap rfl (zh rfl) Er ⟨congrArg (Value.int .i64) q_o,rfl⟩
end Go.Proofs.YtdnlngbjpdbffaaGreatDoor
namespace Go.Nt
open Go Go.Sy
def tz(l:List UInt8):List UInt8:=l.dropWhile (· == 0)
def bn(l:List UInt8):List Nat:=l.map (·.toNat)
theorem zhY(l:List UInt8):∀d∈bn l,d<256:=by
 intro d j;obtain⟨u,_,rfl⟩:=C4.1 j;exact u.toNat_lt
theorem zzw(l:List UInt8):bn (tz l)=(bn l).dropWhile (· == 0):=by
 unfold bn tz
 induction l with
 |nil=>rfl
 |cons u l ih=>
  rw[CY,Aw,CY];by_cases h:u=0
  ·subst h;simpa using ih
  ·have j:(u==0)=false:=by simpa using h
   have m:(u.toNat==0)=false:=by
    rw[beq_eq_false_iff_ne];intro q;exact h (Bc.1 (by rw[q];rfl))
   rw[j,m];rfl
theorem zrO(l:List UInt8):bev 256 (bn (tz l))=bev 256 (bn l):=by rw[zzw,znV]
theorem znO(l:List UInt8):tz (0::l)=tz l:=by unfold tz;rw[CY];rfl
theorem zqb(u:UInt8)(l:List UInt8)(h:u≠0):tz (u::l)=u::l:=by
 unfold tz;rw[CY,if_neg (by simpa using h)]
theorem zvQ(l:List UInt8):(tz l).length<=l.length:=by
 unfold tz;exact(List.dropWhile_sublist _).length_le
theorem zwU(l:List UInt8)(u:UInt8)(r:List UInt8)(h:tz l=u::r):u≠0:=by
 induction l with
 |nil=>cases h
 |cons a l ih=>
  by_cases ha:a=0
  ·subst ha;rw[znO] at h;exact ih h
  ·rw[zqb a l ha] at h;rw[<-(E6 h).1];exact ha
end Go.Nt
namespace Go.Proofs.YtdnlngbjpdbffaaGreatDoor
open Go Go.Sy Go.Nt Go.RowKit
attribute [local irreducible] Sy SyL SyX Sy.Fn callFunc zg
theorem zpl(b o len c:Nat)(m:List UInt8)(w:World)(J:m.length=len)(hc:len<=c)(hb:w.rangeAt b o (m.map v8))(h0:0<len):
  q_G 286 [.slice (some ⟨b,o,none⟩) len c,v8 0] w (if tz m= [] then .slice none 0 0 else .slice (some ⟨b,o+(len-(tz m).length),none⟩) (tz m).length (c-(len-(tz m).length))):=by
 refine zt Tryz.func286 Tryz.ntmps286 ?_;repeat' (first|refine s_t ?_|refine q_k 0 ?_)
 refine zN (γ:=Nat×Option Addr) (λg=>[(0,.slice g.2 (len-g.1) (c-g.1)),(1,v8 0)]) (λ_=>[]) (λg=>g.1<=len/\tz (m.drop g.1)=tz m/\(g.1<len->g.2=some ⟨b,o+g.1,none⟩)) (λg=>len-g.1) (0,some ⟨b,o,none⟩) ⟨A9 _,rfl,λ_=>rfl⟩ ?_ ?_ ?_
 ·exact q_h
 ·exact q_h
 rintro⟨i,a⟩ ⟨I,A,H⟩;dsimp only at I A H ⊢;by_cases hlt:i<len
 ·obtain rfl:=H hlt;obtain⟨u,hu⟩:∃u,m[i]?=some u:=⟨m[i]'q_o,A1 _⟩;have q:w.cell? ⟨b,o+i,none⟩=some (v8 u):=hb i (v8 u) (by rw[AY,hu];rfl);have j:m.drop i=u::m.drop (i+1):=by
   rw[BN q_o];rw[A1 q_o] at hu;rw[Am hu]
  have r:decide (0<((len-i:Nat):Int))=true:=q_d;by_cases hz:u=0
  ·subst hz;rw[j,znO] at A;repeat' (first|refine s_t ?_|refine q_k 1 ?_;refine q_x (zH (hr:=r)) ?_;refine zQ ?_;refine q_x (zn (hv:=q)) ?_;refine zaD ?_;refine zb ?_|refine q_k 2 ?_;refine zbN ?_;refine zb ?_)
   refine zE (i+1,zbw (some ⟨b,o+i,none⟩) 1 (c-i) 1) ⟨by show i+1<=len;omega,A,λh=>zfG q_o⟩ ?_ ?_ ?_
   ·show len-(i+1)<len-i;omega
   ·exact q_h
   ·exact q_h
  ·rw[j,zqb u _ hz] at A;have B:decide (Wd.n8 u=Wd.n8 0)=false:=decide_eq_false (λh=>hz (Wd.n8_inj h));have E:(tz m).length=len-i:=by rw[<-A,<-j,Ar,J]
   have C:decide (((len-i:Nat):Int)=0)=false:=q_f;rw[E,if_neg (by rw[<-A];simp),show len-(len-i)=i by omega];repeat' (first|refine s_0 ?_|refine q_k 1 ?_;refine q_x (zH (hr:=r)) ?_;refine zQ ?_;refine q_x (zn (hv:=q)) ?_;refine q_x (zS (hr:=B)) ?_|refine q_k 3 ?_;refine q_v (zS (hr:=C)) ?_|refine q_k 5 ?_)
   exact q_r
 ·obtain rfl:i=len:=q_o;rw[BX q_o] at A;have F:decide (0<((i-i:Nat):Int))=false:=q_f;have G:decide (((i-i:Nat):Int)=0)=true:=q_d;rw[if_pos (show tz m= [] from A.symm)];repeat' (first|refine s_0 ?_|refine q_k 1 ?_;refine q_x (zH (hr:=F)) ?_|refine q_k 3 ?_;refine q_v (zS (hr:=G)) ?_|refine q_k 4 ?_)
  exact q_r
theorem zpc(a:Option Addr)(len c:Nat)(m:List UInt8)(w:World)(H:m.length=len)(hc:len<=c)(hb:SlA w a (m.map v8)):
  ∃I J,(tz m).length<=J/\SlA w I ((tz m).map v8)/\∀A,Keep No w A->q_G 242 [.slice a len c,.string (str [0])] A (.slice I (tz m).length J):=by
 rcases AD len with h0|h0
 ·obtain rfl:m= []:=As.1 q_o;subst h0;refine⟨none,0,A6 _,.inl rfl,λA F=>?_⟩;refine zt Tryz.func242 Tryz.ntmps242 ?_;repeat' (first|refine s_0 ?_|refine zD [0,2] ?_;refine zb ?_|refine q_k 1 ?_;refine zaD ?_)
  exact q_r
 obtain⟨b,o,rfl,hr⟩:∃b o,a=some ⟨b,o,none⟩/\w.rangeAt b o (m.map v8):=by
  rcases hb with h|h
  ·have:=congrArg List.length h;rw[A0,H] at this;exact absurd this (by show ¬len=0;omega)
  ·exact h
 have q:=λA (F:Keep No w A)=>zpl b o len c m A H hc (zaX hr F (λh=>h)) h0;have L:=zvQ m;have G:(tz m).map v8=(m.map v8).drop (len-(tz m).length):=by
  rw[<-CX];congr 1;have:tz m <:+ m:=List.dropWhile_suffix _;rw[<-H];exact List.suffix_iff_eq_drop.1 this
 by_cases ht:tz m= []
 ·simp only[if_pos ht] at q;refine⟨none,0,by rw[ht];exact A6 _,.inl (by rw[ht];rfl),λA F=>?_⟩;rw[ht];refine zt Tryz.func242 Tryz.ntmps242 ?_;have C:decide (((len:Nat):Int)=0)=false:=q_f;repeat' (first|refine s_0 ?_|refine q_k 0 ?_|refine q_k 1 ?_;refine q_v (zS (hr:=C)) ?_|refine q_k 3 ?_;refine q_v (zbD (a:=[0]) (b:=[]) (r:=false) (hr:=rfl)) ?_|refine q_k 5 ?_;refine zaD ?_;refine zb ?_;refine q_v (zR (s:=str [0]) (u:=0) (hv:=rfl)) ?_;refine zag ?_;refine zb ?_|refine q_k 6 ?_;refine q_v (zR (s:=str [0]) (u:=0) (hv:=rfl)) ?_;refine q_v (za (hc:=λE _ B _=>q E (F.trans B (λ_ h=>h.elim)))) ?_;refine zb ?_)
  exact q_r
 ·simp only[if_neg ht] at q;refine⟨some ⟨b,o+(len-(tz m).length),none⟩,c-(len-(tz m).length),by omega,?_,λA F=>?_⟩
  ·refine .inr ⟨b,_,rfl,λj v K=>?_⟩;rw[G,Bn] at K;rw[BI];exact hr _ v K
  ·refine zt Tryz.func242 Tryz.ntmps242 ?_;have C:decide (((len:Nat):Int)=0)=false:=q_f;repeat' (first|refine s_0 ?_|refine q_k 0 ?_|refine q_k 1 ?_;refine q_v (zS (hr:=C)) ?_|refine q_k 3 ?_;refine q_v (zbD (a:=[0]) (b:=[]) (r:=false) (hr:=rfl)) ?_|refine q_k 5 ?_;refine zaD ?_;refine zb ?_;refine q_v (zR (s:=str [0]) (u:=0) (hv:=rfl)) ?_;refine zag ?_;refine zb ?_|refine q_k 6 ?_;refine q_v (zR (s:=str [0]) (u:=0) (hv:=rfl)) ?_;refine q_v (za (hc:=λE _ B _=>q E (F.trans B (λ_ h=>h.elim)))) ?_;refine zb ?_)
   exact q_r
end Go.Proofs.YtdnlngbjpdbffaaGreatDoor
namespace Go.Nt
theorem zks(t k A p u:Nat)(E:t*k=64)(hk:0<k)(hu:u<2^t):
  A*(2^t)^(p+1)/18446744073709551616^(p/k)%18446744073709551616<18446744073709551616/\
  u*2^(p%k*t)%18446744073709551616=u*2^(p%k*t)/\
  u*2^(p%k*t)<18446744073709551616/\
  (A*(2^t)^(p+1)/18446744073709551616^(p/k)%18446744073709551616 ||| u*2^(p%k*t))=A*(2^t)^(p+1)/18446744073709551616^(p/k)%18446744073709551616+u*2^(p%k*t)/\
  A*(2^t)^(p+1)/18446744073709551616^(p/k)%18446744073709551616+u*2^(p%k*t)<18446744073709551616/\
  A*(2^t)^(p+1)+u*2^(p%k*t)*18446744073709551616^(p/k)=(A*2^t+u)*(2^t)^p:=by
 have F:(2^t)^k=18446744073709551616:=by rw[<-BE,E]
 have H:p%k<k:=AC _ hk;have G:k*(p/k)+p%k=p:=Aa p k;have m:=zsq (2^t) k A (p/k) (p%k) u H hu;have r:=ziF (2^t) (p/k) (p%k) k;rw[G,F] at m r;have w:(2^t)^(p%k)=2^(p%k*t):=by rw[<-BE,AK]
 have B:(2^t)^(p%k+1)=2^(p%k*t+t):=by rw[<-BE,CV,Ak,AK]
 rw[w] at r m;rw[B] at m;obtain⟨j,q⟩:=m;have C:u*2^(p%k*t)<2^(p%k*t+t):=by
  rw[Av,AK];exact Cu hu (AV q_e)
 refine⟨AC _ q_e,A7 q_o,by omega,?_,by rw[j];exact q,?_⟩
 ·rw[j];exact or_add _ _ _ C
 ·rw[AN,r,B2];congr 1
  ·ac_rfl
  ·ac_rfl
theorem znK(b:Nat)(l:List Nat)(d:Nat):bev b (l++[d])=bev b l*b+d:=by
 rw[zia];simp[bev]
theorem znx(l:List UInt8)(i:Nat)(u:UInt8)(h:l[i]?=some u):bev 256 (bn (l.take (i+1)))=bev 256 (bn (l.take i))*256+u.toNat:=by
 have m:i<l.length:=by
  rcases AF i l.length with j|j
  ·exact j
  ·rw[BV j] at h;cases h
 have:l.take (i+1)=l.take i++[u]:=by
  rw[CE,h];rfl
 rw[this];unfold bn;rw[Aq];exact znK 256 _ _
theorem zzW:18446744073709551616^16=256^128:=zhm 256 8 128 rfl rfl
theorem zui(l:List UInt8):(tz l).length<=128↔bev 256 (bn l)<18446744073709551616^16:=by
 rw[zzW,<-zrO l];cases ht:tz l with
 |nil=>simp only[Ce];exact⟨λ_=>AV q_e,λ_=>by omega⟩
 |cons u r=>
  have hu:=zwU l u r ht;have j:0<u.toNat:=by
   rcases AD u.toNat with h|h
   ·exact absurd (Bc.1 (by rw[h];rfl)) hu
   ·exact h
  have m:=zsK 256 q_e u.toNat (bn r) j (zhY (u::r));have q:=ze6 256 (bn (u::r)) (zhY _);have w:(bn (u::r)).length=(u::r).length:=A0 _;have A:(u.toNat::bn r).length=(u::r).length:=w;rw[A] at m;rw[w] at q;constructor
  ·intro h;exact AI q (AB q_e h)
  ·intro h;have:=zbc 256 _ 128 q_e h;rw[show bev 256 (bn (u::r))=bev 256 (u.toNat::bn r) from rfl,m] at this;exact this
end Go.Nt
namespace Go.Proofs.YtdnlngbjpdbffaaGreatDoor
open Go Go.Sy Go.Nt Go.RowKit
attribute [local irreducible] Sy SyL SyX Sy.Fn callFunc zg
theorem zcq(a:Option Addr)(len c:Nat)(q:List UInt8)(w:World)(Y:q.length=len)(hc:len<=c)(hb:SlA w a (q.map v8))(hx:len<9223372036854775808):
  q_G 181 [.slice a len c] w (if bev 256 (bn q)<18446744073709551616^16 then .tuple #[zr (bev 256 (bn q)),.int .i64 0] else .tuple #[zr 0,.int .i64 7]):=by
 refine zt Tryz.func181 Tryz.ntmps181 ?_;obtain⟨I,Q,J,hs,C⟩:=zpc a len c q w Y hc hb;have L:=zvQ q;have m:=zui q;rw[<-zrO q] at m ⊢;generalize tz q=l at*;obtain⟨n,M⟩:∃n,n=l.length:=⟨_,rfl⟩;rw[<-M] at C J m L;by_cases hbig:n<=128
 ·rw[if_pos (m.1 hbig)];repeat' (first|refine s_t ?_|refine zf 0 ?_;refine zW ?_;intro _|refine q_k 1 ?_;refine q_v (za (hc:=zu C)) ?_;refine zb ?_|refine q_k 2 ?_;refine q_v zH ?_|refine zf 4 ?_;refine zj ?_;intro _|refine q_k 5 ?_)
  rename_i G H;refine zN (γ:=Nat) (λi=>[(0,.slice I n Q),(2,.pointer (some ⟨G,0,none⟩)),(3,.int .i64 0),(4,.pointer (some ⟨H,0,none⟩)),(14,.slice I n Q),(15,.int .i64 n),(16,.int .i64 i)])
   (λi=>[.blk H 133 (zg (bev 256 (bn (l.take i))*256^(n-i))),.blk G 133 (List.replicate 16 (Value.int IntKind.u64 0))])
   (λi=>i<=n) (λi=>n-i) 0 (A9 _) ?_ ?_ ?_
  ·exact q_h
  ·show SubR [.blk H 133 (zg (bev 256 (bn (l.take 0))*256^(n-0))),.blk G 133 (List.replicate 16 (Value.int IntKind.u64 0))] _;rw[show bev 256 (bn (l.take 0))=0 from rfl,BF,<-natC0];exact q_h
  intro i hi;by_cases hlt:i<n
  ·obtain⟨u,hu⟩:∃u,l[i]?=some u:=⟨l[i]'q_o,A1 _⟩;obtain⟨b,o,rfl,hr⟩:∃b o,I=some ⟨b,o,none⟩/\w.rangeAt b o (l.map v8):=by
    rcases hs with h|h
    ·have:=congrArg List.length h;rw[A0,<-M] at this;exact absurd this (by show ¬n=0;omega)
    ·exact h
   have r:w.cell? ⟨b,o+i,none⟩=some (v8 u):=hr i (v8 u) (by rw[AY,hu];rfl);obtain⟨p,hp⟩:∃p,p=n-1-i:=⟨_,rfl⟩;have O:n-i=p+1:=q_o;have F:IntKind.i64.wrap ((n:Int)-1-(i:Int))=((p:Nat):Int):=q_w;obtain⟨R,W,e3,S,T,U⟩:=zks 8 8 (bev 256 (bn (l.take i))) p u.toNat rfl q_e u.toNat_lt;rw[show(2:Nat)^8=256 from rfl] at R S T U;have E:=zd (bev 256 (bn (l.take i))*256^(n-i));have V:=zbK (bev 256 (bn (l.take i))*256^(n-i)) (p/8) q_o;have j:=zeF (bev 256 (bn (l.take i))*256^(n-i)) (p/8) (u.toNat*2^(p%8*8));have P:=znx l i u hu;rw[O] at V j E ⊢;rw[U,<-P] at j;have j:=j T;rw[<-S,<-W] at j;have N:n-(i+1)=p:=q_o;generalize bev 256 (bn (l.take i))*256^(p+1)=X at*;generalize X/18446744073709551616^(p/8)%18446744073709551616=d at*;have q1:IntKind.i64.wrap ((p:Int).tdiv 8)=((p/8:Nat):Int):=zdn (k:=8) q_o;have q2:(p:Int).tmod 8=((p%8:Nat):Int):=zeq p 8;have q3:IntKind.i64.wrap (((p%8:Nat):Int)*8)=((p%8*8:Nat):Int):=q_w;have q4:IntKind.u64.wrap (Wd.n8 u)=((u.toNat:Nat):Int):=IntWalk.u64_in _ (by have:=Wd.n8_lt u;have:=Wd.n8_nonneg u;omega);have Z:p/8<16:=q_o;repeat' (first|refine s_t ?_|refine zf 6 ?_;refine zag ?_|refine q_k 7 ?_;refine zQ ?_;refine q_x (zn (hv:=r)) ?_|refine q_k 8 ?_;refine q_x zI ?_;refine q_x (zI (hr:=F)) ?_|refine zaj (id:=9) 13 [[],[0],[],[0,1,2],[0,1,2,3],[],[5],[],[7],[7,8],[5,6,7,8,9],[0,1,2,3,4,5,6,7,8,9,10],[],[0,1,2,3,4,5,6,7,8,9,10,11,12],[0,1,2,3,4,5,6,7,8,9,10,11,12,13]] mixed ?_ ?_;kernel_rfl;refine zA ?_;refine q_D (zbv (hr:=q1)) ?_;refine q_D zM ?_;refine zay ?_;refine q_D (zL (hv:=V)) ?_;refine zA ?_;refine q_D (zam (hr:=q4)) ?_;refine zA ?_;refine q_D (zbE (hr:=q2)) ?_;refine q_D (zaJ (hr:=q3)) ?_;refine q_D (zg6 (a:=u.toNat) (n:=p%8*8)) ?_;refine q_D (zi5 (a:=d) (b:=u.toNat*2^(p%8*8)%18446744073709551616) R (AC _ q_e)) ?_;refine q_D zM ?_;refine zaB ?_;refine zQ ?_;refine zO ?_|refine zf 10 ?_;refine za4 ?_;refine zb ?_)
   refine zE (i+1) ?_ ?_ ?_ ?_
   ·show i+1<=n;omega
   ·show n-(i+1)<p+1;omega
   ·exact q_h
   ·show SubR [.blk H 133 (zg (bev 256 (bn (l.take (i+1)))*256^(n-(i+1)))),.blk G 133 (List.replicate 16 (Value.int IntKind.u64 0))] _;rw[N,<-j];exact q_h
  obtain rfl:i=n:=q_o;have A:l.take i=l:=by rw[M];exact Bw
  rw[A,C5,An,Ak];have E:=zd (bev 256 (bn l));have a6:=m.1 hbig;generalize bev 256 (bn l)=x at*;repeat' (first|refine s_0 ?_|refine zf 6 ?_;refine zag ?_|refine zf 11 ?_;refine q_v (ze (B:=zg x)) ?_;refine q_y (zl (n:=x)) ?_)
  exact zU rfl (zB (B:=zg x) rfl (ty rfl) rfl Ev Et (zd _).symm) (zh rfl) Er ⟨rfl,rfl⟩
 ·rw[if_neg (λh=>hbig (m.2 h))];have K:decide (128<(n:Int))=true:=q_d;repeat' (first|refine s_0 ?_|refine zf 0 ?_;refine zW ?_;intro _|refine q_k 1 ?_;refine q_v (za (hc:=zu C)) ?_;refine zb ?_|refine q_k 2 ?_;refine q_v (zH (hr:=K)) ?_|refine zf 3 ?_;refine zbb ?_;refine zO ?_;refine zb ?_)
  exact zU rfl (zB (B:=List.replicate 16 (Value.int IntKind.u64 0)) rfl (ty rfl) rfl Ev Et rfl) (zh rfl) Er ⟨by rw[<-zfh],rfl⟩
end Go.Proofs.YtdnlngbjpdbffaaGreatDoor
namespace Go.Sy
theorem zhh{L L' R:List Res}{r:Res}(h:Rem L r L')(k:L'.Perm R):L.Perm (r::R):=h.perm.trans (List.Perm.cons _ k)
theorem zy6{L1:List Res}{r:Res}{Mi:Nat->Prop}(h:Has L1 r)(j:∀b,Mi b->¬OwnOf L1 b):∀b,Mi b->¬OwnOf [r] b:=λb m ⟨A,w,q⟩=>by
 obtain rfl:=AE.1 w;exact j b m ⟨_,h,q⟩
theorem SubR.skip{A B:List Res}{r:Res}(h:SubR A B):SubR A (r::B):=by
 obtain⟨X,j⟩:=h;exact⟨r::X,(List.Perm.cons r j).trans Ca.symm⟩
def F5:=@SubR.skip
end Go.Sy
