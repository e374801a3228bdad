/- Lemmas. -/
import Derived.Test.YtdnlngbjpdbffaaGreatDoorZJ09
set_option maxHeartbeats 1000000
set_option maxRecDepth 10000
set_option linter.all false
namespace Go.Proofs.YtdnlngbjpdbffaaGreatDoor
open Go Go.Sy Go.Nt Go.RowKit
attribute [local irreducible] Sy SyL SyX Sy.Fn callFunc zg
theorem zkW(x y:Nat)(w:World)(hx:x<18446744073709551616)(j:y<18446744073709551616):
  q_G 333 [nv x,nv y] w (.tuple #[nv (x*y/18446744073709551616),nv (x*y%18446744073709551616)]):=by
 refine zt Tryz.func333 Tryz.ntmps333 ?_;obtain⟨q,r,A,m⟩:=Lib.mul64_hi x y hx j;repeat' (first|refine s_0 ?_|refine q_k 0 ?_|refine q_k 1 ?_;refine q_x (zkI (a:=x) 32 q_e hx) ?_|refine q_k 2 ?_;refine q_x (ze5 32 q_e) ?_|refine q_k 3 ?_;refine q_x (zkI (a:=y) 32 q_e j) ?_|refine q_k 4 ?_;refine q_x (ze5 32 q_e) ?_|refine q_k 5 ?_;refine q_x zhY ?_|refine q_k 6 ?_;refine q_x zhY ?_;refine q_v (ze5 32 q_e) ?_;refine q_x ze1 ?_|refine q_k 7 ?_;refine q_x (zkI 32 q_e (AC _ q_e)) ?_|refine q_k 8 ?_;refine q_x (ze5 32 q_e) ?_|refine q_k 9 ?_;refine q_v zhY ?_;refine q_x ze1 ?_|refine q_k 10 ?_;refine q_x zhY ?_;refine q_x ze1 ?_;refine q_v (ze5 32 q_e) ?_;refine q_x ze1 ?_|refine q_k 11 ?_;refine q_x zhY ?_)
 refine zU rfl (zh rfl) (zh rfl) Ev ⟨congrArg (λn=>Value.tuple #[nv n,nv (x*y%18446744073709551616)]) ?_,rfl⟩;have B:=Lib.half_mul_le (a:=x/4294967296) (b:=y/4294967296) q_o q_o;have E:=Lib.half_mul_le (a:=x/4294967296) (b:=y%4294967296) q_o q_o;have F:=Lib.half_mul_le (a:=x%4294967296) (b:=y/4294967296) q_o q_o;have G:=Lib.half_mul_le (a:=x%4294967296) (b:=y%4294967296) q_o q_o;rw[<-m];simp only[show(2:Nat)^32=4294967296 from rfl];generalize (x%4294967296)*(y%4294967296)=d,(x%4294967296)*(y/4294967296)=c,(x/4294967296)*(y%4294967296)=b,(x/4294967296)*(y/4294967296)=a at*;omega
theorem zvS(x y:Nat)(w:World)(hx:x<18446744073709551616^16)(hy:y<18446744073709551616^16):
  q_G 321 [zu x,zu y] w (if x*y<18446744073709551616^16 then .tuple #[zu (x*y),.bool true] else .tuple #[zu 0,.bool false]):=by
 refine zt Tryz.func321 Tryz.ntmps321 ?_;have b5:=zd x;have b7:=zd y;repeat' (first|refine s_t ?_|refine zf 0 ?_;refine zk ?_;intro _;refine zk ?_;intro _;refine z9 ?_;intro _|refine zf 1 ?_;refine zk ?_;intro _|refine zai (id:=2) 3 [[],[0],[],[0,1,2],[0,1,2,3],[0,1,2,3,4]] mixed ?_ ?_;kernel_rfl;refine zdB ?_;refine q_D (za (hc:=λ_ _ _ _=>(zcS x _ hx))) ?_;refine zdB ?_;refine zaF ?_;refine q_v (za (hc:=λ_ _ _ _=>(zcS y _ hy))) ?_;refine zw ?_;refine zw ?_|refine q_k 3 ?_)
 rename_i K L G E;have b8:=zbj 18446744073709551616 x 16 q_e hx;have b9:=zbj 18446744073709551616 y 16 q_e hy;have a7:=zaV 18446744073709551616 x q_e;have a9:=zaV 18446744073709551616 y q_e;have T:=zbO x;have U:=zbO y;have Z:=MulJ.start 18446744073709551616 32 x y (nd 18446744073709551616 x) (nd 18446744073709551616 y) q_e;generalize nd 18446744073709551616 y=m,nd 18446744073709551616 x=n at*;refine zL (γ:=Nat×List Nat) (λg=>[(2,.pointer (some ⟨K,0,none⟩)),(3,.pointer (some ⟨L,0,none⟩)),(4,.pointer (some ⟨G,0,none⟩)),(5,.bool false),(6,.pointer (some ⟨E,0,none⟩)),(8,.int .i64 m),(21,.int .i64 n),(22,.int .i64 g.1)])
  (λg=>[.blk E 336 (g.2.map nv),.blk G 131 (List.replicate 16 (Value.int IntKind.u64 0)),.blk L 131 (zg y),.blk K 131 (zg x)])
  (λg=>g.1<=n/\MulJ 18446744073709551616 32 x y n m g.1 0 g.2 0) (λg=>n-g.1) (0,List.replicate 32 0) ⟨AA _,Z⟩ ?_ ?_ ?_
 ·exact q_h
 ·exact q_h
 rintro⟨i,l⟩ ⟨hi,O⟩;dsimp only at hi O ⊢;by_cases J:i<n
 ·repeat' (first|refine s_t ?_|refine zf 4 ?_;refine zaf ?_|refine zA [5,6,7] ?_;refine zb ?_)
  refine zL (γ:=Nat×List Nat×Nat) (λg=>[(2,.pointer (some ⟨K,0,none⟩)),(3,.pointer (some ⟨L,0,none⟩)),(4,.pointer (some ⟨G,0,none⟩)),(5,.bool false),(6,.pointer (some ⟨E,0,none⟩)),(8,.int .i64 m),(21,.int .i64 n),(22,.int .i64 i),(9,.int .i64 i),(10,nv g.2.2),(25,.int .i64 m),(26,.int .i64 g.1)])
   (λg=>[.blk E 336 (g.2.1.map nv),.blk G 131 (List.replicate 16 (Value.int IntKind.u64 0)),.blk L 131 (zg y),.blk K 131 (zg x)])
   (λg=>g.1<=m/\MulJ 18446744073709551616 32 x y n m i g.1 g.2.1 g.2.2) (λg=>m-g.1) (0,l,0) ⟨AA _,O⟩ ?_ ?_ ?_
  ·exact q_h
  ·exact q_h
  rintro⟨j,l,c⟩ ⟨V,A⟩;dsimp only at V A ⊢;have I:=A.len;have W:(l.map nv).length=32:=by rw[List.length_map,I]
  have b0:=A.car;by_cases hjl:j<m
  ·have ha:=T i q_o;have M:=U j q_o;have R:x/18446744073709551616^i%18446744073709551616<18446744073709551616:=AC _ q_e;have S:y/18446744073709551616^j%18446744073709551616<18446744073709551616:=AC _ q_e;obtain⟨u,hu⟩:∃u,l[i+j]?=some u:=⟨l[i+j]'q_o,A2 _⟩;have c1:=A.low u (BB hu);have F:(l.map nv)[i+j]?=some (nv u):=by rw[AW,hu];rfl
   have r:IntKind.i64.wrap ((i:Int)+(j:Int))=((i+j:Nat):Int):=q_w;have hstep:=λz c'=>A.step (z:=z) (c':=c') q_o hjl hu;generalize y/18446744073709551616^j%18446744073709551616=d,x/18446744073709551616^i%18446744073709551616=a at*;repeat' (first|refine s_t ?_|refine zf 8 ?_;refine zaf ?_|refine zA [9,11] ?_;refine zb ?_|refine zai (id:=10) 11 [[],[0],[0,1],[],[3],[3,4],[0,1,2,3,4,5],[0,1,2,3,4,5,6],[0,1,2,3,4,5,6,7],[0,1,2,3,4,5,6,7],[0,1,2,3,4,5,6,7,8],[0,1,2,3,4,5,6,7,8,9,10]] mixed ?_ ?_;kernel_rfl;refine zB ?_;refine zaB ?_;refine q_D (zM (hv:=ha)) ?_;refine zB ?_;refine zaB ?_;refine q_D (zM (hv:=M)) ?_;refine q_D (za (hc:=λ_ _ _ _=>(zkW a d _ R S))) ?_;refine zB ?_;refine q_D zas ?_;refine q_D zas ?_;refine q_D za6 ?_;refine zaF ?_;refine zw ?_|refine q_k 12 ?_;refine q_v (zD (hr:=r)) ?_;refine zQ ?_;refine q_v (zM (hv:=F)) ?_;refine q_x (zdA (hr:=zcN (a*d%18446744073709551616) u 0 q_e)) ?_|refine q_k 13 ?_;refine q_x ze1 ?_|refine q_k 14 ?_;refine q_x (zdA (hr:=zcN ((a*d%18446744073709551616+u+0)%18446744073709551616) c 0 q_e)) ?_|refine q_k 15 ?_;refine q_x (zD (hr:=r)) ?_;refine q_v ze1 ?_;refine zQ ?_;refine zP ?_;refine zb ?_|(refine zx ?_;first|refine zba ?_|refine zaU ?_|fail)|refine zdF ?_)
   have hP:a*d<=340282366920938463426481119284349108225:=BE (CR (show a<=18446744073709551615 by omega) (show d<=18446744073709551615 by omega)) q_e;generalize a*d=q at*;obtain⟨z,hz⟩:∃z,((q%18446744073709551616+u+0)%18446744073709551616+c+0)%18446744073709551616=z:=⟨_,rfl⟩;obtain⟨e,he⟩:∃e,((q/18446744073709551616+(q%18446744073709551616+u+0)/18446744073709551616)%18446744073709551616+((q%18446744073709551616+u+0)%18446744073709551616+c+0)/18446744073709551616)%18446744073709551616=e:=⟨_,rfl⟩;rw[hz,he];refine zC (j+1,l.set (i+j) z,e) ⟨by show j+1<=m;omega,hstep z e q_o q_o q_o⟩ ?_ ?_ ?_
   ·show m-(j+1)<m-j;omega
   ·exact q_h
   ·show SubR [.blk E 336 ((l.set (i+j) z).map nv),.blk G 131 (List.replicate 16 (Value.int IntKind.u64 0)),.blk L 131 (zg y),.blk K 131 (zg x)] _;rw[Bw];exact q_h
  obtain rfl:j=m:=q_o;have r:IntKind.i64.wrap ((i:Int)+(j:Int))=((i+j:Nat):Int):=q_w;repeat' (first|refine s_0 ?_|refine zf 8 ?_;refine zaf ?_|refine q_k 17 ?_;refine q_x (zD (hr:=r)) ?_;refine zQ ?_;refine zP ?_|refine zf 18 ?_;refine zba ?_;refine zb ?_)
  refine zC (i+1,l.set (i+j) c) ⟨by show i+1<=n;omega,A.row q_o a9⟩ ?_ ?_ ?_
  ·show n-(i+1)<n-i;omega
  ·exact q_h
  ·show SubR [.blk E 336 ((l.set (i+j) c).map nv),.blk G 131 (List.replicate 16 (Value.int IntKind.u64 0)),.blk L 131 (zg y),.blk K 131 (zg x)] _;rw[Bw];exact q_h
 obtain rfl:i=n:=q_o;repeat' (first|refine s_t ?_|refine zf 4 ?_;refine zaf ?_|refine zf 19 ?_;refine zbR ?_;refine zb ?_)
 have a8:=O.done a7;have I:=O.len;have H:=O.low;have W:(l.map nv).length=32:=by rw[A0,I]
 refine zL (γ:=Nat) (λq=>[(4,.pointer (some ⟨G,0,none⟩)),(6,.pointer (some ⟨E,0,none⟩)),(73,.slice (some ⟨E,16,none⟩) 16 16),(74,.int .i64 16),(75,.int .i64 q)])
  (λ_=>[.blk E 336 (l.map nv),.blk G 131 (List.replicate 16 (Value.int IntKind.u64 0))])
  (λq=>q<=16/\∀p,16<=p->p<16+q->l[p]?=some 0) (λq=>16-q) 0 ⟨AA _,λp h1 h2=>absurd h2 q_o⟩ ?_ ?_ ?_
 ·exact q_h
 ·exact q_h
 rintro q ⟨hq,hz⟩;by_cases hql:q<16
 ·obtain⟨u,hu⟩:∃u,l[16+q]?=some u:=⟨l[16+q]'q_o,A2 _⟩;have F:(l.map nv)[16+q]?=some (nv u):=by rw[AW,hu];rfl
  by_cases h0:u=0
  ·subst h0;repeat' (first|refine s_t ?_|refine zf 20 ?_;refine zaf ?_|refine zf 21 ?_;refine zQ ?_;refine q_x (zM (hv:=F)) ?_|refine q_k 22 ?_;refine zaJ ?_|refine zf 24 ?_;refine zba ?_;refine zb ?_)
   refine zC (q+1) ⟨by omega,λp h1 h2=>?_⟩ ?_ ?_ ?_
   ·rcases AG p (16+q) with h|h
    ·exact hz p h1 h
    ·obtain rfl:p=16+q:=q_o;exact hu
   ·show 16-(q+1)<16-q;omega
   ·exact q_h
   ·exact q_h
  ·repeat' (first|refine s_t ?_|refine zf 20 ?_;refine zaf ?_|refine zf 21 ?_;refine zQ ?_;refine q_x (zM (hv:=F)) ?_|refine q_k 22 ?_;refine zaJ ?_|refine zf 23 ?_;refine zbt ?_;refine zP ?_;refine zb ?_)
   have b1:=zeC 18446744073709551616 l (16+q) u 0 hu;have c0:18446744073709551616^16<=u*18446744073709551616^(16+q):=BE (AB q_e (EC 16 q)) (BU _ q_o);rw[if_neg q_o];exact zU rfl (zE (B:=List.replicate 16 (Value.int IntKind.u64 0)) rfl (ty rfl) rfl Ey Ex rfl) (zh rfl) Ev ⟨by rw[<-zfw],rfl⟩
 obtain rfl:q=16:=q_o;have Q:l.drop 16=List.replicate 16 0:=by
  apply Ca;intro p;rw[Bp,CM];split
  ·exact hz _ q_o q_o
  ·exact BI q_o
 have a6:(l.take 16).length=16:=by rw[AS];omega
 have P:=zgN 18446744073709551616 l 16 q_o;rw[Q,zeN,D8,BZ] at P;have J:=zfo 18446744073709551616 (l.take 16) (λd M=>H d (Cb M));have N:=zhl 18446744073709551616 (l.take 16) (λd M=>H d (Cb M));rw[a6,<-P,a8] at J N;have X:zg (x*y)=(l.map nv).take 16:=by unfold zg;rw[N,C0]
 have Y:Seg (l.map nv) 0 (zg (x*y)):=λj v h=>by
  rw[X] at h;rw[Aa];rw[CI] at h;split at h
  ·exact h
  ·cases h
 repeat' (first|refine s_0 ?_|refine zf 20 ?_;refine zaf ?_|refine zf 25 ?_;refine zbR ?_;refine q_v (zu5 (n:=16)) ?_;refine q_v (ze (C:=l.map nv) (B:=zg (x*y)) (hv:=Y) (hz:=(zd (x*y)).symm)) ?_;refine q_y (zl (n:=x*y)) ?_)
 rw[if_pos J];exact zU rfl (zE (B:=zg (x*y)) rfl (ty rfl) rfl Ey Ex (zd _).symm) (zh rfl) Ev ⟨rfl,rfl⟩
theorem zos(x y:Nat)(w:World)(hx:x<18446744073709551616^16)(A:y<18446744073709551616^16):
  q_G 291 [zu x,zu y] w (if x*y<18446744073709551616^16 then .tuple #[zu (x*y),.int .i64 0] else .tuple #[zu 0,.int .i64 7]):=by
 refine zt Tryz.func291 Tryz.ntmps291 ?_;have q:=zd x;have r:=zd y;have j:=λw=>zvS x y w hx A;by_cases h:x*y<18446744073709551616^16
 ·simp only[if_pos h] at j ⊢;generalize x*y=s at*;have m:=zd s;repeat' (first|refine s_0 ?_|refine zf 0 ?_;refine zk ?_;intro _;refine zk ?_;intro _;refine z9 ?_;intro _|refine q_k 1 ?_;refine zm ?_;refine zb ?_;refine zm ?_;refine q_v (za (hc:=q_c j)) ?_;refine zb ?_;refine zk ?_;intro _;refine q_y (zl (n:=s)) ?_|refine q_k 2 ?_;refine zI ?_|refine zf 4 ?_;refine zm ?_;refine q_v (zf0 (n:=s)) ?_;refine q_y (zl (n:=s)) ?_)
  exact zU rfl (zE (B:=zg s) rfl (ty rfl) rfl Ey Ex (zd _).symm) (zh rfl) Ev ⟨rfl,rfl⟩
 ·simp only[if_neg h] at j ⊢;repeat' (first|refine s_0 ?_|refine zf 0 ?_;refine zk ?_;intro _;refine zk ?_;intro _;refine z9 ?_;intro _|refine q_k 1 ?_;refine zm ?_;refine zb ?_;refine zm ?_;refine q_v (za (hc:=q_c j)) ?_;refine zb ?_;refine zk ?_;intro _;refine q_y (zl (n:=0)) ?_|refine q_k 2 ?_;refine zI ?_|refine zf 3 ?_;refine zbt ?_;refine zP ?_;refine zb ?_)
  exact zU rfl (zE (B:=List.replicate 16 (Value.int IntKind.u64 0)) rfl (ty rfl) rfl Ey Ex rfl) (zh rfl) Ev ⟨by rw[<-zfw],rfl⟩
end Go.Proofs.YtdnlngbjpdbffaaGreatDoor
namespace Go.Nt
theorem zi1(b x s:Nat)(hb:2<=b)(h:b^s<=x):nd b x=s+nd b (x/b^s):=by
 have q:0<b^s:=AU q_o;have m:=zaV b (x/b^s) hb;have w:0<x/b^s:=DK h q;have j:=(zdU b hb (x/b^s)).2;have r:0<nd b (x/b^s):=by
  rcases AE (nd b (x/b^s)) with h0|h0
  ·rw[h0,Ao] at m;omega
  ·exact h0
 have j:=j r;refine zcD b x _ hb ?_ λ_=>?_
 ·rw[Ax,AM];exact(AZ q).1 m
 ·rw[show s+nd b (x/b^s)-1=(nd b (x/b^s)-1)+s by omega,Ax];exact BE (AP _ j) (DB x _)
def bits8:List UInt8:=[0,1,2,2,3,3,3,3,4,4,4,4,4,4,4,4,5,5,5,5,5,5,5,5,5,5,5,5,5,5,5,5,6,6,6,6,6,6,6,6,6,6,6,6,6,6,6,6,6,6,6,6,6,6,6,6,6,6,6,6,6,6,6,6,7,7,7,7,7,7,7,7,7,7,7,7,7,7,7,7,7,7,7,7,7,7,7,7,7,7,7,7,7,7,7,7,7,7,7,7,7,7,7,7,7,7,7,7,7,7,7,7,7,7,7,7,7,7,7,7,7,7,7,7,7,7,7,7,8,8,8,8,8,8,8,8,8,8,8,8,8,8,8,8,8,8,8,8,8,8,8,8,8,8,8,8,8,8,8,8,8,8,8,8,8,8,8,8,8,8,8,8,8,8,8,8,8,8,8,8,8,8,8,8,8,8,8,8,8,8,8,8,8,8,8,8,8,8,8,8,8,8,8,8,8,8,8,8,8,8,8,8,8,8,8,8,8,8,8,8,8,8,8,8,8,8,8,8,8,8,8,8,8,8,8,8,8,8,8,8,8,8,8,8,8,8,8,8,8,8,8,8,8,8,8,8]
theorem zto:∀j:Fin 256,∃u,bits8[j.1]?=some u/\j.1<2^u.toNat/\(0<u.toNat->2^(u.toNat-1)<=j.1):=by decide +kernel
theorem zsp(j:Nat)(h:j<256):∃u,bits8[j]?=some u/\u.toNat=nd 2 j:=by
 obtain⟨u,m,q,r⟩:=zto ⟨j,h⟩;exact⟨u,m,(zcD 2 j _ q_e q r).symm⟩
end Go.Nt
namespace Go.Proofs.YtdnlngbjpdbffaaGreatDoor
open Go Go.Sy Go.Nt Go.RowKit
attribute [local irreducible] Sy SyL SyX Sy.Fn callFunc zg bits8
theorem zkF(x:Nat)(w:World)(hx:x<18446744073709551616):
  q_G 285 [nv x] w (.int .i64 ((nd 2 x:Nat):Int)):=by
 refine zt Tryz.func285 Tryz.ntmps285 ?_;obtain⟨j,r,M,Q,E⟩:∃j r,nd 2 x=r+nd 2 j/\j<4294967296/\((4294967296<=x/\j=x/2^32/\r=32)\/(x<4294967296/\j=x/\r=0)):=by
  rcases AG x 4294967296 with h|h
  ·exact⟨x,0,by omega,h,.inr ⟨h,rfl,rfl⟩⟩
  ·exact⟨x/2^32,32,zi1 2 x 32 q_e h,by omega,.inl ⟨h,rfl,rfl⟩⟩
 obtain⟨m,A,N,R,F⟩:∃m A,nd 2 j=A+nd 2 m/\m<65536/\((65536<=j/\m=j/2^16/\A=16)\/(j<65536/\m=j/\A=0)):=by
  rcases AG j 65536 with h|h
  ·exact⟨j,0,by omega,h,.inr ⟨h,rfl,rfl⟩⟩
  ·exact⟨j/2^16,16,zi1 2 j 16 q_e h,by omega,.inl ⟨h,rfl,rfl⟩⟩
 obtain⟨q,B,O,L,G⟩:∃q B,nd 2 m=B+nd 2 q/\q<256/\((256<=m/\q=m/2^8/\B=8)\/(m<256/\q=m/\B=0)):=by
  rcases AG m 256 with h|h
  ·exact⟨m,0,by omega,h,.inr ⟨h,rfl,rfl⟩⟩
  ·exact⟨m/2^8,8,zi1 2 m 8 q_e h,by omega,.inl ⟨h,rfl,rfl⟩⟩
 obtain⟨u,hu,K⟩:=zsp q L;rw[M,N,O,<-K];repeat' (first|refine s_0 ?_|refine q_k 0 ?_|refine q_k 1 ?_;refine q_v zO ?_)
 refine zcu (γ:=Unit) (λ_=>[(0,nv j),(2,.int .i64 ((r:Nat):Int))]) (λ_=>[]) (λ_=>True) ?_ ?_
 ·refine ze2 rfl (λh=>?_) (λh=>?_)
  ·have h:=of_decide_eq_true h;obtain⟨-,rfl,rfl⟩:4294967296<=x/\j=x/2^32/\r=32:=by
    rcases E with c|c
    ·exact c
    ·omega
   repeat' (first|refine s_0 ?_|refine q_k 2 ?_;refine q_x (ze5 32 q_e) ?_|refine q_k 3 ?_)
   exact zaj () trivial q_h q_h
  ·have h:=of_decide_eq_false h;obtain⟨-,rfl,rfl⟩:x<4294967296/\j=x/\r=0:=by
    rcases E with c|c
    ·omega
    ·exact c
   repeat' (first|refine ze7 ?_|refine zao ?_|fail)
   exact zaj () trivial q_h q_h
 rintro - -;repeat' (first|refine s_0 ?_|refine q_k 4 ?_;refine q_v zO ?_)
 refine zcu (γ:=Unit) (λ_=>[(0,nv m),(2,.int .i64 ((r+A:Nat):Int))]) (λ_=>[]) (λ_=>True) ?_ ?_
 ·refine ze2 rfl (λh=>?_) (λh=>?_)
  ·have h:=of_decide_eq_true h;obtain⟨-,rfl,rfl⟩:65536<=j/\m=j/2^16/\A=16:=by
    rcases F with c|c
    ·exact c
    ·omega
   repeat' (first|refine s_0 ?_|refine q_k 5 ?_;refine q_x (ze5 16 q_e) ?_|refine q_k 6 ?_;refine zba ?_;refine zb ?_)
   exact zaj () trivial q_h q_h
  ·have h:=of_decide_eq_false h;obtain⟨-,rfl,rfl⟩:j<65536/\m=j/\A=0:=by
    rcases F with c|c
    ·omega
    ·exact c
   repeat' (first|refine ze7 ?_|refine zao ?_|fail)
   exact zaj () trivial q_h q_h
 rintro - -;repeat' (first|refine s_0 ?_|refine q_k 7 ?_;refine q_v zO ?_)
 refine zcu (γ:=Unit) (λ_=>[(0,nv q),(2,.int .i64 ((r+A+B:Nat):Int))]) (λ_=>[]) (λ_=>True) ?_ ?_
 ·refine ze2 rfl (λh=>?_) (λh=>?_)
  ·have h:=of_decide_eq_true h;obtain⟨-,rfl,rfl⟩:256<=m/\q=m/2^8/\B=8:=by
    rcases G with c|c
    ·exact c
    ·omega
   repeat' (first|refine s_0 ?_|refine q_k 8 ?_;refine q_x (ze5 8 q_e) ?_|refine q_k 9 ?_;refine zba ?_;refine zb ?_)
   exact zaj () trivial q_h q_h
  ·have h:=of_decide_eq_false h;obtain⟨-,rfl,rfl⟩:m<256/\q=m/\B=0:=by
    rcases G with c|c
    ·omega
    ·exact c
   repeat' (first|refine ze7 ?_|refine zao ?_|fail)
   exact zaj () trivial q_h q_h
 rintro - -;have H:IntKind.u8.wrap (q:Int)=(q:Int):=IntWalk.u8_in _ q_o;have J:bits8.toArray[q]?=some u:=by rw[BJ];exact hu
 have I:IntKind.i64.wrap ((u.toNat:Nat):Int)=((u.toNat:Nat):Int):=IntWalk.i64_in _ (by have:=u.toNat_lt;omega);have P:=u.toNat_lt;repeat' (first|refine s_0 ?_|refine q_k 10 ?_;refine q_v (zam (hr:=H)) ?_;refine q_v (zR (hv:=Eq.trans (congrArg (λa:Array UInt8=>a[q]?) (show _=bits8.toArray by decide +kernel)) J)) ?_;refine q_v (zam (hr:=I)) ?_;refine zba ?_;refine zb ?_)
 exact zar rfl (zh rfl) Ev ⟨congrArg (Value.int .i64) q_o,rfl⟩
theorem zqp(x:Nat)(w:World)(hx:x<18446744073709551616):
  q_G 328 [nv x] w (.int .i64 ((64-nd 2 x:Nat):Int)):=by
 refine zt Tryz.func328 Tryz.ntmps328 ?_;have j:nd 2 x<=64:=zbj 2 x 64 q_e hx;repeat' (first|refine s_0 ?_|refine q_k 0 ?_|refine q_k 1 ?_;refine q_v (za (hc:=λ_ _ _ _=>(zkF x _ hx))) ?_;refine q_x zK ?_)
 exact zar rfl (zh rfl) Ev ⟨congrArg (Value.int .i64) q_o,rfl⟩
end Go.Proofs.YtdnlngbjpdbffaaGreatDoor
namespace Go.Nt
theorem zrR(k:Nat):18446744073709551616^k=2^(64*k):=by
 rw[show(18446744073709551616:Nat)=2^64 from rfl,<-BG]
theorem zrM:∃k,k=1024/\18446744073709551616^16=2^k:=by
 obtain⟨m,j⟩:∃m,m=16:=⟨16,rfl⟩;exact⟨64*m,by omega,by rw[<-zrR,j]⟩
theorem zy6{x i:Nat}(j:i<=1024)(h:x<2^i):x<18446744073709551616^16:=by
 obtain⟨k,m,e⟩:=zrM;rw[e];exact AK h (AB q_e q_o)
theorem zz3{x i:Nat}(h1:2^i<=x)(h:x<18446744073709551616^16):i<1024:=by
 obtain⟨k,j,e⟩:=zrM;rw[e] at h;have:i<k:=(Nat.pow_lt_pow_iff_right q_e).1 (B3 h1 h);omega
theorem zhC(b t n:Nat)(hb:b=2^t)(h:t*n=1024):18446744073709551616^16=b^n:=by
 obtain⟨k,j,e⟩:=zrM;rw[e,hb,<-BG,j,h]
theorem zfh{x:Nat}(h:x<18446744073709551616^16):nd 2 x<=1024:=by
 obtain⟨k,j,e⟩:=zrM;rw[e] at h;have:=zbj 2 x k q_e h;omega
theorem zdw{p k:Nat}(h:p<9223372036854775808):IntKind.i64.wrap ((p:Int).tdiv (k:Int))=((p/k:Nat):Int):=by
 have j:=Bz p k;rw[Cx q_o,show((p:Int)/(k:Int))=((p/k:Nat):Int) from rfl];generalize p/k=q at*;exact IntWalk.i64_in _ q_o
theorem zex(p k:Nat):(p:Int).tmod (k:Int)=((p%k:Nat):Int):=by
 rw[Dz q_o];rfl
end Go.Nt
namespace Go.Proofs.YtdnlngbjpdbffaaGreatDoor
open Go Go.Sy Go.Nt Go.RowKit
attribute [local irreducible] Sy SyL SyX Sy.Fn callFunc zg
theorem zcv(x:Nat)(w:World)(hx:x<18446744073709551616^16):
  q_G 241 [zu x] w (.int .i64 ((nd 2 x:Nat):Int)):=by
 refine zt Tryz.func241 Tryz.ntmps241 ?_;have H:=zd x;rcases AE x with h0|h0
 ·subst h0;have m:=λw=>zcS 0 w hx;rw[zb4] at m ⊢;repeat' (first|refine s_0 ?_|refine zf 0 ?_;refine z9 ?_;intro _|refine q_k 1 ?_;refine zm ?_;refine q_v (za (hc:=q_c m)) ?_;refine zb ?_|refine q_k 2 ?_;refine zaH ?_|refine q_k 3 ?_)
  exact q_r
 have J:=zbj 18446744073709551616 x 16 q_e hx;have m:=zaV 18446744073709551616 x q_e;have A:=(zdU 18446744073709551616 q_e x).2;have q:=λw=>zcS x w hx;have B:=zbO x;generalize nd 18446744073709551616 x=n at*;have E:0<n:=by
  rcases AE n with h|h
  ·subst h;rw[Ao] at m;omega
  ·exact h
 have A:=A E;have G:=B (n-1) q_o;have F:nd 2 x=64*(n-1)+nd 2 (x/18446744073709551616^(n-1)):=by
  rw[zrR] at A ⊢;exact zi1 2 x _ q_e A
 have j:x/18446744073709551616^(n-1)<18446744073709551616:=by
  rw[AZ (AU q_e),AM,<-AN,show(n-1).succ=n by omega];exact m
 rw[A9 j] at G;have I:=zbj 2 _ 64 q_e j;rw[F];generalize x/18446744073709551616^(n-1)=d at*;have r:IntKind.i64.wrap ((n:Int)-1)=((n-1:Nat):Int):=q_w;repeat' (first|refine s_0 ?_|refine zf 0 ?_;refine z9 ?_;intro _|refine q_k 1 ?_;refine zm ?_;refine q_v (za (hc:=q_c q)) ?_;refine zb ?_|refine q_k 2 ?_;refine zaH ?_|refine q_k 4 ?_;refine q_v (zK (hr:=r)) ?_;refine q_x zaM ?_;refine q_x (zK (hr:=r)) ?_;refine zQ ?_;refine q_v (zM (hv:=G)) ?_;refine q_v (za (hc:=λ_ _ _ _=>(zkF d _ j))) ?_;refine zba ?_;refine zb ?_)
 exact zar rfl (zh rfl) Ev ⟨congrArg (Value.int .i64) q_o,rfl⟩
end Go.Proofs.YtdnlngbjpdbffaaGreatDoor
namespace Go.Nt
open Go Go.Sy
def tz(l:List UInt8):List UInt8:=l.dropWhile (· == 0)
def bn(l:List UInt8):List Nat:=l.map (·.toNat)
theorem zih(l:List UInt8):∀d∈bn l,d<256:=by
 intro d j;obtain⟨u,_,rfl⟩:=Bv.1 j;exact u.toNat_lt
theorem zz1(l:List UInt8):bn (tz l)=(bn l).dropWhile (· == 0):=by
 unfold bn tz
 induction l with
 |nil=>rfl
 |cons u l ih=>
  rw[Ce,Au,Ce];by_cases h:u=0
  ·subst h;simpa using ih
  ·have j:(u==0)=false:=by simpa using h
   have m:(u.toNat==0)=false:=by
    rw[beq_eq_false_iff_ne];intro q;exact h (Bf.1 (by rw[q];rfl))
   rw[j,m];rfl
theorem zsf(l:List UInt8):bev 256 (bn (tz l))=bev 256 (bn l):=by rw[zz1,zn1]
theorem zo4(l:List UInt8):tz (0::l)=tz l:=by unfold tz;rw[Ce];rfl
theorem zqM(u:UInt8)(l:List UInt8)(h:u≠0):tz (u::l)=u::l:=by
 unfold tz;rw[Ce,if_neg (by simpa using h)]
theorem zwn(l:List UInt8):(tz l).length<=l.length:=by
 unfold tz;exact(List.dropWhile_sublist _).length_le
theorem zwJ(l:List UInt8)(u:UInt8)(r:List UInt8)(h:tz l=u::r):u≠0:=by
 induction l with
 |nil=>cases h
 |cons a l ih=>
  by_cases ha:a=0
  ·subst ha;rw[zo4] at h;exact ih h
  ·rw[zqM a l ha] at h;rw[<-(E6 h).1];exact ha
end Go.Nt
namespace Go.Proofs.YtdnlngbjpdbffaaGreatDoor
open Go Go.Sy Go.Nt Go.RowKit
attribute [local irreducible] Sy SyL SyX Sy.Fn callFunc zg
theorem zpS(b o len c:Nat)(m:List UInt8)(w:World)(K:m.length=len)(hc:len<=c)(hb:w.rangeAt b o (m.map v8))(h0:0<len):
  q_G 286 [.slice (some ⟨b,o,none⟩) len c,v8 0] w (if tz m= [] then .slice none 0 0 else .slice (some ⟨b,o+(len-(tz m).length),none⟩) (tz m).length (c-(len-(tz m).length))):=by
 refine zt Tryz.func286 Tryz.ntmps286 ?_;repeat' (first|refine s_t ?_|refine q_k 0 ?_)
 refine zL (γ:=Nat×Option Addr) (λg=>[(0,.slice g.2 (len-g.1) (c-g.1)),(1,v8 0)]) (λ_=>[]) (λg=>g.1<=len/\tz (m.drop g.1)=tz m/\(g.1<len->g.2=some ⟨b,o+g.1,none⟩)) (λg=>len-g.1) (0,some ⟨b,o,none⟩) ⟨AA _,rfl,λ_=>rfl⟩ ?_ ?_ ?_
 ·exact q_h
 ·exact q_h
 rintro⟨i,a⟩ ⟨J,A,I⟩;dsimp only at J A I ⊢;by_cases hlt:i<len
 ·obtain rfl:=I hlt;obtain⟨u,hu⟩:∃u,m[i]?=some u:=⟨m[i]'q_o,A2 _⟩;have q:w.cell? ⟨b,o+i,none⟩=some (v8 u):=hb i (v8 u) (by rw[AW,hu];rfl);have j:m.drop i=u::m.drop (i+1):=by
   rw[BS q_o];rw[A2 q_o] at hu;rw[Am hu]
  have r:decide (0<((len-i:Nat):Int))=true:=q_d;by_cases hz:u=0
  ·subst hz;rw[j,zo4] at A;repeat' (first|refine s_t ?_|refine q_k 1 ?_;refine q_x (zH (hr:=r)) ?_;refine zQ ?_;refine q_x (zo (hv:=q)) ?_;refine zaH ?_;refine zb ?_|refine q_k 2 ?_;refine zbR ?_;refine zb ?_)
   refine zC (i+1,zbB (some ⟨b,o+i,none⟩) 1 (c-i) 1) ⟨by show i+1<=len;omega,A,λh=>zfC q_o⟩ ?_ ?_ ?_
   ·show len-(i+1)<len-i;omega
   ·exact q_h
   ·exact q_h
  ·rw[j,zqM u _ hz] at A;have B:decide (Wd.n8 u=Wd.n8 0)=false:=decide_eq_false (λh=>hz (Wd.n8_inj h));have F:(tz m).length=len-i:=by rw[<-A,<-j,As,K]
   have E:decide (((len-i:Nat):Int)=0)=false:=q_f;rw[F,if_neg (by rw[<-A];simp),show len-(len-i)=i by omega];repeat' (first|refine s_0 ?_|refine q_k 1 ?_;refine q_x (zH (hr:=r)) ?_;refine zQ ?_;refine q_x (zo (hv:=q)) ?_;refine q_x (zS (hr:=B)) ?_|refine q_k 3 ?_;refine q_v (zS (hr:=E)) ?_|refine q_k 5 ?_)
   exact q_r
 ·obtain rfl:i=len:=q_o;rw[Ba q_o] at A;have G:decide (0<((i-i:Nat):Int))=false:=q_f;have H:decide (((i-i:Nat):Int)=0)=true:=q_d;rw[if_pos (show tz m= [] from A.symm)];repeat' (first|refine s_0 ?_|refine q_k 1 ?_;refine q_x (zH (hr:=G)) ?_|refine q_k 3 ?_;refine q_v (zS (hr:=H)) ?_|refine q_k 4 ?_)
  exact q_r
theorem zpZ(a:Option Addr)(len c:Nat)(m:List UInt8)(w:World)(I:m.length=len)(hc:len<=c)(hb:SlA w a (m.map v8)):
  ∃J K,(tz m).length<=K/\SlA w J ((tz m).map v8)/\∀A,Keep No w A->q_G 242 [.slice a len c,.string (str [0])] A (.slice J (tz m).length K):=by
 rcases AE len with h0|h0
 ·obtain rfl:m= []:=Av.1 q_o;subst h0;refine⟨none,0,A7 _,.inl rfl,λA G=>?_⟩;refine zt Tryz.func242 Tryz.ntmps242 ?_;repeat' (first|refine s_0 ?_|refine zA [0,2] ?_;refine zb ?_|refine q_k 1 ?_;refine zaH ?_)
  exact q_r
 obtain⟨b,o,rfl,hr⟩:∃b o,a=some ⟨b,o,none⟩/\w.rangeAt b o (m.map v8):=by
  rcases hb with h|h
  ·have:=congrArg List.length h;rw[A0,I] at this;exact absurd this (by show ¬len=0;omega)
  ·exact h
 have q:=λA (G:Keep No w A)=>zpS b o len c m A I hc (za0 hr G (λh=>h)) h0;have M:=zwn m;have H:(tz m).map v8=(m.map v8).drop (len-(tz m).length):=by
  rw[<-Cd];congr 1;have:tz m <:+ m:=List.dropWhile_suffix _;rw[<-I];exact List.suffix_iff_eq_drop.1 this
 by_cases ht:tz m= []
 ·simp only[if_pos ht] at q;refine⟨none,0,by rw[ht];exact A7 _,.inl (by rw[ht];rfl),λA G=>?_⟩;rw[ht];refine zt Tryz.func242 Tryz.ntmps242 ?_;have E:decide (((len:Nat):Int)=0)=false:=q_f;repeat' (first|refine s_0 ?_|refine q_k 0 ?_|refine q_k 1 ?_;refine q_v (zS (hr:=E)) ?_|refine q_k 3 ?_;refine q_v (zbJ (a:=[0]) (b:=[]) (r:=false) (hr:=rfl)) ?_|refine q_k 5 ?_;refine zaH ?_;refine zb ?_;refine q_v (zR (s:=str [0]) (u:=0) (hv:=rfl)) ?_;refine zaf ?_;refine zb ?_|refine q_k 6 ?_;refine q_v (zR (s:=str [0]) (u:=0) (hv:=rfl)) ?_;refine q_v (za (hc:=λF _ B _=>q F (G.trans B (λ_ h=>h.elim)))) ?_;refine zb ?_)
  exact q_r
 ·simp only[if_neg ht] at q;refine⟨some ⟨b,o+(len-(tz m).length),none⟩,c-(len-(tz m).length),by omega,?_,λA G=>?_⟩
  ·refine .inr ⟨b,_,rfl,λj v L=>?_⟩;rw[H,Bp] at L;rw[BK];exact hr _ v L
  ·refine zt Tryz.func242 Tryz.ntmps242 ?_;have E:decide (((len:Nat):Int)=0)=false:=q_f;repeat' (first|refine s_0 ?_|refine q_k 0 ?_|refine q_k 1 ?_;refine q_v (zS (hr:=E)) ?_|refine q_k 3 ?_;refine q_v (zbJ (a:=[0]) (b:=[]) (r:=false) (hr:=rfl)) ?_|refine q_k 5 ?_;refine zaH ?_;refine zb ?_;refine q_v (zR (s:=str [0]) (u:=0) (hv:=rfl)) ?_;refine zaf ?_;refine zb ?_|refine q_k 6 ?_;refine q_v (zR (s:=str [0]) (u:=0) (hv:=rfl)) ?_;refine q_v (za (hc:=λF _ B _=>q F (G.trans B (λ_ h=>h.elim)))) ?_;refine zb ?_)
   exact q_r
end Go.Proofs.YtdnlngbjpdbffaaGreatDoor
namespace Go.Nt
theorem zkD(t k A p u:Nat)(F:t*k=64)(hk:0<k)(hu:u<2^t):
  A*(2^t)^(p+1)/18446744073709551616^(p/k)%18446744073709551616<18446744073709551616/\
  u*2^(p%k*t)%18446744073709551616=u*2^(p%k*t)/\
  u*2^(p%k*t)<18446744073709551616/\
  (A*(2^t)^(p+1)/18446744073709551616^(p/k)%18446744073709551616 ||| u*2^(p%k*t))=A*(2^t)^(p+1)/18446744073709551616^(p/k)%18446744073709551616+u*2^(p%k*t)/\
  A*(2^t)^(p+1)/18446744073709551616^(p/k)%18446744073709551616+u*2^(p%k*t)<18446744073709551616/\
  A*(2^t)^(p+1)+u*2^(p%k*t)*18446744073709551616^(p/k)=(A*2^t+u)*(2^t)^p:=by
 have G:(2^t)^k=18446744073709551616:=by rw[<-BG,F]
 have I:p%k<k:=AC _ hk;have H:k*(p/k)+p%k=p:=Ad p k;have m:=zs1 (2^t) k A (p/k) (p%k) u I hu;have r:=zi3 (2^t) (p/k) (p%k) k;rw[H,G] at m r;have w:(2^t)^(p%k)=2^(p%k*t):=by rw[<-BG,AM]
 have B:(2^t)^(p%k+1)=2^(p%k*t+t):=by rw[<-BG,CZ,Al,AM]
 rw[w] at r m;rw[B] at m;obtain⟨j,q⟩:=m;have E:u*2^(p%k*t)<2^(p%k*t+t):=by
  rw[Ax,AM];exact Cu hu (AU q_e)
 refine⟨AC _ q_e,A9 q_o,by omega,?_,by rw[j];exact q,?_⟩
 ·rw[j];exact or_add _ _ _ E
 ·rw[AN,r,B5];congr 1
  ·ac_rfl
  ·ac_rfl
theorem zor(b:Nat)(l:List Nat)(d:Nat):bev b (l++[d])=bev b l*b+d:=by
 rw[zin];simp[bev]
theorem znJ(l:List UInt8)(i:Nat)(u:UInt8)(h:l[i]?=some u):bev 256 (bn (l.take (i+1)))=bev 256 (bn (l.take i))*256+u.toNat:=by
 have m:i<l.length:=by
  rcases AG i l.length with j|j
  ·exact j
  ·rw[BI j] at h;cases h
 have:l.take (i+1)=l.take i++[u]:=by
  rw[CE,h];rfl
 rw[this];unfold bn;rw[Ar];exact zor 256 _ _
theorem zAA:18446744073709551616^16=256^128:=zhC 256 8 128 rfl rfl
theorem zvh(l:List UInt8):(tz l).length<=128↔bev 256 (bn l)<18446744073709551616^16:=by
 rw[zAA,<-zsf l];cases ht:tz l with
 |nil=>simp only[Cj];exact⟨λ_=>AU q_e,λ_=>by omega⟩
 |cons u r=>
  have hu:=zwJ l u r ht;have j:0<u.toNat:=by
   rcases AE u.toNat with h|h
   ·exact absurd (Bf.1 (by rw[h];rfl)) hu
   ·exact h
  have m:=zsw 256 q_e u.toNat (bn r) j (zih (u::r));have q:=zfn 256 (bn (u::r)) (zih _);have w:(bn (u::r)).length=(u::r).length:=A0 _;have A:(u.toNat::bn r).length=(u::r).length:=w;rw[A] at m;rw[w] at q;constructor
  ·intro h;exact AK q (AB q_e h)
  ·intro h;have:=zbj 256 _ 128 q_e h;rw[show bev 256 (bn (u::r))=bev 256 (u.toNat::bn r) from rfl,m] at this;exact this
end Go.Nt
namespace Go.Proofs.YtdnlngbjpdbffaaGreatDoor
open Go Go.Sy Go.Nt Go.RowKit
attribute [local irreducible] Sy SyL SyX Sy.Fn callFunc zg
theorem zcs(a:Option Addr)(len c:Nat)(q:List UInt8)(w:World)(Z:q.length=len)(hc:len<=c)(hb:SlA w a (q.map v8))(hx:len<9223372036854775808):
  q_G 181 [.slice a len c] w (if bev 256 (bn q)<18446744073709551616^16 then .tuple #[zu (bev 256 (bn q)),.int .i64 0] else .tuple #[zu 0,.int .i64 7]):=by
 refine zt Tryz.func181 Tryz.ntmps181 ?_;obtain⟨J,R,K,hs,E⟩:=zpZ a len c q w Z hc hb;have M:=zwn q;have m:=zvh q;rw[<-zsf q] at m ⊢;generalize tz q=l at*;obtain⟨n,N⟩:∃n,n=l.length:=⟨_,rfl⟩;rw[<-N] at E K m M;by_cases hbig:n<=128
 ·rw[if_pos (m.1 hbig)];repeat' (first|refine s_t ?_|refine zf 0 ?_;refine z9 ?_;intro _|refine q_k 1 ?_;refine q_v (za (hc:=zr E)) ?_;refine zb ?_|refine q_k 2 ?_;refine q_v zH ?_|refine zf 4 ?_;refine zk ?_;intro _|refine q_k 5 ?_)
  rename_i H I;refine zL (γ:=Nat) (λi=>[(0,.slice J n R),(2,.pointer (some ⟨H,0,none⟩)),(3,.int .i64 0),(4,.pointer (some ⟨I,0,none⟩)),(14,.slice J n R),(15,.int .i64 n),(16,.int .i64 i)])
   (λi=>[.blk I 133 (zg (bev 256 (bn (l.take i))*256^(n-i))),.blk H 133 (List.replicate 16 (Value.int IntKind.u64 0))])
   (λi=>i<=n) (λi=>n-i) 0 (AA _) ?_ ?_ ?_
  ·exact q_h
  ·show SubR [.blk I 133 (zg (bev 256 (bn (l.take 0))*256^(n-0))),.blk H 133 (List.replicate 16 (Value.int IntKind.u64 0))] _;rw[show bev 256 (bn (l.take 0))=0 from rfl,BF,<-natC0];exact q_h
  intro i hi;by_cases hlt:i<n
  ·obtain⟨u,hu⟩:∃u,l[i]?=some u:=⟨l[i]'q_o,A2 _⟩;obtain⟨b,o,rfl,hr⟩:∃b o,J=some ⟨b,o,none⟩/\w.rangeAt b o (l.map v8):=by
    rcases hs with h|h
    ·have:=congrArg List.length h;rw[A0,<-N] at this;exact absurd this (by show ¬n=0;omega)
    ·exact h
   have r:w.cell? ⟨b,o+i,none⟩=some (v8 u):=hr i (v8 u) (by rw[AW,hu];rfl);obtain⟨p,hp⟩:∃p,p=n-1-i:=⟨_,rfl⟩;have P:n-i=p+1:=q_o;have G:IntKind.i64.wrap ((n:Int)-1-(i:Int))=((p:Nat):Int):=q_w;obtain⟨S,Y,e3,T,U,V⟩:=zkD 8 8 (bev 256 (bn (l.take i))) p u.toNat rfl q_e u.toNat_lt;rw[show(2:Nat)^8=256 from rfl] at S T U V;have F:=zd (bev 256 (bn (l.take i))*256^(n-i));have W:=zbO (bev 256 (bn (l.take i))*256^(n-i)) (p/8) q_o;have j:=zeQ (bev 256 (bn (l.take i))*256^(n-i)) (p/8) (u.toNat*2^(p%8*8));have Q:=znJ l i u hu;rw[P] at W j F ⊢;rw[V,<-Q] at j;have j:=j U;rw[<-T,<-Y] at j;have O:n-(i+1)=p:=q_o;generalize bev 256 (bn (l.take i))*256^(p+1)=X at*;generalize X/18446744073709551616^(p/8)%18446744073709551616=d at*;have q1:IntKind.i64.wrap ((p:Int).tdiv 8)=((p/8:Nat):Int):=zdw (k:=8) q_o;have q2:(p:Int).tmod 8=((p%8:Nat):Int):=zex p 8;have q3:IntKind.i64.wrap (((p%8:Nat):Int)*8)=((p%8*8:Nat):Int):=q_w;have q4:IntKind.u64.wrap (Wd.n8 u)=((u.toNat:Nat):Int):=IntWalk.u64_in _ (by have:=Wd.n8_lt u;have:=Wd.n8_nonneg u;omega);have a6:p/8<16:=q_o;repeat' (first|refine s_t ?_|refine zf 6 ?_;refine zaf ?_|refine q_k 7 ?_;refine zQ ?_;refine q_x (zo (hv:=r)) ?_|refine q_k 8 ?_;refine q_x zK ?_;refine q_x (zK (hr:=G)) ?_|refine zai (id:=9) 13 [[],[0],[],[0,1,2],[0,1,2,3],[],[5],[],[7],[7,8],[5,6,7,8,9],[0,1,2,3,4,5,6,7,8,9,10],[],[0,1,2,3,4,5,6,7,8,9,10,11,12],[0,1,2,3,4,5,6,7,8,9,10,11,12,13]] mixed ?_ ?_;kernel_rfl;refine zB ?_;refine q_D (zbz (hr:=q1)) ?_;refine q_D zN ?_;refine zaB ?_;refine q_D (zM (hv:=W)) ?_;refine zB ?_;refine q_D (zam (hr:=q4)) ?_;refine zB ?_;refine q_D (zbI (hr:=q2)) ?_;refine q_D (zaM (hr:=q3)) ?_;refine q_D (zhs (a:=u.toNat) (n:=p%8*8)) ?_;refine q_D (zjk (a:=d) (b:=u.toNat*2^(p%8*8)%18446744073709551616) S (AC _ q_e)) ?_;refine q_D zN ?_;refine zaF ?_;refine zQ ?_;refine zP ?_|refine zf 10 ?_;refine zba ?_;refine zb ?_)
   refine zC (i+1) ?_ ?_ ?_ ?_
   ·show i+1<=n;omega
   ·show n-(i+1)<p+1;omega
   ·exact q_h
   ·show SubR [.blk I 133 (zg (bev 256 (bn (l.take (i+1)))*256^(n-(i+1)))),.blk H 133 (List.replicate 16 (Value.int IntKind.u64 0))] _;rw[O,<-j];exact q_h
  obtain rfl:i=n:=q_o;have A:l.take i=l:=by rw[N];exact C3
  rw[A,C7,Ao,Al];have F:=zd (bev 256 (bn l));have a7:=m.1 hbig;generalize bev 256 (bn l)=x at*;repeat' (first|refine s_0 ?_|refine zf 6 ?_;refine zaf ?_|refine zf 11 ?_;refine q_v (ze (B:=zg x)) ?_;refine q_y (zl (n:=x)) ?_)
  exact zU rfl (zE (B:=zg x) rfl (ty rfl) rfl Ey Ex (zd _).symm) (zh rfl) Ev ⟨rfl,rfl⟩
 ·rw[if_neg (λh=>hbig (m.2 h))];have L:decide (128<(n:Int))=true:=q_d;repeat' (first|refine s_0 ?_|refine zf 0 ?_;refine z9 ?_;intro _|refine q_k 1 ?_;refine q_v (za (hc:=zr E)) ?_;refine zb ?_|refine q_k 2 ?_;refine q_v (zH (hr:=L)) ?_|refine zf 3 ?_;refine zbt ?_;refine zP ?_;refine zb ?_)
  exact zU rfl (zE (B:=List.replicate 16 (Value.int IntKind.u64 0)) rfl (ty rfl) rfl Ey Ex rfl) (zh rfl) Ev ⟨by rw[<-zfw],rfl⟩
end Go.Proofs.YtdnlngbjpdbffaaGreatDoor
namespace Go.Sy
theorem zhu{L L' R:List Res}{r:Res}(h:Rem L r L')(k:L'.Perm R):L.Perm (r::R):=h.perm.trans (List.Perm.cons _ k)
theorem zzv{L1:List Res}{r:Res}{Mi:Nat->Prop}(h:Has L1 r)(j:∀b,Mi b->¬OwnOf L1 b):∀b,Mi b->¬OwnOf [r] b:=λb m ⟨A,w,q⟩=>by
 obtain rfl:=AD.1 w;exact j b m ⟨_,h,q⟩
theorem SubR.skip{A B:List Res}{r:Res}(h:SubR A B):SubR A (r::B):=by
 obtain⟨X,j⟩:=h;exact⟨r::X,(List.Perm.cons r j).trans DW.symm⟩
def F7:=@SubR.skip
end Go.Sy
