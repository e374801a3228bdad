/- Lemmas of this proof. -/
import Derived.Test.YtdnlngbjpdbffaaGreatDoorKJ09
set_option maxHeartbeats 1000000
set_option maxRecDepth 10000
set_option linter.all false
namespace Go.Proofs.YtdnlngbjpdbffaaGreatDoor
open Go Go.Sy Go.Nt Go.RowKit
attribute [local irreducible] Sy SyL SyX Sy.Fn callFunc zf
theorem zjM(x y:Nat)(w:World)(hx:x<18446744073709551616)(j:y<18446744073709551616):
  q_G 333 [nv x,nv y] w (.tuple #[nv (x*y/18446744073709551616),nv (x*y%18446744073709551616)]):=by
 refine zo Tryz.func333 Tryz.ntmps333 ?_;obtain⟨q,r,t,m⟩:=Lib.mul64_hi x y hx j;repeat' (first|refine s_0 ?_|refine q_k 0 ?_|refine q_k 1 ?_;refine q_x (zjq (a:=x) 32 q_e hx) ?_|refine q_k 2 ?_;refine q_x (zed 32 q_e) ?_|refine q_k 3 ?_;refine q_x (zjq (a:=y) 32 q_e j) ?_|refine q_k 4 ?_;refine q_x (zed 32 q_e) ?_|refine q_k 5 ?_;refine q_x zg4 ?_|refine q_k 6 ?_;refine q_x zg4 ?_;refine q_v (zed 32 q_e) ?_;refine q_x zeh ?_|refine q_k 7 ?_;refine q_x (zjq 32 q_e (A7 _ q_e)) ?_|refine q_k 8 ?_;refine q_x (zed 32 q_e) ?_|refine q_k 9 ?_;refine q_v zg4 ?_;refine q_x zeh ?_|refine q_k 10 ?_;refine q_x zg4 ?_;refine q_x zeh ?_;refine q_v (zed 32 q_e) ?_;refine q_x zeh ?_|refine q_k 11 ?_;refine q_x zg4 ?_)
 refine zad rfl (zr rfl) (zr rfl) F2 ⟨congrArg (λn=>Value.tuple #[nv n,nv (x*y%18446744073709551616)]) ?_,rfl⟩;have A:=Lib.half_mul_le (a:=x/4294967296) (b:=y/4294967296) q_o q_o;have B:=Lib.half_mul_le (a:=x/4294967296) (b:=y%4294967296) q_o q_o;have C:=Lib.half_mul_le (a:=x%4294967296) (b:=y/4294967296) q_o q_o;have E:=Lib.half_mul_le (a:=x%4294967296) (b:=y%4294967296) q_o q_o;rw[<-m];simp only[show(2:Nat)^32=4294967296 from rfl];generalize (x%4294967296)*(y%4294967296)=d,(x%4294967296)*(y/4294967296)=c,(x/4294967296)*(y%4294967296)=b,(x/4294967296)*(y/4294967296)=a at*;omega
theorem zsW(x y:Nat)(w:World)(hx:x<18446744073709551616^16)(hy:y<18446744073709551616^16):
  q_G 321 [zm x,zm y] w (if x*y<18446744073709551616^16 then .tuple #[zm (x*y),.bool true] else .tuple #[zm 0,.bool false]):=by
 refine zo Tryz.func321 Tryz.ntmps321 ?_;have b1:=zd x;have b5:=zd y;repeat' (first|refine s_t ?_|refine zg 0 ?_;refine zi ?_;intro _;refine zi ?_;intro _;refine zV ?_;intro _|refine zg 1 ?_;refine zi ?_;intro _|refine z5 (id:=2) 3 [[],[0],[],[0,1,2],[0,1,2,3],[0,1,2,3,4]] mixed ?_ ?_;kernel_rfl;refine zaT ?_;refine q_D (za (hc:=λ_ _ _ _=>(zcz x _ hx))) ?_;refine zaT ?_;refine zam ?_;refine q_v (za (hc:=λ_ _ _ _=>(zcz y _ hy))) ?_;refine zB ?_;refine zB ?_|refine q_k 3 ?_)
 rename_i J K F A;have b7:=zaQ 18446744073709551616 x 16 q_e hx;have b8:=zaQ 18446744073709551616 y 16 q_e hy;have a6:=zaE 18446744073709551616 x q_e;have a8:=zaE 18446744073709551616 y q_e;have S:=zbz x;have T:=zbz y;have Y:=MulJ.start 18446744073709551616 32 x y (nd 18446744073709551616 x) (nd 18446744073709551616 y) q_e;generalize nd 18446744073709551616 y=m,nd 18446744073709551616 x=n at*;refine zE (γ:=Nat×List Nat) (λg=>[(2,.pointer (some ⟨J,0,none⟩)),(3,.pointer (some ⟨K,0,none⟩)),(4,.pointer (some ⟨F,0,none⟩)),(5,.bool false),(6,.pointer (some ⟨A,0,none⟩)),(8,.int .i64 m),(21,.int .i64 n),(22,.int .i64 g.1)])
  (λg=>[.blk A 336 (g.2.map nv),.blk F 131 (List.replicate 16 (Value.int IntKind.u64 0)),.blk K 131 (zf y),.blk J 131 (zf x)])
  (λg=>g.1<=n/\MulJ 18446744073709551616 32 x y n m g.1 0 g.2 0) (λg=>n-g.1) (0,List.replicate 32 0) ⟨AE _,Y⟩ ?_ ?_ ?_
 ·exact q_h
 ·exact q_h
 rintro⟨i,l⟩ ⟨hi,N⟩;dsimp only at hi N ⊢;by_cases I:i<n
 ·repeat' (first|refine s_t ?_|refine zg 4 ?_;refine zR ?_|refine zK [5,6,7] ?_;refine zb ?_)
  refine zE (γ:=Nat×List Nat×Nat) (λg=>[(2,.pointer (some ⟨J,0,none⟩)),(3,.pointer (some ⟨K,0,none⟩)),(4,.pointer (some ⟨F,0,none⟩)),(5,.bool false),(6,.pointer (some ⟨A,0,none⟩)),(8,.int .i64 m),(21,.int .i64 n),(22,.int .i64 i),(9,.int .i64 i),(10,nv g.2.2),(25,.int .i64 m),(26,.int .i64 g.1)])
   (λg=>[.blk A 336 (g.2.1.map nv),.blk F 131 (List.replicate 16 (Value.int IntKind.u64 0)),.blk K 131 (zf y),.blk J 131 (zf x)])
   (λg=>g.1<=m/\MulJ 18446744073709551616 32 x y n m i g.1 g.2.1 g.2.2) (λg=>m-g.1) (0,l,0) ⟨AE _,N⟩ ?_ ?_ ?_
  ·exact q_h
  ·exact q_h
  rintro⟨j,l,c⟩ ⟨U,t⟩;dsimp only at U t ⊢;have H:=t.len;have V:(l.map nv).length=32:=by rw[List.length_map,H]
  have a9:=t.car;by_cases hjl:j<m
  ·have ha:=S i q_o;have L:=T j q_o;have Q:x/18446744073709551616^i%18446744073709551616<18446744073709551616:=A7 _ q_e;have R:y/18446744073709551616^j%18446744073709551616<18446744073709551616:=A7 _ q_e;obtain⟨u,hu⟩:∃u,l[i+j]?=some u:=⟨l[i+j]'q_o,A1 _⟩;have c0:=t.low u (Bk hu);have E:(l.map nv)[i+j]?=some (nv u):=by rw[AY,hu];rfl
   have r:IntKind.i64.wrap ((i:Int)+(j:Int))=((i+j:Nat):Int):=q_w;have hstep:=λz c'=>t.step (z:=z) (c':=c') q_o hjl hu;generalize y/18446744073709551616^j%18446744073709551616=d,x/18446744073709551616^i%18446744073709551616=a at*;repeat' (first|refine s_t ?_|refine zg 8 ?_;refine zR ?_|refine zK [9,11] ?_;refine zb ?_|refine z5 (id:=10) 11 [[],[0],[0,1],[],[3],[3,4],[0,1,2,3,4,5],[0,1,2,3,4,5,6],[0,1,2,3,4,5,6,7],[0,1,2,3,4,5,6,7],[0,1,2,3,4,5,6,7,8],[0,1,2,3,4,5,6,7,8,9,10]] mixed ?_ ?_;kernel_rfl;refine zt ?_;refine zT ?_;refine q_D (zM (hv:=ha)) ?_;refine zt ?_;refine zT ?_;refine q_D (zM (hv:=L)) ?_;refine q_D (za (hc:=λ_ _ _ _=>(zjM a d _ Q R))) ?_;refine zt ?_;refine q_D zau ?_;refine q_D zau ?_;refine q_D zbM ?_;refine zam ?_;refine zB ?_|refine q_k 12 ?_;refine q_v (zA (hr:=r)) ?_;refine zD ?_;refine q_v (zM (hv:=E)) ?_;refine q_x (zc1 (hr:=zct (a*d%18446744073709551616) u 0 q_e)) ?_|refine q_k 13 ?_;refine q_x zeh ?_|refine q_k 14 ?_;refine q_x (zc1 (hr:=zct ((a*d%18446744073709551616+u+0)%18446744073709551616) c 0 q_e)) ?_|refine q_k 15 ?_;refine q_x (zA (hr:=r)) ?_;refine q_v zeh ?_;refine zD ?_;refine zS ?_;refine zb ?_|(refine zW ?_;first|refine zaI ?_|refine zaS ?_|fail)|refine zbU ?_)
   have hP:a*d<=340282366920938463426481119284349108225:=BG (Ca (show a<=18446744073709551615 by omega) (show d<=18446744073709551615 by omega)) q_e;generalize a*d=q at*;obtain⟨z,hz⟩:∃z,((q%18446744073709551616+u+0)%18446744073709551616+c+0)%18446744073709551616=z:=⟨_,rfl⟩;obtain⟨e,he⟩:∃e,((q/18446744073709551616+(q%18446744073709551616+u+0)/18446744073709551616)%18446744073709551616+((q%18446744073709551616+u+0)%18446744073709551616+c+0)/18446744073709551616)%18446744073709551616=e:=⟨_,rfl⟩;rw[hz,he];refine zy (j+1,l.set (i+j) z,e) ⟨by show j+1<=m;omega,hstep z e q_o q_o q_o⟩ ?_ ?_ ?_
   ·show m-(j+1)<m-j;omega
   ·exact q_h
   ·show SubR [.blk A 336 ((l.set (i+j) z).map nv),.blk F 131 (List.replicate 16 (Value.int IntKind.u64 0)),.blk K 131 (zf y),.blk J 131 (zf x)] _;rw[BS];exact q_h
  obtain rfl:j=m:=q_o;have r:IntKind.i64.wrap ((i:Int)+(j:Int))=((i+j:Nat):Int):=q_w;repeat' (first|refine s_0 ?_|refine zg 8 ?_;refine zR ?_|refine q_k 17 ?_;refine q_x (zA (hr:=r)) ?_;refine zD ?_;refine zS ?_|refine zg 18 ?_;refine zaI ?_;refine zb ?_)
  refine zy (i+1,l.set (i+j) c) ⟨by show i+1<=n;omega,t.row q_o a8⟩ ?_ ?_ ?_
  ·show n-(i+1)<n-i;omega
  ·exact q_h
  ·show SubR [.blk A 336 ((l.set (i+j) c).map nv),.blk F 131 (List.replicate 16 (Value.int IntKind.u64 0)),.blk K 131 (zf y),.blk J 131 (zf x)] _;rw[BS];exact q_h
 obtain rfl:i=n:=q_o;repeat' (first|refine s_t ?_|refine zg 4 ?_;refine zR ?_|refine zg 19 ?_;refine zcC ?_;refine zb ?_)
 have a7:=N.done a6;have H:=N.len;have G:=N.low;have V:(l.map nv).length=32:=by rw[A0,H]
 refine zE (γ:=Nat) (λq=>[(4,.pointer (some ⟨F,0,none⟩)),(6,.pointer (some ⟨A,0,none⟩)),(73,.slice (some ⟨A,16,none⟩) 16 16),(74,.int .i64 16),(75,.int .i64 q)])
  (λ_=>[.blk A 336 (l.map nv),.blk F 131 (List.replicate 16 (Value.int IntKind.u64 0))])
  (λq=>q<=16/\∀p,16<=p->p<16+q->l[p]?=some 0) (λq=>16-q) 0 ⟨AE _,λp h1 h2=>absurd h2 q_o⟩ ?_ ?_ ?_
 ·exact q_h
 ·exact q_h
 rintro q ⟨hq,hz⟩;by_cases hql:q<16
 ·obtain⟨u,hu⟩:∃u,l[16+q]?=some u:=⟨l[16+q]'q_o,A1 _⟩;have E:(l.map nv)[16+q]?=some (nv u):=by rw[AY,hu];rfl
  by_cases h0:u=0
  ·subst h0;repeat' (first|refine s_t ?_|refine zg 20 ?_;refine zR ?_|refine zg 21 ?_;refine zD ?_;refine q_x (zM (hv:=E)) ?_|refine q_k 22 ?_;refine zat ?_|refine zg 24 ?_;refine zaI ?_;refine zb ?_)
   refine zy (q+1) ⟨by omega,λp h1 h2=>?_⟩ ?_ ?_ ?_
   ·rcases AH p (16+q) with h|h
    ·exact hz p h1 h
    ·obtain rfl:p=16+q:=q_o;exact hu
   ·show 16-(q+1)<16-q;omega
   ·exact q_h
   ·exact q_h
  ·repeat' (first|refine s_t ?_|refine zg 20 ?_;refine zR ?_|refine zg 21 ?_;refine zD ?_;refine q_x (zM (hv:=E)) ?_|refine q_k 22 ?_;refine zat ?_|refine zg 23 ?_;refine zbj ?_;refine zS ?_;refine zb ?_)
   have b0:=zdU 18446744073709551616 l (16+q) u 0 hu;have b9:18446744073709551616^16<=u*18446744073709551616^(16+q):=BG (AA q_e (EU 16 q)) (BZ _ q_o);rw[if_neg q_o];exact zad rfl (zz (B:=List.replicate 16 (Value.int IntKind.u64 0)) rfl (ty rfl) rfl F4 F0 rfl) (zr rfl) F2 ⟨by rw[<-zeF],rfl⟩
 obtain rfl:q=16:=q_o;have P:l.drop 16=List.replicate 16 0:=by
  apply Cz;intro p;rw[Be,Br];split
  ·exact hz _ q_o q_o
  ·exact BL q_o
 have Z:(l.take 16).length=16:=by rw[AU];omega
 have O:=zf5 18446744073709551616 l 16 q_o;rw[P,zd3,Bx,BI] at O;have I:=zeC 18446744073709551616 (l.take 16) (λd L=>G d (Cj L));have M:=zgw 18446744073709551616 (l.take 16) (λd L=>G d (Cj L));rw[Z,<-O,a7] at I M;have W:zf (x*y)=(l.map nv).take 16:=by unfold zf;rw[M,CN]
 have X:Seg (l.map nv) 0 (zf (x*y)):=λj v h=>by
  rw[W] at h;rw[AR];rw[Bt] at h;split at h
  ·exact h
  ·cases h
 repeat' (first|refine s_0 ?_|refine zg 20 ?_;refine zR ?_|refine zg 25 ?_;refine zcC ?_;refine q_v (zr7 (n:=16)) ?_;refine q_v (ze (C:=l.map nv) (B:=zf (x*y)) (hv:=X) (hz:=(zd (x*y)).symm)) ?_;refine q_y (zj (n:=x*y)) ?_)
 rw[if_pos I];exact zad rfl (zz (B:=zf (x*y)) rfl (ty rfl) rfl F4 F0 (zd _).symm) (zr rfl) F2 ⟨rfl,rfl⟩
theorem znO(x y:Nat)(w:World)(hx:x<18446744073709551616^16)(t:y<18446744073709551616^16):
  q_G 291 [zm x,zm y] w (if x*y<18446744073709551616^16 then .tuple #[zm (x*y),.int .i64 0] else .tuple #[zm 0,.int .i64 7]):=by
 refine zo Tryz.func291 Tryz.ntmps291 ?_;have q:=zd x;have r:=zd y;have j:=λw=>zsW x y w hx t;by_cases h:x*y<18446744073709551616^16
 ·simp only[if_pos h] at j ⊢;generalize x*y=s at*;have m:=zd s;repeat' (first|refine s_0 ?_|refine zg 0 ?_;refine zi ?_;intro _;refine zi ?_;intro _;refine zV ?_;intro _|refine q_k 1 ?_;refine zk ?_;refine zb ?_;refine zk ?_;refine q_v (za (hc:=q_c j)) ?_;refine zb ?_;refine zi ?_;intro _;refine q_y (zj (n:=s)) ?_|refine q_k 2 ?_;refine zJ ?_|refine zg 4 ?_;refine zk ?_;refine q_v (zfl (n:=s)) ?_;refine q_y (zj (n:=s)) ?_)
  exact zad rfl (zz (B:=zf s) rfl (ty rfl) rfl F4 F0 (zd _).symm) (zr rfl) F2 ⟨rfl,rfl⟩
 ·simp only[if_neg h] at j ⊢;repeat' (first|refine s_0 ?_|refine zg 0 ?_;refine zi ?_;intro _;refine zi ?_;intro _;refine zV ?_;intro _|refine q_k 1 ?_;refine zk ?_;refine zb ?_;refine zk ?_;refine q_v (za (hc:=q_c j)) ?_;refine zb ?_;refine zi ?_;intro _;refine q_y (zj (n:=0)) ?_|refine q_k 2 ?_;refine zJ ?_|refine zg 3 ?_;refine zbj ?_;refine zS ?_;refine zb ?_)
  exact zad rfl (zz (B:=List.replicate 16 (Value.int IntKind.u64 0)) rfl (ty rfl) rfl F4 F0 rfl) (zr rfl) F2 ⟨by rw[<-zeF],rfl⟩
end Go.Proofs.YtdnlngbjpdbffaaGreatDoor
namespace Go.Nt
theorem zio(b x s:Nat)(hb:2<=b)(h:b^s<=x):nd b x=s+nd b (x/b^s):=by
 have q:0<b^s:=AP q_o;have m:=zaE b (x/b^s) hb;have t:0<x/b^s:=DZ h q;have j:=(zdi b hb (x/b^s)).2;have r:0<nd b (x/b^s):=by
  rcases AD (nd b (x/b^s)) with h0|h0
  ·rw[h0,Ad] at m;omega
  ·exact h0
 have j:=j r;refine zch b x _ hb ?_ λ_=>?_
 ·rw[As,A8];exact(AW q).1 m
 ·rw[show s+nd b (x/b^s)-1=(nd b (x/b^s)-1)+s by omega,As];exact BG (AN _ j) (DN x _)
def bits8:List UInt8:=[0,1,2,2,3,3,3,3,4,4,4,4,4,4,4,4,5,5,5,5,5,5,5,5,5,5,5,5,5,5,5,5,6,6,6,6,6,6,6,6,6,6,6,6,6,6,6,6,6,6,6,6,6,6,6,6,6,6,6,6,6,6,6,6,7,7,7,7,7,7,7,7,7,7,7,7,7,7,7,7,7,7,7,7,7,7,7,7,7,7,7,7,7,7,7,7,7,7,7,7,7,7,7,7,7,7,7,7,7,7,7,7,7,7,7,7,7,7,7,7,7,7,7,7,7,7,7,7,8,8,8,8,8,8,8,8,8,8,8,8,8,8,8,8,8,8,8,8,8,8,8,8,8,8,8,8,8,8,8,8,8,8,8,8,8,8,8,8,8,8,8,8,8,8,8,8,8,8,8,8,8,8,8,8,8,8,8,8,8,8,8,8,8,8,8,8,8,8,8,8,8,8,8,8,8,8,8,8,8,8,8,8,8,8,8,8,8,8,8,8,8,8,8,8,8,8,8,8,8,8,8,8,8,8,8,8,8,8,8,8,8,8,8,8,8,8,8,8,8,8,8,8,8,8,8,8]
theorem zqH:∀j:Fin 256,∃u,bits8[j.1]?=some u/\j.1<2^u.toNat/\(0<u.toNat->2^(u.toNat-1)<=j.1):=by decide +kernel
theorem zra(j:Nat)(h:j<256):∃u,bits8[j]?=some u/\u.toNat=nd 2 j:=by
 obtain⟨u,m,q,r⟩:=zqH ⟨j,h⟩;exact⟨u,m,(zch 2 j _ q_e q r).symm⟩
end Go.Nt
namespace Go.Proofs.YtdnlngbjpdbffaaGreatDoor
open Go Go.Sy Go.Nt Go.RowKit
attribute [local irreducible] Sy SyL SyX Sy.Fn callFunc zf bits8
theorem zjC(x:Nat)(w:World)(hx:x<18446744073709551616):
  q_G 285 [nv x] w (.int .i64 ((nd 2 x:Nat):Int)):=by
 refine zo Tryz.func285 Tryz.ntmps285 ?_;obtain⟨j,r,K,O,B⟩:∃j r,nd 2 x=r+nd 2 j/\j<4294967296/\((4294967296<=x/\j=x/2^32/\r=32)\/(x<4294967296/\j=x/\r=0)):=by
  rcases AH x 4294967296 with h|h
  ·exact⟨x,0,by omega,h,.inr ⟨h,rfl,rfl⟩⟩
  ·exact⟨x/2^32,32,zio 2 x 32 q_e h,by omega,.inl ⟨h,rfl,rfl⟩⟩
 obtain⟨m,t,L,P,C⟩:∃m t,nd 2 j=t+nd 2 m/\m<65536/\((65536<=j/\m=j/2^16/\t=16)\/(j<65536/\m=j/\t=0)):=by
  rcases AH j 65536 with h|h
  ·exact⟨j,0,by omega,h,.inr ⟨h,rfl,rfl⟩⟩
  ·exact⟨j/2^16,16,zio 2 j 16 q_e h,by omega,.inl ⟨h,rfl,rfl⟩⟩
 obtain⟨q,A,M,J,E⟩:∃q A,nd 2 m=A+nd 2 q/\q<256/\((256<=m/\q=m/2^8/\A=8)\/(m<256/\q=m/\A=0)):=by
  rcases AH m 256 with h|h
  ·exact⟨m,0,by omega,h,.inr ⟨h,rfl,rfl⟩⟩
  ·exact⟨m/2^8,8,zio 2 m 8 q_e h,by omega,.inl ⟨h,rfl,rfl⟩⟩
 obtain⟨u,hu,I⟩:=zra q J;rw[K,L,M,<-I];repeat' (first|refine s_0 ?_|refine q_k 0 ?_|refine q_k 1 ?_;refine q_v zP ?_)
 refine zb9 (γ:=Unit) (λ_=>[(0,nv j),(2,.int .i64 ((r:Nat):Int))]) (λ_=>[]) (λ_=>True) ?_ ?_
 ·refine zej rfl (λh=>?_) (λh=>?_)
  ·have h:=of_decide_eq_true h;obtain⟨-,rfl,rfl⟩:4294967296<=x/\j=x/2^32/\r=32:=by
    rcases B with c|c
    ·exact c
    ·omega
   repeat' (first|refine s_0 ?_|refine q_k 2 ?_;refine q_x (zed 32 q_e) ?_|refine q_k 3 ?_)
   exact zZ () trivial q_h q_h
  ·have h:=of_decide_eq_false h;obtain⟨-,rfl,rfl⟩:x<4294967296/\j=x/\r=0:=by
    rcases B with c|c
    ·omega
    ·exact c
   repeat' (first|refine zee ?_|refine zai ?_|fail)
   exact zZ () trivial q_h q_h
 rintro - -;repeat' (first|refine s_0 ?_|refine q_k 4 ?_;refine q_v zP ?_)
 refine zb9 (γ:=Unit) (λ_=>[(0,nv m),(2,.int .i64 ((r+t:Nat):Int))]) (λ_=>[]) (λ_=>True) ?_ ?_
 ·refine zej rfl (λh=>?_) (λh=>?_)
  ·have h:=of_decide_eq_true h;obtain⟨-,rfl,rfl⟩:65536<=j/\m=j/2^16/\t=16:=by
    rcases C with c|c
    ·exact c
    ·omega
   repeat' (first|refine s_0 ?_|refine q_k 5 ?_;refine q_x (zed 16 q_e) ?_|refine q_k 6 ?_;refine zaI ?_;refine zb ?_)
   exact zZ () trivial q_h q_h
  ·have h:=of_decide_eq_false h;obtain⟨-,rfl,rfl⟩:j<65536/\m=j/\t=0:=by
    rcases C with c|c
    ·omega
    ·exact c
   repeat' (first|refine zee ?_|refine zai ?_|fail)
   exact zZ () trivial q_h q_h
 rintro - -;repeat' (first|refine s_0 ?_|refine q_k 7 ?_;refine q_v zP ?_)
 refine zb9 (γ:=Unit) (λ_=>[(0,nv q),(2,.int .i64 ((r+t+A:Nat):Int))]) (λ_=>[]) (λ_=>True) ?_ ?_
 ·refine zej rfl (λh=>?_) (λh=>?_)
  ·have h:=of_decide_eq_true h;obtain⟨-,rfl,rfl⟩:256<=m/\q=m/2^8/\A=8:=by
    rcases E with c|c
    ·exact c
    ·omega
   repeat' (first|refine s_0 ?_|refine q_k 8 ?_;refine q_x (zed 8 q_e) ?_|refine q_k 9 ?_;refine zaI ?_;refine zb ?_)
   exact zZ () trivial q_h q_h
  ·have h:=of_decide_eq_false h;obtain⟨-,rfl,rfl⟩:m<256/\q=m/\A=0:=by
    rcases E with c|c
    ·omega
    ·exact c
   repeat' (first|refine zee ?_|refine zai ?_|fail)
   exact zZ () trivial q_h q_h
 rintro - -;have F:IntKind.u8.wrap (q:Int)=(q:Int):=IntWalk.u8_in _ q_o;have H:bits8.toArray[q]?=some u:=by rw[BM];exact hu
 have G:IntKind.i64.wrap ((u.toNat:Nat):Int)=((u.toNat:Nat):Int):=IntWalk.i64_in _ (by have:=u.toNat_lt;omega);have N:=u.toNat_lt;repeat' (first|refine s_0 ?_|refine q_k 10 ?_;refine q_v (zal (hr:=F)) ?_;refine q_v (zN (hv:=Eq.trans (congrArg (λa:Array UInt8=>a[q]?) (show _=bits8.toArray by decide +kernel)) H)) ?_;refine q_v (zal (hr:=G)) ?_;refine zaI ?_;refine zb ?_)
 exact zaw rfl (zr rfl) F2 ⟨congrArg (Value.int .i64) q_o,rfl⟩
theorem zoR(x:Nat)(w:World)(hx:x<18446744073709551616):
  q_G 328 [nv x] w (.int .i64 ((64-nd 2 x:Nat):Int)):=by
 refine zo Tryz.func328 Tryz.ntmps328 ?_;have j:nd 2 x<=64:=zaQ 2 x 64 q_e hx;repeat' (first|refine s_0 ?_|refine q_k 0 ?_|refine q_k 1 ?_;refine q_v (za (hc:=λ_ _ _ _=>(zjC x _ hx))) ?_;refine q_x zH ?_)
 exact zaw rfl (zr rfl) F2 ⟨congrArg (Value.int .i64) q_o,rfl⟩
end Go.Proofs.YtdnlngbjpdbffaaGreatDoor
namespace Go.Nt
theorem zqb(k:Nat):18446744073709551616^k=2^(64*k):=by
 rw[show(18446744073709551616:Nat)=2^64 from rfl,<-B8]
theorem zpQ:∃k,k=1024/\18446744073709551616^16=2^k:=by
 obtain⟨m,j⟩:∃m,m=16:=⟨16,rfl⟩;exact⟨64*m,by omega,by rw[<-zqb,j]⟩
theorem zv7{x i:Nat}(j:i<=1024)(h:x<2^i):x<18446744073709551616^16:=by
 obtain⟨k,m,e⟩:=zpQ;rw[e];exact AG h (AA q_e q_o)
theorem zwP{x i:Nat}(h1:2^i<=x)(h:x<18446744073709551616^16):i<1024:=by
 obtain⟨k,j,e⟩:=zpQ;rw[e] at h;have:i<k:=(Nat.pow_lt_pow_iff_right q_e).1 (Av h1 h);omega
theorem zgU(b t n:Nat)(hb:b=2^t)(h:t*n=1024):18446744073709551616^16=b^n:=by
 obtain⟨k,j,e⟩:=zpQ;rw[e,hb,<-B8,j,h]
theorem zew{x:Nat}(h:x<18446744073709551616^16):nd 2 x<=1024:=by
 obtain⟨k,j,e⟩:=zpQ;rw[e] at h;have:=zaQ 2 x k q_e h;omega
theorem zcV{p k:Nat}(h:p<9223372036854775808):IntKind.i64.wrap ((p:Int).tdiv (k:Int))=((p/k:Nat):Int):=by
 have j:=Bv p k;rw[DE q_o,show((p:Int)/(k:Int))=((p/k:Nat):Int) from rfl];generalize p/k=q at*;exact IntWalk.i64_in _ q_o
theorem zdL(p k:Nat):(p:Int).tmod (k:Int)=((p%k:Nat):Int):=by
 rw[Bu q_o];rfl
end Go.Nt
namespace Go.Proofs.YtdnlngbjpdbffaaGreatDoor
open Go Go.Sy Go.Nt Go.RowKit
attribute [local irreducible] Sy SyL SyX Sy.Fn callFunc zf
theorem zca(x:Nat)(w:World)(hx:x<18446744073709551616^16):
  q_G 241 [zm x] w (.int .i64 ((nd 2 x:Nat):Int)):=by
 refine zo Tryz.func241 Tryz.ntmps241 ?_;have F:=zd x;rcases AD x with h0|h0
 ·subst h0;have m:=λw=>zcz 0 w hx;rw[zbv] at m ⊢;repeat' (first|refine s_0 ?_|refine zg 0 ?_;refine zV ?_;intro _|refine q_k 1 ?_;refine zk ?_;refine q_v (za (hc:=q_c m)) ?_;refine zb ?_|refine q_k 2 ?_;refine zaH ?_|refine q_k 3 ?_)
  exact q_r
 have H:=zaQ 18446744073709551616 x 16 q_e hx;have m:=zaE 18446744073709551616 x q_e;have t:=(zdi 18446744073709551616 q_e x).2;have q:=λw=>zcz x w hx;have A:=zbz x;generalize nd 18446744073709551616 x=n at*;have B:0<n:=by
  rcases AD n with h|h
  ·subst h;rw[Ad] at m;omega
  ·exact h
 have t:=t B;have E:=A (n-1) q_o;have C:nd 2 x=64*(n-1)+nd 2 (x/18446744073709551616^(n-1)):=by
  rw[zqb] at t ⊢;exact zio 2 x _ q_e t
 have j:x/18446744073709551616^(n-1)<18446744073709551616:=by
  rw[AW (AP q_e),A8,<-AJ,show(n-1).succ=n by omega];exact m
 rw[A3 j] at E;have G:=zaQ 2 _ 64 q_e j;rw[C];generalize x/18446744073709551616^(n-1)=d at*;have r:IntKind.i64.wrap ((n:Int)-1)=((n-1:Nat):Int):=q_w;repeat' (first|refine s_0 ?_|refine zg 0 ?_;refine zV ?_;intro _|refine q_k 1 ?_;refine zk ?_;refine q_v (za (hc:=q_c q)) ?_;refine zb ?_|refine q_k 2 ?_;refine zaH ?_|refine q_k 4 ?_;refine q_v (zH (hr:=r)) ?_;refine q_x zas ?_;refine q_x (zH (hr:=r)) ?_;refine zD ?_;refine q_v (zM (hv:=E)) ?_;refine q_v (za (hc:=λ_ _ _ _=>(zjC d _ j))) ?_;refine zaI ?_;refine zb ?_)
 exact zaw rfl (zr rfl) F2 ⟨congrArg (Value.int .i64) q_o,rfl⟩
end Go.Proofs.YtdnlngbjpdbffaaGreatDoor
