/- Products of words: Mul64. -/
import Derived.Test.YtcpjfilcilcekaaGreatDoorYJ09
import Derived.Test.YtcpjfilcilcekaaGreatDoorYJ07
import Derived.Test.YtcpjfilcilcekaaGreatDoorYJ06
set_option linter.all false
section
namespace Go.Proofs.YtcpjfilcilcekaaGreatDoor
open Go Go.Sy Go.Nt Go.RowKit
attribute [local irreducible] Sy SyL SyX Sy.Fn callFunc natC
set_option maxRecDepth 10000
theorem zgA (x y:Nat) (w:World) (hx:x < 18446744073709551616) (hy:y < 18446744073709551616):
  Sy.Fn Tryz.prog 199 [nv x,nv y] w No (Gives (.tuple #[nv (x*y / 18446744073709551616),nv (x*y % 18446744073709551616)])):=by
 refine zk Tryz.func199 rfl Tryz.ntmps199 (by simp) Holds.nil ?_
 obtain ⟨e1,e2,e3,e4⟩:=Lib.mul64_hi x y hx hy
 repeat' (first|refine s_0 ?_|(refine za (id:=0) ?_;refine zd ?_;refine zd ?_)|(refine za (id:=1) ?_;refine zb ?_;refine yv (zgH (a:=x) 32 (by decide) hx) (k:=?_);refine zd ?_)|(refine za (id:=2) ?_;refine zb ?_;refine yv (zcz 32 (by decide)) (k:=?_);refine zd ?_)|(refine za (id:=3) ?_;refine zb ?_;refine yv (zgH (a:=y) 32 (by decide) hy) (k:=?_);refine zd ?_)|(refine za (id:=4) ?_;refine zb ?_;refine yv (zcz 32 (by decide)) (k:=?_);refine zd ?_)|(refine za (id:=5) ?_;refine zb ?_;refine zb ?_;refine yv zeK (k:=?_);refine zd ?_)|(refine za (id:=6) ?_;refine zb ?_;refine zb ?_;refine yv zeK (k:=?_);refine zb ?_;refine yv (zcz 32 (by decide)) (k:=?_);refine yv zcA (k:=?_);refine zd ?_)|(refine za (id:=7) ?_;refine zb ?_;refine yv (zgH 32 (by decide) (Nat.mod_lt _ (by decide))) (k:=?_);refine zd ?_)|(refine za (id:=8) ?_;refine zb ?_;refine yv (zcz 32 (by decide)) (k:=?_);refine zd ?_)|(refine za (id:=9) ?_;refine zb ?_;refine zb ?_;refine zb ?_;refine yv zeK (k:=?_);refine yv zcA (k:=?_);refine zd ?_)|(refine za (id:=10) ?_;refine zb ?_;refine zb ?_;refine yv zeK (k:=?_);refine zb ?_;refine yv zcA (k:=?_);refine zb ?_;refine yv (zcz 32 (by decide)) (k:=?_);refine yv zcA (k:=?_);refine zd ?_)|(refine za (id:=11) ?_;refine zb ?_;refine zb ?_;refine yv zeK (k:=?_);refine zd ?_)|fail)
 refine ret2 rfl (resTmp rfl) (resTmp rfl) SubR.nil ⟨congrArg (λn=>Value.tuple #[nv n,nv (x*y % 18446744073709551616)]) ?_,rfl⟩
 have ha:=Lib.half_mul_le (a:=x / 4294967296) (b:=y / 4294967296) (by omega) (by omega)
 have hb:=Lib.half_mul_le (a:=x / 4294967296) (b:=y % 4294967296) (by omega) (by omega)
 have hc:=Lib.half_mul_le (a:=x % 4294967296) (b:=y / 4294967296) (by omega) (by omega)
 have hd:=Lib.half_mul_le (a:=x % 4294967296) (b:=y % 4294967296) (by omega) (by omega)
 rw [<-e4]
 simp only [show (2:Nat) ^ 32=4294967296 from rfl]
 generalize (x / 4294967296)*(y / 4294967296)=a at *
 generalize (x / 4294967296)*(y % 4294967296)=b at *
 generalize (x % 4294967296)*(y / 4294967296)=c at *
 generalize (x % 4294967296)*(y % 4294967296)=d at *
 omega
end Go.Proofs.YtcpjfilcilcekaaGreatDoor
namespace Go.Proofs.YtcpjfilcilcekaaGreatDoor
open Go Go.Sy Go.Nt Go.RowKit
attribute [local irreducible] Sy SyL SyX Sy.Fn callFunc natC
set_option maxRecDepth 10000
set_option maxHeartbeats 1000000 in
theorem zo3 (x y:Nat) (w:World) (hx:x < 18446744073709551616 ^ 16) (hy:y < 18446744073709551616 ^ 16):
  Sy.Fn Tryz.prog 184 [natV x,natV y] w No (Gives (if x*y < 18446744073709551616 ^ 16 then .tuple #[natV (x*y),.bool true] else .tuple #[natV 0,.bool false])):=by
 refine zk Tryz.func184 rfl Tryz.ntmps184 (by simp) Holds.nil ?_
 have hlx:=ze x
 have hly:=ze y
 repeat' (first|refine s_t ?_|(refine za (id:=0) ?_;(refine zi ?_;intro _);(refine zi ?_;intro _);(refine zi ?_;intro _);refine zd ?_)|(refine za (id:=1) ?_;(refine zi ?_;intro _))|(refine zK (id:=2) 3 [[],[0],[],[0,1,2],[0,1,2,3],[0,1,2,3,4]] mixed ?_ ?_;kernel_rfl;refine zaD ?_;refine dc (λ_ _=>zf (hc:=λ_ _ _ _=>(zbn x _ hx))) (k:=?_);refine zaD ?_;refine zU ?_;refine yv (zf (hc:=λ_ _ _ _=>(zbn y _ hy))) (k:=?_);refine zd ?_;refine zd ?_)|(refine za (id:=3) ?_;refine zb ?_;refine zb ?_)|fail)
 rename_i b2 b3 b4 b6
 have hnx:=zak 18446744073709551616 x 16 (by decide) hx
 have hny:=zak 18446744073709551616 y 16 (by decide) hy
 have hxl:=zae 18446744073709551616 x (by decide)
 have hyl:=zae 18446744073709551616 y (by decide)
 have hgx:=zaQ x
 have hgy:=zaQ y
 have hst:=MulJ.start 18446744073709551616 32 x y (nd 18446744073709551616 x) (nd 18446744073709551616 y) (by decide)
 generalize nd 18446744073709551616 x=n at *
 generalize nd 18446744073709551616 y=m at *
 refine zE (γ:=Nat×List Nat) (λg=>[(2,.pointer (some ⟨b2,0,none⟩)),(3,.pointer (some ⟨b3,0,none⟩)),(4,.pointer (some ⟨b4,0,none⟩)),(5,.bool false),(6,.pointer (some ⟨b6,0,none⟩)),(8,.int .i64 m),(21,.int .i64 n),(22,.int .i64 g.1)])
  (λg=>[.blk b6 237 (g.2.map nv),.blk b4 71 (List.replicate 16 (Value.int IntKind.u64 0)),.blk b3 71 (natC y),.blk b2 71 (natC x)])
  (λg=>g.1<=n/\MulJ 18446744073709551616 32 x y n m g.1 0 g.2 0) (λg=>n - g.1) (0,List.replicate 32 0) ⟨Nat.zero_le _,hst⟩ ?_ ?_ ?_
 ·exact Sub.go
 ·exact SubR.go
 rintro ⟨i,l⟩ ⟨hi,hj⟩
 dsimp only at hi hj ⊢
 by_cases hlt:i < n
 ·repeat' (first|refine s_t ?_|(refine za (id:=4) ?_;refine zN ?_)|(refine za (id:=5) ?_;refine zb ?_;refine zd ?_)|(refine za (id:=6) ?_;refine zd ?_)|(refine za (id:=7) ?_;refine zb ?_;refine zb ?_)|fail)
  refine zE (γ:=Nat×List Nat×Nat) (λg=>[(2,.pointer (some ⟨b2,0,none⟩)),(3,.pointer (some ⟨b3,0,none⟩)),(4,.pointer (some ⟨b4,0,none⟩)),(5,.bool false),(6,.pointer (some ⟨b6,0,none⟩)),(8,.int .i64 m),(21,.int .i64 n),(22,.int .i64 i),(9,.int .i64 i),(10,nv g.2.2),(25,.int .i64 m),(26,.int .i64 g.1)])
   (λg=>[.blk b6 237 (g.2.1.map nv),.blk b4 71 (List.replicate 16 (Value.int IntKind.u64 0)),.blk b3 71 (natC y),.blk b2 71 (natC x)])
   (λg=>g.1<=m/\MulJ 18446744073709551616 32 x y n m i g.1 g.2.1 g.2.2) (λg=>m - g.1) (0,l,0) ⟨Nat.zero_le _,hj⟩ ?_ ?_ ?_
  ·exact Sub.go
  ·exact SubR.go
  rintro ⟨j,l,c⟩ ⟨hj1,hj2⟩
  dsimp only at hj1 hj2 ⊢
  have hll:=hj2.len
  have hml:(l.map nv).length=32:=by rw [List.length_map,hll]
  have hcW:=hj2.car
  by_cases hjl:j < m
  ·have ha:=hgx i (by omega)
   have hd:=hgy j (by omega)
   have hal:x / 18446744073709551616 ^ i % 18446744073709551616 < 18446744073709551616:=Nat.mod_lt _ (by decide)
   have hdl:y / 18446744073709551616 ^ j % 18446744073709551616 < 18446744073709551616:=Nat.mod_lt _ (by decide)
   obtain ⟨u,hu⟩: ∃u,l[i+j]?=some u:=⟨l[i+j]'(by omega),List.getElem?_eq_getElem _⟩
   have huW:=hj2.low u (List.mem_of_getElem? hu)
   have hu':(l.map nv)[i+j]?=some (nv u):=by rw [List.getElem?_map,hu];rfl
   have hadd:IntKind.i64.wrap ((i:Int)+(j:Int))=((i+j:Nat):Int):=by rw [IntWalk.i64_in _ (by omega)];omega
   have hstep:=λz c'=>hj2.step (z:=z) (c':=c') (by omega) hjl hu
   generalize x / 18446744073709551616 ^ i % 18446744073709551616=a at *
   generalize y / 18446744073709551616 ^ j % 18446744073709551616=d at *
   repeat' (first|refine s_t ?_|(refine za (id:=8) ?_;refine zN ?_)|(refine za (id:=9) ?_;refine zb ?_;refine zd ?_)|(refine zK (id:=10) 11 [[],[0],[0,1],[],[3],[3,4],[0,1,2,3,4,5],[0,1,2,3,4,5,6],[0,1,2,3,4,5,6,7],[0,1,2,3,4,5,6,7],[0,1,2,3,4,5,6,7,8],[0,1,2,3,4,5,6,7,8,9,10]] mixed ?_ ?_;kernel_rfl;refine zp ?_;refine zH ?_;refine dc (λ_ _=>zw (hv:=ha)) (k:=?_);refine zp ?_;refine zH ?_;refine dc (λ_ _=>zw (hv:=hd)) (k:=?_);refine dc (λ_ _=>zf (hc:=λ_ _ _ _=>(zgA a d _ hal hdl))) (k:=?_);refine zp ?_;refine za1 ?_;refine za1 ?_;refine zd5 ?_;refine zU ?_;refine zd ?_)|(refine za (id:=11) ?_;refine zd ?_)|(refine za (id:=12) ?_;refine zb ?_;refine zb ?_;refine zb ?_;refine yv (zL (hr:=hadd)) (k:=?_);refine zr ?_;refine yv (zw (hv:=hu')) (k:=?_);refine yv (zbZ (hr:=zbk (a*d % 18446744073709551616) u 0 (by decide))) (k:=?_);refine zb ?_;refine zh ?_;refine zh ?_;refine zd ?_;refine zd ?_)|(refine za (id:=13) ?_;refine zb ?_;refine zb ?_;refine yv zcA (k:=?_);refine zd ?_)|(refine za (id:=14) ?_;refine zb ?_;refine zb ?_;refine yv (zbZ (hr:=zbk ((a*d % 18446744073709551616+u+0) % 18446744073709551616) c 0 (by decide))) (k:=?_);refine zb ?_;refine zh ?_;refine zh ?_;refine zd ?_;refine zd ?_)|(refine za (id:=15) ?_;refine zb ?_;refine zb ?_;refine yv (zL (hr:=hadd)) (k:=?_);refine zb ?_;refine zb ?_;refine zb ?_;refine yv zcA (k:=?_);refine zr ?_;refine zB ?_;refine zd ?_)|(refine zC ?_;first|refine zY ?_|refine zb ?_|fail)|refine za ?_|fail)
   have hP:a*d<=340282366920938463426481119284349108225:=Nat.le_trans (Nat.mul_le_mul (show a<=18446744073709551615 by omega) (show d<=18446744073709551615 by omega)) (by decide)
   generalize a*d=q at *
   obtain ⟨z,hz⟩: ∃z,((q % 18446744073709551616+u+0) % 18446744073709551616+c+0) % 18446744073709551616=z:=⟨_,rfl⟩
   obtain ⟨e,he⟩: ∃e,((q / 18446744073709551616+(q % 18446744073709551616+u+0) / 18446744073709551616) % 18446744073709551616+((q % 18446744073709551616+u+0) % 18446744073709551616+c+0) / 18446744073709551616) % 18446744073709551616=e:=⟨_,rfl⟩
   rw [hz,he]
   refine zy (j+1,l.set (i+j) z,e) ⟨by show j+1<=m;omega,hstep z e (by omega) (by omega) (by omega)⟩ ?_ ?_ ?_
   ·show m - (j+1) < m - j;omega
   ·exact Sub.go
   ·show SubR [.blk b6 237 ((l.set (i+j) z).map nv),.blk b4 71 (List.replicate 16 (Value.int IntKind.u64 0)),.blk b3 71 (natC y),.blk b2 71 (natC x)] _
    rw [List.map_set]
    exact SubR.go
  obtain rfl:j=m:=by omega
  have hadd:IntKind.i64.wrap ((i:Int)+(j:Int))=((i+j:Nat):Int):=by rw [IntWalk.i64_in _ (by omega)];omega
  repeat' (first|refine s_0 ?_|(refine za (id:=8) ?_;refine zN ?_)|(refine za (id:=17) ?_;refine zb ?_;refine zb ?_;refine yv (zL (hr:=hadd)) (k:=?_);refine zb ?_;refine zr ?_;refine zB ?_)|(refine za (id:=18) ?_;refine zY ?_;refine zb ?_)|fail)
  refine zy (i+1,l.set (i+j) c) ⟨by show i+1<=n;omega,hj2.row (by omega) hyl⟩ ?_ ?_ ?_
  ·show n - (i+1) < n - i;omega
  ·exact Sub.go
  ·show SubR [.blk b6 237 ((l.set (i+j) c).map nv),.blk b4 71 (List.replicate 16 (Value.int IntKind.u64 0)),.blk b3 71 (natC y),.blk b2 71 (natC x)] _
   rw [List.map_set]
   exact SubR.go
 obtain rfl:i=n:=by omega
 repeat' (first|refine s_t ?_|(refine za (id:=4) ?_;refine zN ?_)|(refine za (id:=19) ?_;refine zap ?_;refine zq ?_;refine zb ?_)|fail)
 have hxy:=hj.done hxl
 have hll:=hj.len
 have hlow:=hj.low
 have hml:(l.map nv).length=32:=by rw [List.length_map,hll]
 refine zE (γ:=Nat) (λq=>[(4,.pointer (some ⟨b4,0,none⟩)),(6,.pointer (some ⟨b6,0,none⟩)),(73,.slice (some ⟨b6,16,none⟩) 16 16),(74,.int .i64 16),(75,.int .i64 q)])
  (λ_=>[.blk b6 237 (l.map nv),.blk b4 71 (List.replicate 16 (Value.int IntKind.u64 0))])
  (λq=>q<=16/\ ∀p,16<=p->p < 16+q->l[p]?=some 0) (λq=>16 - q) 0 ⟨Nat.zero_le _,λp h1 h2=>absurd h2 (by omega)⟩ ?_ ?_ ?_
 ·exact Sub.go
 ·exact SubR.go2
 rintro q ⟨hq,hz⟩
 by_cases hql:q < 16
 ·obtain ⟨u,hu⟩: ∃u,l[16+q]?=some u:=⟨l[16+q]'(by omega),List.getElem?_eq_getElem _⟩
  have hu':(l.map nv)[16+q]?=some (nv u):=by rw [List.getElem?_map,hu];rfl
  by_cases h0:u=0
  ·subst h0
   repeat' (first|refine s_t ?_|(refine za (id:=20) ?_;refine zN ?_)|(refine za (id:=21) ?_;refine zr ?_;refine yv (zw (hv:=hu')) (k:=?_);refine zd ?_)|(refine za (id:=22) ?_;refine zb ?_;refine zV ?_)|(refine za (id:=24) ?_;refine zY ?_;refine zb ?_)|fail)
   refine zy (q+1) ⟨by omega,λp h1 h2=>?_⟩ ?_ ?_ ?_
   ·rcases Nat.lt_or_ge p (16+q) with h|h
    ·exact hz p h1 h
    ·obtain rfl:p=16+q:=by omega
     exact hu
   ·show 16 - (q+1) < 16 - q;omega
   ·exact Sub.go
   ·exact SubR.go
  ·repeat' (first|refine s_t ?_|(refine za (id:=20) ?_;refine zN ?_)|(refine za (id:=21) ?_;refine zr ?_;refine yv (zw (hv:=hu')) (k:=?_);refine zd ?_)|(refine za (id:=22) ?_;refine zb ?_;refine zV ?_)|(refine za (id:=23) ?_;refine za0 ?_;refine zB ?_;refine zd ?_)|fail)
   have hge:=zcm 18446744073709551616 l (16+q) u 0 hu
   have hpw:18446744073709551616 ^ 16<=u*18446744073709551616 ^ (16+q):=Nat.le_trans (Nat.pow_le_pow_right (by decide) (Nat.le_add_right 16 q)) (Nat.le_mul_of_pos_left _ (by omega))
   rw [if_neg (by omega)]
   exact ret2 rfl (resCells (B:=List.replicate 16 (Value.int IntKind.u64 0)) rfl (ty rfl) rfl Has.go Seg.all rfl) (resTmp rfl) SubR.nil ⟨by rw [<-natV0],rfl⟩
 obtain rfl:q=16:=by omega
 have hz16:l.drop 16=List.replicate 16 0:=by
  apply List.ext_getElem?
  intro p
  rw [List.getElem?_drop,List.getElem?_replicate]
  split
  ·exact hz _ (by omega) (by omega)
  ·exact List.getElem?_eq_none (by omega)
 have htl:(l.take 16).length=16:=by rw [List.length_take];omega
 have htd:=zd0 18446744073709551616 l 16 (by omega)
 rw [hz16,zcu,Nat.mul_zero,Nat.add_zero] at htd
 have hlt:=zcO 18446744073709551616 (l.take 16) (λd hd=>hlow d (List.mem_of_mem_take hd))
 have hdv:=zek 18446744073709551616 (l.take 16) (λd hd=>hlow d (List.mem_of_mem_take hd))
 rw [htl,<-htd,hxy] at hlt hdv
 have hnc:natC (x*y)=(l.map nv).take 16:=by unfold natC;rw [hdv,List.map_take]
 have hsg:Seg (l.map nv) 0 (natC (x*y)):=λj v h=>by
  rw [hnc] at h
  rw [Nat.zero_add]
  rw [List.getElem?_take] at h
  split at h
  ·exact h
  ·cases h
 repeat' (first|refine s_0 ?_|(refine za (id:=20) ?_;refine zN ?_)|(refine za (id:=25) ?_;refine zap ?_;refine yv (zoP (n:=16)) (k:=?_);refine yv (zg (C:=l.map nv) (B:=natC (x*y)) (hv:=hsg) (hz:=(ze (x*y)).symm)) (k:=?_);refine yn (zl (n:=x*y)) (k:=?_);refine zd ?_)|fail)
 rw [if_pos hlt]
 exact ret2 rfl (resCells (B:=natC (x*y)) rfl (ty rfl) rfl Has.go Seg.all (ze _).symm) (resTmp rfl) SubR.nil ⟨rfl,rfl⟩
end Go.Proofs.YtcpjfilcilcekaaGreatDoor
namespace Go.Proofs.YtcpjfilcilcekaaGreatDoor
open Go Go.Sy Go.Nt Go.RowKit
attribute [local irreducible] Sy SyL SyX Sy.Fn callFunc natC
set_option maxRecDepth 10000
theorem zjc (x y:Nat) (w:World) (hx:x < 18446744073709551616 ^ 16) (hy:y < 18446744073709551616 ^ 16):
  Sy.Fn Tryz.prog 170 [natV x,natV y] w No (Gives (if x*y < 18446744073709551616 ^ 16 then .tuple #[natV (x*y),.int .i64 0] else .tuple #[natV 0,.int .i64 7])):=by
 refine zk Tryz.func170 rfl Tryz.ntmps170 (by simp) Holds.nil ?_
 have hlx:=ze x
 have hly:=ze y
 have ht:=λw=>zo3 x y w hx hy
 by_cases h:x*y < 18446744073709551616 ^ 16
 ·simp only [if_pos h] at ht ⊢
  generalize x*y=s at *
  have hls:=ze s
  repeat' (first|refine s_0 ?_|(refine za (id:=0) ?_;(refine zi ?_;intro _);(refine zi ?_;intro _);(refine zi ?_;intro _);refine zd ?_)|(refine za (id:=1) ?_;refine zm ?_;refine zD ?_;refine zm ?_;refine zD ?_;refine yv (zf (hc:=λ_ _ _ _=>(ht _))) (k:=?_);refine zb ?_;refine zh ?_;refine zh ?_;(refine zi ?_;intro _);refine yn (zl (n:=s)) (k:=?_);refine zd ?_)|(refine za (id:=2) ?_;refine zb ?_;refine zal ?_)|(refine za (id:=4) ?_;refine zD ?_;refine yv (zdj (n:=s)) (k:=?_);refine yn (zl (n:=s)) (k:=?_);refine zd ?_)|fail)
  exact ret2 rfl (resCells (B:=natC s) rfl (ty rfl) rfl Has.go Seg.all (ze _).symm) (resTmp rfl) SubR.nil ⟨rfl,rfl⟩
 ·simp only [if_neg h] at ht ⊢
  repeat' (first|refine s_0 ?_|(refine za (id:=0) ?_;(refine zi ?_;intro _);(refine zi ?_;intro _);(refine zi ?_;intro _);refine zd ?_)|(refine za (id:=1) ?_;refine zm ?_;refine zD ?_;refine zm ?_;refine zD ?_;refine yv (zf (hc:=λ_ _ _ _=>(ht _))) (k:=?_);refine zb ?_;refine zh ?_;refine zh ?_;(refine zi ?_;intro _);refine yn (zl (n:=0)) (k:=?_);refine zd ?_)|(refine za (id:=2) ?_;refine zb ?_;refine zal ?_)|(refine za (id:=3) ?_;refine za0 ?_;refine zB ?_;refine zd ?_)|fail)
  exact ret2 rfl (resCells (B:=List.replicate 16 (Value.int IntKind.u64 0)) rfl (ty rfl) rfl Has.go Seg.all rfl) (resTmp rfl) SubR.nil ⟨by rw [<-natV0],rfl⟩
end Go.Proofs.YtcpjfilcilcekaaGreatDoor
end
section
namespace Go.Nt
theorem zfN (b x s:Nat) (hb:2<=b) (h:b ^ s<=x):nd b x=s+nd b (x / b ^ s):=by
 have hp:0 < b ^ s:=Nat.pow_pos (by omega)
 have h1:=zae b (x / b ^ s) hb
 have hq:0 < x / b ^ s:=Nat.div_pos h hp
 have h2:=(zb0 b hb (x / b ^ s)).2
 have hn:0 < nd b (x / b ^ s):=by
  rcases Nat.eq_zero_or_pos (nd b (x / b ^ s)) with h0|h0
  ·rw [h0,Nat.pow_zero] at h1;omega
  ·exact h0
 have h2:=h2 hn
 refine zbz b x _ hb ?_ λ_=>?_
 ·rw [Nat.pow_add,Nat.mul_comm];exact (Nat.div_lt_iff_lt_mul hp).1 h1
 ·rw [show s+nd b (x / b ^ s) - 1=(nd b (x / b ^ s) - 1)+s by omega,Nat.pow_add]
  exact Nat.le_trans (Nat.mul_le_mul_right _ h2) (Nat.div_mul_le_self x _)
def bits8:List UInt8:=[0,1,2,2,3,3,3,3,4,4,4,4,4,4,4,4,5,5,5,5,5,5,5,5,5,5,5,5,5,5,5,5,6,6,6,6,6,6,6,6,6,6,6,6,6,6,6,6,6,6,6,6,6,6,6,6,6,6,6,6,6,6,6,6,7,7,7,7,7,7,7,7,7,7,7,7,7,7,7,7,7,7,7,7,7,7,7,7,7,7,7,7,7,7,7,7,7,7,7,7,7,7,7,7,7,7,7,7,7,7,7,7,7,7,7,7,7,7,7,7,7,7,7,7,7,7,7,7,8,8,8,8,8,8,8,8,8,8,8,8,8,8,8,8,8,8,8,8,8,8,8,8,8,8,8,8,8,8,8,8,8,8,8,8,8,8,8,8,8,8,8,8,8,8,8,8,8,8,8,8,8,8,8,8,8,8,8,8,8,8,8,8,8,8,8,8,8,8,8,8,8,8,8,8,8,8,8,8,8,8,8,8,8,8,8,8,8,8,8,8,8,8,8,8,8,8,8,8,8,8,8,8,8,8,8,8,8,8,8,8,8,8,8,8,8,8,8,8,8,8,8,8,8,8,8,8]
theorem znh: ∀j:Fin 256,∃u,bits8[j.1]?=some u/\j.1 < 2 ^ u.toNat/\(0 < u.toNat->2 ^ (u.toNat - 1)<=j.1):=by decide +kernel
theorem znj (j:Nat) (h:j < 256): ∃u,bits8[j]?=some u/\u.toNat=nd 2 j:=by
 obtain ⟨u,h1,h2,h3⟩:=znh ⟨j,h⟩
 exact ⟨u,h1,(zbz 2 j _ (by decide) h2 h3).symm⟩
end Go.Nt
namespace Go.Proofs.YtcpjfilcilcekaaGreatDoor
open Go Go.Sy Go.Nt Go.RowKit
attribute [local irreducible] Sy SyL SyX Sy.Fn callFunc natC bits8
set_option maxRecDepth 10000
theorem zgU (x:Nat) (w:World) (hx:x < 18446744073709551616):
  Sy.Fn Tryz.prog 142 [nv x] w No (Gives (.int .i64 ((nd 2 x:Nat):Int))):=by
 refine zk Tryz.func142 rfl Tryz.ntmps142 (by simp) Holds.nil ?_
 obtain ⟨x1,n1,e1,hx1,hc1⟩: ∃x1 n1,nd 2 x=n1+nd 2 x1/\x1 < 4294967296/\((4294967296<=x/\x1=x / 2 ^ 32/\n1=32)\/(x < 4294967296/\x1=x/\n1=0)):=by
  rcases Nat.lt_or_ge x 4294967296 with h|h
  ·exact ⟨x,0,by omega,h,.inr ⟨h,rfl,rfl⟩⟩
  ·exact ⟨x / 2 ^ 32,32,zfN 2 x 32 (by decide) h,by omega,.inl ⟨h,rfl,rfl⟩⟩
 obtain ⟨x2,n2,e2,hx2,hc2⟩: ∃x2 n2,nd 2 x1=n2+nd 2 x2/\x2 < 65536/\((65536<=x1/\x2=x1 / 2 ^ 16/\n2=16)\/(x1 < 65536/\x2=x1/\n2=0)):=by
  rcases Nat.lt_or_ge x1 65536 with h|h
  ·exact ⟨x1,0,by omega,h,.inr ⟨h,rfl,rfl⟩⟩
  ·exact ⟨x1 / 2 ^ 16,16,zfN 2 x1 16 (by decide) h,by omega,.inl ⟨h,rfl,rfl⟩⟩
 obtain ⟨x3,n3,e3,hx3,hc3⟩: ∃x3 n3,nd 2 x2=n3+nd 2 x3/\x3 < 256/\((256<=x2/\x3=x2 / 2 ^ 8/\n3=8)\/(x2 < 256/\x3=x2/\n3=0)):=by
  rcases Nat.lt_or_ge x2 256 with h|h
  ·exact ⟨x2,0,by omega,h,.inr ⟨h,rfl,rfl⟩⟩
  ·exact ⟨x2 / 2 ^ 8,8,zfN 2 x2 8 (by decide) h,by omega,.inl ⟨h,rfl,rfl⟩⟩
 obtain ⟨u,hu,hun⟩:=znj x3 hx3
 rw [e1,e2,e3,<-hun]
 repeat' (first|refine s_0 ?_|(refine za (id:=0) ?_;refine zd ?_)|(refine za (id:=1) ?_;refine zb ?_;refine zac ?_)|fail)
 refine zaJ (γ:=Unit) (λ_=>[(0,nv x1),(2,.int .i64 ((n1:Nat):Int))]) (λ_=>[]) (λ_=>True) ?_ ?_
 ·refine zbe rfl (λh=>?_) (λh=>?_)
  ·have h:=of_decide_eq_true h
   obtain ⟨-,rfl,rfl⟩:4294967296<=x/\x1=x / 2 ^ 32/\n1=32:=by
    rcases hc1 with c|c
    ·exact c
    ·omega
   repeat' (first|refine s_0 ?_|(refine za (id:=2) ?_;refine zb ?_;refine yv (zcz 32 (by decide)) (k:=?_);refine zd ?_)|(refine za (id:=3) ?_;refine zd ?_)|fail)
   exact zO () trivial (by exact Sub.go) (by exact SubR.go)
  ·have h:=of_decide_eq_false h
   obtain ⟨-,rfl,rfl⟩:x < 4294967296/\x1=x/\n1=0:=by
    rcases hc1 with c|c
    ·omega
    ·exact c
   repeat' (first|refine zbt ?_|refine zR ?_|fail)
   exact zO () trivial (by exact Sub.go) (by exact SubR.go)
 rintro - -
 repeat' (first|refine s_0 ?_|(refine za (id:=4) ?_;refine zb ?_;refine zac ?_)|fail)
 refine zaJ (γ:=Unit) (λ_=>[(0,nv x2),(2,.int .i64 ((n1+n2:Nat):Int))]) (λ_=>[]) (λ_=>True) ?_ ?_
 ·refine zbe rfl (λh=>?_) (λh=>?_)
  ·have h:=of_decide_eq_true h
   obtain ⟨-,rfl,rfl⟩:65536<=x1/\x2=x1 / 2 ^ 16/\n2=16:=by
    rcases hc2 with c|c
    ·exact c
    ·omega
   repeat' (first|refine s_0 ?_|(refine za (id:=5) ?_;refine zb ?_;refine yv (zcz 16 (by decide)) (k:=?_);refine zd ?_)|(refine za (id:=6) ?_;refine zb ?_;refine zY ?_;refine zd ?_)|fail)
   exact zO () trivial (by exact Sub.go) (by exact SubR.go)
  ·have h:=of_decide_eq_false h
   obtain ⟨-,rfl,rfl⟩:x1 < 65536/\x2=x1/\n2=0:=by
    rcases hc2 with c|c
    ·omega
    ·exact c
   repeat' (first|refine zbt ?_|refine zR ?_|fail)
   exact zO () trivial (by exact Sub.go) (by exact SubR.go)
 rintro - -
 repeat' (first|refine s_0 ?_|(refine za (id:=7) ?_;refine zb ?_;refine zac ?_)|fail)
 refine zaJ (γ:=Unit) (λ_=>[(0,nv x3),(2,.int .i64 ((n1+n2+n3:Nat):Int))]) (λ_=>[]) (λ_=>True) ?_ ?_
 ·refine zbe rfl (λh=>?_) (λh=>?_)
  ·have h:=of_decide_eq_true h
   obtain ⟨-,rfl,rfl⟩:256<=x2/\x3=x2 / 2 ^ 8/\n3=8:=by
    rcases hc3 with c|c
    ·exact c
    ·omega
   repeat' (first|refine s_0 ?_|(refine za (id:=8) ?_;refine zb ?_;refine yv (zcz 8 (by decide)) (k:=?_);refine zd ?_)|(refine za (id:=9) ?_;refine zb ?_;refine zY ?_;refine zd ?_)|fail)
   exact zO () trivial (by exact Sub.go) (by exact SubR.go)
  ·have h:=of_decide_eq_false h
   obtain ⟨-,rfl,rfl⟩:x2 < 256/\x3=x2/\n3=0:=by
    rcases hc3 with c|c
    ·omega
    ·exact c
   repeat' (first|refine zbt ?_|refine zR ?_|fail)
   exact zO () trivial (by exact Sub.go) (by exact SubR.go)
 rintro - -
 have hcv:IntKind.u8.wrap (x3:Int)=(x3:Int):=IntWalk.u8_in _ (by omega)
 have hu':bits8.toArray[x3]?=some u:=by rw [List.getElem?_toArray];exact hu
 have hcw:IntKind.i64.wrap ((u.toNat:Nat):Int)=((u.toNat:Nat):Int):=IntWalk.i64_in _ (by have:=u.toNat_lt;omega)
 have hul:=u.toNat_lt
 repeat' (first|refine s_0 ?_|(refine za (id:=10) ?_;refine zb ?_;refine zb ?_;refine yv (zZ (hr:=hcv)) (k:=?_);refine yv (zad (hv:=Eq.trans (congrArg (λa:Array UInt8=>a[x3]?) (show _=bits8.toArray by decide +kernel)) hu')) (k:=?_);refine yv (zZ (hr:=hcw)) (k:=?_);refine zY ?_;refine zd ?_)|fail)
 exact ret1 rfl (resTmp rfl) SubR.nil ⟨congrArg (Value.int .i64) (by omega),rfl⟩
theorem zle (x:Nat) (w:World) (hx:x < 18446744073709551616):
  Sy.Fn Tryz.prog 192 [nv x] w No (Gives (.int .i64 ((64 - nd 2 x:Nat):Int))):=by
 refine zk Tryz.func192 rfl Tryz.ntmps192 (by simp) Holds.nil ?_
 have hn:nd 2 x<=64:=zak 2 x 64 (by decide) hx
 repeat' (first|refine s_0 ?_|(refine za (id:=0) ?_;refine zd ?_)|(refine za (id:=1) ?_;refine zb ?_;refine yv (zf (hc:=λ_ _ _ _=>(zgU x _ hx))) (k:=?_);refine zdf ?_;refine zd ?_)|fail)
 exact ret1 rfl (resTmp rfl) SubR.nil ⟨congrArg (Value.int .i64) (by omega),rfl⟩
end Go.Proofs.YtcpjfilcilcekaaGreatDoor
namespace Go.Nt
theorem wpow (k:Nat):18446744073709551616 ^ k=2 ^ (64*k):=by
 rw [show (18446744073709551616:Nat)=2 ^ 64 from rfl,<-Nat.pow_mul]
theorem zlD: ∃k,k=1024/\18446744073709551616 ^ 16=2 ^ k:=by
 obtain ⟨m,hm⟩: ∃m,m=16:=⟨16,rfl⟩
 exact ⟨64*m,by omega,by rw [<-wpow,hm]⟩
theorem zrc {x i:Nat}(hi:i<=1024) (h:x < 2 ^ i):x < 18446744073709551616 ^ 16:=by
 obtain ⟨k,hk,e⟩:=zlD
 rw [e]
 exact Nat.lt_of_lt_of_le h (Nat.pow_le_pow_right (by decide) (by omega))
theorem zrq {x i:Nat}(h1:2 ^ i<=x) (h:x < 18446744073709551616 ^ 16):i < 1024:=by
 obtain ⟨k,hk,e⟩:=zlD
 rw [e] at h
 have:i < k:=(Nat.pow_lt_pow_iff_right (by decide)).1 (Nat.lt_of_le_of_lt h1 h)
 omega
theorem zez (b t n:Nat) (hb:b=2 ^ t) (h:t*n=1024):18446744073709551616 ^ 16=b ^ n:=by
 obtain ⟨k,hk,e⟩:=zlD
 rw [e,hb,<-Nat.pow_mul,hk,h]
theorem zcP {x:Nat}(h:x < 18446744073709551616 ^ 16):nd 2 x<=1024:=by
 obtain ⟨k,hk,e⟩:=zlD
 rw [e] at h
 have:=zak 2 x k (by decide) h
 omega
theorem quoI {p k:Nat}(h:p < 9223372036854775808):IntKind.i64.wrap ((p:Int).tdiv (k:Int))=((p / k:Nat):Int):=by
 have h1:=Nat.div_le_self p k
 rw [Int.tdiv_eq_ediv_of_nonneg (by omega),show ((p:Int) / (k:Int))=((p / k:Nat):Int) from rfl]
 generalize p / k=q at *
 exact IntWalk.i64_in _ (by omega)
theorem remI (p k:Nat):(p:Int).tmod (k:Int)=((p % k:Nat):Int):=by
 rw [Int.tmod_eq_emod_of_nonneg (by omega)];rfl
end Go.Nt
namespace Go.Proofs.YtcpjfilcilcekaaGreatDoor
open Go Go.Sy Go.Nt Go.RowKit
attribute [local irreducible] Sy SyL SyX Sy.Fn callFunc natC
set_option maxRecDepth 10000
theorem zbd (x:Nat) (w:World) (hx:x < 18446744073709551616 ^ 16):
  Sy.Fn Tryz.prog 109 [natV x] w No (Gives (.int .i64 ((nd 2 x:Nat):Int))):=by
 refine zk Tryz.func109 rfl Tryz.ntmps109 (by simp) Holds.nil ?_
 have hlx:=ze x
 rcases Nat.eq_zero_or_pos x with h0|h0
 ·subst h0
  have hl:=λw=>zbn 0 w hx
  rw [zaY] at hl ⊢
  repeat' (first|refine s_0 ?_|(refine za (id:=0) ?_;(refine zi ?_;intro _);refine zd ?_)|(refine za (id:=1) ?_;refine zm ?_;refine zD ?_;refine yv (zf (hc:=λ_ _ _ _=>(hl _))) (k:=?_);refine zd ?_)|(refine za (id:=2) ?_;refine zb ?_;refine zX ?_)|(refine za (id:=3) ?_;refine zd ?_)|fail)
  exact ret1 rfl (resTmp rfl) SubR.nil ⟨rfl,rfl⟩
 have hn:=zak 18446744073709551616 x 16 (by decide) hx
 have hl:=zae 18446744073709551616 x (by decide)
 have hs:=(zb0 18446744073709551616 (by decide) x).2
 have hlen:=λw=>zbn x w hx
 have hgx:=zaQ x
 generalize nd 18446744073709551616 x=n at *
 have hn0:0 < n:=by
  rcases Nat.eq_zero_or_pos n with h|h
  ·subst h;rw [Nat.pow_zero] at hl;omega
  ·exact h
 have hs:=hs hn0
 have hd:=hgx (n - 1) (by omega)
 have hnd:nd 2 x=64*(n - 1)+nd 2 (x / 18446744073709551616 ^ (n - 1)):=by
  rw [wpow] at hs ⊢
  exact zfN 2 x _ (by decide) hs
 have hdl:x / 18446744073709551616 ^ (n - 1) < 18446744073709551616:=by
  rw [Nat.div_lt_iff_lt_mul (Nat.pow_pos (by decide)),Nat.mul_comm,<-Nat.pow_succ,show (n - 1).succ=n by omega]
  exact hl
 rw [Nat.mod_eq_of_lt hdl] at hd
 have hn2:=zak 2 _ 64 (by decide) hdl
 rw [hnd]
 generalize x / 18446744073709551616 ^ (n - 1)=d at *
 have hs1:IntKind.i64.wrap ((n:Int) - 1)=((n - 1:Nat):Int):=by rw [IntWalk.i64_in _ (by omega)];omega
 repeat' (first|refine s_0 ?_|(refine za (id:=0) ?_;(refine zi ?_;intro _);refine zd ?_)|(refine za (id:=1) ?_;refine zm ?_;refine zD ?_;refine yv (zf (hc:=λ_ _ _ _=>(hlen _))) (k:=?_);refine zd ?_)|(refine za (id:=2) ?_;refine zb ?_;refine zX ?_)|(refine za (id:=4) ?_;refine zb ?_;refine yv (zJ (hr:=hs1)) (k:=?_);refine zdh ?_;refine zb ?_;refine yv (zJ (hr:=hs1)) (k:=?_);refine zm ?_;refine zr ?_;refine yv (zw (hv:=hd)) (k:=?_);refine yv (zf (hc:=λ_ _ _ _=>(zgU d _ hdl))) (k:=?_);refine zY ?_;refine zd ?_)|fail)
 exact ret1 rfl (resTmp rfl) SubR.nil ⟨congrArg (Value.int .i64) (by omega),rfl⟩
end Go.Proofs.YtcpjfilcilcekaaGreatDoor
end
