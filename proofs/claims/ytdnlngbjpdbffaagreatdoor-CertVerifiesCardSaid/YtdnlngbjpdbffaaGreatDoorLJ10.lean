/- Products of words: Mul64. -/
import Derived.Test.YtdnlngbjpdbffaaGreatDoorLJ09
import Derived.Test.YtdnlngbjpdbffaaGreatDoorLJ08
import Derived.Test.YtdnlngbjpdbffaaGreatDoorLJ07
set_option maxHeartbeats 1000000
set_option maxRecDepth 10000
set_option linter.all false
section
namespace Go.Proofs.YtdnlngbjpdbffaaGreatDoor
open Go Go.Sy Go.Nt Go.RowKit
attribute [local irreducible] Sy SyL SyX Sy.Fn callFunc natC
theorem zgw (x y:Nat) (w:World) (hx:x < 18446744073709551616) (hy:y < 18446744073709551616):
  Sy.Fn Tryz.prog 333 [nv x,nv y] w No (Gives (.tuple #[nv (x*y / 18446744073709551616),nv (x*y % 18446744073709551616)])):=by
 refine zg Tryz.func333 rfl Tryz.ntmps333 q_p Holds.nil ?_;obtain ⟨e1,e2,e3,e4⟩:=Lib.mul64_hi x y hx hy;repeat' (first|refine s_0 ?_|(refine zb 0 (za ?_))|(refine zb 1 (za ?_);refine yv (zgn (a:=x) 32 q_e hx) (k:=za ?_))|(refine zb 2 (za ?_);refine yv (zcz 32 q_e) (k:=za ?_))|(refine zb 3 (za ?_);refine yv (zgn (a:=y) 32 q_e hy) (k:=za ?_))|(refine zb 4 (za ?_);refine yv (zcz 32 q_e) (k:=za ?_))|(refine zb 5 (za ?_);refine yv zeF (k:=za ?_))|(refine zb 6 (za ?_);refine yv zeF (k:=za ?_);refine yv (zcz 32 q_e) (k:=?_);refine yv zcI (k:=za ?_))|(refine zb 7 (za ?_);refine yv (zgn 32 q_e (Nat.mod_lt _ q_e)) (k:=za ?_))|(refine zb 8 (za ?_);refine yv (zcz 32 q_e) (k:=za ?_))|(refine zb 9 (za ?_);refine yv zeF (k:=?_);refine yv zcI (k:=za ?_))|(refine zb 10 (za ?_);refine yv zeF (k:=za ?_);refine yv zcI (k:=za ?_);refine yv (zcz 32 q_e) (k:=?_);refine yv zcI (k:=za ?_))|(refine zb 11 (za ?_);refine yv zeF (k:=za ?_)))
 refine ret2 rfl (resTmp rfl) (resTmp rfl) SubR.nil ⟨congrArg (λn=>Value.tuple #[nv n,nv (x*y % 18446744073709551616)]) ?_,rfl⟩;have ha:=Lib.half_mul_le (a:=x / 4294967296) (b:=y / 4294967296) q_o q_o;have hb:=Lib.half_mul_le (a:=x / 4294967296) (b:=y % 4294967296) q_o q_o;have hc:=Lib.half_mul_le (a:=x % 4294967296) (b:=y / 4294967296) q_o q_o;have hd:=Lib.half_mul_le (a:=x % 4294967296) (b:=y % 4294967296) q_o q_o;rw [<-e4];simp only [show (2:Nat) ^ 32=4294967296 from rfl];generalize (x / 4294967296)*(y / 4294967296)=a at *;generalize (x / 4294967296)*(y % 4294967296)=b at *;generalize (x % 4294967296)*(y / 4294967296)=c at *;generalize (x % 4294967296)*(y % 4294967296)=d at *;omega
theorem zps (x y:Nat) (w:World) (hx:x < 18446744073709551616 ^ 16) (hy:y < 18446744073709551616 ^ 16):
  Sy.Fn Tryz.prog 321 [natV x,natV y] w No (Gives (if x*y < 18446744073709551616 ^ 16 then .tuple #[natV (x*y),.bool true] else .tuple #[natV 0,.bool false])):=by
 refine zg Tryz.func321 rfl Tryz.ntmps321 q_p Holds.nil ?_;have hlx:=ze x;have hly:=ze y;repeat' (first|refine s_t ?_|(refine zb 0 ?_;refine zj ?_;intro _;refine zj ?_;intro _;refine zO ?_;intro _)|(refine zb 1 ?_;refine zj ?_;intro _)|(refine zM (id:=2) 3 [[],[0],[],[0,1,2],[0,1,2,3],[0,1,2,3,4]] mixed ?_ ?_;kernel_rfl;refine zal ?_;refine dc (λ_ _=>zd (hc:=λ_ _ _ _=>(zbu x _ hx))) (k:=?_);refine zal ?_;refine zY ?_;refine yv (zd (hc:=λ_ _ _ _=>(zbu y _ hy))) (k:=?_);refine zx ?_;refine zx ?_)|(refine zb 3 (za ?_)))
 rename_i b2 b3 b4 b6;have hnx:=zao 18446744073709551616 x 16 q_e hx;have hny:=zao 18446744073709551616 y 16 q_e hy;have hxl:=zai 18446744073709551616 x q_e;have hyl:=zai 18446744073709551616 y q_e;have hgx:=zaK x;have hgy:=zaK y;have hst:=MulJ.start 18446744073709551616 32 x y (nd 18446744073709551616 x) (nd 18446744073709551616 y) q_e;generalize nd 18446744073709551616 x=n at *;generalize nd 18446744073709551616 y=m at *;refine zy (γ:=Nat×List Nat) (λg=>[(2,.pointer (some ⟨b2,0,none⟩)),(3,.pointer (some ⟨b3,0,none⟩)),(4,.pointer (some ⟨b4,0,none⟩)),(5,.bool false),(6,.pointer (some ⟨b6,0,none⟩)),(8,.int .i64 m),(21,.int .i64 n),(22,.int .i64 g.1)])
  (λg=>[.blk b6 336 (g.2.map nv),.blk b4 131 (List.replicate 16 (Value.int IntKind.u64 0)),.blk b3 131 (natC y),.blk b2 131 (natC x)])
  (λg=>g.1<=n/\MulJ 18446744073709551616 32 x y n m g.1 0 g.2 0) (λg=>n - g.1) (0,List.replicate 32 0) ⟨Nat.zero_le _,hst⟩ ?_ ?_ ?_
 ·exact q_h
 ·exact q_h
 rintro ⟨i,l⟩ ⟨hi,hj⟩;dsimp only at hi hj ⊢;by_cases hlt:i < n
 ·repeat' (first|refine s_t ?_|(refine zb 4 ?_;refine zL ?_)|(refine zB [5,6,7] ?_;refine za ?_))
  refine zy (γ:=Nat×List Nat×Nat) (λg=>[(2,.pointer (some ⟨b2,0,none⟩)),(3,.pointer (some ⟨b3,0,none⟩)),(4,.pointer (some ⟨b4,0,none⟩)),(5,.bool false),(6,.pointer (some ⟨b6,0,none⟩)),(8,.int .i64 m),(21,.int .i64 n),(22,.int .i64 i),(9,.int .i64 i),(10,nv g.2.2),(25,.int .i64 m),(26,.int .i64 g.1)])
   (λg=>[.blk b6 336 (g.2.1.map nv),.blk b4 131 (List.replicate 16 (Value.int IntKind.u64 0)),.blk b3 131 (natC y),.blk b2 131 (natC x)])
   (λg=>g.1<=m/\MulJ 18446744073709551616 32 x y n m i g.1 g.2.1 g.2.2) (λg=>m - g.1) (0,l,0) ⟨Nat.zero_le _,hj⟩ ?_ ?_ ?_
  ·exact q_h
  ·exact q_h
  rintro ⟨j,l,c⟩ ⟨hj1,hj2⟩;dsimp only at hj1 hj2 ⊢;have hll:=hj2.len;have hml:(l.map nv).length=32:=by rw [List.length_map,hll]
  have hcW:=hj2.car;by_cases hjl:j < m
  ·have ha:=hgx i q_o;have hd:=hgy j q_o;have hal:x / 18446744073709551616 ^ i % 18446744073709551616 < 18446744073709551616:=Nat.mod_lt _ q_e;have hdl:y / 18446744073709551616 ^ j % 18446744073709551616 < 18446744073709551616:=Nat.mod_lt _ q_e;obtain ⟨u,hu⟩: ∃u,l[i+j]?=some u:=⟨l[i+j]'q_o,List.getElem?_eq_getElem _⟩;have huW:=hj2.low u (List.mem_of_getElem? hu);have hu':(l.map nv)[i+j]?=some (nv u):=by rw [List.getElem?_map,hu];rfl
   have hadd:IntKind.i64.wrap ((i:Int)+(j:Int))=((i+j:Nat):Int):=q_w;have hstep:=λz c'=>hj2.step (z:=z) (c':=c') q_o hjl hu;generalize x / 18446744073709551616 ^ i % 18446744073709551616=a at *;generalize y / 18446744073709551616 ^ j % 18446744073709551616=d at *;repeat' (first|refine s_t ?_|(refine zb 8 ?_;refine zL ?_)|(refine zB [9,11] ?_;refine za ?_)|(refine zM (id:=10) 11 [[],[0],[0,1],[],[3],[3,4],[0,1,2,3,4,5],[0,1,2,3,4,5,6],[0,1,2,3,4,5,6,7],[0,1,2,3,4,5,6,7],[0,1,2,3,4,5,6,7,8],[0,1,2,3,4,5,6,7,8,9,10]] mixed ?_ ?_;kernel_rfl;refine zk ?_;refine zK ?_;refine dc (λ_ _=>zC (hv:=ha)) (k:=?_);refine zk ?_;refine zK ?_;refine dc (λ_ _=>zC (hv:=hd)) (k:=?_);refine dc (λ_ _=>zd (hc:=λ_ _ _ _=>(zgw a d _ hal hdl))) (k:=?_);refine zk ?_;refine zbO ?_;refine zbO ?_;refine zgO ?_;refine zY ?_;refine zx ?_)|(refine zb 12 (za ?_);refine yv (zu (hr:=hadd)) (k:=?_);refine zw ?_;refine yv (zC (hv:=hu')) (k:=?_);refine yv (zbM (hr:=zbq (a*d % 18446744073709551616) u 0 q_e)) (k:=za ?_))|(refine zb 13 (za ?_);refine yv zcI (k:=za ?_))|(refine zb 14 (za ?_);refine yv (zbM (hr:=zbq ((a*d % 18446744073709551616+u+0) % 18446744073709551616) c 0 q_e)) (k:=za ?_))|(refine zb 15 (za ?_);refine yv (zu (hr:=hadd)) (k:=za ?_);refine yv zcI (k:=?_);refine zw ?_;refine zI ?_;refine za ?_)|(refine zP ?_;first|refine zaj ?_|refine zaH ?_|fail)|refine zbc ?_)
   have hP:a*d<=340282366920938463426481119284349108225:=Nat.le_trans (Nat.mul_le_mul (show a<=18446744073709551615 by omega) (show d<=18446744073709551615 by omega)) q_e;generalize a*d=q at *;obtain ⟨z,hz⟩: ∃z,((q % 18446744073709551616+u+0) % 18446744073709551616+c+0) % 18446744073709551616=z:=⟨_,rfl⟩;obtain ⟨e,he⟩: ∃e,((q / 18446744073709551616+(q % 18446744073709551616+u+0) / 18446744073709551616) % 18446744073709551616+((q % 18446744073709551616+u+0) % 18446744073709551616+c+0) / 18446744073709551616) % 18446744073709551616=e:=⟨_,rfl⟩;rw [hz,he];refine zq (j+1,l.set (i+j) z,e) ⟨by show j+1<=m;omega,hstep z e q_o q_o q_o⟩ ?_ ?_ ?_
   ·show m - (j+1) < m - j;omega
   ·exact q_h
   ·show SubR [.blk b6 336 ((l.set (i+j) z).map nv),.blk b4 131 (List.replicate 16 (Value.int IntKind.u64 0)),.blk b3 131 (natC y),.blk b2 131 (natC x)] _;rw [List.map_set];exact q_h
  obtain rfl:j=m:=q_o;have hadd:IntKind.i64.wrap ((i:Int)+(j:Int))=((i+j:Nat):Int):=q_w;repeat' (first|refine s_0 ?_|(refine zb 8 ?_;refine zL ?_)|(refine zb 17 (za ?_);refine yv (zu (hr:=hadd)) (k:=za ?_);refine zw ?_;refine zI ?_)|(refine zb 18 ?_;refine zaj ?_;refine za ?_))
  refine zq (i+1,l.set (i+j) c) ⟨by show i+1<=n;omega,hj2.row q_o hyl⟩ ?_ ?_ ?_
  ·show n - (i+1) < n - i;omega
  ·exact q_h
  ·show SubR [.blk b6 336 ((l.set (i+j) c).map nv),.blk b4 131 (List.replicate 16 (Value.int IntKind.u64 0)),.blk b3 131 (natC y),.blk b2 131 (natC x)] _;rw [List.map_set];exact q_h
 obtain rfl:i=n:=q_o;repeat' (first|refine s_t ?_|(refine zb 4 ?_;refine zL ?_)|(refine zb 19 ?_;refine zbv ?_;refine za ?_))
 have hxy:=hj.done hxl;have hll:=hj.len;have hlow:=hj.low;have hml:(l.map nv).length=32:=by rw [List.length_map,hll]
 refine zy (γ:=Nat) (λq=>[(4,.pointer (some ⟨b4,0,none⟩)),(6,.pointer (some ⟨b6,0,none⟩)),(73,.slice (some ⟨b6,16,none⟩) 16 16),(74,.int .i64 16),(75,.int .i64 q)])
  (λ_=>[.blk b6 336 (l.map nv),.blk b4 131 (List.replicate 16 (Value.int IntKind.u64 0))])
  (λq=>q<=16/\ ∀p,16<=p->p < 16+q->l[p]?=some 0) (λq=>16 - q) 0 ⟨Nat.zero_le _,λp h1 h2=>absurd h2 q_o⟩ ?_ ?_ ?_
 ·exact q_h
 ·exact q_h
 rintro q ⟨hq,hz⟩;by_cases hql:q < 16
 ·obtain ⟨u,hu⟩: ∃u,l[16+q]?=some u:=⟨l[16+q]'q_o,List.getElem?_eq_getElem _⟩;have hu':(l.map nv)[16+q]?=some (nv u):=by rw [List.getElem?_map,hu];rfl
  by_cases h0:u=0
  ·subst h0;repeat' (first|refine s_t ?_|(refine zb 20 ?_;refine zL ?_)|(refine zb 21 ?_;refine zw ?_;refine yv (zC (hv:=hu')) (k:=za ?_))|(refine zb 22 (za ?_);refine z8 ?_)|(refine zb 24 ?_;refine zaj ?_;refine za ?_))
   refine zq (q+1) ⟨by omega,λp h1 h2=>?_⟩ ?_ ?_ ?_
   ·rcases Nat.lt_or_ge p (16+q) with h|h
    ·exact hz p h1 h
    ·obtain rfl:p=16+q:=q_o;exact hu
   ·show 16 - (q+1) < 16 - q;omega
   ·exact q_h
   ·exact q_h
  ·repeat' (first|refine s_t ?_|(refine zb 20 ?_;refine zL ?_)|(refine zb 21 ?_;refine zw ?_;refine yv (zC (hv:=hu')) (k:=za ?_))|(refine zb 22 (za ?_);refine z8 ?_)|(refine zb 23 ?_;refine za4 ?_;refine zI ?_;refine za ?_))
   have hge:=zck 18446744073709551616 l (16+q) u 0 hu;have hpw:18446744073709551616 ^ 16<=u*18446744073709551616 ^ (16+q):=Nat.le_trans (Nat.pow_le_pow_right q_e (Nat.le_add_right 16 q)) (Nat.le_mul_of_pos_left _ q_o);rw [if_neg q_o];exact ret2 rfl (resCells (B:=List.replicate 16 (Value.int IntKind.u64 0)) rfl (ty rfl) rfl Has.go Seg.all rfl) (resTmp rfl) SubR.nil ⟨by rw [<-natV0],rfl⟩
 obtain rfl:q=16:=q_o;have hz16:l.drop 16=List.replicate 16 0:=by
  apply List.ext_getElem?;intro p;rw [List.getElem?_drop,List.getElem?_replicate];split
  ·exact hz _ q_o q_o
  ·exact List.getElem?_eq_none q_o
 have htl:(l.take 16).length=16:=by rw [List.length_take];omega
 have htd:=zdV 18446744073709551616 l 16 q_o;rw [hz16,zcw,Nat.mul_zero,Nat.add_zero] at htd;have hlt:=zcS 18446744073709551616 (l.take 16) (λd hd=>hlow d (List.mem_of_mem_take hd));have hdv:=zef 18446744073709551616 (l.take 16) (λd hd=>hlow d (List.mem_of_mem_take hd));rw [htl,<-htd,hxy] at hlt hdv;have hnc:natC (x*y)=(l.map nv).take 16:=by unfold natC;rw [hdv,List.map_take]
 have hsg:Seg (l.map nv) 0 (natC (x*y)):=λj v h=>by
  rw [hnc] at h;rw [Nat.zero_add];rw [List.getElem?_take] at h;split at h
  ·exact h
  ·cases h
 repeat' (first|refine s_0 ?_|(refine zb 20 ?_;refine zL ?_)|(refine zb 25 ?_;refine zbv ?_;refine yv (zo4 (n:=16)) (k:=?_);refine yv (zf (C:=l.map nv) (B:=natC (x*y)) (hv:=hsg) (hz:=(ze (x*y)).symm)) (k:=?_);refine yn (zi (n:=x*y)) (k:=za ?_)))
 rw [if_pos hlt];exact ret2 rfl (resCells (B:=natC (x*y)) rfl (ty rfl) rfl Has.go Seg.all (ze _).symm) (resTmp rfl) SubR.nil ⟨rfl,rfl⟩
theorem zjp (x y:Nat) (w:World) (hx:x < 18446744073709551616 ^ 16) (hy:y < 18446744073709551616 ^ 16):
  Sy.Fn Tryz.prog 291 [natV x,natV y] w No (Gives (if x*y < 18446744073709551616 ^ 16 then .tuple #[natV (x*y),.int .i64 0] else .tuple #[natV 0,.int .i64 7])):=by
 refine zg Tryz.func291 rfl Tryz.ntmps291 q_p Holds.nil ?_;have hlx:=ze x;have hly:=ze y;have ht:=λw=>zps x y w hx hy;by_cases h:x*y < 18446744073709551616 ^ 16
 ·simp only [if_pos h] at ht ⊢;generalize x*y=s at *;have hls:=ze s;repeat' (first|refine s_0 ?_|(refine zb 0 ?_;refine zj ?_;intro _;refine zj ?_;intro _;refine zO ?_;intro _)|(refine zb 1 (za ?_);refine zm ?_;refine za ?_;refine zm ?_;refine yv (zd (hc:=λ_ _ _ _=>(ht _))) (k:=?_);refine za ?_;refine zj ?_;intro _;refine yn (zi (n:=s)) (k:=za ?_))|(refine zb 2 (za ?_))|(refine zb 4 ?_;refine zm ?_;refine yv (zdp (n:=s)) (k:=?_);refine yn (zi (n:=s)) (k:=za ?_)))
  exact ret2 rfl (resCells (B:=natC s) rfl (ty rfl) rfl Has.go Seg.all (ze _).symm) (resTmp rfl) SubR.nil ⟨rfl,rfl⟩
 ·simp only [if_neg h] at ht ⊢;repeat' (first|refine s_0 ?_|(refine zb 0 ?_;refine zj ?_;intro _;refine zj ?_;intro _;refine zO ?_;intro _)|(refine zb 1 (za ?_);refine zm ?_;refine za ?_;refine zm ?_;refine yv (zd (hc:=λ_ _ _ _=>(ht _))) (k:=?_);refine za ?_;refine zj ?_;intro _;refine yn (zi (n:=0)) (k:=za ?_))|(refine zb 2 (za ?_))|(refine zb 3 ?_;refine za4 ?_;refine zI ?_;refine za ?_))
  exact ret2 rfl (resCells (B:=List.replicate 16 (Value.int IntKind.u64 0)) rfl (ty rfl) rfl Has.go Seg.all rfl) (resTmp rfl) SubR.nil ⟨by rw [<-natV0],rfl⟩
end Go.Proofs.YtdnlngbjpdbffaaGreatDoor
end
section
namespace Go.Nt
theorem zfC (b x s:Nat) (hb:2<=b) (h:b ^ s<=x):nd b x=s+nd b (x / b ^ s):=by
 have hp:0 < b ^ s:=Nat.pow_pos q_o;have h1:=zai b (x / b ^ s) hb;have hq:0 < x / b ^ s:=Nat.div_pos h hp;have h2:=(zbZ b hb (x / b ^ s)).2;have hn:0 < nd b (x / b ^ s):=by
  rcases Nat.eq_zero_or_pos (nd b (x / b ^ s)) with h0|h0
  ·rw [h0,Nat.pow_zero] at h1;omega
  ·exact h0
 have h2:=h2 hn;refine zbh b x _ hb ?_ λ_=>?_
 ·rw [Nat.pow_add,Nat.mul_comm];exact (Nat.div_lt_iff_lt_mul hp).1 h1
 ·rw [show s+nd b (x / b ^ s) - 1=(nd b (x / b ^ s) - 1)+s by omega,Nat.pow_add];exact Nat.le_trans (Nat.mul_le_mul_right _ h2) (Nat.div_mul_le_self x _)
def bits8:List UInt8:=[0,1,2,2,3,3,3,3,4,4,4,4,4,4,4,4,5,5,5,5,5,5,5,5,5,5,5,5,5,5,5,5,6,6,6,6,6,6,6,6,6,6,6,6,6,6,6,6,6,6,6,6,6,6,6,6,6,6,6,6,6,6,6,6,7,7,7,7,7,7,7,7,7,7,7,7,7,7,7,7,7,7,7,7,7,7,7,7,7,7,7,7,7,7,7,7,7,7,7,7,7,7,7,7,7,7,7,7,7,7,7,7,7,7,7,7,7,7,7,7,7,7,7,7,7,7,7,7,8,8,8,8,8,8,8,8,8,8,8,8,8,8,8,8,8,8,8,8,8,8,8,8,8,8,8,8,8,8,8,8,8,8,8,8,8,8,8,8,8,8,8,8,8,8,8,8,8,8,8,8,8,8,8,8,8,8,8,8,8,8,8,8,8,8,8,8,8,8,8,8,8,8,8,8,8,8,8,8,8,8,8,8,8,8,8,8,8,8,8,8,8,8,8,8,8,8,8,8,8,8,8,8,8,8,8,8,8,8,8,8,8,8,8,8,8,8,8,8,8,8,8,8,8,8,8,8]
theorem znA: ∀j:Fin 256,∃u,bits8[j.1]?=some u/\j.1 < 2 ^ u.toNat/\(0 < u.toNat->2 ^ (u.toNat - 1)<=j.1):=by decide +kernel
theorem znE (j:Nat) (h:j < 256): ∃u,bits8[j]?=some u/\u.toNat=nd 2 j:=by
 obtain ⟨u,h1,h2,h3⟩:=znA ⟨j,h⟩;exact ⟨u,h1,(zbh 2 j _ q_e h2 h3).symm⟩
end Go.Nt
namespace Go.Proofs.YtdnlngbjpdbffaaGreatDoor
open Go Go.Sy Go.Nt Go.RowKit
attribute [local irreducible] Sy SyL SyX Sy.Fn callFunc natC bits8
theorem zgF (x:Nat) (w:World) (hx:x < 18446744073709551616):
  Sy.Fn Tryz.prog 285 [nv x] w No (Gives (.int .i64 ((nd 2 x:Nat):Int))):=by
 refine zg Tryz.func285 rfl Tryz.ntmps285 q_p Holds.nil ?_;obtain ⟨x1,n1,e1,hx1,hc1⟩: ∃x1 n1,nd 2 x=n1+nd 2 x1/\x1 < 4294967296/\((4294967296<=x/\x1=x / 2 ^ 32/\n1=32)\/(x < 4294967296/\x1=x/\n1=0)):=by
  rcases Nat.lt_or_ge x 4294967296 with h|h
  ·exact ⟨x,0,by omega,h,.inr ⟨h,rfl,rfl⟩⟩
  ·exact ⟨x / 2 ^ 32,32,zfC 2 x 32 q_e h,by omega,.inl ⟨h,rfl,rfl⟩⟩
 obtain ⟨x2,n2,e2,hx2,hc2⟩: ∃x2 n2,nd 2 x1=n2+nd 2 x2/\x2 < 65536/\((65536<=x1/\x2=x1 / 2 ^ 16/\n2=16)\/(x1 < 65536/\x2=x1/\n2=0)):=by
  rcases Nat.lt_or_ge x1 65536 with h|h
  ·exact ⟨x1,0,by omega,h,.inr ⟨h,rfl,rfl⟩⟩
  ·exact ⟨x1 / 2 ^ 16,16,zfC 2 x1 16 q_e h,by omega,.inl ⟨h,rfl,rfl⟩⟩
 obtain ⟨x3,n3,e3,hx3,hc3⟩: ∃x3 n3,nd 2 x2=n3+nd 2 x3/\x3 < 256/\((256<=x2/\x3=x2 / 2 ^ 8/\n3=8)\/(x2 < 256/\x3=x2/\n3=0)):=by
  rcases Nat.lt_or_ge x2 256 with h|h
  ·exact ⟨x2,0,by omega,h,.inr ⟨h,rfl,rfl⟩⟩
  ·exact ⟨x2 / 2 ^ 8,8,zfC 2 x2 8 q_e h,by omega,.inl ⟨h,rfl,rfl⟩⟩
 obtain ⟨u,hu,hun⟩:=znE x3 hx3;rw [e1,e2,e3,<-hun];repeat' (first|refine s_0 ?_|(refine zb 0 (za ?_))|(refine zb 1 (za ?_);refine zad ?_))
 refine zba (γ:=Unit) (λ_=>[(0,nv x1),(2,.int .i64 ((n1:Nat):Int))]) (λ_=>[]) (λ_=>True) ?_ ?_
 ·refine zcy rfl (λh=>?_) (λh=>?_)
  ·have h:=of_decide_eq_true h;obtain ⟨-,rfl,rfl⟩:4294967296<=x/\x1=x / 2 ^ 32/\n1=32:=by
    rcases hc1 with c|c
    ·exact c
    ·omega
   repeat' (first|refine s_0 ?_|(refine zb 2 (za ?_);refine yv (zcz 32 q_e) (k:=za ?_))|(refine zb 3 (za ?_)))
   exact zT () trivial q_h q_h
  ·have h:=of_decide_eq_false h;obtain ⟨-,rfl,rfl⟩:x < 4294967296/\x1=x/\n1=0:=by
    rcases hc1 with c|c
    ·omega
    ·exact c
   repeat' (first|refine zcE ?_|refine zZ ?_|fail)
   exact zT () trivial q_h q_h
 rintro - -;repeat' (first|refine s_0 ?_|(refine zb 4 (za ?_);refine zad ?_))
 refine zba (γ:=Unit) (λ_=>[(0,nv x2),(2,.int .i64 ((n1+n2:Nat):Int))]) (λ_=>[]) (λ_=>True) ?_ ?_
 ·refine zcy rfl (λh=>?_) (λh=>?_)
  ·have h:=of_decide_eq_true h;obtain ⟨-,rfl,rfl⟩:65536<=x1/\x2=x1 / 2 ^ 16/\n2=16:=by
    rcases hc2 with c|c
    ·exact c
    ·omega
   repeat' (first|refine s_0 ?_|(refine zb 5 (za ?_);refine yv (zcz 16 q_e) (k:=za ?_))|(refine zb 6 (za ?_);refine zaj ?_;refine za ?_))
   exact zT () trivial q_h q_h
  ·have h:=of_decide_eq_false h;obtain ⟨-,rfl,rfl⟩:x1 < 65536/\x2=x1/\n2=0:=by
    rcases hc2 with c|c
    ·omega
    ·exact c
   repeat' (first|refine zcE ?_|refine zZ ?_|fail)
   exact zT () trivial q_h q_h
 rintro - -;repeat' (first|refine s_0 ?_|(refine zb 7 (za ?_);refine zad ?_))
 refine zba (γ:=Unit) (λ_=>[(0,nv x3),(2,.int .i64 ((n1+n2+n3:Nat):Int))]) (λ_=>[]) (λ_=>True) ?_ ?_
 ·refine zcy rfl (λh=>?_) (λh=>?_)
  ·have h:=of_decide_eq_true h;obtain ⟨-,rfl,rfl⟩:256<=x2/\x3=x2 / 2 ^ 8/\n3=8:=by
    rcases hc3 with c|c
    ·exact c
    ·omega
   repeat' (first|refine s_0 ?_|(refine zb 8 (za ?_);refine yv (zcz 8 q_e) (k:=za ?_))|(refine zb 9 (za ?_);refine zaj ?_;refine za ?_))
   exact zT () trivial q_h q_h
  ·have h:=of_decide_eq_false h;obtain ⟨-,rfl,rfl⟩:x2 < 256/\x3=x2/\n3=0:=by
    rcases hc3 with c|c
    ·omega
    ·exact c
   repeat' (first|refine zcE ?_|refine zZ ?_|fail)
   exact zT () trivial q_h q_h
 rintro - -;have hcv:IntKind.u8.wrap (x3:Int)=(x3:Int):=IntWalk.u8_in _ q_o;have hu':bits8.toArray[x3]?=some u:=by rw [List.getElem?_toArray];exact hu
 have hcw:IntKind.i64.wrap ((u.toNat:Nat):Int)=((u.toNat:Nat):Int):=IntWalk.i64_in _ (by have:=u.toNat_lt;omega);have hul:=u.toNat_lt;repeat' (first|refine s_0 ?_|(refine zb 10 (za ?_);refine yv (z5 (hr:=hcv)) (k:=?_);refine yv (zF (hv:=Eq.trans (congrArg (λa:Array UInt8=>a[x3]?) (show _=bits8.toArray by decide +kernel)) hu')) (k:=?_);refine yv (z5 (hr:=hcw)) (k:=?_);refine zaj ?_;refine za ?_))
 exact ret1 rfl (resTmp rfl) SubR.nil ⟨congrArg (Value.int .i64) q_o,rfl⟩
theorem zlw (x:Nat) (w:World) (hx:x < 18446744073709551616):
  Sy.Fn Tryz.prog 328 [nv x] w No (Gives (.int .i64 ((64 - nd 2 x:Nat):Int))):=by
 refine zg Tryz.func328 rfl Tryz.ntmps328 q_p Holds.nil ?_;have hn:nd 2 x<=64:=zao 2 x 64 q_e hx;repeat' (first|refine s_0 ?_|(refine zb 0 (za ?_))|(refine zb 1 (za ?_);refine yv (zd (hc:=λ_ _ _ _=>(zgF x _ hx))) (k:=?_);refine zdc ?_;refine za ?_))
 exact ret1 rfl (resTmp rfl) SubR.nil ⟨congrArg (Value.int .i64) q_o,rfl⟩
end Go.Proofs.YtdnlngbjpdbffaaGreatDoor
namespace Go.Nt
theorem wpow (k:Nat):18446744073709551616 ^ k=2 ^ (64*k):=by
 rw [show (18446744073709551616:Nat)=2 ^ 64 from rfl,<-Nat.pow_mul]
theorem zlE: ∃k,k=1024/\18446744073709551616 ^ 16=2 ^ k:=by
 obtain ⟨m,hm⟩: ∃m,m=16:=⟨16,rfl⟩;exact ⟨64*m,by omega,by rw [<-wpow,hm]⟩
theorem zrS {x i:Nat}(hi:i<=1024) (h:x < 2 ^ i):x < 18446744073709551616 ^ 16:=by
 obtain ⟨k,hk,e⟩:=zlE;rw [e];exact Nat.lt_of_lt_of_le h (Nat.pow_le_pow_right q_e q_o)
theorem zsc {x i:Nat}(h1:2 ^ i<=x) (h:x < 18446744073709551616 ^ 16):i < 1024:=by
 obtain ⟨k,hk,e⟩:=zlE;rw [e] at h;have:i < k:=(Nat.pow_lt_pow_iff_right q_e).1 (Nat.lt_of_le_of_lt h1 h);omega
theorem zel (b t n:Nat) (hb:b=2 ^ t) (h:t*n=1024):18446744073709551616 ^ 16=b ^ n:=by
 obtain ⟨k,hk,e⟩:=zlE;rw [e,hb,<-Nat.pow_mul,hk,h]
theorem zcR {x:Nat}(h:x < 18446744073709551616 ^ 16):nd 2 x<=1024:=by
 obtain ⟨k,hk,e⟩:=zlE;rw [e] at h;have:=zao 2 x k q_e h;omega
theorem quoI {p k:Nat}(h:p < 9223372036854775808):IntKind.i64.wrap ((p:Int).tdiv (k:Int))=((p / k:Nat):Int):=by
 have h1:=Nat.div_le_self p k;rw [Int.tdiv_eq_ediv_of_nonneg q_o,show ((p:Int) / (k:Int))=((p / k:Nat):Int) from rfl];generalize p / k=q at *;exact IntWalk.i64_in _ q_o
theorem remI (p k:Nat):(p:Int).tmod (k:Int)=((p % k:Nat):Int):=by
 rw [Int.tmod_eq_emod_of_nonneg q_o];rfl
end Go.Nt
namespace Go.Proofs.YtdnlngbjpdbffaaGreatDoor
open Go Go.Sy Go.Nt Go.RowKit
attribute [local irreducible] Sy SyL SyX Sy.Fn callFunc natC
theorem zbe (x:Nat) (w:World) (hx:x < 18446744073709551616 ^ 16):
  Sy.Fn Tryz.prog 241 [natV x] w No (Gives (.int .i64 ((nd 2 x:Nat):Int))):=by
 refine zg Tryz.func241 rfl Tryz.ntmps241 q_p Holds.nil ?_;have hlx:=ze x;rcases Nat.eq_zero_or_pos x with h0|h0
 ·subst h0;have hl:=λw=>zbu 0 w hx;rw [zaT] at hl ⊢;repeat' (first|refine s_0 ?_|(refine zb 0 ?_;refine zO ?_;intro _)|(refine zb 1 (za ?_);refine zm ?_;refine yv (zd (hc:=λ_ _ _ _=>(hl _))) (k:=?_);refine za ?_)|(refine zb 2 (za ?_);refine zan ?_)|(refine zb 3 (za ?_)))
  exact q_r
 have hn:=zao 18446744073709551616 x 16 q_e hx;have hl:=zai 18446744073709551616 x q_e;have hs:=(zbZ 18446744073709551616 q_e x).2;have hlen:=λw=>zbu x w hx;have hgx:=zaK x;generalize nd 18446744073709551616 x=n at *;have hn0:0 < n:=by
  rcases Nat.eq_zero_or_pos n with h|h
  ·subst h;rw [Nat.pow_zero] at hl;omega
  ·exact h
 have hs:=hs hn0;have hd:=hgx (n - 1) q_o;have hnd:nd 2 x=64*(n - 1)+nd 2 (x / 18446744073709551616 ^ (n - 1)):=by
  rw [wpow] at hs ⊢;exact zfC 2 x _ q_e hs
 have hdl:x / 18446744073709551616 ^ (n - 1) < 18446744073709551616:=by
  rw [Nat.div_lt_iff_lt_mul (Nat.pow_pos q_e),Nat.mul_comm,<-Nat.pow_succ,show (n - 1).succ=n by omega];exact hl
 rw [Nat.mod_eq_of_lt hdl] at hd;have hn2:=zao 2 _ 64 q_e hdl;rw [hnd];generalize x / 18446744073709551616 ^ (n - 1)=d at *;have hs1:IntKind.i64.wrap ((n:Int) - 1)=((n - 1:Nat):Int):=q_w;repeat' (first|refine s_0 ?_|(refine zb 0 ?_;refine zO ?_;intro _)|(refine zb 1 (za ?_);refine zm ?_;refine yv (zd (hc:=λ_ _ _ _=>(hlen _))) (k:=?_);refine za ?_)|(refine zb 2 (za ?_);refine zan ?_)|(refine zb 4 (za ?_);refine yv (zD (hr:=hs1)) (k:=?_);refine zdo ?_;refine za ?_;refine yv (zD (hr:=hs1)) (k:=za ?_);refine zw ?_;refine yv (zC (hv:=hd)) (k:=?_);refine yv (zd (hc:=λ_ _ _ _=>(zgF d _ hdl))) (k:=?_);refine zaj ?_;refine za ?_))
 exact ret1 rfl (resTmp rfl) SubR.nil ⟨congrArg (Value.int .i64) q_o,rfl⟩
end Go.Proofs.YtdnlngbjpdbffaaGreatDoor
end
