/- Reduce, Add, Sub, Mul, Exp. -/
import Derived.Test.YtdnlngbjpdbffaaGreatDoorLJ18
import Derived.Test.YtdnlngbjpdbffaaGreatDoorLJ12
import Derived.Test.YtdnlngbjpdbffaaGreatDoorLJ08
import Derived.Test.YtdnlngbjpdbffaaGreatDoorLJ11
import Derived.Test.YtdnlngbjpdbffaaGreatDoorLJ06
set_option maxHeartbeats 1000000
set_option maxRecDepth 10000
set_option linter.all false
section
namespace Go.Proofs.YtdnlngbjpdbffaaGreatDoor
open Go Go.Sy Go.Nt Go.RowKit
section
variable {ro:Option Nat}{N:Nat}{w0:World}{M:Nat->Prop}{ds:List Deferred}{g:Nat->Option Value}{L:List Res}{o:Oper}{z:Operand}
theorem zdd {n:Nat}(ho:o.op= .build 227 #[(0,z)]:=by exact rfl) (hz:ev g z=some (natV n):=by exact rfl):OpT Tryz.prog ro N w0 M ds o g L (Det (natV n) L):=
 zed (parts:=#[(0,z)]) (vs:=[natV n]) (C:=natC n) (ziQ n) ho (by simp [evs,hz]) (ty rfl) rfl rfl (zc rfl)
end
def SlOf (T n:Nat) (C:List Value) (v:Value) (Nw:List Res):Prop:=∃b,v= .slice (some ⟨b,0,none⟩) n n/\Nw= [.blk b T C]
def ptrOf:Value->Value
 | .slice (some a) _ _=> .pointer (some a)
 |v=>v
attribute [local irreducible] Sy SyL SyX Sy.Fn callFunc natC rowN
def modR (m r:Nat):Value:=if m=0 then .tuple #[natV 0,.int .i64 2] else .tuple #[natV r,.int .i64 0]
theorem zmZ (a m:Nat) (w:World) (ha:a < 18446744073709551616 ^ 16) (hm:m < 18446744073709551616 ^ 16):
  Sy.Fn Tryz.prog 182 [natV a,natV m] w No (Gives (modR m (a % m))):=by
 refine zg Tryz.func182 rfl Tryz.ntmps182 q_p Holds.nil ?_;have hla:=ze a;have hlm:=ze m;have hl0:=ze 0;have hz:=λw'=>zbP m w' hm;rcases Nat.eq_zero_or_pos m with h|h
 ·subst h;unfold modR;rw [if_pos rfl];repeat' (first|refine s_0 ?_|(refine zb 0 ?_;refine zj ?_;intro _;refine zj ?_;intro _;refine zO ?_;intro _)|(refine zb 1 ?_;refine yv (zf (B:=natC 0)) (k:=?_);refine yv (zd (hc:=λ_ _ _ _=>(hz _))) (k:=?_))|(refine zb 2 ?_;refine yv zbG (k:=?_);refine yn (zi (n:=0)) (k:=za ?_)))
  exact ret2 rfl (resCells (B:=natC 0) rfl (ty rfl) rfl Has.go Seg.all (ze _).symm) (resTmp rfl) SubR.nil ⟨rfl,rfl⟩
 ·simp only [decide_eq_false (show ¬m=0 by omega)] at hz;unfold modR;rw [if_neg q_o];have hr:=λw' b' (h':w'.rangeAt b' 0 (rowN [a]))=>zcP m a b' w' hm h ha h';have hlr:=ze (a % m);generalize a % m=r at *;repeat' (first|refine s_0 ?_|(refine zb 0 ?_;refine zj ?_;intro _;refine zj ?_;intro _;refine zO ?_;intro _)|(refine zb 1 ?_;refine yv (zf (B:=natC m)) (k:=?_);refine yv (zd (hc:=λ_ _ _ _=>(hz _))) (k:=?_))|(refine zb 3 ?_;refine yv (zf (B:=natC m)) (k:=?_);refine yv (zdd (n:=m)) (k:=?_);refine yv (zf (B:=natC a)) (k:=?_))|(refine ys (za3 (x:=a)) (k:=?_);rintro _ _ ⟨bb,rfl,rfl⟩)|(refine zP ?_;first|refine yv (zf (B:=natC r)) (k:=?_)|(refine ys (zh (f:=243) (hc:=λw' X hk hh=>hr w' _ (zp (hh.has (by exact Has.append Has.here)) Seg.all))) (k:=?_);rintro _ _ ⟨R,rfl,bc,rfl,rfl⟩)|refine yv (zaA (j:=0)) (k:=?_)|refine yn (zi (n:=r)) (k:=?_)|refine zx ?_|fail)|fail)
  exact ret2 rfl (resCells (B:=natC r) rfl (ty rfl) rfl Has.go Seg.all (ze _).symm) (resTmp rfl) SubR.nil ⟨rfl,rfl⟩
theorem zgI (f:Nat) (F:Nat->Nat->Nat) (a b m:Nat) (w:World) (ha:a < 18446744073709551616 ^ 16) (hb:b < 18446744073709551616 ^ 16) (hm:m < 18446744073709551616 ^ 16)
  (hen: ∀args w,(callFunc f args).run Tryz.prog w= .ok (.enter f args) w) (hf: ∀a b w,a < m->b < m->Sy.Fn Tryz.prog f [natV m,natV a,natV b] w No (Gives (natV (F a b)))):
  Sy.Fn Tryz.prog 214 [natV m,.func (.func f) #[] #[],natV a,natV b] w No (Gives (modR m (F (a % m) (b % m)))):=by
 refine zg Tryz.func214 rfl Tryz.ntmps214 q_p Holds.nil ?_;have hla:=ze a;have hlb:=ze b;have hlm:=ze m;have hl0:=ze 0;have hz:=λw'=>zbP m w' hm;rcases Nat.eq_zero_or_pos m with h|h
 ·subst h;unfold modR;rw [if_pos rfl];repeat' (first|refine s_0 ?_|(refine zb 0 ?_;refine zj ?_;intro _;refine zj ?_;intro _;refine zj ?_;intro _;refine zO ?_;intro _)|(refine zb 1 ?_;refine yv (zf (B:=natC 0)) (k:=?_);refine yv (zd (hc:=λ_ _ _ _=>(hz _))) (k:=?_))|(refine zb 2 ?_;refine yv zbG (k:=?_);refine yn (zi (n:=0)) (k:=za ?_)))
  exact ret2 rfl (resCells (B:=natC 0) rfl (ty rfl) rfl Has.go Seg.all (ze _).symm) (resTmp rfl) SubR.nil ⟨rfl,rfl⟩
 ·simp only [decide_eq_false (show ¬m=0 by omega)] at hz;unfold modR;rw [if_neg q_o];have hr:=λw' b' (h':w'.rangeAt b' 0 (rowN [a,b]))=>zfs m a b b' w' hm h ha hb h';have hf:=λw'=>hf (a % m) (b % m) w' (Nat.mod_lt _ h) (Nat.mod_lt _ h);have hlr:=ze (F (a % m) (b % m));have hlr1:=ze (a % m);have hlr2:=ze (b % m);generalize F (a % m) (b % m)=r at *;generalize a % m=r1 at *;generalize b % m=r2 at *;repeat' (first|refine s_0 ?_|(refine zb 0 ?_;refine zj ?_;intro _;refine zj ?_;intro _;refine zj ?_;intro _;refine zO ?_;intro _)|(refine zb 1 ?_;refine yv (zf (B:=natC m)) (k:=?_);refine yv (zd (hc:=λ_ _ _ _=>(hz _))) (k:=?_))|(refine zb 3 ?_;refine yv (zf (B:=natC m)) (k:=?_);refine yv (zdd (n:=m)) (k:=?_);refine yv (zf (B:=natC a)) (k:=?_);refine yv (zf (B:=natC b)) (k:=?_))|(refine zM (id:=4) 9 [[],[],[1],[],[3],[3,4],[],[6],[6,7],[0,1,2,3,4,5,6,7,8],[0,1,2,3,4,5,6,7,8,9],[0,1,2,3,4,5,6,7,8,9,10]] mixed ?_ ?_;kernel_rfl;refine zk ?_;refine dc (λ_ _=>zf (B:=natC m)) (k:=?_);refine dc (λ_ _=>zdd (n:=m)) (k:=?_);refine zk ?_;refine dc (λ_ _=>zaA (j:=0)) (k:=?_);refine dc (λ_ _=>zf (B:=natC r1) (hv:=(seg2 r1 r2).1)) (k:=?_);refine zk ?_;refine dc (λ_ _=>zaA (j:=1)) (k:=?_);refine dc (λ_ _=>zf (B:=natC r2) (hv:=(seg2 r1 r2).2)) (k:=?_);refine zY ?_;refine yv (zcD (he:=hen) (fst:=[]) (cap:=[]) (hc:=λw' X hk hh=>hf w')) (k:=?_);refine yn (zi (n:=r)) (k:=?_);refine zx ?_)|(refine ys (zcK (x:=a) (x':=b)) (k:=?_);rintro _ _ ⟨bb,rfl,rfl⟩)|(refine zP ?_;first|(refine ys (zh (f:=243) (hc:=λw' X hk hh=>hr w' _ (zp (hh.has (by exact Has.append Has.here)) Seg.all))) (k:=?_);rintro _ _ ⟨R,rfl,bc,rfl,rfl⟩)|refine zx ?_|fail)|fail)
  exact ret2 rfl (resCells (B:=natC r) rfl (ty rfl) rfl Has.go Seg.all (ze _).symm) (resTmp rfl) SubR.nil ⟨rfl,rfl⟩
theorem zlp (a b m:Nat) (w:World) (ha:a < 18446744073709551616 ^ 16) (hb:b < 18446744073709551616 ^ 16) (hm:m < 18446744073709551616 ^ 16):
  Sy.Fn Tryz.prog 184 [natV a,natV b,natV m] w No (Gives (modR m ((a+b) % m))):=by
 refine zg Tryz.func184 rfl Tryz.ntmps184 q_p Holds.nil ?_;have hla:=ze a;have hlb:=ze b;have hlm:=ze m;have hl0:=ze 0;have hap:=λw'=>zgI 245 (λx y=>(x+y) % m) a b m w' ha hb hm (en rfl) (λx y w' hx hy=>zg5 m x y w' hm hx hy);rcases Nat.eq_zero_or_pos m with h|h
 ·subst h;unfold modR at *;simp only [if_pos rfl] at hap ⊢;repeat' (first|refine s_0 ?_|(refine zb 0 ?_;refine zj ?_;intro _;refine zj ?_;intro _;refine zj ?_;intro _;refine zO ?_;intro _)|(refine zb 1 ?_;refine yv (zf (B:=natC 0)) (k:=?_);refine yv (zf (B:=natC a)) (k:=?_);refine yv (zf (B:=natC b)) (k:=?_);refine yv (zd (hc:=λ_ _ _ _=>(hap _))) (k:=?_);refine za ?_;refine yn (zi (n:=0)) (k:=za ?_)))
  exact ret2 rfl (resCells (B:=natC 0) rfl (ty rfl) rfl Has.go Seg.all (ze _).symm) (resTmp rfl) SubR.nil ⟨rfl,rfl⟩
 ·have e:(λx y=>(x+y) % m) (a % m) (b % m)=(a+b) % m:=by
   exact (Nat.add_mod a b m).symm
  dsimp only at e;rw [e] at hap;unfold modR at *;simp only [if_neg (show ¬m=0 by omega)] at hap ⊢;have hlr:=ze ((a+b) % m);generalize (a+b) % m=r at *;repeat' (first|refine s_0 ?_|(refine zb 0 ?_;refine zj ?_;intro _;refine zj ?_;intro _;refine zj ?_;intro _;refine zO ?_;intro _)|(refine zb 1 ?_;refine yv (zf (B:=natC m)) (k:=?_);refine yv (zf (B:=natC a)) (k:=?_);refine yv (zf (B:=natC b)) (k:=?_);refine yv (zd (hc:=λ_ _ _ _=>(hap _))) (k:=?_);refine za ?_;refine yn (zi (n:=r)) (k:=za ?_)))
  exact ret2 rfl (resCells (B:=natC r) rfl (ty rfl) rfl Has.go Seg.all (ze _).symm) (resTmp rfl) SubR.nil ⟨rfl,rfl⟩
theorem zqB (a b m:Nat) (w:World) (ha:a < 18446744073709551616 ^ 16) (hb:b < 18446744073709551616 ^ 16) (hm:m < 18446744073709551616 ^ 16):
  Sy.Fn Tryz.prog 138 [natV a,natV b,natV m] w No (Gives (modR m (dm m a b))):=by
 refine zg Tryz.func138 rfl Tryz.ntmps138 q_p Holds.nil ?_;have hla:=ze a;have hlb:=ze b;have hlm:=ze m;have hl0:=ze 0;have hap:=λw'=>zgI 215 (λx y=>dm m x y) a b m w' ha hb hm (en rfl) (λx y w' hx hy=>ziv m x y w' hm hx hy);rcases Nat.eq_zero_or_pos m with h|h
 ·subst h;unfold modR at *;simp only [if_pos rfl] at hap ⊢;repeat' (first|refine s_t ?_|(apply za6;(focus ((repeat (first|exact Rem.here|apply Rem.there));done));assumption)|(refine zb 0 ?_;try (refine zj ?_;intro _);try (refine zj ?_;intro _);try (refine zj ?_;intro _);try (refine zj ?_;intro _);try refine zx ?_)|(refine zb 1 ?_;try (first|refine yv (zf (B:=natC a)) (k:=?_)|refine yv (zf (B:=natC b)) (k:=?_)|refine yv (zf (B:=natC 0)) (k:=?_)|refine zm ?_|fail);try (first|refine yv (zf (B:=natC a)) (k:=?_)|refine yv (zf (B:=natC b)) (k:=?_)|refine yv (zf (B:=natC 0)) (k:=?_)|refine zm ?_|fail);try (first|refine yv (zf (B:=natC a)) (k:=?_)|refine yv (zf (B:=natC b)) (k:=?_)|refine yv (zf (B:=natC 0)) (k:=?_)|refine zm ?_|fail);try refine yv (zd (hc:=λ_ _ _ _=>(hap _))) (k:=?_);try refine zaP ?_;try refine zaP ?_;try (first|refine yn (zi (n:=0)) (k:=?_)|refine zI ?_|fail);try refine zx ?_)|(refine zP ?_;first|refine yv (zf (B:=natC a)) (k:=?_)|refine yv (zf (B:=natC b)) (k:=?_)|refine yv (zf (B:=natC 0)) (k:=?_)|refine yv (zd (hc:=λ_ _ _ _=>(hap _))) (k:=?_)|refine yn (zi (n:=0)) (k:=?_)|refine zx ?_|refine zaP ?_|refine zm ?_|refine zI ?_|(refine zj ?_;intro _)|fail)|refine zbc ?_)
  exact ret2 rfl (resCells (B:=natC 0) rfl (ty rfl) rfl Has.go Seg.all (ze _).symm) (resTmp rfl) SubR.nil ⟨rfl,rfl⟩
 ·have e:(λx y=>dm m x y) (a % m) (b % m)=dm m a b:=by
   exact zr1 h (zci m a) (zci m b)
  dsimp only at e;rw [e] at hap;unfold modR at *;simp only [if_neg (show ¬m=0 by omega)] at hap ⊢;have hlr:=ze (dm m a b);generalize dm m a b=r at *;repeat' (first|refine s_t ?_|(apply za6;(focus ((repeat (first|exact Rem.here|apply Rem.there));done));assumption)|(refine zb 0 ?_;try (refine zj ?_;intro _);try (refine zj ?_;intro _);try (refine zj ?_;intro _);try (refine zj ?_;intro _);try refine zx ?_)|(refine zb 1 ?_;try (first|refine yv (zf (B:=natC a)) (k:=?_)|refine yv (zf (B:=natC b)) (k:=?_)|refine yv (zf (B:=natC m)) (k:=?_)|refine zm ?_|fail);try (first|refine yv (zf (B:=natC a)) (k:=?_)|refine yv (zf (B:=natC b)) (k:=?_)|refine yv (zf (B:=natC m)) (k:=?_)|refine zm ?_|fail);try (first|refine yv (zf (B:=natC a)) (k:=?_)|refine yv (zf (B:=natC b)) (k:=?_)|refine yv (zf (B:=natC m)) (k:=?_)|refine zm ?_|fail);try refine yv (zd (hc:=λ_ _ _ _=>(hap _))) (k:=?_);try refine zaP ?_;try refine zaP ?_;try (first|refine yn (zi (n:=r)) (k:=?_)|refine zI ?_|fail);try refine zx ?_)|(refine zP ?_;first|refine yv (zf (B:=natC a)) (k:=?_)|refine yv (zf (B:=natC b)) (k:=?_)|refine yv (zf (B:=natC m)) (k:=?_)|refine yv (zd (hc:=λ_ _ _ _=>(hap _))) (k:=?_)|refine yn (zi (n:=r)) (k:=?_)|refine zx ?_|refine zaP ?_|refine zm ?_|refine zI ?_|(refine zj ?_;intro _)|fail)|refine zbc ?_)
  exact ret2 rfl (resCells (B:=natC r) rfl (ty rfl) rfl Has.go Seg.all (ze _).symm) (resTmp rfl) SubR.nil ⟨rfl,rfl⟩
theorem zhM (a b m:Nat) (w:World) (ha:a < 18446744073709551616 ^ 16) (hb:b < 18446744073709551616 ^ 16) (hm:m < 18446744073709551616 ^ 16):
  Sy.Fn Tryz.prog 183 [natV a,natV b,natV m] w No (Gives (modR m (a*b % m))):=by
 refine zg Tryz.func183 rfl Tryz.ntmps183 q_p Holds.nil ?_;have hla:=ze a;have hlb:=ze b;have hlm:=ze m;have hl0:=ze 0;have hap:=λw'=>zgI 244 (λx y=>x*y % m) a b m w' ha hb hm (en rfl) (λx y w' hx hy=>zeK m x y w' hm hx hy);rcases Nat.eq_zero_or_pos m with h|h
 ·subst h;unfold modR at *;simp only [if_pos rfl] at hap ⊢;repeat' (first|refine s_0 ?_|(refine zb 0 ?_;refine zj ?_;intro _;refine zj ?_;intro _;refine zj ?_;intro _;refine zO ?_;intro _)|(refine zb 1 ?_;refine yv (zf (B:=natC 0)) (k:=?_);refine yv (zf (B:=natC a)) (k:=?_);refine yv (zf (B:=natC b)) (k:=?_);refine yv (zd (hc:=λ_ _ _ _=>(hap _))) (k:=?_);refine za ?_;refine yn (zi (n:=0)) (k:=za ?_)))
  exact ret2 rfl (resCells (B:=natC 0) rfl (ty rfl) rfl Has.go Seg.all (ze _).symm) (resTmp rfl) SubR.nil ⟨rfl,rfl⟩
 ·have e:(λx y=>x*y % m) (a % m) (b % m)=a*b % m:=by
   exact (Nat.mul_mod a b m).symm
  dsimp only at e;rw [e] at hap;unfold modR at *;simp only [if_neg (show ¬m=0 by omega)] at hap ⊢;have hlr:=ze (a*b % m);generalize a*b % m=r at *;repeat' (first|refine s_0 ?_|(refine zb 0 ?_;refine zj ?_;intro _;refine zj ?_;intro _;refine zj ?_;intro _;refine zO ?_;intro _)|(refine zb 1 ?_;refine yv (zf (B:=natC m)) (k:=?_);refine yv (zf (B:=natC a)) (k:=?_);refine yv (zf (B:=natC b)) (k:=?_);refine yv (zd (hc:=λ_ _ _ _=>(hap _))) (k:=?_);refine za ?_;refine yn (zi (n:=r)) (k:=za ?_)))
  exact ret2 rfl (resCells (B:=natC r) rfl (ty rfl) rfl Has.go Seg.all (ze _).symm) (resTmp rfl) SubR.nil ⟨rfl,rfl⟩
theorem zrX (a e m:Nat) (w:World) (ha:a < 18446744073709551616 ^ 16) (he:e < 18446744073709551616 ^ 16) (hm:m < 18446744073709551616 ^ 16):
  Sy.Fn Tryz.prog 252 [natV a,natV e,natV m] w No (Gives (modR m (a ^ e % m))):=by
 refine zg Tryz.func252 rfl Tryz.ntmps252 q_p Holds.nil ?_;have hla:=ze a;have hle:=ze e;have hlm:=ze m;have hl0:=ze 0;have hz:=λw'=>zbP m w' hm;rcases Nat.eq_zero_or_pos m with h|h
 ·subst h;unfold modR;rw [if_pos rfl];repeat' (first|refine s_0 ?_|(refine zb 0 ?_;refine zj ?_;intro _;refine zj ?_;intro _;refine zj ?_;intro _;refine zO ?_;intro _)|(refine zb 1 ?_;refine yv (zf (B:=natC 0)) (k:=?_);refine yv (zd (hc:=λ_ _ _ _=>(hz _))) (k:=?_))|(refine zb 2 ?_;refine yv zbG (k:=?_);refine yn (zi (n:=0)) (k:=za ?_)))
  exact ret2 rfl (resCells (B:=natC 0) rfl (ty rfl) rfl Has.go Seg.all (ze _).symm) (resTmp rfl) SubR.nil ⟨rfl,rfl⟩
 ·simp only [decide_eq_false (show ¬m=0 by omega)] at hz;unfold modR;rw [if_neg q_o];have hr:=λw' b' (h':w'.rangeAt b' 0 (rowN [a]))=>zcP m a b' w' hm h ha h';have h1:=λw'=>zrJ m w' hm h;obtain ⟨V,hV⟩: ∃V:Nat->Nat,∀k,V k=(a % m) ^ k % m:=⟨λk=>(a % m) ^ k % m,λ_=>rfl⟩;have hVm: ∀k,V k < m:=λk=>by rw [hV];exact Nat.mod_lt _ h
  have hD: ∀k w',Sy.Fn Tryz.prog 300 ([natV m] ++ [natV (V k)] ++ []) w' No (Gives (natV (V (2*k)))):=λk w'=>by
   have:=zmO m (V k) w' hm (hVm k);rw [show V k*V k % m=V (2*k) by rw [hV,hV,<-Nat.mul_mod,<-Nat.pow_add,Nat.two_mul]] at this;exact this
  have hA: ∀k w',Sy.Fn Tryz.prog 244 ([natV m] ++ [natV (V k),natV (a % m)] ++ []) w' No (Gives (natV (V (k+1)))):=λk w'=>by
   have:=zeK m (V k) (a % m) w' hm (hVm k) (Nat.mod_lt _ h);rw [show V k*(a % m) % m=V (k+1) by rw [hV,hV,Nat.mod_mul_mod,Nat.pow_succ]] at this;exact this
  have hlad:=λw'=>zin e (a % m) V 300 244 [natV m] [] [natV m] [] w' he (en rfl) (en rfl) hD hA;rw [show V 0=1 % m by rw [hV,Nat.pow_zero],show V e=a ^ e % m by rw [hV,((zci m a).pow e).mod]] at hlad;have hlr:=ze (a % m);have hlR:=ze (a ^ e % m);have hl1:=ze (1 % m);clear hD hA hV hVm;generalize a ^ e % m=R at *;generalize a % m=r at *;generalize 1 % m=u at *;repeat' (first|refine s_0 ?_|(refine zb 0 ?_;refine zj ?_;intro _;refine zj ?_;intro _;refine zj ?_;intro _;refine zO ?_;intro _)|(refine zb 1 ?_;refine yv (zf (B:=natC m)) (k:=?_);refine yv (zd (hc:=λ_ _ _ _=>(hz _))) (k:=?_))|(refine zb 3 ?_;refine yv (zf (B:=natC m)) (k:=?_);refine yv (zdd (n:=m)) (k:=?_);refine zj ?_;intro _;refine yn (zE (B:=natC m) (hv:=zcY m) (h1:=(ze m).symm)) (k:=?_)))
  rename_i b3 b4 b5 b6 b8;refine zbj (id:=4) mixed ?_
  (refine zbi 14 14 [[],[],[1],[],[],[4],[1,2,3,4,5],[1,2,3,4,5,6],[1,2,3,4,5,6,7],[],[9],[],[11],[0,1,2,3,4,5,6,7,8,9,10,11,12],[0,1,2,3,4,5,6,7,8,9,10,11,12,13],[0,1,2,3,4,5,6,7,8,9,10,11,12,13,14]] [[],[],[],[],[],[],[],[],[],[],[],[],[],[],[],[]] none rfl ?_ ?_ ?_;kernel_rfl;kernel_rfl;refine dcE (λ_ _=>zf (B:=natC e)) (k:=?_);refine dcE (λ_ _=>zf (B:=natC m)) (k:=?_);refine dcE (λ_ _=>zd (hc:=λ_ _ _ _=>(h1 _))) (k:=?_);refine dcE (λ_ _=>zf (B:=natC m)) (k:=?_);refine dcE (λ_ _=>zf (B:=natC a)) (k:=?_);try refine dh_0nE (h:=?_))
  refine zcp (R:=λ_=>SlOf 133 1 (rowN [a])) (λ_ _ _=>rfl) (λρ hρ=>OpT.mono (za3 (x:=a)) λv L' h=>?_) (h:=?_)
  ·obtain ⟨b,rfl,rfl⟩:=h;exact ⟨[_],rfl,b,rfl,rfl⟩
  refine zcp (R:=λ_=>SlOf 133 1 (natC r)) (λ_ _ _=>rfl) (λρ hρ=>?_) (h:=?_)
  ·obtain ⟨⟨bx,e1,e2⟩,-⟩:=hρ;refine OpT.mono (zh (vs:=[natV m,.slice (some ⟨bx,0,none⟩) 1 1]) (ha:=by show some [_,(ρ 5).1]=_;rw [e1];rfl) (hc:=λw' X hk hh=>hr w' bx ((Reads.blk (T:=133) (by show Has ((ρ 5).2 ++ _) _;rw [e2];exact Has.here) Seg.all) w' X hk hh))) λv L' h=>?_;obtain ⟨R,rfl,bc,rfl,rfl⟩:=h;exact ⟨_,rfl,bc,rfl,rfl⟩
  refine zlW (u:=λρ=>ptrOf (ρ 6).1) (λρ hρ=>?_) (λ_=>rfl) rfl (λρ ρ' h=>by rw [h 6 q_e]) (h:=?_)
  ·obtain ⟨⟨bx,e1,e2⟩,-⟩:=hρ;refine OpT.mono (zaA (b:=bx) (off:=0) (n:=1) (c:=1) (j:=0) (hx:=by show some (ρ 6).1=_;rw [e1])) λv L' h=>?_;obtain ⟨rfl,rfl⟩:=h;exact ⟨by rw [e1];rfl,rfl⟩
  refine dcE (u:=natV r) (λρ hρ=>?_) (k:=?_)
  ·obtain ⟨⟨bx,e1,e2⟩,-⟩:=hρ;exact zf (B:=natC r) (b:=bx) (off:=0) (T:=133) (hx:=by show some (ptrOf (ρ 6).1)=_;rw [e1];rfl) (hL:=by show Has ((ρ 6).2 ++ _) _;rw [e2];exact Has.here) (hv:=Seg.all) (hz:=hlr.symm)
  (skip;refine dcE (λ_ _=>zf (B:=natC m)) (k:=?_);refine zhg ?_;refine dcE (λ_ _=>zf (B:=natC m)) (k:=?_);refine zhg ?_;refine dcE (λ_ _=>zd (hc:=λ_ _ _ _=>(hlad _))) (k:=?_);try refine dh_0nE (h:=?_))
  refine zco (h:=?_);rintro ρ ⟨⟨bx,e1,e2⟩,⟨bz,e3,e4⟩,-⟩
  (refine zbk [[],[],[1],[],[],[4],[1,2,3,4,5],[1,2,3,4,5,6],[1,2,3,4,5,6,7],[],[9],[],[11],[0,1,2,3,4,5,6,7,8,9,10,11,12],[0,1,2,3,4,5,6,7,8,9,10,11,12,13],[0,1,2,3,4,5,6,7,8,9,10,11,12,13,14]] ?_ ?_;kernel_rfl)
  refine SyL.weaken (fr':=[(27,natV R),(6,.pointer (some ⟨b6,0,none⟩)),(7,.int .i64 0)]) (L':=[.blk b6 133 (List.replicate 16 (Value.int IntKind.u64 0))]) ?_ ?_ ?_;rotate_left
  ·exact q_h
  ·show SubR _ ((ρ 6).2 ++ ((ρ 5).2 ++ _));rw [e2,e4];exact q_h
  repeat' (first|refine s_0 ?_|(refine zP ?_;first|refine yn (zi (n:=R)) (k:=?_)|refine zx ?_|fail)|fail)
  exact ret2 rfl (resCells (B:=natC R) rfl (ty rfl) rfl Has.go Seg.all (ze _).symm) (resTmp rfl) SubR.nil ⟨rfl,rfl⟩
end Go.Proofs.YtdnlngbjpdbffaaGreatDoor
end
section
namespace Go.Sy
open Go
end Go.Sy
namespace Go.Proofs.YtdnlngbjpdbffaaGreatDoor
open Go Go.Sy Go.Nt Go.RowKit
attribute [local irreducible] Sy SyL SyX Sy.Fn callFunc natC rowN
end Go.Proofs.YtdnlngbjpdbffaaGreatDoor
end
section
namespace Go.Nt
open Go Go.Sy
def gS:Nat->List UInt8
 |1=>[98,51,102]
 |2=>[52,52,56,53,56,102,102]
 |3=>[57,49,98,56,56,55,102,102]
 |_=>[102,102,102,102,102,102,102,102,102,102,102,102,102,102,102,102,99,57,48,102,100,97,97,50,50,49,54,56,99,50,51,52,99,52,99,54,54,50,56,98,56,48,100,99,49,99,100,49,50,57,48,50,52,101,48,56,56,97,54,55,99,99,55,52,48,50,48,98,98,101,97,54,51,98,49,51,57,98,50,50,53,49,52,97,48,56,55,57,56,101,51,52,48,52,100,100,101,102,57,53,49,57,98,51,99,100,51,97,52,51,49,98,51,48,50,98,48,97,54,100,102,50,53,102,49,52,51,55,52,102,101,49,51,53,54,100,54,100,53,49,99,50,52,53,101,52,56,53,98,53,55,54,54,50,53,101,55,101,99,54,102,52,52,99,52,50,101,57,97,54,51,97,51,54,50,48,102,102,102,102,102,102,102,102,102,102,102,102,102,102,102,102]
theorem zjj (i:Nat) (h0:1<=i) (h5:i<=4):parse (gS i)=some (gP i):=
 zbl (p:=λi=>parse (gS i)=some (gP i)) (by decide +kernel) (by decide +kernel) (by decide +kernel) (by decide +kernel) i h0 h5
theorem znR (i:Nat) (h0:1<=i) (h5:i<=4):(gS i).length<=192:=
 zbl (p:=λi=>(gS i).length<=192) (by decide +kernel) (by decide +kernel) (by decide +kernel) (by decide +kernel) i h0 h5
theorem zrD (i:Nat):gP i / 2 ^ 1=gQ i:=rfl
def gCells:List Value:=[.string (str (gS 1)),.string (str (gS 2)),.string (str (gS 3)),.string (str (gS 4))]
theorem zg4 (i:Nat) (h0:1<=i) (h5:i<=4):gCells[i - 1]?=some (.string (str (gS i))):=
 zbl (p:=λi=>gCells[i - 1]?=some (.string (str (gS i)))) rfl rfl rfl rfl i h0 h5
theorem zcd (i:Nat) (h0:1<=i) (h5:i<=4):1<=gL i/\gL i<=96:=
 zbl (p:=λi=>1<=gL i/\gL i<=96) q_e q_e q_e q_e i h0 h5
theorem zaN (i:Nat) (h0:1<=i) (h5:i<=4):gP i < 18446744073709551616 ^ 16:=by
 rw [zel 256 8 128 rfl rfl];have h:=zai 256 (gP i) q_e;rw [zgW i h0 h5] at h;exact Nat.lt_of_lt_of_le h (Nat.pow_le_pow_right q_e (by have:=(zcd i h0 h5).2;omega))
theorem zaV (i:Nat) (h0:1<=i) (h5:i<=4):gQ i < 18446744073709551616 ^ 16:=Nat.lt_of_le_of_lt (Nat.div_le_self _ _) (zaN i h0 h5)
def safeC (p q l:Nat):List Value:=natC p ++ (natC q ++ [.int .i64 l])
theorem zQ (p q l:Nat):(safeC p q l).length=33:=by
 unfold safeC;rw [List.length_append,List.length_append,ze,ze];rfl
theorem zas (p q l:Nat):(safeC p q l).all (·.oneCell')=true:=by
 unfold safeC;rw [List.all_append,List.all_append,zcY,zcY];rfl
theorem zbf (p q l:Nat):Seg (safeC p q l) 0 (natC p):=by
 have:=Seg.mid (A:=[]) (B:=natC p) (D:=natC q ++ [Value.int .i64 l]);rw [List.nil_append] at this;exact this
theorem zbb (p q l:Nat):Seg (safeC p q l) 16 (natC q):=by
 have:=Seg.mid (A:=natC p) (B:=natC q) (D:=[Value.int .i64 l]);rw [ze,List.append_assoc] at this;exact this
theorem zbz (p q l:Nat):(safeC p q l)[32]?=some (.int .i64 (l:Int)):=by
 unfold safeC;rw [List.getElem?_append_right (by rw [ze];decide),List.getElem?_append_right (by rw [ze,ze];decide),ze,ze];rfl
theorem zmH (p q l:Nat):FillTo (nth [(0,16),(16,16),(32,1)]) [(0,natV p),(1,natV q),(2,Value.int .i64 l)] (List.replicate 32 (Value.int IntKind.u64 0) ++ [.int .i64 0]) (safeC p q l):=by
 have hz:List.replicate 32 (Value.int IntKind.u64 0)=List.replicate 16 (Value.int IntKind.u64 0) ++ List.replicate 16 (Value.int IntKind.u64 0):=rfl;have s1:setSeg (List.replicate 32 (Value.int IntKind.u64 0) ++ [.int .i64 0]) 0 (natC p)=natC p ++ (List.replicate 16 (Value.int IntKind.u64 0) ++ [.int .i64 0]):=by
  unfold setSeg;rw [ze,hz];simp
 have s2:setSeg (natC p ++ (List.replicate 16 (Value.int IntKind.u64 0) ++ [.int .i64 0])) 16 (natC q)=natC p ++ (natC q ++ [.int .i64 0]):=by
  unfold setSeg;rw [ze,List.take_append_of_le_length (by rw [ze];decide),List.take_of_length_le (by rw [ze];decide),List.drop_append,ze,List.drop_of_length_le (by rw [ze];decide)];simp
 have s3:setSeg (natC p ++ (natC q ++ [.int .i64 0])) 32 [Value.int .i64 (l:Int)]=safeC p q l:=by
  have e:natC p ++ (natC q ++ [Value.int .i64 0])=(natC p ++ natC q) ++ [Value.int .i64 0]:=by rw [List.append_assoc]
  have hl:(natC p ++ natC q).length=32:=by rw [List.length_append,ze,ze]
  unfold setSeg safeC;rw [e,List.take_append_of_le_length (by rw [hl];decide),List.take_of_length_le (by rw [hl];decide),List.drop_of_length_le (by rw [List.length_append,hl];exact Nat.le_refl _)];simp
 refine .cons (cs:=natC p) rfl rfl (ze p) q_p ?_;rw [s1];refine .cons (cs:=natC q) rfl rfl (ze q) (by simp [ze]) ?_;rw [s2];refine .cons (cs:=[.int .i64 l]) rfl rfl rfl (by simp [ze]) ?_;rw [s3];exact .nil
theorem zna:List.replicate 32 (Value.int IntKind.u64 0) ++ [Value.int .i64 0]=safeC 0 0 0:=by
 unfold safeC natC;rw [zdF,List.map_replicate];rfl
end Go.Nt
namespace Go.Proofs.YtdnlngbjpdbffaaGreatDoor
open Go Go.Sy Go.Nt Go.RowKit
def safeV (p q l:Nat):Value:=.agg (safeC p q l).toArray
def GT (w:World):Prop:=w.rangeAt 0 0 gCells
theorem GT.to {w w':World}(h:GT w) (hk:Keep No w w'):GT w':=zaw h hk (λh=>h)
section
variable {ro:Option Nat}{N:Nat}{w0:World}{M:Nat->Prop}{ds:List Deferred}{g:Nat->Option Value}{L:List Res}{o:Oper}{z z' z'':Operand}
theorem zjX {p q l:Nat}(ho:o.op= .build 194 #[(0,z),(1,z'),(2,z'')]:=by exact rfl) (hz:ev g z=some (natV p):=by exact rfl) (hz':ev g z'=some (natV q):=by exact rfl) (hz'':ev g z''=some (.int .i64 (l:Int)):=by exact rfl):OpT Tryz.prog ro N w0 M ds o g L (Det (safeV p q l) L):=
 zed (parts:=#[(0,z),(1,z'),(2,z'')]) (vs:=[natV p,natV q,.int .i64 l]) (C:=safeC p q l) (zmH p q l) ho (by simp [evs,hz,hz',hz'']) (ty rfl) rfl rfl (zc rfl)
theorem zgb (ho:o.op= .build 194 #[]:=by exact rfl):OpT Tryz.prog ro N w0 M ds o g L (Det (safeV 0 0 0) L):=by
 unfold safeV;rw [<-zna];exact zcF ho (ty rfl) (.inl ⟨rfl,rfl⟩) (zc rfl)
end
attribute [local irreducible] Sy SyL SyX Sy.Fn callFunc natC rowN safeC gP gQ gL gS gCells
theorem ze6 (z:Int) (w:World) (hz: ¬(1<=z/\z<=4)):Sy.Fn Tryz.prog 180 [.int .i64 z] w No (Gives (.tuple #[safeV 0 0 0,.int .i64 2])):=by
 refine zg Tryz.func180 rfl Tryz.ntmps180 q_p Holds.nil ?_;have hl:=zQ 0 0 0;by_cases h:z < 1
 ·have g1:decide (z < 1)=true:=decide_eq_true h;repeat' (first|refine s_0 ?_|(refine zb 0 ?_;refine zO ?_;intro _)|(refine zb 1 (za ?_);refine yv (zn (hr:=g1)) (k:=za ?_))|(refine zb 2 ?_;refine yv zgb (k:=?_);refine yn (zE (B:=safeC 0 0 0) (hv:=zas 0 0 0) (h1:=(zQ 0 0 0).symm)) (k:=za ?_)))
  exact ret2 rfl (resCells (B:=safeC 0 0 0) rfl (ty rfl) rfl Has.go Seg.all (zQ _ _ _).symm) (resTmp rfl) SubR.nil ⟨rfl,rfl⟩
 ·have g1:decide (z < 1)=false:=decide_eq_false h;have g2:decide (z > 4)=true:=q_d;repeat' (first|refine s_0 ?_|(refine zb 0 ?_;refine zO ?_;intro _)|(refine zb 1 (za ?_);refine yv (zn (hr:=g1)) (k:=za ?_);refine yv (zU (hr:=g2)) (k:=za ?_))|(refine zb 2 ?_;refine yv zgb (k:=?_);refine yn (zE (B:=safeC 0 0 0) (hv:=zas 0 0 0) (h1:=(zQ 0 0 0).symm)) (k:=za ?_)))
  exact ret2 rfl (resCells (B:=safeC 0 0 0) rfl (ty rfl) rfl Has.go Seg.all (zQ _ _ _).symm) (resTmp rfl) SubR.nil ⟨rfl,rfl⟩
theorem zbx (i:Nat) (w:World) (h0:1<=i) (h5:i<=4) (hG:GT w):Sy.Fn Tryz.prog 180 [.int .i64 (i:Int)] w No (Gives (.tuple #[safeV (gP i) (gQ i) (gL i),.int .i64 0])):=by
 refine zg Tryz.func180 rfl Tryz.ntmps180 q_p Holds.nil ?_;have g1:decide ((i:Int) < 1)=false:=q_f;have g2:decide ((i:Int) > 4)=false:=q_f;have g3:IntKind.i64.wrap ((i:Int) - 1)=((i - 1:Nat):Int):=q_w;have hcell:w.cell? ⟨0,i - 1,none⟩=some (.string (str (gS i))):=by
  have:=hG (i - 1) _ (zg4 i h0 h5);rwa [Nat.zero_add] at this
 have hW:=zaN i h0 h5;have hsl:=znR i h0 h5;have hpa:=λw'=>zor (gS i) w' q_o;rw [zjj i h0 h5] at hpa;dsimp only at hpa;rw [if_pos hW] at hpa;have hsh:=λw'=>zri (gP i) 1 w' hW q_e;rw [zrD] at hsh;have hbl:=λw'=>zbe (gP i) w' hW;have hn:=zjs 8 (gP i) q_e;rw [show (2:Nat) ^ 8=256 from rfl,zgW i h0 h5] at hn;have hnb:=zcR hW;have lP:=ze (gP i);have lQ:=ze (gQ i);have lS:=zQ (gP i) (gQ i) (gL i);generalize nd 2 (gP i)=m at *;have g4:IntKind.i64.wrap ((m:Int)+7)=((m+7:Nat):Int):=q_w;have g5:IntKind.i64.wrap (((m+7:Nat):Int).tdiv 8)=((gL i:Nat):Int):=by
  have:=quoI (p:=m+7) (k:=8) q_o;rw [show m+7=m+(8 - 1) from rfl,<-hn] at this;exact this
 clear hn hsl;generalize gP i=p at *;generalize gQ i=q at *;generalize gL i=l at *;repeat' (first|refine s_0 ?_|(refine zb 0 ?_;refine zO ?_;intro _)|(refine zb 1 (za ?_);refine yv (zn (hr:=g1)) (k:=za ?_);refine yv (zU (hr:=g2)) (k:=za ?_))|(refine zb 3 (za ?_);refine yv (zD (hr:=g3)) (k:=?_);refine yv (zcn (j:=i - 1)) (k:=?_);refine yv (zl (hv:=hcell)) (k:=?_);refine yv (zd (hc:=λ_ _ _ _=>(hpa _))) (k:=?_);refine za ?_;refine zj ?_;intro _;refine yn (zi (n:=p)) (k:=za ?_))|(refine zb 4 ?_;refine yv (zf (B:=natC p)) (k:=?_);refine yv (zd (hc:=λ_ _ _ _=>(hsh _))) (k:=?_);refine za ?_;refine zj ?_;intro _;refine yn (zi (n:=q)) (k:=za ?_))|(refine zM (id:=5) 6 [[],[],[],[2],[2,3],[2,3,4],[0,1,2,3,4,5],[0,1,2,3,4,5,6],[0,1,2,3,4,5,6,7]] mixed ?_ ?_;kernel_rfl;refine dc (λ_ _=>zf (B:=natC p)) (k:=?_);refine dc (λ_ _=>zf (B:=natC q)) (k:=?_);refine dc (λ_ _=>zf (B:=natC p)) (k:=?_);refine dc (λ_ _=>zd (hc:=λ_ _ _ _=>(hbl _))) (k:=?_);refine dc (λ_ _=>zu (hr:=g4)) (k:=?_);refine dc (λ_ _=>zaz (hr:=g5)) (k:=?_);refine zY ?_;refine yv (zjX (p:=p) (q:=q) (l:=l)) (k:=?_);refine yn (zE (B:=safeC p q l) (hv:=zas p q l) (h1:=(zQ p q l).symm)) (k:=?_);refine zx ?_)|fail)
 exact ret2 rfl (resCells (B:=safeC p q l) rfl (ty rfl) rfl Has.go Seg.all (zQ _ _ _).symm) (resTmp rfl) SubR.nil ⟨rfl,rfl⟩
end Go.Proofs.YtdnlngbjpdbffaaGreatDoor
end
section
namespace Go.Proofs.YtdnlngbjpdbffaaGreatDoor
open Go Go.Sy Go.Nt Go.RowKit
theorem ziD {H:Type}{enc:TypeId×Value->H}{P:Program}{w:World}{base:Nat}{sp:Nat->Bool}{held:Bool}{fuel:Nat}{t e:TypeId}{n:Nat}{cs:List Value}{ss:List (List UInt8)}{p:List MemPlace}
  (ht:P.underlying t=some (.array n e)) (he:P.underlying e=some .string) (hce:P.cellsOf e=1) (hct:P.cellsOf t=n)
  (h:DataW.trod enc P w base sp held fuel t cs=some (.agg (ss.map λs=> .lit (.string s)),p)):cs=ss.map λs=>Value.string (str s):=by
 cases fuel with
 |zero=>simp [DataW.trod] at h
 |succ fuel=>
  simp only [DataW.trod,ht,hce,hct,Nat.mul_one] at h;split at h
  ·rename_i hl;obtain ⟨xs,hm,hx⟩:=Option.map_eq_some_iff.1 h;have hxs:xs.map (·.1)=ss.map λs=>(DataW.lit (.string s):DataW H):=by
    have:=congrArg Prod.fst hx;simpa using this
   have hxl:xs.length=n:=by simpa using Lib.mapM_length hm
   have hzl:ss.length=n:=by
    have:=congrArg List.length hxs;simp at this;omega
   apply List.ext_getElem?;intro i;by_cases hi:i < n
   ·obtain ⟨b,hb,hf⟩:=Lib.mapM_at hm i i (by simp [hi]);obtain ⟨s,hc,rfl,_⟩:=DataW.trod_string he hf;have h1:cs[i]?=some (.string s):=by
     have:=congrArg (·[0]?) hc;simpa [List.getElem?_take,List.getElem?_drop] using this
    have h2:(xs.map (·.1))[i]?=some (DataW.lit (.string s.data.toList):DataW H):=by simp [hb]
    rw [hxs] at h2;simp only [List.getElem?_map,Option.map_eq_some_iff,DataW.lit.injEq,Lit.string.injEq] at h2;obtain ⟨z',hz',rfl⟩:=h2;have h3:str s.data.toList=s:=rfl;rw [h1,List.getElem?_map,hz',Option.map_some,h3]
   ·rw [List.getElem?_eq_none (by omega),List.getElem?_eq_none (by simp;omega)]
  ·cases h
theorem zmy {P:Program}{w:World}{l:List (String×DataW Unit)}(h:laidMet P l w) {n:String}{ss:List (List UInt8)}{g t e m:Nat}(hm:(n,(.agg (ss.map λs=> .lit (.string s)):DataW Unit))∈l) (hg:P.globalNamed n=some g) (hty:(P.globals[g]?).map (·.type)=some t)
  (ht:P.underlying t=some (.array m e)) (he:P.underlying e=some .string) (hce:P.cellsOf e=1) (hct:P.cellsOf t=m):w.rangeAt g 0 (ss.map λs=>Value.string (str s)):=by
 obtain ⟨ps,hl,_⟩:=h;obtain ⟨g',t',cs,fuel,p,hg',ht',hvar,hd⟩:=zf1 hl hm;obtain rfl:=Option.some.inj (hg.symm.trans hg');obtain rfl:=Option.some.inj (hty.symm.trans ht');have hcs:=ziD ht he hce hct hd;intro j v hj;rw [World.var?_cell hg hvar,Nat.zero_add,<-Array.getElem?_toList,hcs];exact hj
theorem gPrimes:Tryz.prog.globalNamed "watchword/group.primes" =some 0:=by kernel_rfl
theorem tyPrimes:(Tryz.prog.globals[0]?).map (·.type)=some 244:=by kernel_rfl
theorem undPrimes:Tryz.prog.underlying 244=some (.array 4 9):=by kernel_rfl
theorem undStr:Tryz.prog.underlying 9=some .string:=by kernel_rfl
theorem cellsStr:Tryz.prog.cellsOf 9=1:=by kernel_rfl
theorem cellsPrimes:Tryz.prog.cellsOf 244=4:=by kernel_rfl
theorem dPrimes:(Rows.laid_watchword_group_primes:DataW Unit)= .agg ([gS 1,gS 2,gS 3,gS 4].map λs=> .lit (.string s)):=by kernel_rfl
theorem zsd {W:World}{l:List (String×DataW Unit)}(h:laidMet Tryz.prog l W) (h1:("watchword/group.primes",Rows.laid_watchword_group_primes)∈l):GT W:=by
 rw [dPrimes] at h1;exact zmy h h1 gPrimes tyPrimes undPrimes undStr cellsStr cellsPrimes
def datG:Nat->DataW Unit->List Value
 |n+1,.agg l=>l.flatMap (datG n)
 |_,.lit (.int k z)=>[.int k z]
 |_,.lit (.string s)=>[.string (str s)]
 |_,_=>[]
noncomputable def laidWorldG (os:Os):World:=
 { laidWorld os with heap:=(laidWorld os).heap.modify 0 (putCells (datG 3 Rows.laid_watchword_group_primes)) }
end Go.Proofs.YtdnlngbjpdbffaaGreatDoor
end
section
namespace Go.Sy
open Go
section
variable {P:Program}{ro:Option Nat}{N:Nat}{w0:World}{M:Nat->Prop}{ds:List Deferred}{o:Oper}{g:Nat->Option Value}{L:List Res}{t:TypeId}{y:Ty}
theorem zht {e n c':Nat}{lo co:Operand}{k1 k2:IntKind}{z0:Value}{l c:Int}{ye:Ty}(hnc:n<=c') (hln:l=(n:Int):=by exact rfl) (hcn:c=(c':Int):=by exact rfl) (ho:o.op= .makeSlice t lo co:=by exact rfl) (hl:ev g lo=some (.int k1 l):=by exact rfl) (hc:ev g co=some (.int k2 c):=by exact rfl) (ht:tyOf P t=some y:=by exact ty rfl) (hy:y.desc= .slice e:=by exact rfl) (he:tyOf P e=some ye:=by exact ty rfl)
  (hz:zeroC P e=some [z0]:=by exact zc rfl) (h1:ye.size=1:=by exact rfl) (hb:ye.bytes*c'<=281474976710656:=by first|(dsimp only;omega)|omega|fail) (hm:c'<=maxLen:=by first|(unfold maxLen;omega)|fail):
  OpT P ro N w0 M ds o g L (λv L'=>∃b,v= .slice (some ⟨b,0,none⟩) n c'/\L'= .blk b e (List.replicate c' z0)::L):=
 OpT.run (by rw [ho];rfl) λa w X hst=>by
  obtain ⟨d,i',hd,hi',hs',_⟩:=zN ht;rw [hy] at hs';have:=zaF hs';subst this;obtain ⟨de,ie,hde,hie,_,hez,heb,_⟩:=zN he;unfold zeroC at hz;rw [hie] at hz;simp only [Option.bind_some,Option.map_eq_some_iff] at hz;obtain ⟨zv,hzv,hze⟩:=hz;subst hln;subst hcn;obtain ⟨h2,h3⟩:=zaU hst e (List.replicate c' z0);refine ⟨_,_,w.alloc (.cells (List.replicate c' z0).toArray e),_,?_,.inl rfl,⟨w.heap.size,rfl,rfl⟩,h2,h3⟩;have hm':c'<=9223372036854775807:=by unfold maxLen at hm;omega
  have hzs:zv.cells= #[z0]:=Array.toList_inj.1 hze;have hr:=run_make (P:=P) w t e ie zv hd hie hzv k1 k2 n c' q_o q_o (by rw [heb,<-Int.natCast_mul];omega) q_o;simp only [Int.toNat_natCast] at hr;have e1:madeCells zv.cells (c'*ie.size)=(List.replicate c' z0).toArray:=by
   rw [hez,h1,Nat.mul_one,hzs];exact Array.toList_inj.1 (toList_madeCells_one z0 c')
  rw [e1] at hr;simp [execOp,ho,hst.agr.eval hl,hst.agr.eval hc,hr]
end
end Go.Sy
end
