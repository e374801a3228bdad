/- Reduce, Add, Sub, Mul, Exp. -/
import Derived.Test.YtaeddmcoanefhaaGreatDoorVJ22
set_option linter.all false
section
namespace Go.Proofs.YtaeddmcoanefhaaGreatDoor
open Go Go.Sy Go.Nt Go.RowKit
section
variable {ro : Option Nat} {N : Nat} {w0 : World} {M : Nat → Prop} {ds : List Deferred} {g : Nat → Option Value} {L : List Res} {o : Oper} {z : Operand}
theorem op_buildMod {n : Nat} (ho : o.op = .build 149 #[(0, z)] := by exact rfl) (hz : ev g z = some (natV n) := by exact rfl) : OpT Tryz.prog ro N w0 M ds o g L (Det (natV n) L) :=
  op_buildP (parts := #[(0, z)]) (vs := [natV n]) (C := natC n) (fill_nat n) ho (by simp [evs, hz]) (ty rfl) rfl rfl (zc rfl)
end
def SlOf (T n : Nat) (C : List Value) (v : Value) (Nw : List Res) : Prop := ∃ b, v = .slice (some ⟨b, 0, none⟩) n n ∧ Nw = [.blk b T C]
def ptrOf : Value → Value
  | .slice (some a) _ _ => .pointer (some a)
  | v => v
attribute [local irreducible] Sy SyL SyX Sy.Fn callFunc natC rowN
set_option maxRecDepth 10000
def modR (m r : Nat) : Value := if m = 0 then .tuple #[natV 0, .int .i64 2] else .tuple #[natV r, .int .i64 0]
theorem reduce_fn (a m : Nat) (w : World) (ha : a < 18446744073709551616 ^ 16) (hm : m < 18446744073709551616 ^ 16) :
    Sy.Fn Tryz.prog 73 [natV a, natV m] w No (Gives (modR m (a % m))) := by
  refine fn_enter Tryz.func73 rfl Tryz.ntmps73 (by simp) Holds.nil ?_
  have hla := natC_len a
  have hlm := natC_len m
  have hl0 := natC_len 0
  have hz := fun w' => isZero_fn m w' hm
  rcases Nat.eq_zero_or_pos m with h | h
  · subst h
    unfold modR
    rw [if_pos rfl]
    repeat' (first | refine sy_seqC ?_ | refine syl_nil ?_ | refine sy_if_t rfl ?_ | refine sy_ret ?_ | refine syx_then ?_ | refine syx_go ?_ | refine syx_then_ret ?_ | (refine sy_region (id := 0) ?_; (refine y_new ?_; intro _); (refine y_new ?_; intro _); (refine y_new ?_; intro _); refine y_assign ?_) | (refine sy_region (id := 1) ?_; refine yv (op_loads (B := natC 0)) (k := ?_); refine yv (op_callV (hc := fun _ _ _ _ => (hz _))) (k := ?_)) | (refine sy_region (id := 2) ?_; refine yv op_zeroN (k := ?_); refine yn (op_storeNat (n := 0)) (k := ?_); refine y_assign ?_) | fail)
    exact ret2 rfl (resCells (B := natC 0) rfl (ty rfl) rfl Has.go Seg.all (natC_len _).symm) (resTmp rfl) SubR.nil ⟨rfl, rfl⟩
  · simp only [decide_eq_false (show ¬ m = 0 by omega)] at hz
    unfold modR
    rw [if_neg (by omega)]
    have hr := fun w' b' (h' : w'.rangeAt b' 0 (rowN [a])) => residues1_fn m a b' w' hm h ha h'
    have hlr := natC_len (a % m)
    generalize a % m = r at *
    repeat' (first | refine sy_seqC ?_ | refine syl_nil ?_ | refine sy_if_f rfl ?_ | refine sy_skip ?_ | refine sy_ret ?_ | refine syx_then ?_ | refine syx_go ?_ | (refine sy_region (id := 0) ?_; (refine y_new ?_; intro _); (refine y_new ?_; intro _); (refine y_new ?_; intro _); refine y_assign ?_) | (refine sy_region (id := 1) ?_; refine yv (op_loads (B := natC m)) (k := ?_); refine yv (op_callV (hc := fun _ _ _ _ => (hz _))) (k := ?_)) | (refine sy_region (id := 3) ?_; refine yv (op_loads (B := natC m)) (k := ?_); refine yv (op_buildMod (n := m)) (k := ?_); refine yv (op_loads (B := natC a)) (k := ?_)) | (refine ys (op_buildN1 (x := a)) (k := ?_); rintro _ _ ⟨bb, rfl, rfl⟩) | (refine syl_id ?_; first | refine yv (op_loads (B := natC r)) (k := ?_) | (refine ys (op_call0 (f := 97) (hc := fun w' X hk hh => hr w' _ (blk_range (hh.has (by exact Has.append Has.here)) Seg.all))) (k := ?_); rintro _ _ ⟨R, rfl, bc, rfl, rfl⟩) | refine yv (op_indexN (j := 0)) (k := ?_) | refine yn (op_storeNat (n := r)) (k := ?_) | refine y_assign ?_ | fail) | fail)
    exact ret2 rfl (resCells (B := natC r) rfl (ty rfl) rfl Has.go Seg.all (natC_len _).symm) (resTmp rfl) SubR.nil ⟨rfl, rfl⟩
set_option maxHeartbeats 1000000 in
/-- An operation on residues. f: its function, F: what it calculates. -/
theorem apply_fn (f : Nat) (F : Nat → Nat → Nat) (a b m : Nat) (w : World) (ha : a < 18446744073709551616 ^ 16) (hb : b < 18446744073709551616 ^ 16) (hm : m < 18446744073709551616 ^ 16)
    (hen : ∀ args w, (callFunc f args).run Tryz.prog w = .ok (.enter f args) w) (hf : ∀ a b w, a < m → b < m → Sy.Fn Tryz.prog f [natV m, natV a, natV b] w No (Gives (natV (F a b)))) :
    Sy.Fn Tryz.prog 98 [natV m, .func (.func f) #[] #[], natV a, natV b] w No (Gives (modR m (F (a % m) (b % m)))) := by
  refine fn_enter Tryz.func98 rfl Tryz.ntmps98 (by simp) Holds.nil ?_
  have hla := natC_len a
  have hlb := natC_len b
  have hlm := natC_len m
  have hl0 := natC_len 0
  have hz := fun w' => isZero_fn m w' hm
  rcases Nat.eq_zero_or_pos m with h | h
  · subst h
    unfold modR
    rw [if_pos rfl]
    repeat' (first | refine sy_seqC ?_ | refine syl_nil ?_ | refine sy_if_t rfl ?_ | refine sy_ret ?_ | refine syx_then ?_ | refine syx_go ?_ | refine syx_then_ret ?_ | (refine sy_region (id := 0) ?_; (refine y_new ?_; intro _); (refine y_new ?_; intro _); (refine y_new ?_; intro _); (refine y_new ?_; intro _); refine y_assign ?_) | (refine sy_region (id := 1) ?_; refine yv (op_loads (B := natC 0)) (k := ?_); refine yv (op_callV (hc := fun _ _ _ _ => (hz _))) (k := ?_)) | (refine sy_region (id := 2) ?_; refine yv op_zeroN (k := ?_); refine yn (op_storeNat (n := 0)) (k := ?_); refine y_assign ?_) | fail)
    exact ret2 rfl (resCells (B := natC 0) rfl (ty rfl) rfl Has.go Seg.all (natC_len _).symm) (resTmp rfl) SubR.nil ⟨rfl, rfl⟩
  · simp only [decide_eq_false (show ¬ m = 0 by omega)] at hz
    unfold modR
    rw [if_neg (by omega)]
    have hr := fun w' b' (h' : w'.rangeAt b' 0 (rowN [a, b])) => residues2_fn m a b b' w' hm h ha hb h'
    have hf := fun w' => hf (a % m) (b % m) w' (Nat.mod_lt _ h) (Nat.mod_lt _ h)
    have hlr := natC_len (F (a % m) (b % m))
    have hlr1 := natC_len (a % m)
    have hlr2 := natC_len (b % m)
    generalize F (a % m) (b % m) = r at *
    generalize a % m = r1 at *
    generalize b % m = r2 at *
    repeat' (first | refine sy_seqC ?_ | refine syl_nil ?_ | refine sy_if_f rfl ?_ | refine sy_skip ?_ | refine sy_ret ?_ | refine syx_then ?_ | refine syx_go ?_ | (refine sy_region (id := 0) ?_; (refine y_new ?_; intro _); (refine y_new ?_; intro _); (refine y_new ?_; intro _); (refine y_new ?_; intro _); refine y_assign ?_) | (refine sy_region (id := 1) ?_; refine yv (op_loads (B := natC m)) (k := ?_); refine yv (op_callV (hc := fun _ _ _ _ => (hz _))) (k := ?_)) | (refine sy_region (id := 3) ?_; refine yv (op_loads (B := natC m)) (k := ?_); refine yv (op_buildMod (n := m)) (k := ?_); refine yv (op_loads (B := natC a)) (k := ?_); refine yv (op_loads (B := natC b)) (k := ?_)) | (refine sy_draw (id := 4) 9 [[], [], [1], [], [3], [3, 4], [], [6], [6, 7], [0, 1, 2, 3, 4, 5, 6, 7, 8], [0, 1, 2, 3, 4, 5, 6, 7, 8, 9], [0, 1, 2, 3, 4, 5, 6, 7, 8, 9, 10]] mixed ?_ ?_; kernel_rfl; refine d_move ?_; refine dc (fun _ _ => op_loads (B := natC m)) (k := ?_); refine dc (fun _ _ => op_buildMod (n := m)) (k := ?_); refine d_move ?_; refine dc (fun _ _ => op_indexN (j := 0)) (k := ?_); refine dc (fun _ _ => op_loads (B := natC r1) (hv := (seg2 r1 r2).1)) (k := ?_); refine d_move ?_; refine dc (fun _ _ => op_indexN (j := 1)) (k := ?_); refine dc (fun _ _ => op_loads (B := natC r2) (hv := (seg2 r1 r2).2)) (k := ?_); refine dh_0n ?_; refine yv (op_callFV (he := hen) (fst := []) (cap := []) (hc := fun w' X hk hh => hf w')) (k := ?_); refine yn (op_storeNat (n := r)) (k := ?_); refine y_assign ?_) | (refine ys (op_buildN2 (x := a) (x' := b)) (k := ?_); rintro _ _ ⟨bb, rfl, rfl⟩) | (refine syl_id ?_; first | (refine ys (op_call0 (f := 97) (hc := fun w' X hk hh => hr w' _ (blk_range (hh.has (by exact Has.append Has.here)) Seg.all))) (k := ?_); rintro _ _ ⟨R, rfl, bc, rfl, rfl⟩) | refine y_assign ?_ | fail) | fail)
    exact ret2 rfl (resCells (B := natC r) rfl (ty rfl) rfl Has.go Seg.all (natC_len _).symm) (resTmp rfl) SubR.nil ⟨rfl, rfl⟩
theorem madd_fn (a b m : Nat) (w : World) (ha : a < 18446744073709551616 ^ 16) (hb : b < 18446744073709551616 ^ 16) (hm : m < 18446744073709551616 ^ 16) :
    Sy.Fn Tryz.prog 75 [natV a, natV b, natV m] w No (Gives (modR m ((a + b) % m))) := by
  refine fn_enter Tryz.func75 rfl Tryz.ntmps75 (by simp) Holds.nil ?_
  have hla := natC_len a
  have hlb := natC_len b
  have hlm := natC_len m
  have hl0 := natC_len 0
  have hap := fun w' => apply_fn 100 (fun x y => (x + y) % m) a b m w' ha hb hm (en rfl) (fun x y w' hx hy => sum_fn m x y w' hm hx hy)
  rcases Nat.eq_zero_or_pos m with h | h
  · subst h
    unfold modR at *
    simp only [if_pos rfl] at hap ⊢
    repeat' (first | refine sy_seqC ?_ | refine syl_nil ?_ | refine sy_ret ?_ | refine syx_then ?_ | refine syx_go ?_ | (refine sy_region (id := 0) ?_; (refine y_new ?_; intro _); (refine y_new ?_; intro _); (refine y_new ?_; intro _); (refine y_new ?_; intro _); refine y_assign ?_) | (refine sy_region (id := 1) ?_; refine yv (op_loads (B := natC 0)) (k := ?_); refine yv (op_loads (B := natC a)) (k := ?_); refine yv (op_loads (B := natC b)) (k := ?_); refine yv (op_callV (hc := fun _ _ _ _ => (hap _))) (k := ?_); refine y_extract ?_; refine y_extract ?_; refine yn (op_storeNat (n := 0)) (k := ?_); refine y_assign ?_) | fail)
    exact ret2 rfl (resCells (B := natC 0) rfl (ty rfl) rfl Has.go Seg.all (natC_len _).symm) (resTmp rfl) SubR.nil ⟨rfl, rfl⟩
  · have e : (fun x y => (x + y) % m) (a % m) (b % m) = (a + b) % m := by
      exact (Nat.add_mod a b m).symm
    dsimp only at e
    rw [e] at hap
    unfold modR at *
    simp only [if_neg (show ¬ m = 0 by omega)] at hap ⊢
    have hlr := natC_len ((a + b) % m)
    generalize (a + b) % m = r at *
    repeat' (first | refine sy_seqC ?_ | refine syl_nil ?_ | refine sy_ret ?_ | refine syx_then ?_ | refine syx_go ?_ | (refine sy_region (id := 0) ?_; (refine y_new ?_; intro _); (refine y_new ?_; intro _); (refine y_new ?_; intro _); (refine y_new ?_; intro _); refine y_assign ?_) | (refine sy_region (id := 1) ?_; refine yv (op_loads (B := natC m)) (k := ?_); refine yv (op_loads (B := natC a)) (k := ?_); refine yv (op_loads (B := natC b)) (k := ?_); refine yv (op_callV (hc := fun _ _ _ _ => (hap _))) (k := ?_); refine y_extract ?_; refine y_extract ?_; refine yn (op_storeNat (n := r)) (k := ?_); refine y_assign ?_) | fail)
    exact ret2 rfl (resCells (B := natC r) rfl (ty rfl) rfl Has.go Seg.all (natC_len _).symm) (resTmp rfl) SubR.nil ⟨rfl, rfl⟩
theorem mmul_fn (a b m : Nat) (w : World) (ha : a < 18446744073709551616 ^ 16) (hb : b < 18446744073709551616 ^ 16) (hm : m < 18446744073709551616 ^ 16) :
    Sy.Fn Tryz.prog 74 [natV a, natV b, natV m] w No (Gives (modR m (a * b % m))) := by
  refine fn_enter Tryz.func74 rfl Tryz.ntmps74 (by simp) Holds.nil ?_
  have hla := natC_len a
  have hlb := natC_len b
  have hlm := natC_len m
  have hl0 := natC_len 0
  have hap := fun w' => apply_fn 99 (fun x y => x * y % m) a b m w' ha hb hm (en rfl) (fun x y w' hx hy => product_fn m x y w' hm hx hy)
  rcases Nat.eq_zero_or_pos m with h | h
  · subst h
    unfold modR at *
    simp only [if_pos rfl] at hap ⊢
    repeat' (first | refine sy_seqC ?_ | refine syl_nil ?_ | refine sy_ret ?_ | refine syx_then ?_ | refine syx_go ?_ | (refine sy_region (id := 0) ?_; (refine y_new ?_; intro _); (refine y_new ?_; intro _); (refine y_new ?_; intro _); (refine y_new ?_; intro _); refine y_assign ?_) | (refine sy_region (id := 1) ?_; refine yv (op_loads (B := natC 0)) (k := ?_); refine yv (op_loads (B := natC a)) (k := ?_); refine yv (op_loads (B := natC b)) (k := ?_); refine yv (op_callV (hc := fun _ _ _ _ => (hap _))) (k := ?_); refine y_extract ?_; refine y_extract ?_; refine yn (op_storeNat (n := 0)) (k := ?_); refine y_assign ?_) | fail)
    exact ret2 rfl (resCells (B := natC 0) rfl (ty rfl) rfl Has.go Seg.all (natC_len _).symm) (resTmp rfl) SubR.nil ⟨rfl, rfl⟩
  · have e : (fun x y => x * y % m) (a % m) (b % m) = a * b % m := by
      exact (Nat.mul_mod a b m).symm
    dsimp only at e
    rw [e] at hap
    unfold modR at *
    simp only [if_neg (show ¬ m = 0 by omega)] at hap ⊢
    have hlr := natC_len (a * b % m)
    generalize a * b % m = r at *
    repeat' (first | refine sy_seqC ?_ | refine syl_nil ?_ | refine sy_ret ?_ | refine syx_then ?_ | refine syx_go ?_ | (refine sy_region (id := 0) ?_; (refine y_new ?_; intro _); (refine y_new ?_; intro _); (refine y_new ?_; intro _); (refine y_new ?_; intro _); refine y_assign ?_) | (refine sy_region (id := 1) ?_; refine yv (op_loads (B := natC m)) (k := ?_); refine yv (op_loads (B := natC a)) (k := ?_); refine yv (op_loads (B := natC b)) (k := ?_); refine yv (op_callV (hc := fun _ _ _ _ => (hap _))) (k := ?_); refine y_extract ?_; refine y_extract ?_; refine yn (op_storeNat (n := r)) (k := ?_); refine y_assign ?_) | fail)
    exact ret2 rfl (resCells (B := natC r) rfl (ty rfl) rfl Has.go Seg.all (natC_len _).symm) (resTmp rfl) SubR.nil ⟨rfl, rfl⟩
set_option maxHeartbeats 1000000 in
theorem exp_fn (a e m : Nat) (w : World) (ha : a < 18446744073709551616 ^ 16) (he : e < 18446744073709551616 ^ 16) (hm : m < 18446744073709551616 ^ 16) :
    Sy.Fn Tryz.prog 105 [natV a, natV e, natV m] w No (Gives (modR m (a ^ e % m))) := by
  refine fn_enter Tryz.func105 rfl Tryz.ntmps105 (by simp) Holds.nil ?_
  have hla := natC_len a
  have hle := natC_len e
  have hlm := natC_len m
  have hl0 := natC_len 0
  have hz := fun w' => isZero_fn m w' hm
  rcases Nat.eq_zero_or_pos m with h | h
  · subst h
    unfold modR
    rw [if_pos rfl]
    repeat' (first | refine sy_seqC ?_ | refine syl_nil ?_ | refine sy_if_t rfl ?_ | refine sy_ret ?_ | refine syx_then ?_ | refine syx_go ?_ | refine syx_then_ret ?_ | (refine sy_region (id := 0) ?_; (refine y_new ?_; intro _); (refine y_new ?_; intro _); (refine y_new ?_; intro _); (refine y_new ?_; intro _); refine y_assign ?_) | (refine sy_region (id := 1) ?_; refine yv (op_loads (B := natC 0)) (k := ?_); refine yv (op_callV (hc := fun _ _ _ _ => (hz _))) (k := ?_)) | (refine sy_region (id := 2) ?_; refine yv op_zeroN (k := ?_); refine yn (op_storeNat (n := 0)) (k := ?_); refine y_assign ?_) | fail)
    exact ret2 rfl (resCells (B := natC 0) rfl (ty rfl) rfl Has.go Seg.all (natC_len _).symm) (resTmp rfl) SubR.nil ⟨rfl, rfl⟩
  · simp only [decide_eq_false (show ¬ m = 0 by omega)] at hz
    unfold modR
    rw [if_neg (by omega)]
    have hr := fun w' b' (h' : w'.rangeAt b' 0 (rowN [a])) => residues1_fn m a b' w' hm h ha h'
    have h1 := fun w' => one_fn m w' hm h
    obtain ⟨V, hV⟩ : ∃ V : Nat → Nat, ∀ k, V k = (a % m) ^ k % m := ⟨fun k => (a % m) ^ k % m, fun _ => rfl⟩
    have hVm : ∀ k, V k < m := fun k => by rw [hV]; exact Nat.mod_lt _ h
    have hD : ∀ k w', Sy.Fn Tryz.prog 124 ([natV m] ++ [natV (V k)] ++ []) w' No (Gives (natV (V (2 * k)))) := fun k w' => by
      have := square_fn m (V k) w' hm (hVm k)
      rw [show V k * V k % m = V (2 * k) by rw [hV, hV, ← Nat.mul_mod, ← Nat.pow_add, Nat.two_mul]] at this
      exact this
    have hA : ∀ k w', Sy.Fn Tryz.prog 99 ([natV m] ++ [natV (V k), natV (a % m)] ++ []) w' No (Gives (natV (V (k + 1)))) := fun k w' => by
      have := product_fn m (V k) (a % m) w' hm (hVm k) (Nat.mod_lt _ h)
      rw [show V k * (a % m) % m = V (k + 1) by rw [hV, hV, Nat.mod_mul_mod, Nat.pow_succ]] at this
      exact this
    have hlad := fun w' => ladder_fn e (a % m) V 124 99 [natV m] [] [natV m] [] w' he (en rfl) (en rfl) hD hA
    rw [show V 0 = 1 % m by rw [hV, Nat.pow_zero], show V e = a ^ e % m by rw [hV, ((cg_mod m a).pow e).mod]] at hlad
    have hlr := natC_len (a % m)
    have hlR := natC_len (a ^ e % m)
    have hl1 := natC_len (1 % m)
    clear hD hA hV hVm
    generalize a ^ e % m = R at *
    generalize a % m = r at *
    generalize 1 % m = u at *
    repeat' (first | refine sy_seqC ?_ | refine syl_nil ?_ | refine sy_if_f rfl ?_ | refine sy_skip ?_ | refine syx_then ?_ | refine syx_go ?_ | (refine sy_region (id := 0) ?_; (refine y_new ?_; intro _); (refine y_new ?_; intro _); (refine y_new ?_; intro _); (refine y_new ?_; intro _); refine y_assign ?_) | (refine sy_region (id := 1) ?_; refine yv (op_loads (B := natC m)) (k := ?_); refine yv (op_callV (hc := fun _ _ _ _ => (hz _))) (k := ?_)) | (refine sy_region (id := 3) ?_; refine yv (op_loads (B := natC m)) (k := ?_); refine yv (op_buildMod (n := m)) (k := ?_); (refine y_new ?_; intro _); refine yn (op_storesAll (B := natC m) (hv := natC_one m) (h1 := (natC_len m).symm)) (k := ?_)) | fail)
    rename_i b3 b4 b5 b6 b8
    refine sy_drawA (id := 4) mixed ?_
    (refine sye_part 14 14 [[], [], [1], [], [], [4], [1, 2, 3, 4, 5], [1, 2, 3, 4, 5, 6], [1, 2, 3, 4, 5, 6, 7], [], [9], [], [11], [0, 1, 2, 3, 4, 5, 6, 7, 8, 9, 10, 11, 12], [0, 1, 2, 3, 4, 5, 6, 7, 8, 9, 10, 11, 12, 13], [0, 1, 2, 3, 4, 5, 6, 7, 8, 9, 10, 11, 12, 13, 14]] [[], [], [], [], [], [], [], [], [], [], [], [], [], [], [], []] none rfl ?_ ?_ ?_; kernel_rfl; kernel_rfl; refine dcE (fun _ _ => op_loads (B := natC e)) (k := ?_); refine dcE (fun _ _ => op_loads (B := natC m)) (k := ?_); refine dcE (fun _ _ => op_callV (hc := fun _ _ _ _ => (h1 _))) (k := ?_); refine dcE (fun _ _ => op_loads (B := natC m)) (k := ?_); refine dcE (fun _ _ => op_loads (B := natC a)) (k := ?_); try refine dh_0nE (h := ?_))
    refine dh_rE (R := fun _ => SlOf 44 1 (rowN [a])) (fun _ _ _ => rfl) (fun ρ hρ => OpT.mono (op_buildN1 (x := a)) fun v L' h => ?_) (h := ?_)
    · obtain ⟨b, rfl, rfl⟩ := h
      exact ⟨[_], rfl, b, rfl, rfl⟩
    refine dh_rE (R := fun _ => SlOf 44 1 (natC r)) (fun _ _ _ => rfl) (fun ρ hρ => ?_) (h := ?_)
    · obtain ⟨⟨bx, e1, e2⟩, -⟩ := hρ
      refine OpT.mono (op_call0 (vs := [natV m, .slice (some ⟨bx, 0, none⟩) 1 1]) (ha := by show some [_, (ρ 5).1] = _; rw [e1]; rfl) (hc := fun w' X hk hh => hr w' bx ((Reads.blk (T := 44) (by show Has ((ρ 5).2 ++ _) _; rw [e2]; exact Has.here) Seg.all) w' X hk hh))) fun v L' h => ?_
      obtain ⟨R, rfl, bc, rfl, rfl⟩ := h
      exact ⟨_, rfl, bc, rfl, rfl⟩
    refine dh_vE (u := fun ρ => ptrOf (ρ 6).1) (fun ρ hρ => ?_) (fun _ => rfl) rfl (fun ρ ρ' h => by rw [h 6 (by decide)]) (h := ?_)
    · obtain ⟨⟨bx, e1, e2⟩, -⟩ := hρ
      refine OpT.mono (op_indexN (b := bx) (off := 0) (n := 1) (c := 1) (j := 0) (hx := by show some (ρ 6).1 = _; rw [e1])) fun v L' h => ?_
      obtain ⟨rfl, rfl⟩ := h
      exact ⟨by rw [e1]; rfl, rfl⟩
    refine dcE (u := natV r) (fun ρ hρ => ?_) (k := ?_)
    · obtain ⟨⟨bx, e1, e2⟩, -⟩ := hρ
      exact op_loads (B := natC r) (b := bx) (off := 0) (T := 44) (hx := by show some (ptrOf (ρ 6).1) = _; rw [e1]; rfl) (hL := by show Has ((ρ 6).2 ++ _) _; rw [e2]; exact Has.here) (hv := Seg.all) (hz := hlr.symm)
    (skip; refine dcE (fun _ _ => op_loads (B := natC m)) (k := ?_); refine e_makeFunc ?_; refine dcE (fun _ _ => op_loads (B := natC m)) (k := ?_); refine e_makeFunc ?_; refine dcE (fun _ _ => op_callV (hc := fun _ _ _ _ => (hlad _))) (k := ?_); try refine dh_0nE (h := ?_))
    refine dh_0E (h := ?_)
    rintro ρ ⟨⟨bx, e1, e2⟩, ⟨bz, e3, e4⟩, -⟩
    (refine sya_list [[], [], [1], [], [], [4], [1, 2, 3, 4, 5], [1, 2, 3, 4, 5, 6], [1, 2, 3, 4, 5, 6, 7], [], [9], [], [11], [0, 1, 2, 3, 4, 5, 6, 7, 8, 9, 10, 11, 12], [0, 1, 2, 3, 4, 5, 6, 7, 8, 9, 10, 11, 12, 13], [0, 1, 2, 3, 4, 5, 6, 7, 8, 9, 10, 11, 12, 13, 14]] ?_ ?_; kernel_rfl)
    refine SyL.weaken (fr' := [(27, natV R), (6, .pointer (some ⟨b6, 0, none⟩)), (7, .int .i64 0)]) (L' := [.blk b6 44 (List.replicate 16 (Value.int IntKind.u64 0))]) ?_ ?_ ?_
    rotate_left
    · exact Sub.go
    · show SubR _ ((ρ 6).2 ++ ((ρ 5).2 ++ _))
      rw [e2, e4]
      exact SubR.go2
    repeat' (first | refine syl_nil ?_ | refine sy_ret ?_ | refine syx_then ?_ | refine syx_go ?_ | (refine syl_id ?_; first | refine yn (op_storeNat (n := R)) (k := ?_) | refine y_assign ?_ | fail) | fail)
    exact ret2 rfl (resCells (B := natC R) rfl (ty rfl) rfl Has.go Seg.all (natC_len _).symm) (resTmp rfl) SubR.nil ⟨rfl, rfl⟩
end Go.Proofs.YtaeddmcoanefhaaGreatDoor
end
