/- The functions of layer group: bytes written and read, the scalar of bytes, all groups. -/
import Derived.Test.YtjidkoabdmjgkaaDoorUGrp3
set_option linter.all false
namespace Go.Nt
open Go Go.Sy
theorem gP_nd {i x : Nat} (h0 : 1 ≤ i) (h5 : i ≤ 4) (h : x < gP i) : nd 256 x ≤ gL i := by
  rw [← gP_len i h0 h5]
  exact nd_le 256 x _ (by decide) (Nat.lt_trans h (nd_lt 256 (gP i) (by decide)))
theorem memB_lt {p q x : Nat} (h : memB p q x = true) : x < p := by
  unfold memB at h
  exact (of_decide_eq_true h).2.1
end Go.Nt
namespace Go.Proofs.YtjidkoabdmjgkaaDoor
open Go Go.Sy Go.Nt Go.RowKit
attribute [local irreducible] Sy SyL SyX Sy.Fn callFunc natC rowN safeC gP gQ gL gS gCells memB
set_option maxRecDepth 10000
theorem gwrite_bad (z : Int) (x f : Nat) (w : World) (hz : ¬ (1 ≤ z ∧ z ≤ 4)) : Sy.Fn Tryd.prog 37 [.int .i64 z, natV x, .func (.func f) #[] #[]] w No (Gives (.tuple #[.slice none 0 0, .int .i64 2])) := by
  refine fn_enter Tryd.func37 rfl Tryd.ntmps37 (by simp) Holds.nil ?_
  have lS := safeC_len 0 0 0
  have lx := natC_len x
  repeat' (first | refine sy_seqC ?_ | refine syl_nil ?_ | refine sy_if_t rfl ?_ | refine sy_ret ?_ | refine syx_then ?_ | refine syx_go ?_ | refine syx_then_ret ?_ | (refine sy_region (id := 0) ?_; (refine y_new ?_; intro _); refine y_assign ?_; refine y_assign ?_) | (refine sy_region (id := 1) ?_; refine y_move ?_; refine yv (op_callV (hc := fun _ _ _ _ => (find_bad z _ hz))) (k := ?_); refine y_move ?_; refine y_extract ?_; refine y_extract ?_; (refine y_new ?_; intro _); refine yn (op_storesAll (B := safeC 0 0 0) (hv := safeC_one 0 0 0) (h1 := (safeC_len 0 0 0).symm)) (k := ?_); refine y_assign ?_) | (refine sy_region (id := 2) ?_; refine y_move ?_; refine y_neq ?_) | (refine sy_region (id := 3) ?_; refine y_move ?_; refine y_assign ?_; refine y_assign ?_) | fail)
  exact ret2 rfl (resTmp rfl) (resTmp rfl) SubR.nil ⟨rfl, rfl⟩
theorem gwrite_no (i x f : Nat) (cond : Nat → Bool) (w : World) (h0 : 1 ≤ i) (h5 : i ≤ 4) (hG : GT w) (hx : x < 18446744073709551616 ^ 16) (hen : ∀ args w, (callFunc f args).run Tryd.prog w = .ok (.enter f args) w) (hf : ∀ w', Sy.Fn Tryd.prog f [safeV (gP i) (gQ i) (gL i), natV x] w' No (Gives (.bool (cond x)))) (hc : cond x = false) : Sy.Fn Tryd.prog 37 [.int .i64 (i : Int), natV x, .func (.func f) #[] #[]] w No (Gives (.tuple #[.slice none 0 0, .int .i64 3])) := by
  refine fn_enter Tryd.func37 rfl Tryd.ntmps37 (by simp) Holds.nil ?_
  have lx := natC_len x
  have hW := gP_W i h0 h5
  have hQW := gQ_W i h0 h5
  have hp1 := gP_one i h0 h5
  have hq0 := gQ_low i h0 h5
  have hfi := fun w' (hk : Keep No w w') => find_fn i w' h0 h5 (hG.to hk)
  generalize gP i = p at *
  generalize gQ i = q at *
  generalize gL i = l at *
  have lS := safeC_len p q l
  have lp := natC_len p
  have lq := natC_len q
  have lz := natC_len 0
  have hsp := safe_p p q l
  have hsq := safe_q p q l
  have hsl := safe_l p q l
  have hal := fun w' b' (h : w'.rangeAt b' 0 (rowN [x])) => all1c p q l f x b' cond w' hen hf h
  simp only [hc, Bool.false_eq_true, if_false] at hal
  repeat' (first | refine sy_seqC ?_ | refine syl_nil ?_ | refine sy_if_t rfl ?_ | refine sy_if_f rfl ?_ | refine sy_skip ?_ | refine sy_ret ?_ | refine syx_then ?_ | refine syx_go ?_ | refine syx_then_ret ?_ | (refine sy_region (id := 0) ?_; (refine y_new ?_; intro _); refine y_assign ?_; refine y_assign ?_) | (refine sy_region (id := 1) ?_; refine y_move ?_; refine yv (op_callV (f := 39) (hc := fun w' _ hk _ => hfi w' hk)) (k := ?_); refine y_move ?_; refine y_extract ?_; refine y_extract ?_; (refine y_new ?_; intro _); refine yn (op_storesAll (B := safeC p q l) (hv := safeC_one p q l) (h1 := (safeC_len p q l).symm)) (k := ?_); refine y_assign ?_) | (refine sy_region (id := 2) ?_; refine y_move ?_; refine y_neq ?_) | (refine sy_region (id := 4) ?_; refine yv (op_loads (B := safeC p q l)) (k := ?_); refine y_move ?_; refine yv (op_loads (B := natC x)) (k := ?_)) | (refine sy_region (id := 5) ?_; refine y_move ?_; refine y_neq ?_) | (refine sy_region (id := 6) ?_; refine y_move ?_; refine y_assign ?_; refine y_assign ?_) | (refine ys (op_buildN1 (x := x)) (k := ?_); rintro _ _ ⟨bb, rfl, rfl⟩) | (refine syl_id ?_; first | refine yv (op_callV (f := 43) (hc := fun w' X hk hh => hal w' _ (blk_range (hh.has (by exact Has.append Has.here)) Seg.all))) (k := ?_) | refine y_assign ?_ | fail) | fail)
  exact ret2 rfl (resTmp rfl) (resTmp rfl) SubR.nil ⟨rfl, rfl⟩
def FixG (i x : Nat) (v : Value) (R : List Res) : Prop := ∃ a c, v = .tuple #[.slice a (gL i) c, .int .i64 0] ∧ R = [.row (.slice a (gL i) c) 5 1 (gL i) ((fixB (gL i) x).map v8)]
theorem gwrite_fn (i x f : Nat) (cond : Nat → Bool) (w : World) (h0 : 1 ≤ i) (h5 : i ≤ 4) (hG : GT w) (hx : x < 18446744073709551616 ^ 16) (hen : ∀ args w, (callFunc f args).run Tryd.prog w = .ok (.enter f args) w) (hf : ∀ w', Sy.Fn Tryd.prog f [safeV (gP i) (gQ i) (gL i), natV x] w' No (Gives (.bool (cond x)))) (hc : cond x = true) (hlt : x < gP i) : Sy.Fn Tryd.prog 37 [.int .i64 (i : Int), natV x, .func (.func f) #[] #[]] w No (FixG i x) := by
  refine fn_enter Tryd.func37 rfl Tryd.ntmps37 (by simp) Holds.nil ?_
  have lx := natC_len x
  have hnd := gP_nd h0 h5 hlt
  have hl96 := (gL_le i h0 h5).2
  unfold FixG
  have hW := gP_W i h0 h5
  have hQW := gQ_W i h0 h5
  have hp1 := gP_one i h0 h5
  have hq0 := gQ_low i h0 h5
  have hfi := fun w' (hk : Keep No w w') => find_fn i w' h0 h5 (hG.to hk)
  generalize gP i = p at *
  generalize gQ i = q at *
  generalize gL i = l at *
  have lS := safeC_len p q l
  have lp := natC_len p
  have lq := natC_len q
  have lz := natC_len 0
  have hsp := safe_p p q l
  have hsq := safe_q p q l
  have hsl := safe_l p q l
  have hal := fun w' b' (h : w'.rangeAt b' 0 (rowN [x])) => all1c p q l f x b' cond w' hen hf h
  simp only [hc, if_true] at hal
  have hfx := fun w' => fixed_fn p q l x w' hx hnd (by omega)
  unfold RowOf at hfx
  generalize fixB l x = F at *
  repeat' (first | refine sy_seqC ?_ | refine syl_nil ?_ | refine sy_if_f rfl ?_ | refine sy_skip ?_ | refine sy_ret ?_ | refine syx_then ?_ | refine syx_go ?_ | (refine sy_region (id := 0) ?_; (refine y_new ?_; intro _); refine y_assign ?_; refine y_assign ?_) | (refine sy_region (id := 1) ?_; refine y_move ?_; refine yv (op_callV (f := 39) (hc := fun w' _ hk _ => hfi w' hk)) (k := ?_); refine y_move ?_; refine y_extract ?_; refine y_extract ?_; (refine y_new ?_; intro _); refine yn (op_storesAll (B := safeC p q l) (hv := safeC_one p q l) (h1 := (safeC_len p q l).symm)) (k := ?_); refine y_assign ?_) | (refine sy_region (id := 2) ?_; refine y_move ?_; refine y_neq ?_) | (refine sy_region (id := 4) ?_; refine yv (op_loads (B := safeC p q l)) (k := ?_); refine y_move ?_; refine yv (op_loads (B := natC x)) (k := ?_)) | (refine sy_region (id := 5) ?_; refine y_move ?_; refine y_neq ?_) | (refine sy_region (id := 7) ?_; refine yv (op_loads (B := safeC p q l)) (k := ?_); refine yv (op_loads (B := natC x)) (k := ?_); (refine ys (op_call0 (f := 58) (hc := fun w' X hk hh => hfx w')) (k := ?_); rintro _ _ ⟨R, rfl, aF, cF, rfl, rfl⟩); refine y_assign ?_; refine y_assign ?_) | (refine ys (op_buildN1 (x := x)) (k := ?_); rintro _ _ ⟨bb, rfl, rfl⟩) | (refine syl_id ?_; first | refine yv (op_callV (f := 43) (hc := fun w' X hk hh => hal w' _ (blk_range (hh.has (by exact Has.append Has.here)) Seg.all))) (k := ?_) | refine y_assign ?_ | fail) | fail)
  exact ret2 rfl (resTmp rfl) (resTmp rfl) (by exact SubR.go2) ⟨_, _, rfl, rfl⟩
theorem gbytes_bad (z : Int) (x : Nat) (w : World) (hz : ¬ (1 ≤ z ∧ z ≤ 4)) : Sy.Fn Tryd.prog 10 [.int .i64 z, natV x] w No (Gives (.tuple #[.slice none 0 0, .int .i64 2])) := by
  refine fn_enter Tryd.func10 rfl Tryd.ntmps10 (by simp) Holds.nil ?_
  have lx := natC_len x
  have hw := fun w' => gwrite_bad z x 38 w' hz
  repeat' (first | refine sy_seqC ?_ | refine syl_nil ?_ | refine sy_ret ?_ | refine syx_then ?_ | refine syx_go ?_ | (refine sy_region (id := 0) ?_; (refine y_new ?_; intro _); refine y_assign ?_; refine y_assign ?_) | (refine sy_region (id := 1) ?_; refine y_move ?_; refine yv (op_loads (B := natC x)) (k := ?_); refine yv (op_callV (hc := fun _ _ _ _ => (hw _))) (k := ?_); refine y_extract ?_; refine y_extract ?_; refine y_assign ?_; refine y_assign ?_) | fail)
  exact ret2 rfl (resTmp rfl) (resTmp rfl) SubR.nil ⟨rfl, rfl⟩
theorem gbytes_no (i x : Nat) (w : World) (h0 : 1 ≤ i) (h5 : i ≤ 4) (hG : GT w) (hx : x < 18446744073709551616 ^ 16) (hc : memB (gP i) (gQ i) x = false) : Sy.Fn Tryd.prog 10 [.int .i64 (i : Int), natV x] w No (Gives (.tuple #[.slice none 0 0, .int .i64 3])) := by
  refine fn_enter Tryd.func10 rfl Tryd.ntmps10 (by simp) Holds.nil ?_
  have lx := natC_len x
  have hw := fun w' (hk : Keep No w w') => gwrite_no i x 38 (memB (gP i) (gQ i)) w' h0 h5 (hG.to hk) hx (en rfl) (fun w'' => element_fn _ _ _ x w'' (gP_W i h0 h5) (gQ_W i h0 h5) (by have := gP_one i h0 h5; omega) hx) hc
  repeat' (first | refine sy_seqC ?_ | refine syl_nil ?_ | refine sy_ret ?_ | refine syx_then ?_ | refine syx_go ?_ | (refine sy_region (id := 0) ?_; (refine y_new ?_; intro _); refine y_assign ?_; refine y_assign ?_) | (refine sy_region (id := 1) ?_; refine y_move ?_; refine yv (op_loads (B := natC x)) (k := ?_); refine yv (op_callV (f := 37) (hc := fun w' _ hk _ => hw w' hk)) (k := ?_); refine y_extract ?_; refine y_extract ?_; refine y_assign ?_; refine y_assign ?_) | fail)
  exact ret2 rfl (resTmp rfl) (resTmp rfl) SubR.nil ⟨rfl, rfl⟩
theorem gbytes_fn (i x : Nat) (w : World) (h0 : 1 ≤ i) (h5 : i ≤ 4) (hG : GT w) (hx : x < 18446744073709551616 ^ 16) (hc : memB (gP i) (gQ i) x = true) : Sy.Fn Tryd.prog 10 [.int .i64 (i : Int), natV x] w No (FixG i x) := by
  refine fn_enter Tryd.func10 rfl Tryd.ntmps10 (by simp) Holds.nil ?_
  have lx := natC_len x
  have hw := fun w' (hk : Keep No w w') => gwrite_fn i x 38 (memB (gP i) (gQ i)) w' h0 h5 (hG.to hk) hx (en rfl) (fun w'' => element_fn _ _ _ x w'' (gP_W i h0 h5) (gQ_W i h0 h5) (by have := gP_one i h0 h5; omega) hx) hc (memB_lt hc)
  unfold FixG at *
  repeat' (first | refine sy_seqC ?_ | refine syl_nil ?_ | refine sy_ret ?_ | refine syx_then ?_ | refine syx_go ?_ | (refine sy_region (id := 0) ?_; (refine y_new ?_; intro _); refine y_assign ?_; refine y_assign ?_) | (refine sy_region (id := 1) ?_; refine y_move ?_; refine yv (op_loads (B := natC x)) (k := ?_); (refine ys (op_call0 (f := 37) (hc := fun w' X hk hh => hw w' hk)) (k := ?_); rintro _ _ ⟨R, rfl, aF, cF, rfl, rfl⟩); refine y_extract ?_; refine y_extract ?_; refine y_assign ?_; refine y_assign ?_) | fail)
  exact ret2 rfl (resTmp rfl) (resTmp rfl) (by exact SubR.go2) ⟨_, _, rfl, rfl⟩
theorem gread_bad (z : Int) (f : Nat) (a : Option Addr) (n c : Nat) (w : World) (hz : ¬ (1 ≤ z ∧ z ≤ 4)) : Sy.Fn Tryd.prog 41 [.int .i64 z, .slice a n c, .func (.func f) #[] #[]] w No (Gives (.tuple #[natV 0, .int .i64 2])) := by
  refine fn_enter Tryd.func41 rfl Tryd.ntmps41 (by simp) Holds.nil ?_
  have lS := safeC_len 0 0 0
  have lz := natC_len 0
  repeat' (first | refine sy_seqC ?_ | refine syl_nil ?_ | refine sy_if_t rfl ?_ | refine sy_block ?_ | refine sy_ret ?_ | refine syx_then ?_ | refine syx_go ?_ | refine syx_then_ret ?_ | refine syx_in_ret ?_ | (refine sy_region (id := 0) ?_; (refine y_new ?_; intro _); refine y_assign ?_) | (refine sy_region (id := 1) ?_; refine y_move ?_; refine yv (op_callV (hc := fun _ _ _ _ => (find_bad z _ hz))) (k := ?_); refine y_move ?_; refine y_extract ?_; refine y_extract ?_; (refine y_new ?_; intro _); refine yn (op_storesAll (B := safeC 0 0 0) (hv := safeC_one 0 0 0) (h1 := (safeC_len 0 0 0).symm)) (k := ?_); refine y_assign ?_) | (refine sy_region (id := 2) ?_; refine y_move ?_; refine y_neq ?_; refine y_assign ?_) | (refine sy_region (id := 3) ?_; refine yv op_zeroN (k := ?_); refine y_move ?_; refine yn (op_storeNat (n := 0)) (k := ?_); refine y_assign ?_) | fail)
  exact ret2 rfl (resCells (B := natC 0) rfl (ty rfl) rfl Has.go Seg.all (natC_len _).symm) (resTmp rfl) SubR.nil ⟨rfl, rfl⟩
theorem gread_short (i f : Nat) (a : Option Addr) (n c : Nat) (w : World) (h0 : 1 ≤ i) (h5 : i ≤ 4) (hG : GT w) (hn : n < gL i) : Sy.Fn Tryd.prog 41 [.int .i64 (i : Int), .slice a n c, .func (.func f) #[] #[]] w No (Gives (.tuple #[natV 0, .int .i64 4])) := by
  refine fn_enter Tryd.func41 rfl Tryd.ntmps41 (by simp) Holds.nil ?_
  have hW := gP_W i h0 h5
  have hQW := gQ_W i h0 h5
  have hp1 := gP_one i h0 h5
  have hq0 := gQ_low i h0 h5
  have hfi := fun w' (hk : Keep No w w') => find_fn i w' h0 h5 (hG.to hk)
  generalize gP i = p at *
  generalize gQ i = q at *
  generalize gL i = l at *
  have lS := safeC_len p q l
  have lp := natC_len p
  have lq := natC_len q
  have lz := natC_len 0
  have hsp := safe_p p q l
  have hsq := safe_q p q l
  have hsl := safe_l p q l
  have g1 : decide ((n : Int) < (l : Int)) = true := decide_eq_true (by omega)
  repeat' (first | refine sy_seqC ?_ | refine syl_nil ?_ | refine sy_if_t rfl ?_ | refine sy_if_f rfl ?_ | refine sy_block ?_ | refine sy_ret ?_ | refine syx_then ?_ | refine syx_go ?_ | refine syx_then_ret ?_ | refine syx_in_ret ?_ | (refine sy_region (id := 0) ?_; (refine y_new ?_; intro _); refine y_assign ?_) | (refine sy_region (id := 1) ?_; refine y_move ?_; refine yv (op_callV (f := 39) (hc := fun w' _ hk _ => hfi w' hk)) (k := ?_); refine y_move ?_; refine y_extract ?_; refine y_extract ?_; (refine y_new ?_; intro _); refine yn (op_storesAll (B := safeC p q l) (hv := safeC_one p q l) (h1 := (safeC_len p q l).symm)) (k := ?_); refine y_assign ?_) | (refine sy_region (id := 2) ?_; refine y_move ?_; refine y_neq ?_; refine y_assign ?_) | (refine sy_region (id := 4) ?_; refine y_move ?_; refine y_len ?_; refine y_fieldAddr ?_; refine yv (op_load (hv := hsl)) (k := ?_); refine yv (op_lss (hr := g1)) (k := ?_); refine y_assign ?_) | (refine sy_region (id := 5) ?_; refine yv op_zeroN (k := ?_); refine yn (op_storeNat (n := 0)) (k := ?_); refine y_assign ?_) | fail)
  exact ret2 rfl (resCells (B := natC 0) rfl (ty rfl) rfl Has.go Seg.all (natC_len _).symm) (resTmp rfl) SubR.nil ⟨rfl, rfl⟩
theorem gread_long (i f : Nat) (a : Option Addr) (n c : Nat) (w : World) (h0 : 1 ≤ i) (h5 : i ≤ 4) (hG : GT w) (hn : gL i < n) : Sy.Fn Tryd.prog 41 [.int .i64 (i : Int), .slice a n c, .func (.func f) #[] #[]] w No (Gives (.tuple #[natV 0, .int .i64 5])) := by
  refine fn_enter Tryd.func41 rfl Tryd.ntmps41 (by simp) Holds.nil ?_
  have hW := gP_W i h0 h5
  have hQW := gQ_W i h0 h5
  have hp1 := gP_one i h0 h5
  have hq0 := gQ_low i h0 h5
  have hfi := fun w' (hk : Keep No w w') => find_fn i w' h0 h5 (hG.to hk)
  generalize gP i = p at *
  generalize gQ i = q at *
  generalize gL i = l at *
  have lS := safeC_len p q l
  have lp := natC_len p
  have lq := natC_len q
  have lz := natC_len 0
  have hsp := safe_p p q l
  have hsq := safe_q p q l
  have hsl := safe_l p q l
  have g1 : decide ((n : Int) < (l : Int)) = false := decide_eq_false (by omega)
  have g2 : decide ((n : Int) > (l : Int)) = true := decide_eq_true (by omega)
  repeat' (first | refine sy_seqC ?_ | refine syl_nil ?_ | refine sy_if_t rfl ?_ | refine sy_if_f rfl ?_ | refine sy_block ?_ | refine sy_ret ?_ | refine syx_then ?_ | refine syx_go ?_ | refine syx_then_ret ?_ | refine syx_in_ret ?_ | (refine sy_region (id := 0) ?_; (refine y_new ?_; intro _); refine y_assign ?_) | (refine sy_region (id := 1) ?_; refine y_move ?_; refine yv (op_callV (f := 39) (hc := fun w' _ hk _ => hfi w' hk)) (k := ?_); refine y_move ?_; refine y_extract ?_; refine y_extract ?_; (refine y_new ?_; intro _); refine yn (op_storesAll (B := safeC p q l) (hv := safeC_one p q l) (h1 := (safeC_len p q l).symm)) (k := ?_); refine y_assign ?_) | (refine sy_region (id := 2) ?_; refine y_move ?_; refine y_neq ?_; refine y_assign ?_) | (refine sy_region (id := 4) ?_; refine y_move ?_; refine y_len ?_; refine y_fieldAddr ?_; refine yv (op_load (hv := hsl)) (k := ?_); refine yv (op_lss (hr := g1)) (k := ?_); refine y_assign ?_) | (refine sy_region (id := 6) ?_; refine y_move ?_; refine y_len ?_; refine y_fieldAddr ?_; refine yv (op_load (hv := hsl)) (k := ?_); refine yv (op_gtr (hr := g2)) (k := ?_); refine y_assign ?_) | (refine sy_region (id := 7) ?_; refine yv op_zeroN (k := ?_); refine yn (op_storeNat (n := 0)) (k := ?_); refine y_assign ?_) | fail)
  exact ret2 rfl (resCells (B := natC 0) rfl (ty rfl) rfl Has.go Seg.all (natC_len _).symm) (resTmp rfl) SubR.nil ⟨rfl, rfl⟩
theorem gread_no (i f : Nat) (cond : Nat → Bool) (a : Option Addr) (n c : Nat) (bl : List UInt8) (w : World) (h0 : 1 ≤ i) (h5 : i ≤ 4) (hG : GT w) (hn : n = gL i) (hl : bl.length = n) (hcap : n ≤ c) (hb : SlA w a (bl.map v8)) (hen : ∀ args w, (callFunc f args).run Tryd.prog w = .ok (.enter f args) w) (hf : ∀ x, x < 18446744073709551616 ^ 16 → ∀ w', Sy.Fn Tryd.prog f [safeV (gP i) (gQ i) (gL i), natV x] w' No (Gives (.bool (cond x)))) (hc : cond (bev 256 (bn bl)) = false) :
    Sy.Fn Tryd.prog 41 [.int .i64 (i : Int), .slice a n c, .func (.func f) #[] #[]] w No (Gives (.tuple #[natV 0, .int .i64 3])) := by
  refine fn_enter Tryd.func41 rfl Tryd.ntmps41 (by simp) Holds.nil ?_
  have hl96 := (gL_le i h0 h5).2
  have hW := gP_W i h0 h5
  have hQW := gQ_W i h0 h5
  have hp1 := gP_one i h0 h5
  have hq0 := gQ_low i h0 h5
  have hfi := fun w' (hk : Keep No w w') => find_fn i w' h0 h5 (hG.to hk)
  generalize gP i = p at *
  generalize gQ i = q at *
  generalize gL i = l at *
  have lS := safeC_len p q l
  have lp := natC_len p
  have lq := natC_len q
  have lz := natC_len 0
  have hsp := safe_p p q l
  have hsq := safe_q p q l
  have hsl := safe_l p q l
  have hxW : bev 256 (bn bl) < 18446744073709551616 ^ 16 := by
    rw [w_of 256 8 128 rfl rfl]
    refine Nat.lt_of_lt_of_le (bev_lt 256 (bn bl) (bn_lt bl)) ?_
    rw [show (bn bl).length = bl.length from List.length_map _]
    exact Nat.pow_le_pow_right (by decide) (by omega)
  have hfb := fun w' (hk : Keep No w w') => fromBytes_fn a n c bl w' hl hcap (hb.to hk (fun _ h => .inr h)).sla (by omega)
  rw [if_pos hxW] at hfb
  have hf := hf _ hxW
  have g1 : decide ((n : Int) < (l : Int)) = false := decide_eq_false (by omega)
  have g2 : decide ((n : Int) > (l : Int)) = false := decide_eq_false (by omega)
  generalize bev 256 (bn bl) = x at *
  have lx := natC_len x
  have hal := fun w' b' (h : w'.rangeAt b' 0 (rowN [x])) => all1c p q l f x b' cond w' hen hf h
  simp only [hc, Bool.false_eq_true, if_false] at hal
  repeat' (first | refine sy_seqC ?_ | refine syl_nil ?_ | refine sy_if_t rfl ?_ | refine sy_if_f rfl ?_ | refine sy_block ?_ | refine sy_skip ?_ | refine sy_ret ?_ | refine syx_then ?_ | refine syx_go ?_ | refine syx_then_ret ?_ | (refine sy_region (id := 0) ?_; (refine y_new ?_; intro _); refine y_assign ?_) | (refine sy_region (id := 1) ?_; refine y_move ?_; refine yv (op_callV (f := 39) (hc := fun w' _ hk _ => hfi w' hk)) (k := ?_); refine y_move ?_; refine y_extract ?_; refine y_extract ?_; (refine y_new ?_; intro _); refine yn (op_storesAll (B := safeC p q l) (hv := safeC_one p q l) (h1 := (safeC_len p q l).symm)) (k := ?_); refine y_assign ?_) | (refine sy_region (id := 2) ?_; refine y_move ?_; refine y_neq ?_; refine y_assign ?_) | (refine sy_region (id := 4) ?_; refine y_move ?_; refine y_len ?_; refine y_fieldAddr ?_; refine yv (op_load (hv := hsl)) (k := ?_); refine yv (op_lss (hr := g1)) (k := ?_); refine y_assign ?_) | (refine sy_region (id := 6) ?_; refine y_move ?_; refine y_len ?_; refine y_fieldAddr ?_; refine yv (op_load (hv := hsl)) (k := ?_); refine yv (op_gtr (hr := g2)) (k := ?_); refine y_assign ?_) | (refine sy_region (id := 8) ?_; refine y_move ?_; refine yv (op_callV (f := 32) (hc := fun w' _ hk _ => hfb w' hk)) (k := ?_); refine y_move ?_; refine y_extract ?_; refine y_extract ?_; (refine y_new ?_; intro _); refine yn (op_storeNat (n := x)) (k := ?_); refine y_assign ?_) | (refine sy_region (id := 9) ?_; refine yv (op_loads (B := safeC p q l)) (k := ?_); refine y_move ?_; refine yv (op_loads (B := natC x)) (k := ?_)) | (refine sy_region (id := 10) ?_; refine y_move ?_; refine y_neq ?_) | (refine sy_region (id := 11) ?_; refine yv op_zeroN (k := ?_); refine y_move ?_; refine yn (op_storeNat (n := 0)) (k := ?_); refine y_assign ?_) | (refine ys (op_buildN1 (x := x)) (k := ?_); rintro _ _ ⟨bb, rfl, rfl⟩) | (refine syl_id ?_; first | refine yv (op_callV (f := 43) (hc := fun w' X hk hh => hal w' _ (blk_range (hh.has (by exact Has.append Has.here)) Seg.all))) (k := ?_) | refine y_assign ?_ | fail) | fail)
  exact ret2 rfl (resCells (B := natC 0) rfl (ty rfl) rfl Has.go Seg.all (natC_len _).symm) (resTmp rfl) SubR.nil ⟨rfl, rfl⟩
theorem gread_fn (i f : Nat) (cond : Nat → Bool) (a : Option Addr) (n c : Nat) (bl : List UInt8) (w : World) (h0 : 1 ≤ i) (h5 : i ≤ 4) (hG : GT w) (hn : n = gL i) (hl : bl.length = n) (hcap : n ≤ c) (hb : SlA w a (bl.map v8)) (hen : ∀ args w, (callFunc f args).run Tryd.prog w = .ok (.enter f args) w) (hf : ∀ x, x < 18446744073709551616 ^ 16 → ∀ w', Sy.Fn Tryd.prog f [safeV (gP i) (gQ i) (gL i), natV x] w' No (Gives (.bool (cond x)))) (hc : cond (bev 256 (bn bl)) = true) :
    Sy.Fn Tryd.prog 41 [.int .i64 (i : Int), .slice a n c, .func (.func f) #[] #[]] w No (Gives (.tuple #[natV (bev 256 (bn bl)), .int .i64 0])) := by
  refine fn_enter Tryd.func41 rfl Tryd.ntmps41 (by simp) Holds.nil ?_
  have hl96 := (gL_le i h0 h5).2
  have hW := gP_W i h0 h5
  have hQW := gQ_W i h0 h5
  have hp1 := gP_one i h0 h5
  have hq0 := gQ_low i h0 h5
  have hfi := fun w' (hk : Keep No w w') => find_fn i w' h0 h5 (hG.to hk)
  generalize gP i = p at *
  generalize gQ i = q at *
  generalize gL i = l at *
  have lS := safeC_len p q l
  have lp := natC_len p
  have lq := natC_len q
  have lz := natC_len 0
  have hsp := safe_p p q l
  have hsq := safe_q p q l
  have hsl := safe_l p q l
  have hxW : bev 256 (bn bl) < 18446744073709551616 ^ 16 := by
    rw [w_of 256 8 128 rfl rfl]
    refine Nat.lt_of_lt_of_le (bev_lt 256 (bn bl) (bn_lt bl)) ?_
    rw [show (bn bl).length = bl.length from List.length_map _]
    exact Nat.pow_le_pow_right (by decide) (by omega)
  have hfb := fun w' (hk : Keep No w w') => fromBytes_fn a n c bl w' hl hcap (hb.to hk (fun _ h => .inr h)).sla (by omega)
  rw [if_pos hxW] at hfb
  have hf := hf _ hxW
  have g1 : decide ((n : Int) < (l : Int)) = false := decide_eq_false (by omega)
  have g2 : decide ((n : Int) > (l : Int)) = false := decide_eq_false (by omega)
  generalize bev 256 (bn bl) = x at *
  have lx := natC_len x
  have hal := fun w' b' (h : w'.rangeAt b' 0 (rowN [x])) => all1c p q l f x b' cond w' hen hf h
  simp only [hc, if_true] at hal
  repeat' (first | refine sy_seqC ?_ | refine syl_nil ?_ | refine sy_if_f rfl ?_ | refine sy_block ?_ | refine sy_skip ?_ | refine sy_ret ?_ | refine syx_then ?_ | refine syx_go ?_ | (refine sy_region (id := 0) ?_; (refine y_new ?_; intro _); refine y_assign ?_) | (refine sy_region (id := 1) ?_; refine y_move ?_; refine yv (op_callV (f := 39) (hc := fun w' _ hk _ => hfi w' hk)) (k := ?_); refine y_move ?_; refine y_extract ?_; refine y_extract ?_; (refine y_new ?_; intro _); refine yn (op_storesAll (B := safeC p q l) (hv := safeC_one p q l) (h1 := (safeC_len p q l).symm)) (k := ?_); refine y_assign ?_) | (refine sy_region (id := 2) ?_; refine y_move ?_; refine y_neq ?_; refine y_assign ?_) | (refine sy_region (id := 4) ?_; refine y_move ?_; refine y_len ?_; refine y_fieldAddr ?_; refine yv (op_load (hv := hsl)) (k := ?_); refine yv (op_lss (hr := g1)) (k := ?_); refine y_assign ?_) | (refine sy_region (id := 6) ?_; refine y_move ?_; refine y_len ?_; refine y_fieldAddr ?_; refine yv (op_load (hv := hsl)) (k := ?_); refine yv (op_gtr (hr := g2)) (k := ?_); refine y_assign ?_) | (refine sy_region (id := 8) ?_; refine y_move ?_; refine yv (op_callV (f := 32) (hc := fun w' _ hk _ => hfb w' hk)) (k := ?_); refine y_move ?_; refine y_extract ?_; refine y_extract ?_; (refine y_new ?_; intro _); refine yn (op_storeNat (n := x)) (k := ?_); refine y_assign ?_) | (refine sy_region (id := 9) ?_; refine yv (op_loads (B := safeC p q l)) (k := ?_); refine y_move ?_; refine yv (op_loads (B := natC x)) (k := ?_)) | (refine sy_region (id := 10) ?_; refine y_move ?_; refine y_neq ?_) | (refine sy_region (id := 12) ?_; refine yv (op_loads (B := natC x)) (k := ?_); refine yn (op_storeNat (n := x)) (k := ?_); refine y_assign ?_) | (refine ys (op_buildN1 (x := x)) (k := ?_); rintro _ _ ⟨bb, rfl, rfl⟩) | (refine syl_id ?_; first | refine yv (op_callV (f := 43) (hc := fun w' X hk hh => hal w' _ (blk_range (hh.has (by exact Has.append Has.here)) Seg.all))) (k := ?_) | refine y_assign ?_ | fail) | fail)
  exact ret2 rfl (resCells (B := natC x) rfl (ty rfl) rfl Has.go Seg.all (natC_len _).symm) (resTmp rfl) SubR.nil ⟨rfl, rfl⟩
theorem gelement_bad (z : Int) (a : Option Addr) (n c : Nat) (w : World) (hz : ¬ (1 ≤ z ∧ z ≤ 4)) : Sy.Fn Tryd.prog 14 [.int .i64 z, .slice a n c] w No (Gives (.tuple #[natV 0, .int .i64 2])) := by
  refine fn_enter Tryd.func14 rfl Tryd.ntmps14 (by simp) Holds.nil ?_
  have hw := fun w' (_ : Keep No w w') => gread_bad z 38 a n c w' hz
  have lx := natC_len 0
  repeat' (first | refine sy_seqC ?_ | refine syl_nil ?_ | refine sy_ret ?_ | refine syx_then ?_ | refine syx_go ?_ | (refine sy_region (id := 0) ?_; (refine y_new ?_; intro _); refine y_assign ?_) | (refine sy_region (id := 1) ?_; refine y_move ?_; refine y_move ?_; refine yv (op_callV (f := 41) (hc := fun w' _ hk _ => hw w' hk)) (k := ?_); refine y_extract ?_; refine y_extract ?_; refine yn (op_storeNat (n := 0)) (k := ?_); refine y_assign ?_) | fail)
  exact ret2 rfl (resCells (B := natC 0) rfl (ty rfl) rfl Has.go Seg.all (natC_len _).symm) (resTmp rfl) SubR.nil ⟨rfl, rfl⟩
theorem gelement_short (i : Nat) (a : Option Addr) (n c : Nat) (w : World) (h0 : 1 ≤ i) (h5 : i ≤ 4) (hG : GT w) (hn : n < gL i) : Sy.Fn Tryd.prog 14 [.int .i64 (i : Int), .slice a n c] w No (Gives (.tuple #[natV 0, .int .i64 4])) := by
  refine fn_enter Tryd.func14 rfl Tryd.ntmps14 (by simp) Holds.nil ?_
  have hw := fun w' (hk : Keep No w w') => gread_short i 38 a n c w' h0 h5 (hG.to hk) hn
  have lx := natC_len 0
  repeat' (first | refine sy_seqC ?_ | refine syl_nil ?_ | refine sy_ret ?_ | refine syx_then ?_ | refine syx_go ?_ | (refine sy_region (id := 0) ?_; (refine y_new ?_; intro _); refine y_assign ?_) | (refine sy_region (id := 1) ?_; refine y_move ?_; refine y_move ?_; refine yv (op_callV (f := 41) (hc := fun w' _ hk _ => hw w' hk)) (k := ?_); refine y_extract ?_; refine y_extract ?_; refine yn (op_storeNat (n := 0)) (k := ?_); refine y_assign ?_) | fail)
  exact ret2 rfl (resCells (B := natC 0) rfl (ty rfl) rfl Has.go Seg.all (natC_len _).symm) (resTmp rfl) SubR.nil ⟨rfl, rfl⟩
theorem gelement_long (i : Nat) (a : Option Addr) (n c : Nat) (w : World) (h0 : 1 ≤ i) (h5 : i ≤ 4) (hG : GT w) (hn : gL i < n) : Sy.Fn Tryd.prog 14 [.int .i64 (i : Int), .slice a n c] w No (Gives (.tuple #[natV 0, .int .i64 5])) := by
  refine fn_enter Tryd.func14 rfl Tryd.ntmps14 (by simp) Holds.nil ?_
  have hw := fun w' (hk : Keep No w w') => gread_long i 38 a n c w' h0 h5 (hG.to hk) hn
  have lx := natC_len 0
  repeat' (first | refine sy_seqC ?_ | refine syl_nil ?_ | refine sy_ret ?_ | refine syx_then ?_ | refine syx_go ?_ | (refine sy_region (id := 0) ?_; (refine y_new ?_; intro _); refine y_assign ?_) | (refine sy_region (id := 1) ?_; refine y_move ?_; refine y_move ?_; refine yv (op_callV (f := 41) (hc := fun w' _ hk _ => hw w' hk)) (k := ?_); refine y_extract ?_; refine y_extract ?_; refine yn (op_storeNat (n := 0)) (k := ?_); refine y_assign ?_) | fail)
  exact ret2 rfl (resCells (B := natC 0) rfl (ty rfl) rfl Has.go Seg.all (natC_len _).symm) (resTmp rfl) SubR.nil ⟨rfl, rfl⟩
theorem gelement_no (i : Nat) (a : Option Addr) (n c : Nat) (bl : List UInt8) (w : World) (h0 : 1 ≤ i) (h5 : i ≤ 4) (hG : GT w) (hn : n = gL i) (hl : bl.length = n) (hcap : n ≤ c) (hb : SlA w a (bl.map v8)) (hc : memB (gP i) (gQ i) (bev 256 (bn bl)) = false) : Sy.Fn Tryd.prog 14 [.int .i64 (i : Int), .slice a n c] w No (Gives (.tuple #[natV 0, .int .i64 3])) := by
  refine fn_enter Tryd.func14 rfl Tryd.ntmps14 (by simp) Holds.nil ?_
  have hw := fun w' (hk : Keep No w w') => gread_no i 38 (memB (gP i) (gQ i)) a n c bl w' h0 h5 (hG.to hk) hn hl hcap (hb.to hk (fun _ h => .inr h)).sla (en rfl) (fun x hx w'' => element_fn _ _ _ x w'' (gP_W i h0 h5) (gQ_W i h0 h5) (by have := gP_one i h0 h5; omega) hx) hc
  have lx := natC_len 0
  repeat' (first | refine sy_seqC ?_ | refine syl_nil ?_ | refine sy_ret ?_ | refine syx_then ?_ | refine syx_go ?_ | (refine sy_region (id := 0) ?_; (refine y_new ?_; intro _); refine y_assign ?_) | (refine sy_region (id := 1) ?_; refine y_move ?_; refine y_move ?_; refine yv (op_callV (f := 41) (hc := fun w' _ hk _ => hw w' hk)) (k := ?_); refine y_extract ?_; refine y_extract ?_; refine yn (op_storeNat (n := 0)) (k := ?_); refine y_assign ?_) | fail)
  exact ret2 rfl (resCells (B := natC 0) rfl (ty rfl) rfl Has.go Seg.all (natC_len _).symm) (resTmp rfl) SubR.nil ⟨rfl, rfl⟩
theorem gelement_fn (i : Nat) (a : Option Addr) (n c : Nat) (bl : List UInt8) (w : World) (h0 : 1 ≤ i) (h5 : i ≤ 4) (hG : GT w) (hn : n = gL i) (hl : bl.length = n) (hcap : n ≤ c) (hb : SlA w a (bl.map v8)) (hc : memB (gP i) (gQ i) (bev 256 (bn bl)) = true) : Sy.Fn Tryd.prog 14 [.int .i64 (i : Int), .slice a n c] w No (Gives (.tuple #[natV (bev 256 (bn bl)), .int .i64 0])) := by
  refine fn_enter Tryd.func14 rfl Tryd.ntmps14 (by simp) Holds.nil ?_
  have hw := fun w' (hk : Keep No w w') => gread_fn i 38 (memB (gP i) (gQ i)) a n c bl w' h0 h5 (hG.to hk) hn hl hcap (hb.to hk (fun _ h => .inr h)).sla (en rfl) (fun x hx w'' => element_fn _ _ _ x w'' (gP_W i h0 h5) (gQ_W i h0 h5) (by have := gP_one i h0 h5; omega) hx) hc
  have lx := natC_len (bev 256 (bn bl))
  generalize bev 256 (bn bl) = x at *
  repeat' (first | refine sy_seqC ?_ | refine syl_nil ?_ | refine sy_ret ?_ | refine syx_then ?_ | refine syx_go ?_ | (refine sy_region (id := 0) ?_; (refine y_new ?_; intro _); refine y_assign ?_) | (refine sy_region (id := 1) ?_; refine y_move ?_; refine y_move ?_; refine yv (op_callV (f := 41) (hc := fun w' _ hk _ => hw w' hk)) (k := ?_); refine y_extract ?_; refine y_extract ?_; refine yn (op_storeNat (n := x)) (k := ?_); refine y_assign ?_) | fail)
  exact ret2 rfl (resCells (B := natC x) rfl (ty rfl) rfl Has.go Seg.all (natC_len _).symm) (resTmp rfl) SubR.nil ⟨rfl, rfl⟩
def ArgE (_ : Nat → Prop) (x : Nat) (vs : List Value) (RA : List Res) (_ : World) : Prop := vs = [.int .i64 ((x : Nat) : Int), natV (gP x)] ∧ RA = []
theorem geach_fn (w : World) : Sy.Fn Tryd.prog 31 [] w No (Gives (.func (.func 51) #[] #[])) := by
  refine fn_enter Tryd.func31 rfl Tryd.ntmps31 (by simp) Holds.nil ?_
  repeat' (first | refine sy_seqC ?_ | refine syl_nil ?_ | refine sy_ret ?_ | refine syx_then ?_ | refine syx_go ?_ | (refine sy_region (id := 0) ?_; refine y_assign ?_) | (refine sy_region (id := 1) ?_; refine y_assign ?_) | fail)
  exact ret1 rfl (resTmp rfl) SubR.nil ⟨rfl, rfl⟩
theorem geach1_it (w : World) (M : Nat → Prop) (hG : GT w) (hM : ¬ M 0) : IterC Tryd.prog 51 [] [1, 2, 3, 4] ArgE w M [] := by
  intro l J Jx j0 hJ0 hh hY
  refine fn_enter Tryd.func51 rfl Tryd.ntmps51 (by simp) hh ?_
  repeat' (first | refine sy_seqC ?_ | refine syl_nil ?_ | refine sy_block ?_ | refine syx_then ?_ | refine syx_go ?_ | (refine sy_region (id := 0) ?_; refine y_assign ?_) | fail)
  refine sy_loop (γ := Nat × Res) (fun g => [(0, .func (.yield l) #[] #[]), (2, .int .i64 ((g.1 : Nat) : Int))]) (fun g => [g.2]) (fun g => 1 ≤ g.1 ∧ g.1 ≤ 5 ∧ J (g.1 - 1) g.2) (fun g => 5 - g.1) (1, j0) ⟨Nat.le_refl _, (by decide : 1 ≤ 5), hJ0⟩ ?_ ?_ ?_
  · exact Sub.go
  · exact SubR.go
  rintro ⟨i, j⟩ ⟨h1, h2, hJ⟩
  dsimp only at h1 h2 hJ ⊢
  rcases Nat.lt_or_ge i 5 with h | h
  · have hle : decide ((i : Int) ≤ 4) = true := decide_eq_true (by omega)
    have hadd : IntKind.i64.wrap ((i : Int) + 1) = ((i + 1 : Nat) : Int) := by rw [IntWalk.i64_in _ (by omega)]; omega
    have hfi := fun w' (hk : Keep M w w') => find_fn i w' h1 (by omega) (range_keep hG hk hM)
    have hkx : i - 1 < [1, 2, 3, 4].length := by simp; omega
    have hxk : [1, 2, 3, 4][i - 1] = i := by
      rcases (show i = 1 ∨ i = 2 ∨ i = 3 ∨ i = 4 by omega) with rfl | rfl | rfl | rfl <;> rfl
    have lS := safeC_len (gP i) (gQ i) (gL i)
    have lp := natC_len (gP i)
    have hsp := safe_p (gP i) (gQ i) (gL i)
    repeat' (first | refine sy_seqC ?_ | refine syl_nil ?_ | refine sy_if_t rfl ?_ | refine sy_block ?_ | refine sy_skip ?_ | refine syx_then ?_ | refine syx_go ?_ | (refine sy_region (id := 1) ?_; refine y_move ?_; refine yv (op_leq (hr := hle)) (k := ?_)) | (refine sy_region (id := 3) ?_; refine y_move ?_; refine yv (op_callV (f := 39) (hc := fun w' _ hk _ => hfi w' hk)) (k := ?_); refine y_move ?_; refine y_extract ?_; refine y_extract ?_; (refine y_new ?_; intro _); refine yn (op_storesAll (B := safeC (gP i) (gQ i) (gL i)) (hv := safeC_one _ _ _) (h1 := (safeC_len _ _ _).symm)) (k := ?_); refine y_assign ?_) | (refine sy_region (id := 4) ?_; refine y_move ?_; refine y_move ?_; refine y_fieldAddr ?_; refine yv (op_loads (B := natC (gP i)) (hv := hsp)) (k := ?_); (refine ys (op_yield hY hkx hJ (hL := RemL.cons (by repeat (first | exact Rem.here | apply Rem.there)) rfl RemL.nil) (harg := fun w' X hk hh' => ⟨by rw [hxk]; rfl, rfl⟩)) (k := ?_); rintro _ _ ⟨y, j', rfl, rfl, hy⟩); refine y_unOp ?_) | fail)
    rw [show i - 1 + 1 = i by omega] at hy
    cases y with
    | false =>
      repeat' (first | refine sy_if_t rfl ?_ | refine sy_ret ?_ | refine syx_then_ret ?_ | refine syx_in_ret ?_ | fail)
      exact ret0 rfl (by exact SubR.go2) ⟨j', rfl, .inr ⟨i, by show i ≤ 4; omega, hy⟩⟩
    | true =>
      repeat' (first | refine syl_nil ?_ | refine sy_if_f rfl ?_ | refine sy_skip ?_ | refine syx_then ?_ | refine syx_go ?_ | (refine sy_region (id := 2) ?_; refine y_move ?_; refine yv (op_add (hr := hadd)) (k := ?_); refine y_assign ?_) | fail)
      refine syx_back (i + 1, j') ⟨by show 1 ≤ i + 1; omega, by show i + 1 ≤ 5; omega, by show J (i + 1 - 1) j'; rw [Nat.add_sub_cancel]; exact hy⟩ ?_ ?_ ?_
      · show 5 - (i + 1) < 5 - i; omega
      · exact Sub.go
      · dsimp only
        exact SubR.go2
  · obtain rfl : i = 5 := by omega
    have hle : decide (((5 : Nat) : Int) ≤ 4) = false := rfl
    repeat' (first | refine sy_seqC ?_ | refine syl_nil ?_ | refine sy_if_f rfl ?_ | refine sy_exit ?_ | refine syx_then ?_ | refine syx_go ?_ | refine syx_then_exit ?_ | refine syx_in_here ?_ | (refine sy_region (id := 1) ?_; refine y_move ?_; refine yv (op_leq (hr := hle)) (k := ?_)) | fail)
    exact end0 rfl (by exact SubR.go) ⟨j, rfl, .inl hJ⟩
end Go.Proofs.YtjidkoabdmjgkaaDoor
