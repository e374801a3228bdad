/- The functions of layer group: bytes written and read, the scalar of bytes, all groups. -/
import Derived.Test.YtaeddmcoanefhaaGreatDoorVJ29
set_option linter.all false
section
namespace Go.Nt
open Go Go.Sy
theorem gP_nd {i x : Nat} (h0 : 1 ≤ i) (h5 : i ≤ 4) (h : x < gP i) : nd 256 x ≤ gL i := by
  rw [← gP_len i h0 h5]
  exact nd_le 256 x _ (by decide) (Nat.lt_trans h (nd_lt 256 (gP i) (by decide)))
theorem memB_lt {p q x : Nat} (h : memB p q x = true) : x < p := by
  unfold memB at h
  exact (of_decide_eq_true h).2.1
theorem gQ_P (i : Nat) : gQ i ≤ gP i := Nat.div_le_self _ _
theorem scal_step (q X R d : Nat) : (X % q * R % q + d) % q = (X * R + d) % q := by
  rw [Nat.mod_mul_mod, Nat.mod_add_mod]
end Go.Nt
namespace Go.Proofs.YtaeddmcoanefhaaGreatDoor
open Go Go.Sy Go.Nt Go.RowKit
attribute [local irreducible] Sy SyL SyX Sy.Fn callFunc natC rowN safeC gP gQ gL gS gCells memB
set_option maxRecDepth 10000
theorem gwrite_no (i x f : Nat) (cond : Nat → Bool) (w : World) (h0 : 1 ≤ i) (h5 : i ≤ 4) (hG : GT w) (hx : x < 18446744073709551616 ^ 16) (hen : ∀ args w, (callFunc f args).run Tryz.prog w = .ok (.enter f args) w) (hf : ∀ w', Sy.Fn Tryz.prog f [safeV (gP i) (gQ i) (gL i), natV x] w' No (Gives (.bool (cond x)))) (hc : cond x = false) : Sy.Fn Tryz.prog 77 [.int .i64 (i : Int), natV x, .func (.func f) #[] #[]] w No (Gives (.tuple #[.slice none 0 0, .int .i64 3])) := by
  refine fn_enter Tryz.func77 rfl Tryz.ntmps77 (by simp) Holds.nil ?_
  have lx := natC_len x
  have hW := gP_W i h0 h5
  have hQW := gQ_W i h0 h5
  have hp1 := gP_one i h0 h5
  have hq0 := gQ_low i h0 h5
  have hfi := fun w' (hk : Keep No w w') => find_fn i w' h0 h5 (hG.to hk)
  generalize gP i = p at *
  generalize gQ i = q at *
  generalize gL i = l at *
  have lS := safeC_len p q l
  have lp := natC_len p
  have lq := natC_len q
  have lz := natC_len 0
  have hsp := safe_p p q l
  have hsq := safe_q p q l
  have hsl := safe_l p q l
  have hal := fun w' b' (h : w'.rangeAt b' 0 (rowN [x])) => all1c p q l f x b' cond w' hen hf h
  simp only [hc, Bool.false_eq_true, if_false] at hal
  repeat' (first | refine sy_seqC ?_ | refine syl_nil ?_ | refine sy_if_t rfl ?_ | refine sy_if_f rfl ?_ | refine sy_skip ?_ | refine sy_ret ?_ | refine syx_then ?_ | refine syx_go ?_ | refine syx_then_ret ?_ | (refine sy_region (id := 0) ?_; (refine y_new ?_; intro _); refine y_assign ?_; refine y_assign ?_) | (refine sy_region (id := 1) ?_; refine y_move ?_; refine yv (op_callV (f := 43) (hc := fun w' _ hk _ => hfi w' hk)) (k := ?_); refine y_move ?_; refine y_extract ?_; refine y_extract ?_; (refine y_new ?_; intro _); refine yn (op_storesAll (B := safeC p q l) (hv := safeC_one p q l) (h1 := (safeC_len p q l).symm)) (k := ?_); refine y_assign ?_) | (refine sy_region (id := 2) ?_; refine y_move ?_; refine y_neq ?_) | (refine sy_region (id := 4) ?_; refine yv (op_loads (B := safeC p q l)) (k := ?_); refine y_move ?_; refine yv (op_loads (B := natC x)) (k := ?_)) | (refine sy_region (id := 5) ?_; refine y_move ?_; refine y_neq ?_) | (refine sy_region (id := 6) ?_; refine y_move ?_; refine y_assign ?_; refine y_assign ?_) | (refine ys (op_buildN1 (x := x)) (k := ?_); rintro _ _ ⟨bb, rfl, rfl⟩) | (refine syl_id ?_; first | refine yv (op_callV (f := 78) (hc := fun w' X hk hh => hal w' _ (blk_range (hh.has (by exact Has.append Has.here)) Seg.all))) (k := ?_) | refine y_assign ?_ | fail) | fail)
  exact ret2 rfl (resTmp rfl) (resTmp rfl) SubR.nil ⟨rfl, rfl⟩
def FixG (i x : Nat) (v : Value) (R : List Res) : Prop := ∃ a c, v = .tuple #[.slice a (gL i) c, .int .i64 0] ∧ R = [.row (.slice a (gL i) c) 5 1 (gL i) ((fixB (gL i) x).map v8)]
theorem gwrite_fn (i x f : Nat) (cond : Nat → Bool) (w : World) (h0 : 1 ≤ i) (h5 : i ≤ 4) (hG : GT w) (hx : x < 18446744073709551616 ^ 16) (hen : ∀ args w, (callFunc f args).run Tryz.prog w = .ok (.enter f args) w) (hf : ∀ w', Sy.Fn Tryz.prog f [safeV (gP i) (gQ i) (gL i), natV x] w' No (Gives (.bool (cond x)))) (hc : cond x = true) (hlt : x < gP i) : Sy.Fn Tryz.prog 77 [.int .i64 (i : Int), natV x, .func (.func f) #[] #[]] w No (FixG i x) := by
  refine fn_enter Tryz.func77 rfl Tryz.ntmps77 (by simp) Holds.nil ?_
  have lx := natC_len x
  have hnd := gP_nd h0 h5 hlt
  have hl96 := (gL_le i h0 h5).2
  unfold FixG
  have hW := gP_W i h0 h5
  have hQW := gQ_W i h0 h5
  have hp1 := gP_one i h0 h5
  have hq0 := gQ_low i h0 h5
  have hfi := fun w' (hk : Keep No w w') => find_fn i w' h0 h5 (hG.to hk)
  generalize gP i = p at *
  generalize gQ i = q at *
  generalize gL i = l at *
  have lS := safeC_len p q l
  have lp := natC_len p
  have lq := natC_len q
  have lz := natC_len 0
  have hsp := safe_p p q l
  have hsq := safe_q p q l
  have hsl := safe_l p q l
  have hal := fun w' b' (h : w'.rangeAt b' 0 (rowN [x])) => all1c p q l f x b' cond w' hen hf h
  simp only [hc, if_true] at hal
  have hfx := fun w' => fixed_fn p q l x w' hx hnd (by omega)
  unfold RowOf at hfx
  generalize fixB l x = F at *
  repeat' (first | refine sy_seqC ?_ | refine syl_nil ?_ | refine sy_if_f rfl ?_ | refine sy_skip ?_ | refine sy_ret ?_ | refine syx_then ?_ | refine syx_go ?_ | (refine sy_region (id := 0) ?_; (refine y_new ?_; intro _); refine y_assign ?_; refine y_assign ?_) | (refine sy_region (id := 1) ?_; refine y_move ?_; refine yv (op_callV (f := 43) (hc := fun w' _ hk _ => hfi w' hk)) (k := ?_); refine y_move ?_; refine y_extract ?_; refine y_extract ?_; (refine y_new ?_; intro _); refine yn (op_storesAll (B := safeC p q l) (hv := safeC_one p q l) (h1 := (safeC_len p q l).symm)) (k := ?_); refine y_assign ?_) | (refine sy_region (id := 2) ?_; refine y_move ?_; refine y_neq ?_) | (refine sy_region (id := 4) ?_; refine yv (op_loads (B := safeC p q l)) (k := ?_); refine y_move ?_; refine yv (op_loads (B := natC x)) (k := ?_)) | (refine sy_region (id := 5) ?_; refine y_move ?_; refine y_neq ?_) | (refine sy_region (id := 7) ?_; refine yv (op_loads (B := safeC p q l)) (k := ?_); refine yv (op_loads (B := natC x)) (k := ?_); (refine ys (op_call0 (f := 103) (hc := fun w' X hk hh => hfx w')) (k := ?_); rintro _ _ ⟨R, rfl, aF, cF, rfl, rfl⟩); refine y_assign ?_; refine y_assign ?_) | (refine ys (op_buildN1 (x := x)) (k := ?_); rintro _ _ ⟨bb, rfl, rfl⟩) | (refine syl_id ?_; first | refine yv (op_callV (f := 78) (hc := fun w' X hk hh => hal w' _ (blk_range (hh.has (by exact Has.append Has.here)) Seg.all))) (k := ?_) | refine y_assign ?_ | fail) | fail)
  exact ret2 rfl (resTmp rfl) (resTmp rfl) (by exact SubR.go2) ⟨_, _, rfl, rfl⟩
theorem gbytes_no (i x : Nat) (w : World) (h0 : 1 ≤ i) (h5 : i ≤ 4) (hG : GT w) (hx : x < 18446744073709551616 ^ 16) (hc : memB (gP i) (gQ i) x = false) : Sy.Fn Tryz.prog 50 [.int .i64 (i : Int), natV x] w No (Gives (.tuple #[.slice none 0 0, .int .i64 3])) := by
  refine fn_enter Tryz.func50 rfl Tryz.ntmps50 (by simp) Holds.nil ?_
  have lx := natC_len x
  have hw := fun w' (hk : Keep No w w') => gwrite_no i x 56 (memB (gP i) (gQ i)) w' h0 h5 (hG.to hk) hx (en rfl) (fun w'' => element_fn _ _ _ x w'' (gP_W i h0 h5) (gQ_W i h0 h5) (by have := gP_one i h0 h5; omega) hx) hc
  repeat' (first | refine sy_seqC ?_ | refine syl_nil ?_ | refine sy_ret ?_ | refine syx_then ?_ | refine syx_go ?_ | (refine sy_region (id := 0) ?_; (refine y_new ?_; intro _); refine y_assign ?_; refine y_assign ?_) | (refine sy_region (id := 1) ?_; refine y_move ?_; refine yv (op_loads (B := natC x)) (k := ?_); refine yv (op_callV (f := 77) (hc := fun w' _ hk _ => hw w' hk)) (k := ?_); refine y_extract ?_; refine y_extract ?_; refine y_assign ?_; refine y_assign ?_) | fail)
  exact ret2 rfl (resTmp rfl) (resTmp rfl) SubR.nil ⟨rfl, rfl⟩
theorem gbytes_fn (i x : Nat) (w : World) (h0 : 1 ≤ i) (h5 : i ≤ 4) (hG : GT w) (hx : x < 18446744073709551616 ^ 16) (hc : memB (gP i) (gQ i) x = true) : Sy.Fn Tryz.prog 50 [.int .i64 (i : Int), natV x] w No (FixG i x) := by
  refine fn_enter Tryz.func50 rfl Tryz.ntmps50 (by simp) Holds.nil ?_
  have lx := natC_len x
  have hw := fun w' (hk : Keep No w w') => gwrite_fn i x 56 (memB (gP i) (gQ i)) w' h0 h5 (hG.to hk) hx (en rfl) (fun w'' => element_fn _ _ _ x w'' (gP_W i h0 h5) (gQ_W i h0 h5) (by have := gP_one i h0 h5; omega) hx) hc (memB_lt hc)
  unfold FixG at *
  repeat' (first | refine sy_seqC ?_ | refine syl_nil ?_ | refine sy_ret ?_ | refine syx_then ?_ | refine syx_go ?_ | (refine sy_region (id := 0) ?_; (refine y_new ?_; intro _); refine y_assign ?_; refine y_assign ?_) | (refine sy_region (id := 1) ?_; refine y_move ?_; refine yv (op_loads (B := natC x)) (k := ?_); (refine ys (op_call0 (f := 77) (hc := fun w' X hk hh => hw w' hk)) (k := ?_); rintro _ _ ⟨R, rfl, aF, cF, rfl, rfl⟩); refine y_extract ?_; refine y_extract ?_; refine y_assign ?_; refine y_assign ?_) | fail)
  exact ret2 rfl (resTmp rfl) (resTmp rfl) (by exact SubR.go2) ⟨_, _, rfl, rfl⟩
theorem gsbytes_fn (i x : Nat) (w : World) (h0 : 1 ≤ i) (h5 : i ≤ 4) (hG : GT w) (hx : x < 18446744073709551616 ^ 16) (hc : decide (x < gQ i) = true) : Sy.Fn Tryz.prog 59 [.int .i64 (i : Int), natV x] w No (FixG i x) := by
  refine fn_enter Tryz.func59 rfl Tryz.ntmps59 (by simp) Holds.nil ?_
  have lx := natC_len x
  have hw := fun w' (hk : Keep No w w') => gwrite_fn i x 79 (fun y => decide (y < gQ i)) w' h0 h5 (hG.to hk) hx (en rfl) (fun w'' => scalar_fn _ _ _ x w'' (gQ_W i h0 h5) hx) hc (Nat.lt_of_lt_of_le (of_decide_eq_true hc) (gQ_P i))
  unfold FixG at *
  repeat' (first | refine sy_seqC ?_ | refine syl_nil ?_ | refine sy_ret ?_ | refine syx_then ?_ | refine syx_go ?_ | (refine sy_region (id := 0) ?_; (refine y_new ?_; intro _); refine y_assign ?_; refine y_assign ?_) | (refine sy_region (id := 1) ?_; refine y_move ?_; refine yv (op_loads (B := natC x)) (k := ?_); (refine ys (op_call0 (f := 77) (hc := fun w' X hk hh => hw w' hk)) (k := ?_); rintro _ _ ⟨R, rfl, aF, cF, rfl, rfl⟩); refine y_extract ?_; refine y_extract ?_; refine y_assign ?_; refine y_assign ?_) | fail)
  exact ret2 rfl (resTmp rfl) (resTmp rfl) (by exact SubR.go2) ⟨_, _, rfl, rfl⟩
theorem gread_no (i f : Nat) (cond : Nat → Bool) (a : Option Addr) (n c : Nat) (bl : List UInt8) (w : World) (h0 : 1 ≤ i) (h5 : i ≤ 4) (hG : GT w) (hn : n = gL i) (hl : bl.length = n) (hcap : n ≤ c) (hb : SlA w a (bl.map v8)) (hen : ∀ args w, (callFunc f args).run Tryz.prog w = .ok (.enter f args) w) (hf : ∀ x, x < 18446744073709551616 ^ 16 → ∀ w', Sy.Fn Tryz.prog f [safeV (gP i) (gQ i) (gL i), natV x] w' No (Gives (.bool (cond x)))) (hc : cond (bev 256 (bn bl)) = false) :
    Sy.Fn Tryz.prog 55 [.int .i64 (i : Int), .slice a n c, .func (.func f) #[] #[]] w No (Gives (.tuple #[natV 0, .int .i64 3])) := by
  refine fn_enter Tryz.func55 rfl Tryz.ntmps55 (by simp) Holds.nil ?_
  have hl96 := (gL_le i h0 h5).2
  have hW := gP_W i h0 h5
  have hQW := gQ_W i h0 h5
  have hp1 := gP_one i h0 h5
  have hq0 := gQ_low i h0 h5
  have hfi := fun w' (hk : Keep No w w') => find_fn i w' h0 h5 (hG.to hk)
  generalize gP i = p at *
  generalize gQ i = q at *
  generalize gL i = l at *
  have lS := safeC_len p q l
  have lp := natC_len p
  have lq := natC_len q
  have lz := natC_len 0
  have hsp := safe_p p q l
  have hsq := safe_q p q l
  have hsl := safe_l p q l
  have hxW : bev 256 (bn bl) < 18446744073709551616 ^ 16 := by
    rw [w_of 256 8 128 rfl rfl]
    refine Nat.lt_of_lt_of_le (bev_lt 256 (bn bl) (bn_lt bl)) ?_
    rw [show (bn bl).length = bl.length from List.length_map _]
    exact Nat.pow_le_pow_right (by decide) (by omega)
  have hfb := fun w' (hk : Keep No w w') => fromBytes_fn a n c bl w' hl hcap (hb.to hk (fun _ h => .inr h)).sla (by omega)
  rw [if_pos hxW] at hfb
  have hf := hf _ hxW
  have g1 : decide ((n : Int) < (l : Int)) = false := decide_eq_false (by omega)
  have g2 : decide ((n : Int) > (l : Int)) = false := decide_eq_false (by omega)
  generalize bev 256 (bn bl) = x at *
  have lx := natC_len x
  have hal := fun w' b' (h : w'.rangeAt b' 0 (rowN [x])) => all1c p q l f x b' cond w' hen hf h
  simp only [hc, Bool.false_eq_true, if_false] at hal
  repeat' (first | refine sy_seqC ?_ | refine syl_nil ?_ | refine sy_if_t rfl ?_ | refine sy_if_f rfl ?_ | refine sy_block ?_ | refine sy_skip ?_ | refine sy_ret ?_ | refine syx_then ?_ | refine syx_go ?_ | refine syx_then_ret ?_ | (refine sy_region (id := 0) ?_; (refine y_new ?_; intro _); refine y_assign ?_) | (refine sy_region (id := 1) ?_; refine y_move ?_; refine yv (op_callV (f := 43) (hc := fun w' _ hk _ => hfi w' hk)) (k := ?_); refine y_move ?_; refine y_extract ?_; refine y_extract ?_; (refine y_new ?_; intro _); refine yn (op_storesAll (B := safeC p q l) (hv := safeC_one p q l) (h1 := (safeC_len p q l).symm)) (k := ?_); refine y_assign ?_) | (refine sy_region (id := 2) ?_; refine y_move ?_; refine y_neq ?_; refine y_assign ?_) | (refine sy_region (id := 4) ?_; refine y_move ?_; refine y_len ?_; refine y_fieldAddr ?_; refine yv (op_load (hv := hsl)) (k := ?_); refine yv (op_lss (hr := g1)) (k := ?_); refine y_assign ?_) | (refine sy_region (id := 6) ?_; refine y_move ?_; refine y_len ?_; refine y_fieldAddr ?_; refine yv (op_load (hv := hsl)) (k := ?_); refine yv (op_gtr (hr := g2)) (k := ?_); refine y_assign ?_) | (refine sy_region (id := 8) ?_; refine y_move ?_; refine yv (op_callV (f := 72) (hc := fun w' _ hk _ => hfb w' hk)) (k := ?_); refine y_move ?_; refine y_extract ?_; refine y_extract ?_; (refine y_new ?_; intro _); refine yn (op_storeNat (n := x)) (k := ?_); refine y_assign ?_) | (refine sy_region (id := 9) ?_; refine yv (op_loads (B := safeC p q l)) (k := ?_); refine y_move ?_; refine yv (op_loads (B := natC x)) (k := ?_)) | (refine sy_region (id := 10) ?_; refine y_move ?_; refine y_neq ?_) | (refine sy_region (id := 11) ?_; refine yv op_zeroN (k := ?_); refine y_move ?_; refine yn (op_storeNat (n := 0)) (k := ?_); refine y_assign ?_) | (refine ys (op_buildN1 (x := x)) (k := ?_); rintro _ _ ⟨bb, rfl, rfl⟩) | (refine syl_id ?_; first | refine yv (op_callV (f := 78) (hc := fun w' X hk hh => hal w' _ (blk_range (hh.has (by exact Has.append Has.here)) Seg.all))) (k := ?_) | refine y_assign ?_ | fail) | fail)
  exact ret2 rfl (resCells (B := natC 0) rfl (ty rfl) rfl Has.go Seg.all (natC_len _).symm) (resTmp rfl) SubR.nil ⟨rfl, rfl⟩
theorem gread_fn (i f : Nat) (cond : Nat → Bool) (a : Option Addr) (n c : Nat) (bl : List UInt8) (w : World) (h0 : 1 ≤ i) (h5 : i ≤ 4) (hG : GT w) (hn : n = gL i) (hl : bl.length = n) (hcap : n ≤ c) (hb : SlA w a (bl.map v8)) (hen : ∀ args w, (callFunc f args).run Tryz.prog w = .ok (.enter f args) w) (hf : ∀ x, x < 18446744073709551616 ^ 16 → ∀ w', Sy.Fn Tryz.prog f [safeV (gP i) (gQ i) (gL i), natV x] w' No (Gives (.bool (cond x)))) (hc : cond (bev 256 (bn bl)) = true) :
    Sy.Fn Tryz.prog 55 [.int .i64 (i : Int), .slice a n c, .func (.func f) #[] #[]] w No (Gives (.tuple #[natV (bev 256 (bn bl)), .int .i64 0])) := by
  refine fn_enter Tryz.func55 rfl Tryz.ntmps55 (by simp) Holds.nil ?_
  have hl96 := (gL_le i h0 h5).2
  have hW := gP_W i h0 h5
  have hQW := gQ_W i h0 h5
  have hp1 := gP_one i h0 h5
  have hq0 := gQ_low i h0 h5
  have hfi := fun w' (hk : Keep No w w') => find_fn i w' h0 h5 (hG.to hk)
  generalize gP i = p at *
  generalize gQ i = q at *
  generalize gL i = l at *
  have lS := safeC_len p q l
  have lp := natC_len p
  have lq := natC_len q
  have lz := natC_len 0
  have hsp := safe_p p q l
  have hsq := safe_q p q l
  have hsl := safe_l p q l
  have hxW : bev 256 (bn bl) < 18446744073709551616 ^ 16 := by
    rw [w_of 256 8 128 rfl rfl]
    refine Nat.lt_of_lt_of_le (bev_lt 256 (bn bl) (bn_lt bl)) ?_
    rw [show (bn bl).length = bl.length from List.length_map _]
    exact Nat.pow_le_pow_right (by decide) (by omega)
  have hfb := fun w' (hk : Keep No w w') => fromBytes_fn a n c bl w' hl hcap (hb.to hk (fun _ h => .inr h)).sla (by omega)
  rw [if_pos hxW] at hfb
  have hf := hf _ hxW
  have g1 : decide ((n : Int) < (l : Int)) = false := decide_eq_false (by omega)
  have g2 : decide ((n : Int) > (l : Int)) = false := decide_eq_false (by omega)
  generalize bev 256 (bn bl) = x at *
  have lx := natC_len x
  have hal := fun w' b' (h : w'.rangeAt b' 0 (rowN [x])) => all1c p q l f x b' cond w' hen hf h
  simp only [hc, if_true] at hal
  repeat' (first | refine sy_seqC ?_ | refine syl_nil ?_ | refine sy_if_f rfl ?_ | refine sy_block ?_ | refine sy_skip ?_ | refine sy_ret ?_ | refine syx_then ?_ | refine syx_go ?_ | (refine sy_region (id := 0) ?_; (refine y_new ?_; intro _); refine y_assign ?_) | (refine sy_region (id := 1) ?_; refine y_move ?_; refine yv (op_callV (f := 43) (hc := fun w' _ hk _ => hfi w' hk)) (k := ?_); refine y_move ?_; refine y_extract ?_; refine y_extract ?_; (refine y_new ?_; intro _); refine yn (op_storesAll (B := safeC p q l) (hv := safeC_one p q l) (h1 := (safeC_len p q l).symm)) (k := ?_); refine y_assign ?_) | (refine sy_region (id := 2) ?_; refine y_move ?_; refine y_neq ?_; refine y_assign ?_) | (refine sy_region (id := 4) ?_; refine y_move ?_; refine y_len ?_; refine y_fieldAddr ?_; refine yv (op_load (hv := hsl)) (k := ?_); refine yv (op_lss (hr := g1)) (k := ?_); refine y_assign ?_) | (refine sy_region (id := 6) ?_; refine y_move ?_; refine y_len ?_; refine y_fieldAddr ?_; refine yv (op_load (hv := hsl)) (k := ?_); refine yv (op_gtr (hr := g2)) (k := ?_); refine y_assign ?_) | (refine sy_region (id := 8) ?_; refine y_move ?_; refine yv (op_callV (f := 72) (hc := fun w' _ hk _ => hfb w' hk)) (k := ?_); refine y_move ?_; refine y_extract ?_; refine y_extract ?_; (refine y_new ?_; intro _); refine yn (op_storeNat (n := x)) (k := ?_); refine y_assign ?_) | (refine sy_region (id := 9) ?_; refine yv (op_loads (B := safeC p q l)) (k := ?_); refine y_move ?_; refine yv (op_loads (B := natC x)) (k := ?_)) | (refine sy_region (id := 10) ?_; refine y_move ?_; refine y_neq ?_) | (refine sy_region (id := 12) ?_; refine yv (op_loads (B := natC x)) (k := ?_); refine yn (op_storeNat (n := x)) (k := ?_); refine y_assign ?_) | (refine ys (op_buildN1 (x := x)) (k := ?_); rintro _ _ ⟨bb, rfl, rfl⟩) | (refine syl_id ?_; first | refine yv (op_callV (f := 78) (hc := fun w' X hk hh => hal w' _ (blk_range (hh.has (by exact Has.append Has.here)) Seg.all))) (k := ?_) | refine y_assign ?_ | fail) | fail)
  exact ret2 rfl (resCells (B := natC x) rfl (ty rfl) rfl Has.go Seg.all (natC_len _).symm) (resTmp rfl) SubR.nil ⟨rfl, rfl⟩
theorem gelement_no (i : Nat) (a : Option Addr) (n c : Nat) (bl : List UInt8) (w : World) (h0 : 1 ≤ i) (h5 : i ≤ 4) (hG : GT w) (hn : n = gL i) (hl : bl.length = n) (hcap : n ≤ c) (hb : SlA w a (bl.map v8)) (hc : memB (gP i) (gQ i) (bev 256 (bn bl)) = false) : Sy.Fn Tryz.prog 31 [.int .i64 (i : Int), .slice a n c] w No (Gives (.tuple #[natV 0, .int .i64 3])) := by
  refine fn_enter Tryz.func31 rfl Tryz.ntmps31 (by simp) Holds.nil ?_
  have hw := fun w' (hk : Keep No w w') => gread_no i 56 (memB (gP i) (gQ i)) a n c bl w' h0 h5 (hG.to hk) hn hl hcap (hb.to hk (fun _ h => .inr h)).sla (en rfl) (fun x hx w'' => element_fn _ _ _ x w'' (gP_W i h0 h5) (gQ_W i h0 h5) (by have := gP_one i h0 h5; omega) hx) hc
  have lx := natC_len 0
  repeat' (first | refine sy_seqC ?_ | refine syl_nil ?_ | refine sy_ret ?_ | refine syx_then ?_ | refine syx_go ?_ | (refine sy_region (id := 0) ?_; (refine y_new ?_; intro _); refine y_assign ?_) | (refine sy_region (id := 1) ?_; refine y_move ?_; refine y_move ?_; refine yv (op_callV (f := 55) (hc := fun w' _ hk _ => hw w' hk)) (k := ?_); refine y_extract ?_; refine y_extract ?_; refine yn (op_storeNat (n := 0)) (k := ?_); refine y_assign ?_) | fail)
  exact ret2 rfl (resCells (B := natC 0) rfl (ty rfl) rfl Has.go Seg.all (natC_len _).symm) (resTmp rfl) SubR.nil ⟨rfl, rfl⟩
theorem gelement_fn (i : Nat) (a : Option Addr) (n c : Nat) (bl : List UInt8) (w : World) (h0 : 1 ≤ i) (h5 : i ≤ 4) (hG : GT w) (hn : n = gL i) (hl : bl.length = n) (hcap : n ≤ c) (hb : SlA w a (bl.map v8)) (hc : memB (gP i) (gQ i) (bev 256 (bn bl)) = true) : Sy.Fn Tryz.prog 31 [.int .i64 (i : Int), .slice a n c] w No (Gives (.tuple #[natV (bev 256 (bn bl)), .int .i64 0])) := by
  refine fn_enter Tryz.func31 rfl Tryz.ntmps31 (by simp) Holds.nil ?_
  have hw := fun w' (hk : Keep No w w') => gread_fn i 56 (memB (gP i) (gQ i)) a n c bl w' h0 h5 (hG.to hk) hn hl hcap (hb.to hk (fun _ h => .inr h)).sla (en rfl) (fun x hx w'' => element_fn _ _ _ x w'' (gP_W i h0 h5) (gQ_W i h0 h5) (by have := gP_one i h0 h5; omega) hx) hc
  have lx := natC_len (bev 256 (bn bl))
  generalize bev 256 (bn bl) = x at *
  repeat' (first | refine sy_seqC ?_ | refine syl_nil ?_ | refine sy_ret ?_ | refine syx_then ?_ | refine syx_go ?_ | (refine sy_region (id := 0) ?_; (refine y_new ?_; intro _); refine y_assign ?_) | (refine sy_region (id := 1) ?_; refine y_move ?_; refine y_move ?_; refine yv (op_callV (f := 55) (hc := fun w' _ hk _ => hw w' hk)) (k := ?_); refine y_extract ?_; refine y_extract ?_; refine yn (op_storeNat (n := x)) (k := ?_); refine y_assign ?_) | fail)
  exact ret2 rfl (resCells (B := natC x) rfl (ty rfl) rfl Has.go Seg.all (natC_len _).symm) (resTmp rfl) SubR.nil ⟨rfl, rfl⟩
set_option maxHeartbeats 1000000 in
theorem gscalar_fn (i : Nat) (a : Option Addr) (n c : Nat) (bl : List UInt8) (w : World) (h0 : 1 ≤ i) (h5 : i ≤ 4) (hG : GT w) (hl : bl.length = n) (hcap : n ≤ c) (hc2 : n < 1000000) (hb : SlA w a (bl.map v8)) :
    Sy.Fn Tryz.prog 47 [.int .i64 (i : Int), .slice a n c] w No (Gives (.tuple #[natV (bev 256 (bn bl) % gQ i), .int .i64 0])) := by
  refine fn_enter Tryz.func47 rfl Tryz.ntmps47 (by simp) Holds.nil ?_
  have hW := gP_W i h0 h5
  have hQW := gQ_W i h0 h5
  have hp1 := gP_one i h0 h5
  have hq0 := gQ_low i h0 h5
  have hfi := fun w' (hk : Keep No w w') => find_fn i w' h0 h5 (hG.to hk)
  generalize gP i = p at *
  generalize gQ i = q at *
  generalize gL i = l at *
  have lS := safeC_len p q l
  have lp := natC_len p
  have lq := natC_len q
  have lz := natC_len 0
  have hsp := safe_p p q l
  have hsq := safe_q p q l
  have hsl := safe_l p q l
  have hq00 : 0 < q := by omega
  have hRW : 256 ^ 32 < 18446744073709551616 ^ 16 := by
    rw [w_of 256 8 128 rfl rfl]; exact Nat.pow_lt_pow_right (by decide) (by decide)
  have hrad := fun w' aR cR (h : SlA w' aR ((1 :: List.replicate 32 0 : List UInt8).map v8)) (hc : 32 + 1 ≤ cR) => fromBytes_fn aR (32 + 1) cR (1 :: List.replicate 32 0) w' (by simp) hc h (by omega)
  rw [bev_radix, if_pos hRW] at hrad
  have hys : [Value.int IntKind.u8 1] ++ List.replicate 32 (Value.int IntKind.u8 0) = (1 :: List.replicate 32 0 : List UInt8).map v8 := by
    rw [List.map_cons, List.map_replicate]; rfl
  have lr := natC_len (256 ^ 32)
  generalize hrd : 256 ^ 32 = rad at *
  obtain ⟨f, hf⟩ : ∃ f, f = n % 32 := ⟨_, rfl⟩
  have hf32 : f < 32 := by rw [hf]; exact Nat.mod_lt _ (by decide)
  have hfn : f ≤ n := by rw [hf]; exact Nat.mod_le _ _
  obtain ⟨k, hk⟩ : ∃ k, n = f + 32 * k := ⟨n / 32, by rw [hf]; have := Nat.div_add_mod n 32; omega⟩
  have hrem : (n : Int).tmod 32 = ((f : Nat) : Int) := by rw [hf]; exact remI n 32
  have chunkW : ∀ D : List UInt8, D.length ≤ 32 → bev 256 (bn D) < 18446744073709551616 ^ 16 := fun D hD => by
    rw [w_of 256 8 128 rfl rfl]
    refine Nat.lt_of_lt_of_le (bev_lt 256 (bn D) (bn_lt D)) ?_
    rw [show (bn D).length = D.length from List.length_map _]
    exact Nat.pow_le_pow_right (by decide) (by omega)
  have hf0 := fun w' (hk : Keep No w w') => fromBytes_fn a f f (bl.take f) w' (by rw [List.length_take]; omega) (Nat.le_refl _) (by rw [List.map_take]; exact ((hb.to hk (fun _ h => .inr h)).sla).take _) (by omega)
  rw [if_pos (chunkW (bl.take f) (by rw [List.length_take]; omega))] at hf0
  have hd0W := chunkW (bl.take f) (by rw [List.length_take]; omega)
  have hrd0 := fun w' => reduce_fn (bev 256 (bn (bl.take f))) q w' hd0W hQW
  unfold modR at hrd0
  simp only [if_neg (show ¬ q = 0 by omega)] at hrd0
  have ld0 := natC_len (bev 256 (bn (bl.take f)))
  have lr0 := natC_len (bev 256 (bn (bl.take f)) % q)
  clear hf
  repeat' (first | refine sy_seqC ?_ | refine syl_nil ?_ | refine sy_if_f rfl ?_ | refine sy_skip ?_ | refine syx_then ?_ | refine syx_go ?_ | (refine sy_region (id := 0) ?_; (refine y_new ?_; intro _); refine y_assign ?_) | (refine sy_region (id := 1) ?_; refine y_move ?_; refine yv (op_callV (f := 43) (hc := fun w' _ hk _ => hfi w' hk)) (k := ?_); refine y_move ?_; refine y_extract ?_; refine y_extract ?_; (refine y_new ?_; intro _); refine yn (op_storesAll (B := safeC p q l) (hv := safeC_one p q l) (h1 := (safeC_len p q l).symm)) (k := ?_); refine y_assign ?_) | (refine sy_region (id := 2) ?_; refine y_move ?_; refine y_neq ?_) | (refine sy_region (id := 4) ?_; (refine ys op_buildSlice (k := ?_); rintro _ _ ⟨_, rfl, rfl⟩); (refine ys (OpT.conv (conv_shut (n := 1) (s := 1) (by repeat (first | exact Rem.here | apply Rem.there)) rfl (by unfold maxLen; omega)) (op_appendZ (k := 1) (m := 32) (km := 32 + 1) (hm := rfl) (hL := Rem.here) (hkm := rfl) (hys := hys))) (k := ?_); rintro _ _ ⟨rfl, aR, cR, rfl⟩); refine yv (op_callV (f := 72) (hc := fun w' _ _ hh => hrad w' _ _ (row_sla hh (by exact Has.append Has.go)) (Row.cap (n := 32 + 1) hh (by exact Has.append Has.go)))) (k := ?_); refine y_move ?_; refine y_extract ?_; refine y_extract ?_; (refine y_new ?_; intro _); refine yn (op_storeNat (n := rad)) (k := ?_); refine y_assign ?_) | (refine sy_region (id := 5) ?_; refine y_move ?_; refine y_len ?_; refine yv (op_rem (hr := hrem)) (k := ?_); refine y_assign ?_) | fail)
  rename_i b4 b6 wx b8
  refine Sy.weaken (fr' := [(1, .slice a n c), (4, .pointer (some ⟨b4, 0, none⟩)), (6, .pointer (some ⟨b6, 0, none⟩)), (8, .pointer (some ⟨b8, 0, none⟩)), (10, .int .i64 f)]) (L' := [.blk b8 44 (natC rad), .blk b6 79 (safeC p q l), .blk b4 44 (List.replicate 16 (Value.int IntKind.u64 0))]) ?_ (by exact Sub.go) (by exact SubR.go2)
  clear hrad hys hfi
  generalize hD0 : bev 256 (bn (bl.take f)) = d0 at *
  generalize hr0 : d0 % q = r0 at *
  repeat' (first | refine sy_seqC ?_ | refine syl_nil ?_ | refine sy_block ?_ | refine syx_then ?_ | refine syx_go ?_ | (refine sy_region (id := 6) ?_; refine y_move ?_; refine y_move ?_; refine y_move ?_; refine yv (op_sliceR (l := 0) (h := f) (m := f) (n' := f) (c' := f)) (k := ?_); refine yv (op_callV (f := 72) (hc := fun w' _ hk _ => hf0 w' hk)) (k := ?_); refine y_move ?_; refine y_extract ?_; refine y_extract ?_; (refine y_new ?_; intro _); refine yn (op_storeNat (n := d0)) (k := ?_); refine y_assign ?_) | (refine sy_region (id := 7) ?_; refine yv (op_loads (B := natC d0)) (k := ?_); refine y_fieldAddr ?_; refine yv (op_loads (B := natC q) (hv := hsq)) (k := ?_); refine yv (op_callV (hc := fun _ _ _ _ => (hrd0 _))) (k := ?_); refine y_move ?_; refine y_extract ?_; refine y_extract ?_; refine yn (op_storeNat (n := r0)) (k := ?_)) | (refine sy_region (id := 8) ?_; refine y_move ?_; refine y_assign ?_) | fail)
  rename_i b11
  refine sy_loop (γ := Nat) (fun j => [(1, .slice a n c), (4, .pointer (some ⟨b4, 0, none⟩)), (6, .pointer (some ⟨b6, 0, none⟩)), (8, .pointer (some ⟨b8, 0, none⟩)), (11, .pointer (some ⟨b11, 0, none⟩)), (13, .int .i64 ((f + 32 * j : Nat) : Int))])
    (fun j => [.blk b11 44 (natC (bev 256 (bn (bl.take (f + 32 * j))) % q)), .blk b8 44 (natC rad), .blk b6 79 (safeC p q l), .blk b4 44 (List.replicate 16 (Value.int IntKind.u64 0))])
    (fun j => j ≤ k) (fun j => k - j) 0 (Nat.zero_le _) ?_ ?_ ?_
  · exact Sub.go
  · show SubR [.blk b11 44 (natC (bev 256 (bn (bl.take f)) % q)), .blk b8 44 (natC rad), .blk b6 79 (safeC p q l), .blk b4 44 (List.replicate 16 (Value.int IntKind.u64 0))] _
    rw [hD0, hr0]
    exact SubR.go2
  clear hf0 hrd0 ld0 lr0 hd0W
  intro j hj
  rcases Nat.lt_or_ge j k with h | h
  · have hlt : decide (((f + 32 * j : Nat) : Int) < (n : Int)) = true := decide_eq_true (by omega)
    have hadd : IntKind.i64.wrap (((f + 32 * j : Nat) : Int) + 32) = ((f + 32 * j + 32 : Nat) : Int) := by rw [IntWalk.i64_in _ (by omega)]; omega
    have hch := bev_chunk bl (f + 32 * j) 32 (by omega)
    rw [hrd] at hch
    have hcl : ((bl.take (f + 32 * j + 32)).drop (f + 32 * j)).length = 32 := by rw [List.length_drop, List.length_take]; omega
    have hcW := chunkW ((bl.take (f + 32 * j + 32)).drop (f + 32 * j)) (by omega)
    have hfb := fun w' (hk : Keep No w w') => fromBytes_fn (movA a (f + 32 * j) (f + 32 * j + 32) 1) 32 32 ((bl.take (f + 32 * j + 32)).drop (f + 32 * j)) w' hcl (Nat.le_refl _) (by
      rw [List.map_drop, List.map_take]
      exact (((hb.to hk (fun _ h => .inr h)).sla).take _).mov (by rw [List.length_take]; omega)) (by omega)
    rw [if_pos hcW] at hfb
    have hst := scal_step q (bev 256 (bn (bl.take (f + 32 * j)))) rad (bev 256 (bn ((bl.take (f + 32 * j + 32)).drop (f + 32 * j))))
    rw [← hch] at hst
    have hrW := Nat.lt_trans (Nat.mod_lt (bev 256 (bn (bl.take (f + 32 * j)))) hq00) hQW
    generalize bev 256 (bn ((bl.take (f + 32 * j + 32)).drop (f + 32 * j))) = d at *
    generalize bev 256 (bn (bl.take (f + 32 * j))) % q = R0 at *
    have hM := fun w' => mmul_fn R0 rad q w' hrW hRW hQW
    have hpW := Nat.lt_trans (Nat.mod_lt (R0 * rad) hq00) hQW
    have hA := fun w' => madd_fn (R0 * rad % q) d q w' hpW hcW hQW
    unfold modR at hM hA
    simp only [if_neg (show ¬ q = 0 by omega)] at hM hA
    rw [hst] at hA
    have l1 := natC_len R0
    have l2 := natC_len d
    have l3 := natC_len (R0 * rad % q)
    have hcur : bev 256 (bn (bl.take (f + 32 * (j + 1)))) % q = bev 256 (bn (bl.take (f + 32 * j + 32))) % q := by rw [show f + 32 * (j + 1) = f + 32 * j + 32 by omega]
    have hnx : ((f + 32 * (j + 1) : Nat) : Int) = ((f + 32 * j + 32 : Nat) : Int) := by omega
    rw [← hcur] at hA
    have l4 := natC_len (bev 256 (bn (bl.take (f + 32 * (j + 1)))) % q)
    clear hst hch hcur
    generalize hnew : bev 256 (bn (bl.take (f + 32 * (j + 1)))) % q = R1 at *
    generalize R0 * rad % q = P at *
    repeat' (first | refine sy_seqC ?_ | refine syl_nil ?_ | refine sy_if_t rfl ?_ | refine sy_block ?_ | refine sy_skip ?_ | refine syx_then ?_ | refine syx_go ?_ | (refine sy_region (id := 9) ?_; refine y_move ?_; refine y_move ?_; refine y_len ?_; refine yv (op_lss (hr := hlt)) (k := ?_)) | (refine sy_region (id := 11) ?_; refine y_move ?_; refine y_move ?_; refine y_move ?_; refine yv (op_add (hr := hadd)) (k := ?_); refine y_move ?_; refine yv (op_add (hr := hadd)) (k := ?_); refine yv (op_sliceR (l := f + 32 * j) (h := f + 32 * j + 32) (m := f + 32 * j + 32) (n' := 32) (c' := 32) (hn' := by omega) (hc' := by omega)) (k := ?_); refine yv (op_callV (f := 72) (hc := fun w' _ hk _ => hfb w' hk)) (k := ?_); refine y_move ?_; refine y_extract ?_; refine y_extract ?_; (refine y_new ?_; intro _); refine yn (op_storeNat (n := d)) (k := ?_); refine y_assign ?_) | (refine sy_region (id := 12) ?_; refine yv (op_loads (B := natC R0)) (k := ?_); refine yv (op_loads (B := natC rad)) (k := ?_); refine y_fieldAddr ?_; refine yv (op_loads (B := natC q) (hv := hsq)) (k := ?_); refine yv (op_callV (hc := fun _ _ _ _ => (hM _))) (k := ?_); refine y_move ?_; refine y_extract ?_; refine y_extract ?_; refine yn (op_storeNat (n := P)) (k := ?_)) | (refine sy_region (id := 13) ?_; refine yv (op_loads (B := natC P)) (k := ?_); refine yv (op_loads (B := natC d)) (k := ?_); refine y_fieldAddr ?_; refine yv (op_loads (B := natC q) (hv := hsq)) (k := ?_); refine yv (op_callV (hc := fun _ _ _ _ => (hA _))) (k := ?_); refine y_move ?_; refine y_extract ?_; refine y_extract ?_; refine yn (op_storeNat (n := R1)) (k := ?_)) | (refine sy_region (id := 10) ?_; refine y_move ?_; refine yv (op_add (hr := hadd)) (k := ?_); refine y_assign ?_) | fail)
    refine syx_back (j + 1) ?_ ?_ ?_ ?_
    · show j + 1 ≤ k; omega
    · show k - (j + 1) < k - j; omega
    · rw [hnx]
      exact Sub.go
    · show SubR [.blk b11 44 (natC (bev 256 (bn (bl.take (f + 32 * (j + 1)))) % q)), .blk b8 44 (natC rad), .blk b6 79 (safeC p q l), .blk b4 44 (List.replicate 16 (Value.int IntKind.u64 0))] _
      rw [hnew]
      exact SubR.go2
  · obtain rfl : j = k := by omega
    have hlt : decide (((f + 32 * j : Nat) : Int) < (n : Int)) = false := decide_eq_false (by omega)
    rw [List.take_of_length_le (by omega)]
    have lR := natC_len (bev 256 (bn bl) % q)
    generalize bev 256 (bn bl) % q = R at *
    repeat' (first | refine sy_seqC ?_ | refine syl_nil ?_ | refine sy_if_f rfl ?_ | refine sy_ret ?_ | refine sy_exit ?_ | refine syx_then ?_ | refine syx_go ?_ | (refine sy_region (id := 9) ?_; refine y_move ?_; refine y_move ?_; refine y_len ?_; refine yv (op_lss (hr := hlt)) (k := ?_)) | (refine sy_region (id := 14) ?_; refine yv (op_loads (B := natC R)) (k := ?_); refine yn (op_storeNat (n := R)) (k := ?_); refine y_assign ?_) | fail)
    exact ret2 rfl (resCells (B := natC R) rfl (ty rfl) rfl Has.go Seg.all (natC_len _).symm) (resTmp rfl) SubR.nil ⟨rfl, rfl⟩
end Go.Proofs.YtaeddmcoanefhaaGreatDoor
end
