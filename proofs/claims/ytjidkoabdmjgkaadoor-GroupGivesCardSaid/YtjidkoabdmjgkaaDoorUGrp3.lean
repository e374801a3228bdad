/- The functions of layer group. -/
import Derived.Test.YtjidkoabdmjgkaaDoorUGrp2
import Derived.Test.YtjidkoabdmjgkaaDoorUSyAppZ
set_option linter.all false
namespace Go.Proofs.YtjidkoabdmjgkaaDoor
open Go Go.Sy Go.Nt Go.RowKit
attribute [local irreducible] Sy SyL SyX Sy.Fn callFunc natC rowN safeC gP gQ gL gS gCells memB
set_option maxRecDepth 10000
theorem all1c (p q l f x b : Nat) (cond : Nat → Bool) (w : World) (hen : ∀ args w, (callFunc f args).run Tryd.prog w = .ok (.enter f args) w) (hf : ∀ w', Sy.Fn Tryd.prog f [safeV p q l, natV x] w' No (Gives (.bool (cond x)))) (h : w.rangeAt b 0 (rowN [x])) :
    Sy.Fn Tryd.prog 43 [safeV p q l, .func (.func f) #[] #[], .slice (some ⟨b, 0, none⟩) 1 1] w No (Gives (.int .i64 (if cond x = true then 0 else 3))) := by
  have := all_fn p q l f 1 1 b 0 [x] cond w rfl (by decide) hen (fun y hy w' => by rw [List.mem_singleton.1 hy]; exact hf w') h
  rw [List.all_cons, List.all_nil, Bool.and_true] at this
  exact this
theorem gprime_bad (z : Int) (w : World) (hz : ¬ (1 ≤ z ∧ z ≤ 4)) : Sy.Fn Tryd.prog 23 [.int .i64 z] w No (Gives (.tuple #[natV 0, .int .i64 2])) := by
  refine fn_enter Tryd.func23 rfl Tryd.ntmps23 (by simp) Holds.nil ?_
  have lz := natC_len 0
  have lS := safeC_len 0 0 0
  have hsp := safe_p 0 0 0
  have hsq := safe_q 0 0 0
  repeat' (first | refine sy_seqC ?_ | refine syl_nil ?_ | refine sy_ret ?_ | refine syx_then ?_ | refine syx_go ?_ | (refine sy_region (id := 0) ?_; (refine y_new ?_; intro _); refine y_assign ?_) | (refine sy_region (id := 1) ?_; refine y_move ?_; refine yv (op_callV (hc := fun _ _ _ _ => (find_bad z _ hz))) (k := ?_); refine y_move ?_; refine y_extract ?_; refine y_extract ?_; (refine y_new ?_; intro _); refine yn (op_storesAll (B := safeC 0 0 0) (hv := safeC_one 0 0 0) (h1 := (safeC_len 0 0 0).symm)) (k := ?_); refine y_assign ?_) | (refine sy_region (id := 2) ?_; refine y_fieldAddr ?_; refine yv (op_loads (B := natC 0) (hv := hsp)) (k := ?_); refine y_move ?_; refine yn (op_storeNat (n := 0)) (k := ?_); refine y_assign ?_) | fail)
  exact ret2 rfl (resCells (B := natC 0) rfl (ty rfl) rfl Has.go Seg.all (natC_len _).symm) (resTmp rfl) SubR.nil ⟨rfl, rfl⟩
theorem gorder_bad (z : Int) (w : World) (hz : ¬ (1 ≤ z ∧ z ≤ 4)) : Sy.Fn Tryd.prog 24 [.int .i64 z] w No (Gives (.tuple #[natV 0, .int .i64 2])) := by
  refine fn_enter Tryd.func24 rfl Tryd.ntmps24 (by simp) Holds.nil ?_
  have lz := natC_len 0
  have lS := safeC_len 0 0 0
  have hsp := safe_p 0 0 0
  have hsq := safe_q 0 0 0
  repeat' (first | refine sy_seqC ?_ | refine syl_nil ?_ | refine sy_ret ?_ | refine syx_then ?_ | refine syx_go ?_ | (refine sy_region (id := 0) ?_; (refine y_new ?_; intro _); refine y_assign ?_) | (refine sy_region (id := 1) ?_; refine y_move ?_; refine yv (op_callV (hc := fun _ _ _ _ => (find_bad z _ hz))) (k := ?_); refine y_move ?_; refine y_extract ?_; refine y_extract ?_; (refine y_new ?_; intro _); refine yn (op_storesAll (B := safeC 0 0 0) (hv := safeC_one 0 0 0) (h1 := (safeC_len 0 0 0).symm)) (k := ?_); refine y_assign ?_) | (refine sy_region (id := 2) ?_; refine y_fieldAddr ?_; refine yv (op_loads (B := natC 0) (hv := hsq)) (k := ?_); refine y_move ?_; refine yn (op_storeNat (n := 0)) (k := ?_); refine y_assign ?_) | fail)
  exact ret2 rfl (resCells (B := natC 0) rfl (ty rfl) rfl Has.go Seg.all (natC_len _).symm) (resTmp rfl) SubR.nil ⟨rfl, rfl⟩
theorem ggen_bad (z : Int) (w : World) (hz : ¬ (1 ≤ z ∧ z ≤ 4)) : Sy.Fn Tryd.prog 25 [.int .i64 z] w No (Gives (.tuple #[natV 0, .int .i64 2])) := by
  refine fn_enter Tryd.func25 rfl Tryd.ntmps25 (by simp) Holds.nil ?_
  have lz := natC_len 0
  have lS := safeC_len 0 0 0
  have hsp := safe_p 0 0 0
  have hsq := safe_q 0 0 0
  repeat' (first | refine sy_seqC ?_ | refine syl_nil ?_ | refine sy_if_t rfl ?_ | refine sy_ret ?_ | refine syx_then ?_ | refine syx_go ?_ | refine syx_then_ret ?_ | (refine sy_region (id := 0) ?_; (refine y_new ?_; intro _); refine y_assign ?_) | (refine sy_region (id := 1) ?_; refine y_move ?_; refine yv (op_callV (hc := fun _ _ _ _ => (find_bad z _ hz))) (k := ?_); refine y_move ?_; refine y_extract ?_; refine y_extract ?_; (refine y_new ?_; intro _); refine yn (op_storesAll (B := safeC 0 0 0) (hv := safeC_one 0 0 0) (h1 := (safeC_len 0 0 0).symm)) (k := ?_); refine y_assign ?_) | (refine sy_region (id := 2) ?_; refine y_move ?_; refine y_neq ?_) | (refine sy_region (id := 3) ?_; refine yv op_zeroN (k := ?_); refine y_move ?_; refine yn (op_storeNat (n := 0)) (k := ?_); refine y_assign ?_) | fail)
  exact ret2 rfl (resCells (B := natC 0) rfl (ty rfl) rfl Has.go Seg.all (natC_len _).symm) (resTmp rfl) SubR.nil ⟨rfl, rfl⟩
theorem gprime_fn (i : Nat) (w : World) (h0 : 1 ≤ i) (h5 : i ≤ 4) (hG : GT w) :
    Sy.Fn Tryd.prog 23 [.int .i64 (i : Int)] w No (Gives (.tuple #[natV (gP i), .int .i64 0])) := by
  refine fn_enter Tryd.func23 rfl Tryd.ntmps23 (by simp) Holds.nil ?_
  have hW := gP_W i h0 h5
  have hQW := gQ_W i h0 h5
  have hp1 := gP_one i h0 h5
  have hq0 := gQ_low i h0 h5
  have hfi := fun w' (hk : Keep No w w') => find_fn i w' h0 h5 (hG.to hk)
  generalize gP i = p at *
  generalize gQ i = q at *
  generalize gL i = l at *
  have lS := safeC_len p q l
  have lp := natC_len p
  have lq := natC_len q
  have lz := natC_len 0
  have hsp := safe_p p q l
  have hsq := safe_q p q l
  have hsl := safe_l p q l
  repeat' (first | refine sy_seqC ?_ | refine syl_nil ?_ | refine sy_ret ?_ | refine syx_then ?_ | refine syx_go ?_ | (refine sy_region (id := 0) ?_; (refine y_new ?_; intro _); refine y_assign ?_) | (refine sy_region (id := 1) ?_; refine y_move ?_; refine yv (op_callV (f := 39) (hc := fun w' _ hk _ => hfi w' hk)) (k := ?_); refine y_move ?_; refine y_extract ?_; refine y_extract ?_; (refine y_new ?_; intro _); refine yn (op_storesAll (B := safeC p q l) (hv := safeC_one p q l) (h1 := (safeC_len p q l).symm)) (k := ?_); refine y_assign ?_) | (refine sy_region (id := 2) ?_; refine y_fieldAddr ?_; refine yv (op_loads (B := natC p) (hv := hsp)) (k := ?_); refine y_move ?_; refine yn (op_storeNat (n := p)) (k := ?_); refine y_assign ?_) | fail)
  exact ret2 rfl (resCells (B := natC p) rfl (ty rfl) rfl Has.go Seg.all (natC_len _).symm) (resTmp rfl) SubR.nil ⟨rfl, rfl⟩
theorem gorder_fn (i : Nat) (w : World) (h0 : 1 ≤ i) (h5 : i ≤ 4) (hG : GT w) :
    Sy.Fn Tryd.prog 24 [.int .i64 (i : Int)] w No (Gives (.tuple #[natV (gQ i), .int .i64 0])) := by
  refine fn_enter Tryd.func24 rfl Tryd.ntmps24 (by simp) Holds.nil ?_
  have hW := gP_W i h0 h5
  have hQW := gQ_W i h0 h5
  have hp1 := gP_one i h0 h5
  have hq0 := gQ_low i h0 h5
  have hfi := fun w' (hk : Keep No w w') => find_fn i w' h0 h5 (hG.to hk)
  generalize gP i = p at *
  generalize gQ i = q at *
  generalize gL i = l at *
  have lS := safeC_len p q l
  have lp := natC_len p
  have lq := natC_len q
  have lz := natC_len 0
  have hsp := safe_p p q l
  have hsq := safe_q p q l
  have hsl := safe_l p q l
  repeat' (first | refine sy_seqC ?_ | refine syl_nil ?_ | refine sy_ret ?_ | refine syx_then ?_ | refine syx_go ?_ | (refine sy_region (id := 0) ?_; (refine y_new ?_; intro _); refine y_assign ?_) | (refine sy_region (id := 1) ?_; refine y_move ?_; refine yv (op_callV (f := 39) (hc := fun w' _ hk _ => hfi w' hk)) (k := ?_); refine y_move ?_; refine y_extract ?_; refine y_extract ?_; (refine y_new ?_; intro _); refine yn (op_storesAll (B := safeC p q l) (hv := safeC_one p q l) (h1 := (safeC_len p q l).symm)) (k := ?_); refine y_assign ?_) | (refine sy_region (id := 2) ?_; refine y_fieldAddr ?_; refine yv (op_loads (B := natC q) (hv := hsq)) (k := ?_); refine y_move ?_; refine yn (op_storeNat (n := q)) (k := ?_); refine y_assign ?_) | fail)
  exact ret2 rfl (resCells (B := natC q) rfl (ty rfl) rfl Has.go Seg.all (natC_len _).symm) (resTmp rfl) SubR.nil ⟨rfl, rfl⟩
theorem ggen_fn (i : Nat) (w : World) (h0 : 1 ≤ i) (h5 : i ≤ 4) (hG : GT w) :
    Sy.Fn Tryd.prog 25 [.int .i64 (i : Int)] w No (Gives (.tuple #[natV 4, .int .i64 0])) := by
  refine fn_enter Tryd.func25 rfl Tryd.ntmps25 (by simp) Holds.nil ?_
  have hW := gP_W i h0 h5
  have hQW := gQ_W i h0 h5
  have hp1 := gP_one i h0 h5
  have hq0 := gQ_low i h0 h5
  have hfi := fun w' (hk : Keep No w w') => find_fn i w' h0 h5 (hG.to hk)
  generalize gP i = p at *
  generalize gQ i = q at *
  generalize gL i = l at *
  have lS := safeC_len p q l
  have lp := natC_len p
  have lq := natC_len q
  have lz := natC_len 0
  have hsp := safe_p p q l
  have hsq := safe_q p q l
  have hsl := safe_l p q l
  have l4 := natC_len 4
  have f4 := fun w' => fromInt_fn 4 w' (by decide)
  repeat' (first | refine sy_seqC ?_ | refine syl_nil ?_ | refine sy_if_f rfl ?_ | refine sy_skip ?_ | refine sy_ret ?_ | refine syx_then ?_ | refine syx_go ?_ | (refine sy_region (id := 0) ?_; (refine y_new ?_; intro _); refine y_assign ?_) | (refine sy_region (id := 1) ?_; refine y_move ?_; refine yv (op_callV (f := 39) (hc := fun w' _ hk _ => hfi w' hk)) (k := ?_); refine y_move ?_; refine y_extract ?_; refine y_extract ?_; (refine y_new ?_; intro _); refine yn (op_storesAll (B := safeC p q l) (hv := safeC_one p q l) (h1 := (safeC_len p q l).symm)) (k := ?_); refine y_assign ?_) | (refine sy_region (id := 2) ?_; refine y_move ?_; refine y_neq ?_) | (refine sy_region (id := 4) ?_; refine yv (op_callV (hc := fun _ _ _ _ => (f4 _))) (k := ?_); refine y_extract ?_; refine y_extract ?_; refine yn (op_storeNat (n := 4)) (k := ?_); refine y_assign ?_) | fail)
  exact ret2 rfl (resCells (B := natC 4) rfl (ty rfl) rfl Has.go Seg.all (natC_len _).symm) (resTmp rfl) SubR.nil ⟨rfl, rfl⟩
theorem glen_bad (z : Int) (w : World) (hz : ¬ (1 ≤ z ∧ z ≤ 4)) : Sy.Fn Tryd.prog 27 [.int .i64 z] w No (Gives (.int .i64 0)) := by
  refine fn_enter Tryd.func27 rfl Tryd.ntmps27 (by simp) Holds.nil ?_
  have lS := safeC_len 0 0 0
  have hsl := safe_l 0 0 0
  repeat' (first | refine sy_seqC ?_ | refine syl_nil ?_ | refine sy_ret ?_ | refine syx_then ?_ | refine syx_go ?_ | (refine sy_region (id := 0) ?_; refine y_assign ?_) | (refine sy_region (id := 1) ?_; refine y_move ?_; refine yv (op_callV (hc := fun _ _ _ _ => (find_bad z _ hz))) (k := ?_); refine y_move ?_; refine y_extract ?_; refine y_extract ?_; (refine y_new ?_; intro _); refine yn (op_storesAll (B := safeC 0 0 0) (hv := safeC_one 0 0 0) (h1 := (safeC_len 0 0 0).symm)) (k := ?_); refine y_assign ?_) | (refine sy_region (id := 2) ?_; refine y_fieldAddr ?_; refine yv (op_load (hv := hsl)) (k := ?_); refine y_assign ?_) | fail)
  exact ret1 rfl (resTmp rfl) SubR.nil ⟨rfl, rfl⟩
theorem glen_fn (i : Nat) (w : World) (h0 : 1 ≤ i) (h5 : i ≤ 4) (hG : GT w) :
    Sy.Fn Tryd.prog 27 [.int .i64 (i : Int)] w No (Gives (.int .i64 ((gL i : Nat) : Int))) := by
  refine fn_enter Tryd.func27 rfl Tryd.ntmps27 (by simp) Holds.nil ?_
  have hW := gP_W i h0 h5
  have hQW := gQ_W i h0 h5
  have hp1 := gP_one i h0 h5
  have hq0 := gQ_low i h0 h5
  have hfi := fun w' (hk : Keep No w w') => find_fn i w' h0 h5 (hG.to hk)
  generalize gP i = p at *
  generalize gQ i = q at *
  generalize gL i = l at *
  have lS := safeC_len p q l
  have lp := natC_len p
  have lq := natC_len q
  have lz := natC_len 0
  have hsp := safe_p p q l
  have hsq := safe_q p q l
  have hsl := safe_l p q l
  repeat' (first | refine sy_seqC ?_ | refine syl_nil ?_ | refine sy_ret ?_ | refine syx_then ?_ | refine syx_go ?_ | (refine sy_region (id := 0) ?_; refine y_assign ?_) | (refine sy_region (id := 1) ?_; refine y_move ?_; refine yv (op_callV (f := 39) (hc := fun w' _ hk _ => hfi w' hk)) (k := ?_); refine y_move ?_; refine y_extract ?_; refine y_extract ?_; (refine y_new ?_; intro _); refine yn (op_storesAll (B := safeC p q l) (hv := safeC_one p q l) (h1 := (safeC_len p q l).symm)) (k := ?_); refine y_assign ?_) | (refine sy_region (id := 2) ?_; refine y_fieldAddr ?_; refine yv (op_load (hv := hsl)) (k := ?_); refine y_assign ?_) | fail)
  exact ret1 rfl (resTmp rfl) SubR.nil ⟨rfl, rfl⟩
theorem gmember_bad (z : Int) (x : Nat) (w : World) (hz : ¬ (1 ≤ z ∧ z ≤ 4)) : Sy.Fn Tryd.prog 11 [.int .i64 z, natV x] w No (Gives (.bool false)) := by
  refine fn_enter Tryd.func11 rfl Tryd.ntmps11 (by simp) Holds.nil ?_
  have lS := safeC_len 0 0 0
  have lx := natC_len x
  repeat' (first | refine sy_seqC ?_ | refine syl_nil ?_ | refine sy_ret ?_ | refine syx_then ?_ | refine syx_go ?_ | (refine sy_region (id := 0) ?_; (refine y_new ?_; intro _); refine y_assign ?_) | (refine sy_region (id := 1) ?_; refine y_move ?_; refine yv (op_callV (hc := fun _ _ _ _ => (find_bad z _ hz))) (k := ?_); refine y_move ?_; refine y_extract ?_; refine y_extract ?_; (refine y_new ?_; intro _); refine yn (op_storesAll (B := safeC 0 0 0) (hv := safeC_one 0 0 0) (h1 := (safeC_len 0 0 0).symm)) (k := ?_); refine y_assign ?_) | (refine sy_region (id := 2) ?_; refine y_move ?_; refine y_eql ?_; refine y_move ?_; refine syl_skip rfl rfl rfl ?_; refine syl_skip rfl rfl rfl ?_; refine syl_skip rfl rfl rfl ?_; refine y_pick ?_; refine y_assign ?_) | fail)
  exact ret1 rfl (resTmp rfl) SubR.nil ⟨rfl, rfl⟩
theorem gmember_fn (i : Nat) (x : Nat) (w : World) (h0 : 1 ≤ i) (h5 : i ≤ 4) (hG : GT w) (hx : x < 18446744073709551616 ^ 16) :
    Sy.Fn Tryd.prog 11 [.int .i64 (i : Int), natV x] w No (Gives (.bool (memB (gP i) (gQ i) x))) := by
  refine fn_enter Tryd.func11 rfl Tryd.ntmps11 (by simp) Holds.nil ?_
  have lx := natC_len x
  have hW := gP_W i h0 h5
  have hQW := gQ_W i h0 h5
  have hp1 := gP_one i h0 h5
  have hq0 := gQ_low i h0 h5
  have hfi := fun w' (hk : Keep No w w') => find_fn i w' h0 h5 (hG.to hk)
  generalize gP i = p at *
  generalize gQ i = q at *
  generalize gL i = l at *
  have lS := safeC_len p q l
  have lp := natC_len p
  have lq := natC_len q
  have lz := natC_len 0
  have hsp := safe_p p q l
  have hsq := safe_q p q l
  have hsl := safe_l p q l
  have hel := fun w' => element_fn p q l x w' hW hQW (by omega) hx
  generalize memB p q x = b at *
  repeat' (first | refine sy_seqC ?_ | refine syl_nil ?_ | refine sy_ret ?_ | refine syx_then ?_ | refine syx_go ?_ | (refine sy_region (id := 0) ?_; (refine y_new ?_; intro _); refine y_assign ?_) | (refine sy_region (id := 1) ?_; refine y_move ?_; refine yv (op_callV (f := 39) (hc := fun w' _ hk _ => hfi w' hk)) (k := ?_); refine y_move ?_; refine y_extract ?_; refine y_extract ?_; (refine y_new ?_; intro _); refine yn (op_storesAll (B := safeC p q l) (hv := safeC_one p q l) (h1 := (safeC_len p q l).symm)) (k := ?_); refine y_assign ?_) | (refine sy_region (id := 2) ?_; refine y_move ?_; refine y_eql ?_; refine y_move ?_; refine yv (op_loads (B := safeC p q l)) (k := ?_); refine yv (op_loads (B := natC x)) (k := ?_); refine yv (op_callV (hc := fun _ _ _ _ => (hel _))) (k := ?_); refine y_pick ?_; refine y_assign ?_) | fail)
  exact ret1 rfl (resTmp rfl) SubR.nil ⟨rfl, rfl⟩
theorem gpower_bad (z : Int) (e : Nat) (w : World) (hz : ¬ (1 ≤ z ∧ z ≤ 4)) : Sy.Fn Tryd.prog 18 [.int .i64 z, natV e] w No (Gives (.tuple #[natV 0, .int .i64 2])) := by
  refine fn_enter Tryd.func18 rfl Tryd.ntmps18 (by simp) Holds.nil ?_
  have lz := natC_len 0
  have lS := safeC_len 0 0 0
  have hsp := safe_p 0 0 0
  have hsq := safe_q 0 0 0
  have le := natC_len e
  repeat' (first | refine sy_seqC ?_ | refine syl_nil ?_ | refine sy_if_t rfl ?_ | refine sy_ret ?_ | refine syx_then ?_ | refine syx_go ?_ | refine syx_then_ret ?_ | (refine sy_region (id := 0) ?_; (refine y_new ?_; intro _); (refine y_new ?_; intro _); refine y_assign ?_) | (refine sy_region (id := 1) ?_; refine y_move ?_; refine yv (op_callV (hc := fun _ _ _ _ => (find_bad z _ hz))) (k := ?_); refine y_move ?_; refine y_extract ?_; refine y_extract ?_; (refine y_new ?_; intro _); refine yn (op_storesAll (B := safeC 0 0 0) (hv := safeC_one 0 0 0) (h1 := (safeC_len 0 0 0).symm)) (k := ?_); refine y_assign ?_) | (refine sy_region (id := 2) ?_; refine y_move ?_; refine y_neq ?_) | (refine sy_region (id := 3) ?_; refine yv op_zeroN (k := ?_); refine y_move ?_; refine yn (op_storeNat (n := 0)) (k := ?_); refine y_assign ?_) | fail)
  exact ret2 rfl (resCells (B := natC 0) rfl (ty rfl) rfl Has.go Seg.all (natC_len _).symm) (resTmp rfl) SubR.nil ⟨rfl, rfl⟩
theorem gpower_no (i : Nat) (e : Nat) (w : World) (h0 : 1 ≤ i) (h5 : i ≤ 4) (hG : GT w) (he : e < 18446744073709551616 ^ 16) (hc : ¬ e < gQ i) :
    Sy.Fn Tryd.prog 18 [.int .i64 (i : Int), natV e] w No (Gives (.tuple #[natV 0, .int .i64 3])) := by
  refine fn_enter Tryd.func18 rfl Tryd.ntmps18 (by simp) Holds.nil ?_
  have le := natC_len e
  have hW := gP_W i h0 h5
  have hQW := gQ_W i h0 h5
  have hp1 := gP_one i h0 h5
  have hq0 := gQ_low i h0 h5
  have hfi := fun w' (hk : Keep No w w') => find_fn i w' h0 h5 (hG.to hk)
  generalize gP i = p at *
  generalize gQ i = q at *
  generalize gL i = l at *
  have lS := safeC_len p q l
  have lp := natC_len p
  have lq := natC_len q
  have lz := natC_len 0
  have hsp := safe_p p q l
  have hsq := safe_q p q l
  have hsl := safe_l p q l
  have hale := fun w' b' (h : w'.rangeAt b' 0 (rowN [e])) => all1c p q l 44 e b' (fun y => decide (y < q)) w' (en rfl) (fun w'' => scalar_fn p q l e w'' hQW he) h
  simp only [decide_eq_false hc, Bool.false_eq_true, if_false] at hale
  repeat' (first | refine sy_seqC ?_ | refine syl_nil ?_ | refine sy_if_t rfl ?_ | refine sy_if_f rfl ?_ | refine sy_skip ?_ | refine sy_ret ?_ | refine syx_then ?_ | refine syx_go ?_ | refine syx_then_ret ?_ | (refine sy_region (id := 0) ?_; (refine y_new ?_; intro _); (refine y_new ?_; intro _); refine y_assign ?_) | (refine sy_region (id := 1) ?_; refine y_move ?_; refine yv (op_callV (f := 39) (hc := fun w' _ hk _ => hfi w' hk)) (k := ?_); refine y_move ?_; refine y_extract ?_; refine y_extract ?_; (refine y_new ?_; intro _); refine yn (op_storesAll (B := safeC p q l) (hv := safeC_one p q l) (h1 := (safeC_len p q l).symm)) (k := ?_); refine y_assign ?_) | (refine sy_region (id := 2) ?_; refine y_move ?_; refine y_neq ?_) | (refine sy_region (id := 4) ?_; refine yv (op_loads (B := safeC p q l)) (k := ?_); refine yv (op_loads (B := natC e)) (k := ?_)) | (refine sy_region (id := 5) ?_; refine y_move ?_; refine y_neq ?_) | (refine sy_region (id := 6) ?_; refine yv op_zeroN (k := ?_); refine y_move ?_; refine yn (op_storeNat (n := 0)) (k := ?_); refine y_assign ?_) | (refine ys (op_buildN1 (x := e)) (k := ?_); rintro _ _ ⟨bb, rfl, rfl⟩) | (refine syl_id ?_; first | refine yv (op_callV (f := 43) (hc := fun w' X hk hh => hale w' _ (blk_range (hh.has (by exact Has.append Has.here)) Seg.all))) (k := ?_) | refine y_assign ?_ | fail) | fail)
  exact ret2 rfl (resCells (B := natC 0) rfl (ty rfl) rfl Has.go Seg.all (natC_len _).symm) (resTmp rfl) SubR.nil ⟨rfl, rfl⟩
theorem gpower_fn (i : Nat) (e : Nat) (w : World) (h0 : 1 ≤ i) (h5 : i ≤ 4) (hG : GT w) (he : e < 18446744073709551616 ^ 16) (hc : e < gQ i) :
    Sy.Fn Tryd.prog 18 [.int .i64 (i : Int), natV e] w No (Gives (.tuple #[natV (4 ^ e % gP i), .int .i64 0])) := by
  refine fn_enter Tryd.func18 rfl Tryd.ntmps18 (by simp) Holds.nil ?_
  have le := natC_len e
  have hW := gP_W i h0 h5
  have hQW := gQ_W i h0 h5
  have hp1 := gP_one i h0 h5
  have hq0 := gQ_low i h0 h5
  have hfi := fun w' (hk : Keep No w w') => find_fn i w' h0 h5 (hG.to hk)
  generalize gP i = p at *
  generalize gQ i = q at *
  generalize gL i = l at *
  have lS := safeC_len p q l
  have lp := natC_len p
  have lq := natC_len q
  have lz := natC_len 0
  have hsp := safe_p p q l
  have hsq := safe_q p q l
  have hsl := safe_l p q l
  have hale := fun w' b' (h : w'.rangeAt b' 0 (rowN [e])) => all1c p q l 44 e b' (fun y => decide (y < q)) w' (en rfl) (fun w'' => scalar_fn p q l e w'' hQW he) h
  simp only [decide_eq_true hc, if_true] at hale
  have l4 := natC_len 4
  have f4 := fun w' => fromInt_fn 4 w' (by decide)
  have hpw := fun w' => power_fn p q l 4 e w' hW (by omega) (by decide) he
  have lr := natC_len (4 ^ e % p)
  generalize 4 ^ e % p = r at *
  repeat' (first | refine sy_seqC ?_ | refine syl_nil ?_ | refine sy_if_f rfl ?_ | refine sy_skip ?_ | refine sy_ret ?_ | refine syx_then ?_ | refine syx_go ?_ | (refine sy_region (id := 0) ?_; (refine y_new ?_; intro _); (refine y_new ?_; intro _); refine y_assign ?_) | (refine sy_region (id := 1) ?_; refine y_move ?_; refine yv (op_callV (f := 39) (hc := fun w' _ hk _ => hfi w' hk)) (k := ?_); refine y_move ?_; refine y_extract ?_; refine y_extract ?_; (refine y_new ?_; intro _); refine yn (op_storesAll (B := safeC p q l) (hv := safeC_one p q l) (h1 := (safeC_len p q l).symm)) (k := ?_); refine y_assign ?_) | (refine sy_region (id := 2) ?_; refine y_move ?_; refine y_neq ?_) | (refine sy_region (id := 4) ?_; refine yv (op_loads (B := safeC p q l)) (k := ?_); refine yv (op_loads (B := natC e)) (k := ?_)) | (refine sy_region (id := 5) ?_; refine y_move ?_; refine y_neq ?_) | (refine sy_region (id := 7) ?_; refine yv (op_callV (hc := fun _ _ _ _ => (f4 _))) (k := ?_); refine y_move ?_; refine y_extract ?_; refine y_extract ?_; (refine y_new ?_; intro _); refine yn (op_storeNat (n := 4)) (k := ?_); refine y_assign ?_) | (refine sy_region (id := 8) ?_; refine yv (op_loads (B := safeC p q l)) (k := ?_); refine yv (op_loads (B := natC 4)) (k := ?_); refine yv (op_loads (B := natC e)) (k := ?_); refine yv (op_callV (hc := fun _ _ _ _ => (hpw _))) (k := ?_); refine yn (op_storeNat (n := r)) (k := ?_); refine y_assign ?_) | (refine ys (op_buildN1 (x := e)) (k := ?_); rintro _ _ ⟨bb, rfl, rfl⟩) | (refine syl_id ?_; first | refine yv (op_callV (f := 43) (hc := fun w' X hk hh => hale w' _ (blk_range (hh.has (by exact Has.append Has.here)) Seg.all))) (k := ?_) | refine y_assign ?_ | fail) | fail)
  exact ret2 rfl (resCells (B := natC r) rfl (ty rfl) rfl Has.go Seg.all (natC_len _).symm) (resTmp rfl) SubR.nil ⟨rfl, rfl⟩
theorem gexp_bad (z : Int) (x : Nat) (e : Nat) (w : World) (hz : ¬ (1 ≤ z ∧ z ≤ 4)) : Sy.Fn Tryd.prog 19 [.int .i64 z, natV x, natV e] w No (Gives (.tuple #[natV 0, .int .i64 2])) := by
  refine fn_enter Tryd.func19 rfl Tryd.ntmps19 (by simp) Holds.nil ?_
  have lz := natC_len 0
  have lS := safeC_len 0 0 0
  have hsp := safe_p 0 0 0
  have hsq := safe_q 0 0 0
  have lx := natC_len x
  have le := natC_len e
  repeat' (first | refine sy_seqC ?_ | refine syl_nil ?_ | refine sy_if_t rfl ?_ | refine sy_ret ?_ | refine syx_then ?_ | refine syx_go ?_ | refine syx_then_ret ?_ | (refine sy_region (id := 0) ?_; (refine y_new ?_; intro _); (refine y_new ?_; intro _); (refine y_new ?_; intro _); refine y_assign ?_) | (refine sy_region (id := 1) ?_; refine y_move ?_; refine yv (op_callV (hc := fun _ _ _ _ => (find_bad z _ hz))) (k := ?_); refine y_move ?_; refine y_extract ?_; refine y_extract ?_; (refine y_new ?_; intro _); refine yn (op_storesAll (B := safeC 0 0 0) (hv := safeC_one 0 0 0) (h1 := (safeC_len 0 0 0).symm)) (k := ?_); refine y_assign ?_) | (refine sy_region (id := 2) ?_; refine y_move ?_; refine y_neq ?_) | (refine sy_region (id := 3) ?_; refine yv op_zeroN (k := ?_); refine y_move ?_; refine yn (op_storeNat (n := 0)) (k := ?_); refine y_assign ?_) | fail)
  exact ret2 rfl (resCells (B := natC 0) rfl (ty rfl) rfl Has.go Seg.all (natC_len _).symm) (resTmp rfl) SubR.nil ⟨rfl, rfl⟩
theorem gexp_nox (i : Nat) (x : Nat) (e : Nat) (w : World) (h0 : 1 ≤ i) (h5 : i ≤ 4) (hG : GT w) (hx : x < 18446744073709551616 ^ 16) (he : e < 18446744073709551616 ^ 16) (hc : memB (gP i) (gQ i) x = false) :
    Sy.Fn Tryd.prog 19 [.int .i64 (i : Int), natV x, natV e] w No (Gives (.tuple #[natV 0, .int .i64 3])) := by
  refine fn_enter Tryd.func19 rfl Tryd.ntmps19 (by simp) Holds.nil ?_
  have lx := natC_len x
  have le := natC_len e
  have hW := gP_W i h0 h5
  have hQW := gQ_W i h0 h5
  have hp1 := gP_one i h0 h5
  have hq0 := gQ_low i h0 h5
  have hfi := fun w' (hk : Keep No w w') => find_fn i w' h0 h5 (hG.to hk)
  generalize gP i = p at *
  generalize gQ i = q at *
  generalize gL i = l at *
  have lS := safeC_len p q l
  have lp := natC_len p
  have lq := natC_len q
  have lz := natC_len 0
  have hsp := safe_p p q l
  have hsq := safe_q p q l
  have hsl := safe_l p q l
  have halx := fun w' b' (h : w'.rangeAt b' 0 (rowN [x])) => all1c p q l 38 x b' (memB p q) w' (en rfl) (fun w'' => element_fn p q l x w'' hW hQW (by omega) hx) h
  simp only [hc, Bool.false_eq_true, if_false] at halx
  repeat' (first | refine sy_seqC ?_ | refine syl_nil ?_ | refine sy_if_t rfl ?_ | refine sy_if_f rfl ?_ | refine sy_skip ?_ | refine sy_ret ?_ | refine syx_then ?_ | refine syx_go ?_ | refine syx_then_ret ?_ | (refine sy_region (id := 0) ?_; (refine y_new ?_; intro _); (refine y_new ?_; intro _); (refine y_new ?_; intro _); refine y_assign ?_) | (refine sy_region (id := 1) ?_; refine y_move ?_; refine yv (op_callV (f := 39) (hc := fun w' _ hk _ => hfi w' hk)) (k := ?_); refine y_move ?_; refine y_extract ?_; refine y_extract ?_; (refine y_new ?_; intro _); refine yn (op_storesAll (B := safeC p q l) (hv := safeC_one p q l) (h1 := (safeC_len p q l).symm)) (k := ?_); refine y_assign ?_) | (refine sy_region (id := 2) ?_; refine y_move ?_; refine y_neq ?_) | (refine sy_region (id := 4) ?_; refine yv (op_loads (B := safeC p q l)) (k := ?_); refine yv (op_loads (B := natC x)) (k := ?_)) | (refine sy_region (id := 5) ?_; refine y_move ?_; refine y_neq ?_) | (refine sy_region (id := 6) ?_; refine yv op_zeroN (k := ?_); refine y_move ?_; refine yn (op_storeNat (n := 0)) (k := ?_); refine y_assign ?_) | (refine ys (op_buildN1 (x := x)) (k := ?_); rintro _ _ ⟨bb, rfl, rfl⟩) | (refine syl_id ?_; first | refine yv (op_callV (f := 43) (hc := fun w' X hk hh => halx w' _ (blk_range (hh.has (by exact Has.append Has.here)) Seg.all))) (k := ?_) | refine y_assign ?_ | fail) | fail)
  exact ret2 rfl (resCells (B := natC 0) rfl (ty rfl) rfl Has.go Seg.all (natC_len _).symm) (resTmp rfl) SubR.nil ⟨rfl, rfl⟩
theorem gexp_noe (i : Nat) (x : Nat) (e : Nat) (w : World) (h0 : 1 ≤ i) (h5 : i ≤ 4) (hG : GT w) (hx : x < 18446744073709551616 ^ 16) (he : e < 18446744073709551616 ^ 16) (hc : memB (gP i) (gQ i) x = true) (hd : ¬ e < gQ i) :
    Sy.Fn Tryd.prog 19 [.int .i64 (i : Int), natV x, natV e] w No (Gives (.tuple #[natV 0, .int .i64 3])) := by
  refine fn_enter Tryd.func19 rfl Tryd.ntmps19 (by simp) Holds.nil ?_
  have lx := natC_len x
  have le := natC_len e
  have hW := gP_W i h0 h5
  have hQW := gQ_W i h0 h5
  have hp1 := gP_one i h0 h5
  have hq0 := gQ_low i h0 h5
  have hfi := fun w' (hk : Keep No w w') => find_fn i w' h0 h5 (hG.to hk)
  generalize gP i = p at *
  generalize gQ i = q at *
  generalize gL i = l at *
  have lS := safeC_len p q l
  have lp := natC_len p
  have lq := natC_len q
  have lz := natC_len 0
  have hsp := safe_p p q l
  have hsq := safe_q p q l
  have hsl := safe_l p q l
  have halx := fun w' b' (h : w'.rangeAt b' 0 (rowN [x])) => all1c p q l 38 x b' (memB p q) w' (en rfl) (fun w'' => element_fn p q l x w'' hW hQW (by omega) hx) h
  simp only [hc, if_true] at halx
  have hale := fun w' b' (h : w'.rangeAt b' 0 (rowN [e])) => all1c p q l 44 e b' (fun y => decide (y < q)) w' (en rfl) (fun w'' => scalar_fn p q l e w'' hQW he) h
  simp only [decide_eq_false hd, Bool.false_eq_true, if_false] at hale
  repeat' (first | refine sy_seqC ?_ | refine syl_nil ?_ | refine sy_if_t rfl ?_ | refine sy_if_f rfl ?_ | refine sy_skip ?_ | refine sy_ret ?_ | refine syx_then ?_ | refine syx_go ?_ | refine syx_then_ret ?_ | (refine sy_region (id := 0) ?_; (refine y_new ?_; intro _); (refine y_new ?_; intro _); (refine y_new ?_; intro _); refine y_assign ?_) | (refine sy_region (id := 1) ?_; refine y_move ?_; refine yv (op_callV (f := 39) (hc := fun w' _ hk _ => hfi w' hk)) (k := ?_); refine y_move ?_; refine y_extract ?_; refine y_extract ?_; (refine y_new ?_; intro _); refine yn (op_storesAll (B := safeC p q l) (hv := safeC_one p q l) (h1 := (safeC_len p q l).symm)) (k := ?_); refine y_assign ?_) | (refine sy_region (id := 2) ?_; refine y_move ?_; refine y_neq ?_) | (refine sy_region (id := 4) ?_; refine yv (op_loads (B := safeC p q l)) (k := ?_); refine yv (op_loads (B := natC x)) (k := ?_)) | (refine sy_region (id := 5) ?_; refine y_move ?_; refine y_neq ?_) | (refine sy_region (id := 7) ?_; refine yv (op_loads (B := safeC p q l)) (k := ?_); refine yv (op_loads (B := natC e)) (k := ?_)) | (refine sy_region (id := 8) ?_; refine y_move ?_; refine y_neq ?_) | (refine sy_region (id := 9) ?_; refine yv op_zeroN (k := ?_); refine y_move ?_; refine yn (op_storeNat (n := 0)) (k := ?_); refine y_assign ?_) | (refine ys (op_buildN1 (x := x)) (k := ?_); rintro _ _ ⟨bb, rfl, rfl⟩) | (refine ys (op_buildN1 (x := e)) (k := ?_); rintro _ _ ⟨bb, rfl, rfl⟩) | (refine syl_id ?_; first | refine yv (op_callV (f := 43) (hc := fun w' X hk hh => halx w' _ (blk_range (hh.has (by exact Has.append Has.here)) Seg.all))) (k := ?_) | refine yv (op_callV (f := 43) (hc := fun w' X hk hh => hale w' _ (blk_range (hh.has (by exact Has.append Has.here)) Seg.all))) (k := ?_) | refine y_assign ?_ | fail) | fail)
  exact ret2 rfl (resCells (B := natC 0) rfl (ty rfl) rfl Has.go Seg.all (natC_len _).symm) (resTmp rfl) SubR.nil ⟨rfl, rfl⟩
theorem gexp_fn (i : Nat) (x : Nat) (e : Nat) (w : World) (h0 : 1 ≤ i) (h5 : i ≤ 4) (hG : GT w) (hx : x < 18446744073709551616 ^ 16) (he : e < 18446744073709551616 ^ 16) (hc : memB (gP i) (gQ i) x = true) (hd : e < gQ i) :
    Sy.Fn Tryd.prog 19 [.int .i64 (i : Int), natV x, natV e] w No (Gives (.tuple #[natV (x ^ e % gP i), .int .i64 0])) := by
  refine fn_enter Tryd.func19 rfl Tryd.ntmps19 (by simp) Holds.nil ?_
  have lx := natC_len x
  have le := natC_len e
  have hW := gP_W i h0 h5
  have hQW := gQ_W i h0 h5
  have hp1 := gP_one i h0 h5
  have hq0 := gQ_low i h0 h5
  have hfi := fun w' (hk : Keep No w w') => find_fn i w' h0 h5 (hG.to hk)
  generalize gP i = p at *
  generalize gQ i = q at *
  generalize gL i = l at *
  have lS := safeC_len p q l
  have lp := natC_len p
  have lq := natC_len q
  have lz := natC_len 0
  have hsp := safe_p p q l
  have hsq := safe_q p q l
  have hsl := safe_l p q l
  have halx := fun w' b' (h : w'.rangeAt b' 0 (rowN [x])) => all1c p q l 38 x b' (memB p q) w' (en rfl) (fun w'' => element_fn p q l x w'' hW hQW (by omega) hx) h
  simp only [hc, if_true] at halx
  have hale := fun w' b' (h : w'.rangeAt b' 0 (rowN [e])) => all1c p q l 44 e b' (fun y => decide (y < q)) w' (en rfl) (fun w'' => scalar_fn p q l e w'' hQW he) h
  simp only [decide_eq_true hd, if_true] at hale
  have hpw := fun w' => power_fn p q l x e w' hW (by omega) hx he
  have lr := natC_len (x ^ e % p)
  generalize x ^ e % p = r at *
  repeat' (first | refine sy_seqC ?_ | refine syl_nil ?_ | refine sy_if_f rfl ?_ | refine sy_skip ?_ | refine sy_ret ?_ | refine syx_then ?_ | refine syx_go ?_ | (refine sy_region (id := 0) ?_; (refine y_new ?_; intro _); (refine y_new ?_; intro _); (refine y_new ?_; intro _); refine y_assign ?_) | (refine sy_region (id := 1) ?_; refine y_move ?_; refine yv (op_callV (f := 39) (hc := fun w' _ hk _ => hfi w' hk)) (k := ?_); refine y_move ?_; refine y_extract ?_; refine y_extract ?_; (refine y_new ?_; intro _); refine yn (op_storesAll (B := safeC p q l) (hv := safeC_one p q l) (h1 := (safeC_len p q l).symm)) (k := ?_); refine y_assign ?_) | (refine sy_region (id := 2) ?_; refine y_move ?_; refine y_neq ?_) | (refine sy_region (id := 4) ?_; refine yv (op_loads (B := safeC p q l)) (k := ?_); refine yv (op_loads (B := natC x)) (k := ?_)) | (refine sy_region (id := 5) ?_; refine y_move ?_; refine y_neq ?_) | (refine sy_region (id := 7) ?_; refine yv (op_loads (B := safeC p q l)) (k := ?_); refine yv (op_loads (B := natC e)) (k := ?_)) | (refine sy_region (id := 8) ?_; refine y_move ?_; refine y_neq ?_) | (refine sy_region (id := 10) ?_; refine yv (op_loads (B := safeC p q l)) (k := ?_); refine yv (op_loads (B := natC x)) (k := ?_); refine yv (op_loads (B := natC e)) (k := ?_); refine yv (op_callV (hc := fun _ _ _ _ => (hpw _))) (k := ?_); refine yn (op_storeNat (n := r)) (k := ?_); refine y_assign ?_) | (refine ys (op_buildN1 (x := x)) (k := ?_); rintro _ _ ⟨bb, rfl, rfl⟩) | (refine ys (op_buildN1 (x := e)) (k := ?_); rintro _ _ ⟨bb, rfl, rfl⟩) | (refine syl_id ?_; first | refine yv (op_callV (f := 43) (hc := fun w' X hk hh => halx w' _ (blk_range (hh.has (by exact Has.append Has.here)) Seg.all))) (k := ?_) | refine yv (op_callV (f := 43) (hc := fun w' X hk hh => hale w' _ (blk_range (hh.has (by exact Has.append Has.here)) Seg.all))) (k := ?_) | refine y_assign ?_ | fail) | fail)
  exact ret2 rfl (resCells (B := natC r) rfl (ty rfl) rfl Has.go Seg.all (natC_len _).symm) (resTmp rfl) SubR.nil ⟨rfl, rfl⟩
end Go.Proofs.YtjidkoabdmjgkaaDoor
