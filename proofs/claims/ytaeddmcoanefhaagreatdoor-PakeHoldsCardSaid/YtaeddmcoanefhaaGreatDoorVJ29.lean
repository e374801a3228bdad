/- The functions of layer group. -/
import Derived.Test.YtaeddmcoanefhaaGreatDoorVJ28
import Derived.Test.YtaeddmcoanefhaaGreatDoorVJ21
set_option linter.all false
section
namespace Go.Proofs.YtaeddmcoanefhaaGreatDoor
open Go Go.Sy Go.Nt Go.RowKit
attribute [local irreducible] Sy SyL SyX Sy.Fn callFunc natC rowN safeC gP gQ gL gS gCells memB
set_option maxRecDepth 10000
theorem all1c (p q l f x b : Nat) (cond : Nat → Bool) (w : World) (hen : ∀ args w, (callFunc f args).run Tryz.prog w = .ok (.enter f args) w) (hf : ∀ w', Sy.Fn Tryz.prog f [safeV p q l, natV x] w' No (Gives (.bool (cond x)))) (h : w.rangeAt b 0 (rowN [x])) :
    Sy.Fn Tryz.prog 78 [safeV p q l, .func (.func f) #[] #[], .slice (some ⟨b, 0, none⟩) 1 1] w No (Gives (.int .i64 (if cond x = true then 0 else 3))) := by
  have := all_fn p q l f 1 1 b 0 [x] cond w rfl (by decide) hen (fun y hy w' => by rw [List.mem_singleton.1 hy]; exact hf w') h
  rw [List.all_cons, List.all_nil, Bool.and_true] at this
  exact this
theorem all2c (p q l f x y b : Nat) (cond : Nat → Bool) (w : World) (hen : ∀ args w, (callFunc f args).run Tryz.prog w = .ok (.enter f args) w) (hf : ∀ x', (x' = x ∨ x' = y) → ∀ w', Sy.Fn Tryz.prog f [safeV p q l, natV x'] w' No (Gives (.bool (cond x')))) (h : w.rangeAt b 0 (rowN [x, y])) :
    Sy.Fn Tryz.prog 78 [safeV p q l, .func (.func f) #[] #[], .slice (some ⟨b, 0, none⟩) 2 2] w No (Gives (.int .i64 (if (cond x && cond y) = true then 0 else 3))) := by
  have := all_fn p q l f 2 2 b 0 [x, y] cond w rfl (by decide) hen (fun z hz w' => hf z (by simpa using hz) w') h
  rw [List.all_cons, List.all_cons, List.all_nil, Bool.and_true] at this
  exact this
theorem gprime_bad (z : Int) (w : World) (hz : ¬ (1 ≤ z ∧ z ≤ 4)) : Sy.Fn Tryz.prog 101 [.int .i64 z] w No (Gives (.tuple #[natV 0, .int .i64 2])) := by
  refine fn_enter Tryz.func101 rfl Tryz.ntmps101 (by simp) Holds.nil ?_
  have lz := natC_len 0
  have lS := safeC_len 0 0 0
  have hsp := safe_p 0 0 0
  have hsq := safe_q 0 0 0
  repeat' (first | refine sy_seqC ?_ | refine syl_nil ?_ | refine sy_ret ?_ | refine syx_then ?_ | refine syx_go ?_ | (refine sy_region (id := 0) ?_; (refine y_new ?_; intro _); refine y_assign ?_) | (refine sy_region (id := 1) ?_; refine y_move ?_; refine yv (op_callV (hc := fun _ _ _ _ => (find_bad z _ hz))) (k := ?_); refine y_move ?_; refine y_extract ?_; refine y_extract ?_; (refine y_new ?_; intro _); refine yn (op_storesAll (B := safeC 0 0 0) (hv := safeC_one 0 0 0) (h1 := (safeC_len 0 0 0).symm)) (k := ?_); refine y_assign ?_) | (refine sy_region (id := 2) ?_; refine y_fieldAddr ?_; refine yv (op_loads (B := natC 0) (hv := hsp)) (k := ?_); refine y_move ?_; refine yn (op_storeNat (n := 0)) (k := ?_); refine y_assign ?_) | fail)
  exact ret2 rfl (resCells (B := natC 0) rfl (ty rfl) rfl Has.go Seg.all (natC_len _).symm) (resTmp rfl) SubR.nil ⟨rfl, rfl⟩
theorem gprime_fn (i : Nat) (w : World) (h0 : 1 ≤ i) (h5 : i ≤ 4) (hG : GT w) :
    Sy.Fn Tryz.prog 101 [.int .i64 (i : Int)] w No (Gives (.tuple #[natV (gP i), .int .i64 0])) := by
  refine fn_enter Tryz.func101 rfl Tryz.ntmps101 (by simp) Holds.nil ?_
  have hW := gP_W i h0 h5
  have hQW := gQ_W i h0 h5
  have hp1 := gP_one i h0 h5
  have hq0 := gQ_low i h0 h5
  have hfi := fun w' (hk : Keep No w w') => find_fn i w' h0 h5 (hG.to hk)
  generalize gP i = p at *
  generalize gQ i = q at *
  generalize gL i = l at *
  have lS := safeC_len p q l
  have lp := natC_len p
  have lq := natC_len q
  have lz := natC_len 0
  have hsp := safe_p p q l
  have hsq := safe_q p q l
  have hsl := safe_l p q l
  repeat' (first | refine sy_seqC ?_ | refine syl_nil ?_ | refine sy_ret ?_ | refine syx_then ?_ | refine syx_go ?_ | (refine sy_region (id := 0) ?_; (refine y_new ?_; intro _); refine y_assign ?_) | (refine sy_region (id := 1) ?_; refine y_move ?_; refine yv (op_callV (f := 43) (hc := fun w' _ hk _ => hfi w' hk)) (k := ?_); refine y_move ?_; refine y_extract ?_; refine y_extract ?_; (refine y_new ?_; intro _); refine yn (op_storesAll (B := safeC p q l) (hv := safeC_one p q l) (h1 := (safeC_len p q l).symm)) (k := ?_); refine y_assign ?_) | (refine sy_region (id := 2) ?_; refine y_fieldAddr ?_; refine yv (op_loads (B := natC p) (hv := hsp)) (k := ?_); refine y_move ?_; refine yn (op_storeNat (n := p)) (k := ?_); refine y_assign ?_) | fail)
  exact ret2 rfl (resCells (B := natC p) rfl (ty rfl) rfl Has.go Seg.all (natC_len _).symm) (resTmp rfl) SubR.nil ⟨rfl, rfl⟩
theorem glen_bad (z : Int) (w : World) (hz : ¬ (1 ≤ z ∧ z ≤ 4)) : Sy.Fn Tryz.prog 19 [.int .i64 z] w No (Gives (.int .i64 0)) := by
  refine fn_enter Tryz.func19 rfl Tryz.ntmps19 (by simp) Holds.nil ?_
  have lS := safeC_len 0 0 0
  have hsl := safe_l 0 0 0
  repeat' (first | refine sy_seqC ?_ | refine syl_nil ?_ | refine sy_ret ?_ | refine syx_then ?_ | refine syx_go ?_ | (refine sy_region (id := 0) ?_; refine y_assign ?_) | (refine sy_region (id := 1) ?_; refine y_move ?_; refine yv (op_callV (hc := fun _ _ _ _ => (find_bad z _ hz))) (k := ?_); refine y_move ?_; refine y_extract ?_; refine y_extract ?_; (refine y_new ?_; intro _); refine yn (op_storesAll (B := safeC 0 0 0) (hv := safeC_one 0 0 0) (h1 := (safeC_len 0 0 0).symm)) (k := ?_); refine y_assign ?_) | (refine sy_region (id := 2) ?_; refine y_fieldAddr ?_; refine yv (op_load (hv := hsl)) (k := ?_); refine y_assign ?_) | fail)
  exact ret1 rfl (resTmp rfl) SubR.nil ⟨rfl, rfl⟩
theorem glen_fn (i : Nat) (w : World) (h0 : 1 ≤ i) (h5 : i ≤ 4) (hG : GT w) :
    Sy.Fn Tryz.prog 19 [.int .i64 (i : Int)] w No (Gives (.int .i64 ((gL i : Nat) : Int))) := by
  refine fn_enter Tryz.func19 rfl Tryz.ntmps19 (by simp) Holds.nil ?_
  have hW := gP_W i h0 h5
  have hQW := gQ_W i h0 h5
  have hp1 := gP_one i h0 h5
  have hq0 := gQ_low i h0 h5
  have hfi := fun w' (hk : Keep No w w') => find_fn i w' h0 h5 (hG.to hk)
  generalize gP i = p at *
  generalize gQ i = q at *
  generalize gL i = l at *
  have lS := safeC_len p q l
  have lp := natC_len p
  have lq := natC_len q
  have lz := natC_len 0
  have hsp := safe_p p q l
  have hsq := safe_q p q l
  have hsl := safe_l p q l
  repeat' (first | refine sy_seqC ?_ | refine syl_nil ?_ | refine sy_ret ?_ | refine syx_then ?_ | refine syx_go ?_ | (refine sy_region (id := 0) ?_; refine y_assign ?_) | (refine sy_region (id := 1) ?_; refine y_move ?_; refine yv (op_callV (f := 43) (hc := fun w' _ hk _ => hfi w' hk)) (k := ?_); refine y_move ?_; refine y_extract ?_; refine y_extract ?_; (refine y_new ?_; intro _); refine yn (op_storesAll (B := safeC p q l) (hv := safeC_one p q l) (h1 := (safeC_len p q l).symm)) (k := ?_); refine y_assign ?_) | (refine sy_region (id := 2) ?_; refine y_fieldAddr ?_; refine yv (op_load (hv := hsl)) (k := ?_); refine y_assign ?_) | fail)
  exact ret1 rfl (resTmp rfl) SubR.nil ⟨rfl, rfl⟩
theorem gpower_fn (i : Nat) (e : Nat) (w : World) (h0 : 1 ≤ i) (h5 : i ≤ 4) (hG : GT w) (he : e < 18446744073709551616 ^ 16) (hc : e < gQ i) :
    Sy.Fn Tryz.prog 52 [.int .i64 (i : Int), natV e] w No (Gives (.tuple #[natV (4 ^ e % gP i), .int .i64 0])) := by
  refine fn_enter Tryz.func52 rfl Tryz.ntmps52 (by simp) Holds.nil ?_
  have le := natC_len e
  have hW := gP_W i h0 h5
  have hQW := gQ_W i h0 h5
  have hp1 := gP_one i h0 h5
  have hq0 := gQ_low i h0 h5
  have hfi := fun w' (hk : Keep No w w') => find_fn i w' h0 h5 (hG.to hk)
  generalize gP i = p at *
  generalize gQ i = q at *
  generalize gL i = l at *
  have lS := safeC_len p q l
  have lp := natC_len p
  have lq := natC_len q
  have lz := natC_len 0
  have hsp := safe_p p q l
  have hsq := safe_q p q l
  have hsl := safe_l p q l
  have hale := fun w' b' (h : w'.rangeAt b' 0 (rowN [e])) => all1c p q l 79 e b' (fun y => decide (y < q)) w' (en rfl) (fun w'' => scalar_fn p q l e w'' hQW he) h
  simp only [decide_eq_true hc, if_true] at hale
  have l4 := natC_len 4
  have f4 := fun w' => fromInt_fn 4 w' (by decide)
  have hpw := fun w' => power_fn p q l 4 e w' hW (by omega) (by decide) he
  have lr := natC_len (4 ^ e % p)
  generalize 4 ^ e % p = r at *
  repeat' (first | refine sy_seqC ?_ | refine syl_nil ?_ | refine sy_if_f rfl ?_ | refine sy_skip ?_ | refine sy_ret ?_ | refine syx_then ?_ | refine syx_go ?_ | (refine sy_region (id := 0) ?_; (refine y_new ?_; intro _); (refine y_new ?_; intro _); refine y_assign ?_) | (refine sy_region (id := 1) ?_; refine y_move ?_; refine yv (op_callV (f := 43) (hc := fun w' _ hk _ => hfi w' hk)) (k := ?_); refine y_move ?_; refine y_extract ?_; refine y_extract ?_; (refine y_new ?_; intro _); refine yn (op_storesAll (B := safeC p q l) (hv := safeC_one p q l) (h1 := (safeC_len p q l).symm)) (k := ?_); refine y_assign ?_) | (refine sy_region (id := 2) ?_; refine y_move ?_; refine y_neq ?_) | (refine sy_region (id := 4) ?_; refine yv (op_loads (B := safeC p q l)) (k := ?_); refine yv (op_loads (B := natC e)) (k := ?_)) | (refine sy_region (id := 5) ?_; refine y_move ?_; refine y_neq ?_) | (refine sy_region (id := 7) ?_; refine yv (op_callV (hc := fun _ _ _ _ => (f4 _))) (k := ?_); refine y_move ?_; refine y_extract ?_; refine y_extract ?_; (refine y_new ?_; intro _); refine yn (op_storeNat (n := 4)) (k := ?_); refine y_assign ?_) | (refine sy_region (id := 8) ?_; refine yv (op_loads (B := safeC p q l)) (k := ?_); refine yv (op_loads (B := natC 4)) (k := ?_); refine yv (op_loads (B := natC e)) (k := ?_); refine yv (op_callV (hc := fun _ _ _ _ => (hpw _))) (k := ?_); refine yn (op_storeNat (n := r)) (k := ?_); refine y_assign ?_) | (refine ys (op_buildN1 (x := e)) (k := ?_); rintro _ _ ⟨bb, rfl, rfl⟩) | (refine syl_id ?_; first | refine yv (op_callV (f := 78) (hc := fun w' X hk hh => hale w' _ (blk_range (hh.has (by exact Has.append Has.here)) Seg.all))) (k := ?_) | refine y_assign ?_ | fail) | fail)
  exact ret2 rfl (resCells (B := natC r) rfl (ty rfl) rfl Has.go Seg.all (natC_len _).symm) (resTmp rfl) SubR.nil ⟨rfl, rfl⟩
theorem gexp_nox (i : Nat) (x : Nat) (e : Nat) (w : World) (h0 : 1 ≤ i) (h5 : i ≤ 4) (hG : GT w) (hx : x < 18446744073709551616 ^ 16) (he : e < 18446744073709551616 ^ 16) (hc : memB (gP i) (gQ i) x = false) :
    Sy.Fn Tryz.prog 53 [.int .i64 (i : Int), natV x, natV e] w No (Gives (.tuple #[natV 0, .int .i64 3])) := by
  refine fn_enter Tryz.func53 rfl Tryz.ntmps53 (by simp) Holds.nil ?_
  have lx := natC_len x
  have le := natC_len e
  have hW := gP_W i h0 h5
  have hQW := gQ_W i h0 h5
  have hp1 := gP_one i h0 h5
  have hq0 := gQ_low i h0 h5
  have hfi := fun w' (hk : Keep No w w') => find_fn i w' h0 h5 (hG.to hk)
  generalize gP i = p at *
  generalize gQ i = q at *
  generalize gL i = l at *
  have lS := safeC_len p q l
  have lp := natC_len p
  have lq := natC_len q
  have lz := natC_len 0
  have hsp := safe_p p q l
  have hsq := safe_q p q l
  have hsl := safe_l p q l
  have halx := fun w' b' (h : w'.rangeAt b' 0 (rowN [x])) => all1c p q l 56 x b' (memB p q) w' (en rfl) (fun w'' => element_fn p q l x w'' hW hQW (by omega) hx) h
  simp only [hc, Bool.false_eq_true, if_false] at halx
  repeat' (first | refine sy_seqC ?_ | refine syl_nil ?_ | refine sy_if_t rfl ?_ | refine sy_if_f rfl ?_ | refine sy_skip ?_ | refine sy_ret ?_ | refine syx_then ?_ | refine syx_go ?_ | refine syx_then_ret ?_ | (refine sy_region (id := 0) ?_; (refine y_new ?_; intro _); (refine y_new ?_; intro _); (refine y_new ?_; intro _); refine y_assign ?_) | (refine sy_region (id := 1) ?_; refine y_move ?_; refine yv (op_callV (f := 43) (hc := fun w' _ hk _ => hfi w' hk)) (k := ?_); refine y_move ?_; refine y_extract ?_; refine y_extract ?_; (refine y_new ?_; intro _); refine yn (op_storesAll (B := safeC p q l) (hv := safeC_one p q l) (h1 := (safeC_len p q l).symm)) (k := ?_); refine y_assign ?_) | (refine sy_region (id := 2) ?_; refine y_move ?_; refine y_neq ?_) | (refine sy_region (id := 4) ?_; refine yv (op_loads (B := safeC p q l)) (k := ?_); refine yv (op_loads (B := natC x)) (k := ?_)) | (refine sy_region (id := 5) ?_; refine y_move ?_; refine y_neq ?_) | (refine sy_region (id := 6) ?_; refine yv op_zeroN (k := ?_); refine y_move ?_; refine yn (op_storeNat (n := 0)) (k := ?_); refine y_assign ?_) | (refine ys (op_buildN1 (x := x)) (k := ?_); rintro _ _ ⟨bb, rfl, rfl⟩) | (refine syl_id ?_; first | refine yv (op_callV (f := 78) (hc := fun w' X hk hh => halx w' _ (blk_range (hh.has (by exact Has.append Has.here)) Seg.all))) (k := ?_) | refine y_assign ?_ | fail) | fail)
  exact ret2 rfl (resCells (B := natC 0) rfl (ty rfl) rfl Has.go Seg.all (natC_len _).symm) (resTmp rfl) SubR.nil ⟨rfl, rfl⟩
theorem gexp_noe (i : Nat) (x : Nat) (e : Nat) (w : World) (h0 : 1 ≤ i) (h5 : i ≤ 4) (hG : GT w) (hx : x < 18446744073709551616 ^ 16) (he : e < 18446744073709551616 ^ 16) (hc : memB (gP i) (gQ i) x = true) (hd : ¬ e < gQ i) :
    Sy.Fn Tryz.prog 53 [.int .i64 (i : Int), natV x, natV e] w No (Gives (.tuple #[natV 0, .int .i64 3])) := by
  refine fn_enter Tryz.func53 rfl Tryz.ntmps53 (by simp) Holds.nil ?_
  have lx := natC_len x
  have le := natC_len e
  have hW := gP_W i h0 h5
  have hQW := gQ_W i h0 h5
  have hp1 := gP_one i h0 h5
  have hq0 := gQ_low i h0 h5
  have hfi := fun w' (hk : Keep No w w') => find_fn i w' h0 h5 (hG.to hk)
  generalize gP i = p at *
  generalize gQ i = q at *
  generalize gL i = l at *
  have lS := safeC_len p q l
  have lp := natC_len p
  have lq := natC_len q
  have lz := natC_len 0
  have hsp := safe_p p q l
  have hsq := safe_q p q l
  have hsl := safe_l p q l
  have halx := fun w' b' (h : w'.rangeAt b' 0 (rowN [x])) => all1c p q l 56 x b' (memB p q) w' (en rfl) (fun w'' => element_fn p q l x w'' hW hQW (by omega) hx) h
  simp only [hc, if_true] at halx
  have hale := fun w' b' (h : w'.rangeAt b' 0 (rowN [e])) => all1c p q l 79 e b' (fun y => decide (y < q)) w' (en rfl) (fun w'' => scalar_fn p q l e w'' hQW he) h
  simp only [decide_eq_false hd, Bool.false_eq_true, if_false] at hale
  repeat' (first | refine sy_seqC ?_ | refine syl_nil ?_ | refine sy_if_t rfl ?_ | refine sy_if_f rfl ?_ | refine sy_skip ?_ | refine sy_ret ?_ | refine syx_then ?_ | refine syx_go ?_ | refine syx_then_ret ?_ | (refine sy_region (id := 0) ?_; (refine y_new ?_; intro _); (refine y_new ?_; intro _); (refine y_new ?_; intro _); refine y_assign ?_) | (refine sy_region (id := 1) ?_; refine y_move ?_; refine yv (op_callV (f := 43) (hc := fun w' _ hk _ => hfi w' hk)) (k := ?_); refine y_move ?_; refine y_extract ?_; refine y_extract ?_; (refine y_new ?_; intro _); refine yn (op_storesAll (B := safeC p q l) (hv := safeC_one p q l) (h1 := (safeC_len p q l).symm)) (k := ?_); refine y_assign ?_) | (refine sy_region (id := 2) ?_; refine y_move ?_; refine y_neq ?_) | (refine sy_region (id := 4) ?_; refine yv (op_loads (B := safeC p q l)) (k := ?_); refine yv (op_loads (B := natC x)) (k := ?_)) | (refine sy_region (id := 5) ?_; refine y_move ?_; refine y_neq ?_) | (refine sy_region (id := 7) ?_; refine yv (op_loads (B := safeC p q l)) (k := ?_); refine yv (op_loads (B := natC e)) (k := ?_)) | (refine sy_region (id := 8) ?_; refine y_move ?_; refine y_neq ?_) | (refine sy_region (id := 9) ?_; refine yv op_zeroN (k := ?_); refine y_move ?_; refine yn (op_storeNat (n := 0)) (k := ?_); refine y_assign ?_) | (refine ys (op_buildN1 (x := x)) (k := ?_); rintro _ _ ⟨bb, rfl, rfl⟩) | (refine ys (op_buildN1 (x := e)) (k := ?_); rintro _ _ ⟨bb, rfl, rfl⟩) | (refine syl_id ?_; first | refine yv (op_callV (f := 78) (hc := fun w' X hk hh => halx w' _ (blk_range (hh.has (by exact Has.append Has.here)) Seg.all))) (k := ?_) | refine yv (op_callV (f := 78) (hc := fun w' X hk hh => hale w' _ (blk_range (hh.has (by exact Has.append Has.here)) Seg.all))) (k := ?_) | refine y_assign ?_ | fail) | fail)
  exact ret2 rfl (resCells (B := natC 0) rfl (ty rfl) rfl Has.go Seg.all (natC_len _).symm) (resTmp rfl) SubR.nil ⟨rfl, rfl⟩
theorem gexp_fn (i : Nat) (x : Nat) (e : Nat) (w : World) (h0 : 1 ≤ i) (h5 : i ≤ 4) (hG : GT w) (hx : x < 18446744073709551616 ^ 16) (he : e < 18446744073709551616 ^ 16) (hc : memB (gP i) (gQ i) x = true) (hd : e < gQ i) :
    Sy.Fn Tryz.prog 53 [.int .i64 (i : Int), natV x, natV e] w No (Gives (.tuple #[natV (x ^ e % gP i), .int .i64 0])) := by
  refine fn_enter Tryz.func53 rfl Tryz.ntmps53 (by simp) Holds.nil ?_
  have lx := natC_len x
  have le := natC_len e
  have hW := gP_W i h0 h5
  have hQW := gQ_W i h0 h5
  have hp1 := gP_one i h0 h5
  have hq0 := gQ_low i h0 h5
  have hfi := fun w' (hk : Keep No w w') => find_fn i w' h0 h5 (hG.to hk)
  generalize gP i = p at *
  generalize gQ i = q at *
  generalize gL i = l at *
  have lS := safeC_len p q l
  have lp := natC_len p
  have lq := natC_len q
  have lz := natC_len 0
  have hsp := safe_p p q l
  have hsq := safe_q p q l
  have hsl := safe_l p q l
  have halx := fun w' b' (h : w'.rangeAt b' 0 (rowN [x])) => all1c p q l 56 x b' (memB p q) w' (en rfl) (fun w'' => element_fn p q l x w'' hW hQW (by omega) hx) h
  simp only [hc, if_true] at halx
  have hale := fun w' b' (h : w'.rangeAt b' 0 (rowN [e])) => all1c p q l 79 e b' (fun y => decide (y < q)) w' (en rfl) (fun w'' => scalar_fn p q l e w'' hQW he) h
  simp only [decide_eq_true hd, if_true] at hale
  have hpw := fun w' => power_fn p q l x e w' hW (by omega) hx he
  have lr := natC_len (x ^ e % p)
  generalize x ^ e % p = r at *
  repeat' (first | refine sy_seqC ?_ | refine syl_nil ?_ | refine sy_if_f rfl ?_ | refine sy_skip ?_ | refine sy_ret ?_ | refine syx_then ?_ | refine syx_go ?_ | (refine sy_region (id := 0) ?_; (refine y_new ?_; intro _); (refine y_new ?_; intro _); (refine y_new ?_; intro _); refine y_assign ?_) | (refine sy_region (id := 1) ?_; refine y_move ?_; refine yv (op_callV (f := 43) (hc := fun w' _ hk _ => hfi w' hk)) (k := ?_); refine y_move ?_; refine y_extract ?_; refine y_extract ?_; (refine y_new ?_; intro _); refine yn (op_storesAll (B := safeC p q l) (hv := safeC_one p q l) (h1 := (safeC_len p q l).symm)) (k := ?_); refine y_assign ?_) | (refine sy_region (id := 2) ?_; refine y_move ?_; refine y_neq ?_) | (refine sy_region (id := 4) ?_; refine yv (op_loads (B := safeC p q l)) (k := ?_); refine yv (op_loads (B := natC x)) (k := ?_)) | (refine sy_region (id := 5) ?_; refine y_move ?_; refine y_neq ?_) | (refine sy_region (id := 7) ?_; refine yv (op_loads (B := safeC p q l)) (k := ?_); refine yv (op_loads (B := natC e)) (k := ?_)) | (refine sy_region (id := 8) ?_; refine y_move ?_; refine y_neq ?_) | (refine sy_region (id := 10) ?_; refine yv (op_loads (B := safeC p q l)) (k := ?_); refine yv (op_loads (B := natC x)) (k := ?_); refine yv (op_loads (B := natC e)) (k := ?_); refine yv (op_callV (hc := fun _ _ _ _ => (hpw _))) (k := ?_); refine yn (op_storeNat (n := r)) (k := ?_); refine y_assign ?_) | (refine ys (op_buildN1 (x := x)) (k := ?_); rintro _ _ ⟨bb, rfl, rfl⟩) | (refine ys (op_buildN1 (x := e)) (k := ?_); rintro _ _ ⟨bb, rfl, rfl⟩) | (refine syl_id ?_; first | refine yv (op_callV (f := 78) (hc := fun w' X hk hh => halx w' _ (blk_range (hh.has (by exact Has.append Has.here)) Seg.all))) (k := ?_) | refine yv (op_callV (f := 78) (hc := fun w' X hk hh => hale w' _ (blk_range (hh.has (by exact Has.append Has.here)) Seg.all))) (k := ?_) | refine y_assign ?_ | fail) | fail)
  exact ret2 rfl (resCells (B := natC r) rfl (ty rfl) rfl Has.go Seg.all (natC_len _).symm) (resTmp rfl) SubR.nil ⟨rfl, rfl⟩
theorem gmul_no (i : Nat) (x : Nat) (y : Nat) (w : World) (h0 : 1 ≤ i) (h5 : i ≤ 4) (hG : GT w) (hx : x < 18446744073709551616 ^ 16) (hy : y < 18446744073709551616 ^ 16) (hc : (memB (gP i) (gQ i) x && memB (gP i) (gQ i) y) = false) :
    Sy.Fn Tryz.prog 51 [.int .i64 (i : Int), natV x, natV y] w No (Gives (.tuple #[natV 0, .int .i64 3])) := by
  refine fn_enter Tryz.func51 rfl Tryz.ntmps51 (by simp) Holds.nil ?_
  have lx := natC_len x
  have ly := natC_len y
  have hW := gP_W i h0 h5
  have hQW := gQ_W i h0 h5
  have hp1 := gP_one i h0 h5
  have hq0 := gQ_low i h0 h5
  have hfi := fun w' (hk : Keep No w w') => find_fn i w' h0 h5 (hG.to hk)
  generalize gP i = p at *
  generalize gQ i = q at *
  generalize gL i = l at *
  have lS := safeC_len p q l
  have lp := natC_len p
  have lq := natC_len q
  have lz := natC_len 0
  have hsp := safe_p p q l
  have hsq := safe_q p q l
  have hsl := safe_l p q l
  have hal := fun w' b' (h : w'.rangeAt b' 0 (rowN [x, y])) => all2c p q l 56 x y b' (memB p q) w' (en rfl) (fun x' hx' w'' => by
    have hx'W : x' < 18446744073709551616 ^ 16 := by
      rcases hx' with rfl | rfl
      · exact hx
      · exact hy
    exact element_fn p q l x' w'' hW hQW (by omega) hx'W) h
  simp only [hc, Bool.false_eq_true, if_false] at hal
  repeat' (first | refine sy_seqC ?_ | refine syl_nil ?_ | refine sy_if_t rfl ?_ | refine sy_if_f rfl ?_ | refine sy_skip ?_ | refine sy_ret ?_ | refine syx_then ?_ | refine syx_go ?_ | refine syx_then_ret ?_ | (refine sy_region (id := 0) ?_; (refine y_new ?_; intro _); (refine y_new ?_; intro _); (refine y_new ?_; intro _); refine y_assign ?_) | (refine sy_region (id := 1) ?_; refine y_move ?_; refine yv (op_callV (f := 43) (hc := fun w' _ hk _ => hfi w' hk)) (k := ?_); refine y_move ?_; refine y_extract ?_; refine y_extract ?_; (refine y_new ?_; intro _); refine yn (op_storesAll (B := safeC p q l) (hv := safeC_one p q l) (h1 := (safeC_len p q l).symm)) (k := ?_); refine y_assign ?_) | (refine sy_region (id := 2) ?_; refine y_move ?_; refine y_neq ?_) | (refine sy_region (id := 4) ?_; refine yv (op_loads (B := safeC p q l)) (k := ?_); refine yv (op_loads (B := natC x)) (k := ?_); refine yv (op_loads (B := natC y)) (k := ?_)) | (refine sy_region (id := 5) ?_; refine y_move ?_; refine y_neq ?_) | (refine sy_region (id := 6) ?_; refine yv op_zeroN (k := ?_); refine y_move ?_; refine yn (op_storeNat (n := 0)) (k := ?_); refine y_assign ?_) | (refine ys (op_buildN2 (x := x) (x' := y)) (k := ?_); rintro _ _ ⟨bb, rfl, rfl⟩) | (refine syl_id ?_; first | refine yv (op_callV (f := 78) (hc := fun w' X hk hh => hal w' _ (blk_range (hh.has (by exact Has.append Has.here)) Seg.all))) (k := ?_) | refine y_assign ?_ | fail) | fail)
  exact ret2 rfl (resCells (B := natC 0) rfl (ty rfl) rfl Has.go Seg.all (natC_len _).symm) (resTmp rfl) SubR.nil ⟨rfl, rfl⟩
theorem gmul_fn (i : Nat) (x : Nat) (y : Nat) (w : World) (h0 : 1 ≤ i) (h5 : i ≤ 4) (hG : GT w) (hx : x < 18446744073709551616 ^ 16) (hy : y < 18446744073709551616 ^ 16) (hc : (memB (gP i) (gQ i) x && memB (gP i) (gQ i) y) = true) :
    Sy.Fn Tryz.prog 51 [.int .i64 (i : Int), natV x, natV y] w No (Gives (.tuple #[natV (x * y % gP i), .int .i64 0])) := by
  refine fn_enter Tryz.func51 rfl Tryz.ntmps51 (by simp) Holds.nil ?_
  have lx := natC_len x
  have ly := natC_len y
  have hW := gP_W i h0 h5
  have hQW := gQ_W i h0 h5
  have hp1 := gP_one i h0 h5
  have hq0 := gQ_low i h0 h5
  have hfi := fun w' (hk : Keep No w w') => find_fn i w' h0 h5 (hG.to hk)
  generalize gP i = p at *
  generalize gQ i = q at *
  generalize gL i = l at *
  have lS := safeC_len p q l
  have lp := natC_len p
  have lq := natC_len q
  have lz := natC_len 0
  have hsp := safe_p p q l
  have hsq := safe_q p q l
  have hsl := safe_l p q l
  have hal := fun w' b' (h : w'.rangeAt b' 0 (rowN [x, y])) => all2c p q l 56 x y b' (memB p q) w' (en rfl) (fun x' hx' w'' => by
    have hx'W : x' < 18446744073709551616 ^ 16 := by
      rcases hx' with rfl | rfl
      · exact hx
      · exact hy
    exact element_fn p q l x' w'' hW hQW (by omega) hx'W) h
  simp only [hc, if_true] at hal
  have ho := fun w' => mmul_fn x y p w' hx hy hW
  unfold modR at ho
  simp only [if_neg (show ¬ p = 0 by omega)] at ho
  have lr := natC_len (x * y % p)
  generalize x * y % p = r at *
  repeat' (first | refine sy_seqC ?_ | refine syl_nil ?_ | refine sy_if_f rfl ?_ | refine sy_skip ?_ | refine sy_ret ?_ | refine syx_then ?_ | refine syx_go ?_ | (refine sy_region (id := 0) ?_; (refine y_new ?_; intro _); (refine y_new ?_; intro _); (refine y_new ?_; intro _); refine y_assign ?_) | (refine sy_region (id := 1) ?_; refine y_move ?_; refine yv (op_callV (f := 43) (hc := fun w' _ hk _ => hfi w' hk)) (k := ?_); refine y_move ?_; refine y_extract ?_; refine y_extract ?_; (refine y_new ?_; intro _); refine yn (op_storesAll (B := safeC p q l) (hv := safeC_one p q l) (h1 := (safeC_len p q l).symm)) (k := ?_); refine y_assign ?_) | (refine sy_region (id := 2) ?_; refine y_move ?_; refine y_neq ?_) | (refine sy_region (id := 4) ?_; refine yv (op_loads (B := safeC p q l)) (k := ?_); refine yv (op_loads (B := natC x)) (k := ?_); refine yv (op_loads (B := natC y)) (k := ?_)) | (refine sy_region (id := 5) ?_; refine y_move ?_; refine y_neq ?_) | (refine sy_region (id := 7) ?_; refine yv (op_loads (B := natC x)) (k := ?_); refine yv (op_loads (B := natC y)) (k := ?_); refine y_fieldAddr ?_; refine yv (op_loads (B := natC p) (hv := hsp)) (k := ?_); refine yv (op_callV (hc := fun _ _ _ _ => (ho _))) (k := ?_); refine y_extract ?_; refine y_extract ?_; refine yn (op_storeNat (n := r)) (k := ?_); refine y_assign ?_) | (refine ys (op_buildN2 (x := x) (x' := y)) (k := ?_); rintro _ _ ⟨bb, rfl, rfl⟩) | (refine syl_id ?_; first | refine yv (op_callV (f := 78) (hc := fun w' X hk hh => hal w' _ (blk_range (hh.has (by exact Has.append Has.here)) Seg.all))) (k := ?_) | refine y_assign ?_ | fail) | fail)
  exact ret2 rfl (resCells (B := natC r) rfl (ty rfl) rfl Has.go Seg.all (natC_len _).symm) (resTmp rfl) SubR.nil ⟨rfl, rfl⟩
theorem memB_mem {i x : Nat} : memB (gP i) (gQ i) x = true ↔ mem i x := by
  unfold memB mem
  exact decide_eq_true_iff
theorem ginv_one {i x : Nat} (h0 : 1 ≤ i) (h5 : i ≤ 4) (hc : memB (gP i) (gQ i) x = true) : (inv (gP i) x).1 = 1 := by
  rw [(inv_ok (gP i) x (by have := gP_one i h0 h5; omega)).1]
  exact mem_gcd h0 h5 (memB_mem.1 hc)
theorem ginv_fn (i : Nat) (x : Nat) (w : World) (h0 : 1 ≤ i) (h5 : i ≤ 4) (hG : GT w) (hx : x < 18446744073709551616 ^ 16) (hc : memB (gP i) (gQ i) x = true) :
    Sy.Fn Tryz.prog 58 [.int .i64 (i : Int), natV x] w No (Gives (.tuple #[natV (inv (gP i) x).2, .int .i64 0])) := by
  refine fn_enter Tryz.func58 rfl Tryz.ntmps58 (by simp) Holds.nil ?_
  have lx := natC_len x
  have hi1 := ginv_one h0 h5 hc
  have hW := gP_W i h0 h5
  have hQW := gQ_W i h0 h5
  have hp1 := gP_one i h0 h5
  have hq0 := gQ_low i h0 h5
  have hfi := fun w' (hk : Keep No w w') => find_fn i w' h0 h5 (hG.to hk)
  generalize gP i = p at *
  generalize gQ i = q at *
  generalize gL i = l at *
  have lS := safeC_len p q l
  have lp := natC_len p
  have lq := natC_len q
  have lz := natC_len 0
  have hsp := safe_p p q l
  have hsq := safe_q p q l
  have hsl := safe_l p q l
  have halx := fun w' b' (h : w'.rangeAt b' 0 (rowN [x])) => all1c p q l 56 x b' (memB p q) w' (en rfl) (fun w'' => element_fn p q l x w'' hW hQW (by omega) hx) h
  simp only [hc, if_true] at halx
  have hin := fun w' => inverse_fn x p w' hx hW
  unfold invR at hin
  simp only [if_neg (show ¬ p = 0 by omega), hi1, if_true] at hin
  generalize (inv p x).2 = r at *
  have lr := natC_len r
  repeat' (first | refine sy_seqC ?_ | refine syl_nil ?_ | refine sy_if_f rfl ?_ | refine sy_skip ?_ | refine sy_ret ?_ | refine syx_then ?_ | refine syx_go ?_ | (refine sy_region (id := 0) ?_; (refine y_new ?_; intro _); (refine y_new ?_; intro _); refine y_assign ?_) | (refine sy_region (id := 1) ?_; refine y_move ?_; refine yv (op_callV (f := 43) (hc := fun w' _ hk _ => hfi w' hk)) (k := ?_); refine y_move ?_; refine y_extract ?_; refine y_extract ?_; (refine y_new ?_; intro _); refine yn (op_storesAll (B := safeC p q l) (hv := safeC_one p q l) (h1 := (safeC_len p q l).symm)) (k := ?_); refine y_assign ?_) | (refine sy_region (id := 2) ?_; refine y_move ?_; refine y_neq ?_) | (refine sy_region (id := 4) ?_; refine yv (op_loads (B := safeC p q l)) (k := ?_); refine yv (op_loads (B := natC x)) (k := ?_)) | (refine sy_region (id := 5) ?_; refine y_move ?_; refine y_neq ?_) | (refine sy_region (id := 7) ?_; refine yv (op_loads (B := natC x)) (k := ?_); refine y_fieldAddr ?_; refine yv (op_loads (B := natC p) (hv := hsp)) (k := ?_); refine yv (op_callV (hc := fun _ _ _ _ => (hin _))) (k := ?_); refine y_extract ?_; refine y_extract ?_; refine yn (op_storeNat (n := r)) (k := ?_); refine y_assign ?_) | (refine ys (op_buildN1 (x := x)) (k := ?_); rintro _ _ ⟨bb, rfl, rfl⟩) | (refine syl_id ?_; first | refine yv (op_callV (f := 78) (hc := fun w' X hk hh => halx w' _ (blk_range (hh.has (by exact Has.append Has.here)) Seg.all))) (k := ?_) | refine y_assign ?_ | fail) | fail)
  exact ret2 rfl (resCells (B := natC r) rfl (ty rfl) rfl Has.go Seg.all (natC_len _).symm) (resTmp rfl) SubR.nil ⟨rfl, rfl⟩
end Go.Proofs.YtaeddmcoanefhaaGreatDoor
end
