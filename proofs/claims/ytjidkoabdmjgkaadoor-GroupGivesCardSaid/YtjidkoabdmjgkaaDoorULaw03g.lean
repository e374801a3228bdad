/- The statements about layer group, walked: GroupGives. -/
import Derived.Test.YtjidkoabdmjgkaaDoorULaw03k
set_option linter.all false
namespace Go.Proofs.YtjidkoabdmjgkaaDoor
open Go Go.Sy Go.Nt Go.RowKit
attribute [local irreducible] Sy SyL SyX Sy.Fn callFunc natC rowN refC iC gP gQ gL memB safeC fixB
set_option maxRecDepth 10000
theorem fourW (i : Nat) (h0 : 1 ≤ i) (h5 : i ≤ 4) : (4 : Nat) < 18446744073709551616 ^ 16 := Nat.lt_of_lt_of_le (show 4 < 18446744073709551616 by decide) (Nat.le_self_pow (by decide) _)
theorem fourX : ∀ (s : Nat) (h : s < ([1, 2, 3, 4] : List Nat).length), ([1, 2, 3, 4] : List Nat)[s] = s + 1
  | 0, _ => rfl
  | 1, _ => rfl
  | 2, _ => rfl
  | 3, _ => rfl
  | n + 4, h => absurd (show n + 4 < 4 from h) (by omega)
set_option maxHeartbeats 4000000 in
theorem groupGives_fn (z many : Int) (w : World) (hG : GT w) :
    Sy.Fn Tryd.prog 5 [.int .i64 z, .int .i64 many] w No (Gives (.bool true)) := by
  refine fn_enter Tryd.func5 rfl Tryd.ntmps5 (by simp) Holds.nil ?_
  obtain ⟨p, q, g, e, hPr, hOr, hGe, hcase⟩ : ∃ (p q g : Nat) (e : Int), (∀ w', Keep No w w' → Sy.Fn Tryd.prog 23 [.int .i64 z] w' No (Gives (.tuple #[natV p, .int .i64 e]))) ∧
      (∀ w', Keep No w w' → Sy.Fn Tryd.prog 24 [.int .i64 z] w' No (Gives (.tuple #[natV q, .int .i64 e]))) ∧
      (∀ w', Keep No w w' → Sy.Fn Tryd.prog 25 [.int .i64 z] w' No (Gives (.tuple #[natV g, .int .i64 e]))) ∧
      ((¬ (1 ≤ z ∧ z ≤ 4) ∧ p = 0 ∧ q = 0 ∧ g = 0 ∧ e = 2) ∨ ∃ i : Nat, z = (i : Int) ∧ 1 ≤ i ∧ i ≤ 4 ∧ p = gP i ∧ q = gQ i ∧ g = 4 ∧ e = 0) := by
    by_cases hz : 1 ≤ z ∧ z ≤ 4
    · obtain ⟨i, rfl⟩ : ∃ i : Nat, z = (i : Int) := ⟨z.toNat, by omega⟩
      have h0 : 1 ≤ i := by omega
      have h5 : i ≤ 4 := by omega
      exact ⟨gP i, gQ i, 4, 0, fun w' hk => gprime_fn i w' h0 h5 (hG.to hk), fun w' hk => gorder_fn i w' h0 h5 (hG.to hk), fun w' hk => ggen_fn i w' h0 h5 (hG.to hk), .inr ⟨i, rfl, h0, h5, rfl, rfl, rfl, rfl⟩⟩
    · exact ⟨0, 0, 0, 2, fun w' _ => gprime_bad z w' hz, fun w' _ => gorder_bad z w' hz, fun w' _ => ggen_bad z w' hz, .inl ⟨hz, rfl, rfl, rfl, rfl⟩⟩
  have ep := natC_len p
  have eq' := natC_len q
  have eg := natC_len g
  repeat' (first | refine sy_seqC ?_ | refine syl_nil ?_ | refine syx_then ?_ | refine syx_go ?_ | (refine sy_region (id := 0) ?_; (refine y_new ?_; intro _); (refine y_new ?_; intro _)) | (refine sy_region (id := 1) ?_; refine y_move ?_; refine yv (op_callV (f := 23) (hc := fun w' _ hk _ => hPr w' hk)) (k := ?_); refine y_move ?_; refine y_extract ?_; refine y_extract ?_; (refine y_new ?_; intro _); refine yn (op_storeNat (n := p)) (k := ?_); refine y_assign ?_) | (refine sy_region (id := 2) ?_; refine y_move ?_; refine yv (op_callV (f := 24) (hc := fun w' _ hk _ => hOr w' hk)) (k := ?_); refine y_move ?_; refine y_extract ?_; refine y_extract ?_; (refine y_new ?_; intro _); refine yn (op_storeNat (n := q)) (k := ?_); refine y_assign ?_) | fail)
  rename_i b3 b4 b5 b7
  repeat refine sy_seqC ?_
  refine sy_cut2 (γ := Unit) (fun _ => [(3, .pointer (some ⟨b3, 0, none⟩)), (4, .pointer (some ⟨b4, 0, none⟩))]) (fun _ => [.blk b3 3 [.int .i64 many], .blk b4 4 [.bool false]]) (fun _ => True) ?_ ?_
  · rcases hcase with ⟨hz, rfl, rfl, rfl, rfl⟩ | ⟨i, rfl, h0, h5, rfl, rfl, rfl, rfl⟩
    · have hha := fun w' => zhas_fn z w'
      rw [decide_eq_false hz] at hha
      have hz0 := fun w' => isZero_fn 0 w' (by decide)
      have hle := fun w' => glen_bad z w' hz
      repeat' (first | refine sy_seqC ?_ | refine syl_nil ?_ | refine sy_if_t rfl ?_ | refine sy_if_f rfl ?_ | refine sy_skip ?_ | refine syx_then ?_ | refine syx_go ?_ | (refine sy_region (id := 3) ?_; refine y_move ?_; refine yv (op_callV (f := 25) (hc := fun w' _ hk _ => hGe w' hk)) (k := ?_); refine y_move ?_; refine y_extract ?_; refine y_extract ?_; (refine y_new ?_; intro _); refine yn (op_storeNat (n := 0)) (k := ?_); refine y_assign ?_) | (refine sy_region (id := 4) ?_; refine y_move ?_; refine yv (op_callV (hc := fun _ _ _ _ => (hha _))) (k := ?_); refine y_unOp ?_) | (refine sy_region (id := 5) ?_; refine yv (op_loads (B := natC 0)) (k := ?_); refine yv (op_callV (hc := fun _ _ _ _ => (hz0 _))) (k := ?_); refine y_unOp ?_; refine y_move ?_; refine yv (op_loads (B := natC 0)) (k := ?_); refine yv (op_callV (hc := fun _ _ _ _ => (hz0 _))) (k := ?_); refine y_unOp ?_; refine y_pick ?_; refine y_move ?_; refine yv (op_loads (B := natC 0)) (k := ?_); refine yv (op_callV (hc := fun _ _ _ _ => (hz0 _))) (k := ?_); refine y_unOp ?_; refine y_pick ?_; refine y_move ?_; refine y_move ?_; refine y_neq ?_; refine y_pick ?_; refine y_move ?_; refine y_move ?_; refine y_neq ?_; refine y_pick ?_; refine y_move ?_; refine y_move ?_; refine y_neq ?_; refine y_pick ?_; refine y_move ?_; refine y_move ?_; refine yv (op_callV (hc := fun _ _ _ _ => (hle _))) (k := ?_); refine y_neq ?_; refine y_pick ?_) | fail)
      exact syx_cut () trivial (by exact Sub.go) (by exact SubR.go2)
    · have hha := fun w' => zhas_fn (i : Int) w'
      rw [hasI i h0 h5] at hha
      have hW_p := gP_W i h0 h5
      have hW_q := gQ_W i h0 h5
      have hW_4 := fourW i h0 h5
      have qP := fun w' => zprime_fn i w' h0 h5
      have qO := fun w' => zorder_fn i w' h0 h5
      have n4 := fun w' => number3_fn 4 w' (by decide)
      have hle := fun w' (hk : Keep No w w') => glen_fn i w' h0 h5 (hG.to hk)
      have hlz := fun w' => zlen_fn i w' h0 h5
      generalize gP i = p at *
      generalize gQ i = q at *
      generalize gL i = len at *
      have hLL : decide ((len : Int) ≠ (len : Int)) = false := decide_eq_false (fun h => h rfl)
      repeat' (first | refine sy_seqC ?_ | refine syl_nil ?_ | refine sy_if_f rfl ?_ | refine syx_then ?_ | refine syx_go ?_ | (refine sy_region (id := 3) ?_; refine y_move ?_; refine yv (op_callV (f := 25) (hc := fun w' _ hk _ => hGe w' hk)) (k := ?_); refine y_move ?_; refine y_extract ?_; refine y_extract ?_; (refine y_new ?_; intro _); refine yn (op_storeNat (n := 4)) (k := ?_); refine y_assign ?_) | (refine sy_region (id := 4) ?_; refine y_move ?_; refine yv (op_callV (hc := fun _ _ _ _ => (hha _))) (k := ?_); refine y_unOp ?_) | fail)
      refine sy_drawA (id := 7) mixed ?_
      (refine sye_part 30 30 [[], [], [], [2], [0, 1, 2, 3], [0, 1, 2, 3, 4], [0, 1, 2, 3, 4, 5], [0, 1, 2, 3, 4, 5, 6], [0, 1, 2, 3, 4, 5, 6], [0, 1, 2, 3, 4, 5, 6], [0, 1, 2, 3, 4, 5, 6, 9], [0, 1, 2, 3, 4, 5, 6, 7, 8, 9, 10], [0, 1, 2, 3, 4, 5, 6, 7, 8, 9, 10, 11], [0, 1, 2, 3, 4, 5, 6, 7, 8, 9, 10, 11, 12], [0, 1, 2, 3, 4, 5, 6, 7, 8, 9, 10, 11, 12, 13], [0, 1, 2, 3, 4, 5, 6, 7, 8, 9, 10, 11, 12, 13, 14], [0, 1, 2, 3, 4, 5, 6, 7, 8, 9, 10, 11, 12, 13, 14], [0, 1, 2, 3, 4, 5, 6, 7, 8, 9, 10, 11, 12, 13, 14, 15, 16], [0, 1, 2, 3, 4, 5, 6, 7, 8, 9, 10, 11, 12, 13, 14, 15, 16, 17], [0, 1, 2, 3, 4, 5, 6, 7, 8, 9, 10, 11, 12, 13, 14, 15, 16, 17, 18], [0, 1, 2, 3, 4, 5, 6, 7, 8, 9, 10, 11, 12, 13, 14, 15, 16, 17, 18, 19], [0, 1, 2, 3, 4, 5, 6, 7, 8, 9, 10, 11, 12, 13, 14, 15, 16, 17, 18, 19, 20], [0, 1, 2, 3, 4, 5, 6, 7, 8, 9, 10, 11, 12, 13, 14, 15, 16, 17, 18, 19, 20, 21], [0, 1, 2, 3, 4, 5, 6, 7, 8, 9, 10, 11, 12, 13, 14, 15, 16, 17, 18, 19, 20, 21, 22], [0, 1, 2, 3, 4, 5, 6, 7, 8, 9, 10, 11, 12, 13, 14, 15, 16, 17, 18, 19, 20, 21, 22, 23], [0, 1, 2, 3, 4, 5, 6, 7, 8, 9, 10, 11, 12, 13, 14, 15, 16, 17, 18, 19, 20, 21, 22, 23, 24], [0, 1, 2, 3, 4, 5, 6, 7, 8, 9, 10, 11, 12, 13, 14, 15, 16, 17, 18, 19, 20, 21, 22, 23], [0, 1, 2, 3, 4, 5, 6, 7, 8, 9, 10, 11, 12, 13, 14, 15, 16, 17, 18, 19, 20, 21, 22, 23, 24, 25, 26], [0, 1, 2, 3, 4, 5, 6, 7, 8, 9, 10, 11, 12, 13, 14, 15, 16, 17, 18, 19, 20, 21, 22, 23, 24, 25, 26, 27], [0, 1, 2, 3, 4, 5, 6, 7, 8, 9, 10, 11, 12, 13, 14, 15, 16, 17, 18, 19, 20, 21, 22, 23, 24, 25, 26, 27, 28]] [[], [], [], [], [], [], [], [], [], [], [], [], [], [], [], [], [], [], [], [], [], [], [], [], [], [], [], [], [], []] none rfl ?_ ?_ ?_; kernel_rfl; kernel_rfl; refine dcE (fun _ _ => op_loads (B := natC p)) (k := ?_); refine e_move ?_; refine e_move ?_; try refine dh_0nE (h := ?_))
      refine dh_rE (R := fun _ => RefG p) (fun _ _ _ => rfl) (fun ρ hρ => op_call0 (f := 28) (hc := fun w' X hk hh => qP w')) (h := ?_)
      refine dcE (u := .bool true) (fun ρ hρ => ?_) (k := ?_)
      · obtain ⟨⟨b0, d0, p1, p2⟩, -⟩ := hρ
        refine op_callV (f := 17) (vs := [natV p, .int .i64 0, .slice b0 (nd 65536 p) d0, .int .i64 0]) (ha := by show some [_, _, (ρ 3).1, _] = _; rw [p1]; rfl) (hc := fun w' X hk hh => ?_)
        have hh : Holds w.heap.size No (((ρ 3).2 ++ _) ++ X) w' := hh
        rw [p2] at hh
        exact same3_fn p b0 d0 w' hW_p (row_sla hh (by exact Has.append Has.go))
      (skip; refine e_unOp ?_; refine e_move ?_; refine dcE (fun _ _ => op_loads (B := natC q) (hL := by exact Has.appR Has.go)) (k := ?_); refine e_move ?_; refine e_move ?_; try refine dh_0nE (h := ?_))
      refine dh_rE (R := fun _ => RefG q) (fun _ _ _ => rfl) (fun ρ hρ => op_call0 (f := 29) (hc := fun w' X hk hh => qO w')) (h := ?_)
      refine dcE (u := .bool true) (fun ρ hρ => ?_) (k := ?_)
      · obtain ⟨⟨b0, d0, p1, p2⟩, -⟩ := hρ
        refine op_callV (f := 17) (vs := [natV q, .int .i64 0, .slice b0 (nd 65536 q) d0, .int .i64 0]) (ha := by show some [_, _, (ρ 10).1, _] = _; rw [p1]; rfl) (hc := fun w' X hk hh => ?_)
        have hh : Holds w.heap.size No (((ρ 10).2 ++ _) ++ X) w' := hh
        rw [p2] at hh
        exact same3_fn q b0 d0 w' hW_q (row_sla hh (by exact Has.append Has.go))
      (skip; refine e_unOp ?_; refine e_pick ?_; refine e_move ?_; refine dcE (fun _ _ => op_loads (B := natC 4) (hL := by exact Has.appR (Has.appR Has.go))) (k := ?_); refine dcE (fun _ _ => op_callV (hc := fun _ _ _ _ => (n4 _))) (k := ?_); refine dcE (fun _ _ => op_neNat (a := 4) (b := 4) (r := false) natTy hW_4 hW_4 (by simp)) (k := ?_); refine e_pick ?_; refine e_move ?_; refine e_move ?_; refine e_neq ?_; refine e_pick ?_; refine e_move ?_; refine e_move ?_; refine dcE (fun _ _ => op_callV (f := 27) (hc := fun w' _ hk _ => hle w' hk)) (k := ?_); refine e_move ?_; refine dcE (fun _ _ => op_callV (hc := fun _ _ _ _ => (hlz _))) (k := ?_); refine dcE (fun _ _ => op_neq (hr := hLL)) (k := ?_); refine e_pick ?_; try refine dh_0nE (h := ?_))
      refine dh_0E (h := ?_)
      rintro ρ ⟨⟨a1, c1, e1, e2⟩, ⟨a2, c2, e3, e4⟩, -⟩
      (refine sya_list [[], [], [], [2], [0, 1, 2, 3], [0, 1, 2, 3, 4], [0, 1, 2, 3, 4, 5], [0, 1, 2, 3, 4, 5, 6], [0, 1, 2, 3, 4, 5, 6], [0, 1, 2, 3, 4, 5, 6], [0, 1, 2, 3, 4, 5, 6, 9], [0, 1, 2, 3, 4, 5, 6, 7, 8, 9, 10], [0, 1, 2, 3, 4, 5, 6, 7, 8, 9, 10, 11], [0, 1, 2, 3, 4, 5, 6, 7, 8, 9, 10, 11, 12], [0, 1, 2, 3, 4, 5, 6, 7, 8, 9, 10, 11, 12, 13], [0, 1, 2, 3, 4, 5, 6, 7, 8, 9, 10, 11, 12, 13, 14], [0, 1, 2, 3, 4, 5, 6, 7, 8, 9, 10, 11, 12, 13, 14], [0, 1, 2, 3, 4, 5, 6, 7, 8, 9, 10, 11, 12, 13, 14, 15, 16], [0, 1, 2, 3, 4, 5, 6, 7, 8, 9, 10, 11, 12, 13, 14, 15, 16, 17], [0, 1, 2, 3, 4, 5, 6, 7, 8, 9, 10, 11, 12, 13, 14, 15, 16, 17, 18], [0, 1, 2, 3, 4, 5, 6, 7, 8, 9, 10, 11, 12, 13, 14, 15, 16, 17, 18, 19], [0, 1, 2, 3, 4, 5, 6, 7, 8, 9, 10, 11, 12, 13, 14, 15, 16, 17, 18, 19, 20], [0, 1, 2, 3, 4, 5, 6, 7, 8, 9, 10, 11, 12, 13, 14, 15, 16, 17, 18, 19, 20, 21], [0, 1, 2, 3, 4, 5, 6, 7, 8, 9, 10, 11, 12, 13, 14, 15, 16, 17, 18, 19, 20, 21, 22], [0, 1, 2, 3, 4, 5, 6, 7, 8, 9, 10, 11, 12, 13, 14, 15, 16, 17, 18, 19, 20, 21, 22, 23], [0, 1, 2, 3, 4, 5, 6, 7, 8, 9, 10, 11, 12, 13, 14, 15, 16, 17, 18, 19, 20, 21, 22, 23, 24], [0, 1, 2, 3, 4, 5, 6, 7, 8, 9, 10, 11, 12, 13, 14, 15, 16, 17, 18, 19, 20, 21, 22, 23], [0, 1, 2, 3, 4, 5, 6, 7, 8, 9, 10, 11, 12, 13, 14, 15, 16, 17, 18, 19, 20, 21, 22, 23, 24, 25, 26], [0, 1, 2, 3, 4, 5, 6, 7, 8, 9, 10, 11, 12, 13, 14, 15, 16, 17, 18, 19, 20, 21, 22, 23, 24, 25, 26, 27], [0, 1, 2, 3, 4, 5, 6, 7, 8, 9, 10, 11, 12, 13, 14, 15, 16, 17, 18, 19, 20, 21, 22, 23, 24, 25, 26, 27, 28]] ?_ ?_; kernel_rfl)
      refine SyL.weaken (fr' := [(93, .bool false), (3, .pointer (some ⟨b3, 0, none⟩)), (4, .pointer (some ⟨b4, 0, none⟩))]) (L' := [.blk b3 3 [.int .i64 many], .blk b4 4 [.bool false]]) ?_ (by exact Sub.go) ?_
      rotate_left
      · show SubR _ ((ρ 10).2 ++ ((ρ 3).2 ++ _))
        rw [e2, e4]
        exact SubR.go2
      repeat' (first | refine syl_nil ?_ | refine sy_if_f rfl ?_ | refine sy_skip ?_ | refine syx_then ?_ | refine syx_go ?_ | fail)
      exact syx_cut () trivial (by exact Sub.go) (by exact SubR.go2)
  rintro - -
  clear hcase hPr hOr hGe ep eq' eg
  repeat' (first | refine sy_seqC ?_ | refine syl_nil ?_ | refine sy_if_f rfl ?_ | refine sy_block ?_ | refine sy_skip ?_ | refine syx_then ?_ | refine syx_go ?_ | (refine sy_region (id := 9) ?_; refine yv (op_callV (hc := fun _ _ _ _ => (geach_fn _))) (k := ?_); refine y_assign ?_) | (refine sy_region (id := 10) ?_; refine y_move ?_; refine y_eql ?_) | (refine sy_region (id := 12) ?_; (refine y_new ?_; intro _); refine y_store ?_) | fail)
  rename_i b12
  refine sy_loop (γ := Nat × Nat) (fun g => [(3, .pointer (some ⟨b3, 0, none⟩)), (4, .pointer (some ⟨b4, 0, none⟩)), (11, .func (.func 51) #[] #[]), (12, .pointer (some ⟨g.2, 0, none⟩))])
    (fun g => [.blk g.2 3 [.int .i64 ((g.1 : Nat) : Int)], .blk b3 3 [.int .i64 many], .blk b4 4 [.bool false]]) (fun g => g.1 ≤ 2) (fun g => 2 - g.1) (0, b12) (Nat.zero_le _) ?_ ?_ ?_
  · exact Sub.go
  · try dsimp only
    exact SubR.go2
  rintro ⟨t, b12⟩ ht
  dsimp only at ht ⊢
  rcases Nat.lt_or_ge t 2 with ht2 | ht2
  · have hlt : decide ((t : Int) < 2) = true := decide_eq_true (by omega)
    have hadd : IntKind.i64.wrap ((t : Int) + 1) = ((t + 1 : Nat) : Int) := by rw [IntWalk.i64_in _ (by omega)]; omega
    repeat' (first | refine sy_seqC ?_ | refine syl_nil ?_ | refine sy_if_t rfl ?_ | refine sy_block ?_ | refine sy_skip ?_ | refine syx_then ?_ | refine syx_go ?_ | (refine sy_region (id := 13) ?_; refine y_load ?_; refine yv (op_lss (hr := hlt)) (k := ?_)) | fail)
    repeat' (first | refine sy_seqC ?_ | refine syl_nil ?_ | refine sy_block ?_ | refine syx_then ?_ | refine syx_go ?_ | (refine sy_region (id := 15) ?_; (refine y_new ?_; intro _); refine y_store ?_) | (refine sy_region (id := 16) ?_; refine y_move ?_) | fail)
    rename_i b13
    refine sy_range (γ := Nat) (xs := [1, 2, 3, 4]) (Arg := ArgE) entered_outer rfl (en rfl) rfl (fun k s => s = k) (fun c _ _ => c = .exit 2 ∧ t = 0)
      (fun s => [.blk b13 3 [.int .i64 ((s : Nat) : Int)], .blk b12 3 [.int .i64 (t : Int)], .blk b3 3 [.int .i64 many], .blk b4 4 [.bool false]]) [] [] 0 rfl ?_ ?_ ?_ ?_ ?_ ?_
    · try dsimp only
      ((try simp only [List.cons_append, List.nil_append, List.append_nil]); (repeat' (first | exact List.Perm.nil | exact List.Perm.refl _ | (apply permr; with_reducible (focus ((repeat (first | exact Rem.here | apply Rem.there)); done))) | (apply permr; (focus ((repeat (first | exact Rem.here | apply Rem.there)); done))))))
    · intro w' Mi X hk hm _ _
      refine geach1_it w' Mi (hG.to hk) (fun h => ?_)
      rcases hm _ h with h1 | h1
      · have := range_lt hG (by unfold gCells; simp)
        omega
      · exact h1.elim
    · rintro O x vs RA w' ⟨rfl, _⟩; rfl
    · rintro lp k hk s vs RA W rec hrec rfl ⟨rfl, rfl⟩ hkW hmine
      clear hmine
      dsimp only at hk ⊢
      have hx := fourX s hk
      have hk4 : s < 4 := hk
      rw [hx]
      have u1 : IntKind.i64.wrap ((s : Int) + 1) = ((s + 1 : Nat) : Int) := by rw [IntWalk.i64_in _ (by omega)]; omega
      have u2 : decide (((s + 1 : Nat) : Int) ≠ ((s + 1 : Nat) : Int)) = false := decide_eq_false (fun h => h rfl)
      have u3 : decide ((4 : Int) < ((s + 1 : Nat) : Int)) = false := decide_eq_false (by omega)
      have hW_p := gP_W (s + 1) (by omega) (by omega)
      have qP := fun w' => zprime_fn (s + 1) w' (by omega) (by omega)
      generalize gP (s + 1) = p at *
      have ep := natC_len p
      clear hx
      repeat' (first | refine sy_seqC ?_ | refine syl_nil ?_ | refine sy_block ?_ | refine syx_then ?_ | refine syx_go ?_ | (apply syx_begin; (focus ((repeat (first | exact Rem.here | apply Rem.there)); done)); assumption) | (refine sy_region (id := 17) ?_; refine y_assign ?_) | (refine sy_region (id := 18) ?_; (refine y_new ?_; intro _); refine yn (op_storeNat (n := p)) (k := ?_)) | (refine sy_region (id := 19) ?_; refine y_load ?_; refine yv (op_add (hr := u1)) (k := ?_); refine y_store ?_) | fail)
      refine sy_drawA (id := 20) mixed ?_
      (refine sye_part 14 14 [[], [], [0, 1], [0, 1, 2], [0, 1, 2, 3], [0, 1, 2, 3, 4], [0, 1, 2, 3, 4, 5], [0, 1, 2, 3, 4, 5, 6], [0, 1, 2, 3, 4, 5, 6, 7], [0, 1, 2, 3, 4, 5, 6, 7], [0, 1, 2, 3, 4, 5, 6, 7, 9], [0, 1, 2, 3, 4, 5, 6, 7, 8, 9, 10], [0, 1, 2, 3, 4, 5, 6, 7, 8, 9, 10, 11], [0, 1, 2, 3, 4, 5, 6, 7, 8, 9, 10, 11, 12]] [[], [], [], [], [], [], [], [], [], [], [], [], [], []] none rfl ?_ ?_ ?_; kernel_rfl; kernel_rfl; refine e_move ?_; refine e_load ?_; refine dcE (fun _ _ => op_neq (hr := u2)) (k := ?_); refine e_move ?_; refine e_load ?_; refine dcE (fun _ _ => op_gtr (hr := u3)) (k := ?_); refine e_pick ?_; refine e_move ?_; refine dcE (fun _ _ => op_loads (B := natC p)) (k := ?_); refine e_load ?_; try refine dh_0nE (h := ?_))
      refine dh_rE (R := fun _ => RefG p) (fun _ _ _ => rfl) (fun ρ hρ => op_call0 (f := 28) (hc := fun w' X hk hh => qP w')) (h := ?_)
      refine dcE (u := .bool true) (fun ρ hρ => ?_) (k := ?_)
      · obtain ⟨⟨b0, d0, p1, p2⟩, -⟩ := hρ
        refine op_callV (f := 17) (vs := [natV p, .int .i64 0, .slice b0 (nd 65536 p) d0, .int .i64 0]) (ha := by show some [_, _, (ρ 10).1, _] = _; rw [p1]; rfl) (hc := fun w' X hk hh => ?_)
        have hh : Holds _ _ (((ρ 10).2 ++ _) ++ X) w' := hh
        rw [p2] at hh
        exact same3_fn p b0 d0 w' hW_p (row_sla hh (by exact Has.append Has.go))
      (skip; refine e_unOp ?_; refine e_pick ?_; try refine dh_0nE (h := ?_))
      refine dh_0E (h := ?_)
      rintro ρ ⟨⟨a1, c1, e1, e2⟩, -⟩
      (refine sya_list [[], [], [0, 1], [0, 1, 2], [0, 1, 2, 3], [0, 1, 2, 3, 4], [0, 1, 2, 3, 4, 5], [0, 1, 2, 3, 4, 5, 6], [0, 1, 2, 3, 4, 5, 6, 7], [0, 1, 2, 3, 4, 5, 6, 7], [0, 1, 2, 3, 4, 5, 6, 7, 9], [0, 1, 2, 3, 4, 5, 6, 7, 8, 9, 10], [0, 1, 2, 3, 4, 5, 6, 7, 8, 9, 10, 11], [0, 1, 2, 3, 4, 5, 6, 7, 8, 9, 10, 11, 12]] ?_ ?_; kernel_rfl)
      refine SyL.weaken (fr' := [(119, .bool false), (3, .pointer (some ⟨b3, 0, none⟩)), (4, .pointer (some ⟨b4, 0, none⟩)), (11, .func (.func 51) #[] #[]), (12, .pointer (some ⟨b12, 0, none⟩)), (13, .pointer (some ⟨b13, 0, none⟩))]) (L' := [.obj lp (.loop (busy rec)), .blk b13 3 [.int .i64 ((s + 1 : Nat) : Int)], .blk b12 3 [.int .i64 (t : Int)], .blk b3 3 [.int .i64 many], .blk b4 4 [.bool false]]) ?_ (by exact Sub.go) ?_
      rotate_left
      · show SubR _ ((ρ 10).2 ++ _)
        rw [e2]
        exact SubR.go2
      by_cases ht0 : t = 0
      · have u5 : decide ((t : Int) = 0) = true := decide_eq_true (by omega)
        by_cases hmany : many ≤ ((s + 1 : Nat) : Int)
        · have u6 : decide (((s + 1 : Nat) : Int) ≥ many) = true := decide_eq_true hmany
          repeat' (first | refine sy_seqC ?_ | refine syl_nil ?_ | refine sy_if_t rfl ?_ | refine sy_if_f rfl ?_ | refine sy_skip ?_ | refine sy_exit ?_ | refine syx_then ?_ | refine syx_go ?_ | refine syx_in_past rfl ?_ | (refine sy_region (id := 22) ?_; refine y_load ?_; refine yv (op_eql (hr := u5)) (k := ?_); refine y_move ?_; refine y_load ?_; refine y_load ?_; refine yv (op_geq (hr := u6)) (k := ?_); refine y_pick ?_) | fail)
          refine syx_rnd_exit (s + 1) ⟨rfl, ht0⟩ ?_
          try dsimp only
          exact SubR.go2
        · have u6 : decide (((s + 1 : Nat) : Int) ≥ many) = false := decide_eq_false hmany
          repeat' (first | refine sy_seqC ?_ | refine syl_nil ?_ | refine sy_if_f rfl ?_ | refine sy_skip ?_ | refine syx_then ?_ | refine syx_go ?_ | refine syx_in ?_ | (refine sy_region (id := 22) ?_; refine y_load ?_; refine yv (op_eql (hr := u5)) (k := ?_); refine y_move ?_; refine y_load ?_; refine y_load ?_; refine yv (op_geq (hr := u6)) (k := ?_); refine y_pick ?_) | fail)
          refine syx_rnd (s + 1) rfl ?_
          try dsimp only
          exact SubR.go2
      · have u5 : decide ((t : Int) = 0) = false := decide_eq_false (by omega)
        repeat' (first | refine sy_seqC ?_ | refine syl_nil ?_ | refine sy_if_f rfl ?_ | refine sy_skip ?_ | refine syx_then ?_ | refine syx_go ?_ | refine syx_in ?_ | (refine sy_region (id := 22) ?_; refine y_load ?_; refine yv (op_eql (hr := u5)) (k := ?_); refine y_move ?_; refine syl_skip rfl rfl rfl ?_; refine syl_skip rfl rfl rfl ?_; refine syl_skip rfl rfl rfl ?_; refine y_pick ?_) | fail)
        refine syx_rnd (s + 1) rfl ?_
        try dsimp only
        exact SubR.go2
    · rintro s rfl
      try dsimp only
      rcases (show t = 0 ∨ t = 1 by omega) with rfl | rfl
      · repeat' (first | refine sy_seqC ?_ | refine syl_nil ?_ | refine sy_if_f rfl ?_ | refine sy_skip ?_ | refine syx_then ?_ | refine syx_go ?_ | (refine sy_region (id := 23) ?_; refine y_load ?_; refine y_eql ?_; refine y_move ?_; refine syl_skip rfl rfl rfl ?_; refine syl_skip rfl rfl rfl ?_; refine y_pick ?_) | (refine sy_region (id := 25) ?_; refine y_load ?_) | (refine sy_region (id := 26) ?_; (refine y_new ?_; intro _); refine y_store ?_) | (refine sy_region (id := 14) ?_; refine y_load ?_; refine yv (op_add (hr := hadd)) (k := ?_); refine y_store ?_) | fail)
        rename_i bn
        refine syx_back (1, bn) ?_ ?_ ?_ ?_
        · show 1 ≤ 2; omega
        · show 2 - 1 < 2 - 0; omega
        · exact Sub.go
        · try dsimp only
          exact SubR.go2
      · repeat' (first | refine sy_seqC ?_ | refine syl_nil ?_ | refine sy_if_f rfl ?_ | refine sy_skip ?_ | refine syx_then ?_ | refine syx_go ?_ | (refine sy_region (id := 23) ?_; refine y_load ?_; refine y_eql ?_; refine y_move ?_; refine y_load ?_; refine y_neq ?_; refine y_pick ?_) | (refine sy_region (id := 25) ?_; refine y_load ?_) | (refine sy_region (id := 26) ?_; (refine y_new ?_; intro _); refine y_store ?_) | (refine sy_region (id := 14) ?_; refine y_load ?_; refine yv (op_add (hr := hadd)) (k := ?_); refine y_store ?_) | fail)
        rename_i bn
        refine syx_back (2, bn) ?_ ?_ ?_ ?_
        · show 2 ≤ 2; omega
        · show 2 - 2 < 2 - 1; omega
        · exact Sub.go
        · try dsimp only
          exact SubR.go2
    · rintro _ k s hk ⟨rfl, rfl⟩
      try dsimp only
      repeat' (first | refine sy_seqC ?_ | refine syl_nil ?_ | refine sy_if_f rfl ?_ | refine sy_skip ?_ | refine sy_exit ?_ | refine syx_then ?_ | refine syx_go ?_ | (refine sy_region (id := 23) ?_; refine y_load ?_; refine y_eql ?_; refine y_move ?_; refine syl_skip rfl rfl rfl ?_; refine syl_skip rfl rfl rfl ?_; refine y_pick ?_) | (refine sy_region (id := 25) ?_; refine y_load ?_) | (refine sy_region (id := 26) ?_; (refine y_new ?_; intro _); refine y_store ?_) | (refine sy_region (id := 14) ?_; refine y_load ?_; refine yv (op_add (hr := hadd)) (k := ?_); refine y_store ?_) | fail)
      rename_i bn
      refine syx_back (1, bn) ?_ ?_ ?_ ?_
      · show 1 ≤ 2; omega
      · show 2 - 1 < 2 - 0; omega
      · exact Sub.go
      · try dsimp only
        exact SubR.go2
  · obtain rfl : t = 2 := by omega
    have hlt : decide (((2 : Nat) : Int) < 2) = false := rfl
    repeat' (first | refine sy_seqC ?_ | refine syl_nil ?_ | refine sy_if_f rfl ?_ | refine sy_ret ?_ | refine sy_exit ?_ | refine syx_then ?_ | refine syx_go ?_ | (refine sy_region (id := 13) ?_; refine y_load ?_; refine yv (op_lss (hr := hlt)) (k := ?_)) | (refine sy_region (id := 27) ?_; refine yv (op_callV (f := 6) (hc := fun w' _ hk _ => known3_fn w' (hG.to hk))) (k := ?_); refine y_store ?_) | fail)
    exact ret1 rfl (resCell rfl (ty rfl) rfl Has.go rfl) SubR.nil ⟨rfl, rfl⟩
end Go.Proofs.YtjidkoabdmjgkaaDoor
