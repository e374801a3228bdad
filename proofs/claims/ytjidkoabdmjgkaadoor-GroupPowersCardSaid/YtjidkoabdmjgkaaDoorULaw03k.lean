/- The chapter's examples of layer group. -/
import Derived.Test.YtjidkoabdmjgkaaDoorULaw03
set_option linter.all false
namespace Go.Nt
open Go Go.Sy
theorem gQ_1 : gQ 1 = 1439 := rfl
theorem gL_1 : gL 1 = 2 := rfl
theorem gL_4 : gL 4 = 96 := rfl
theorem mem1_1 : memB (gP 1) (gQ 1) 1 = true := by decide +kernel
theorem mem1_4 : memB (gP 1) (gQ 1) 4 = true := by decide +kernel
theorem mem1_2878 : memB (gP 1) (gQ 1) 2878 = false := by decide +kernel
theorem mem1_0 : memB (gP 1) (gQ 1) 0 = false := by decide +kernel
theorem fix1_4 : fixB 2 4 = [0, 4] := by
  have n1 : nd 256 4 = 1 := nd_uniq 256 4 1 (by decide) (by decide) (fun _ => by decide)
  unfold fixB byt be cd
  rw [n1]; rfl
theorem bev1 : bev 256 (bn [0, 1]) = 1 := rfl
theorem pow_ex (k : Nat) (hk : k < 3) : ∃ e r : Nat, [0, 1, 6][k]? = some e ∧ [1, 4, 1217][k]? = some r ∧ 4 ^ e % gP 1 = r ∧ e < gQ 1 ∧ e < 10 ∧ r < 2000 := by
  rcases (show k = 0 ∨ k = 1 ∨ k = 2 by omega) with rfl | rfl | rfl
  · exact ⟨0, 1, rfl, rfl, by decide +kernel, by decide +kernel, by decide, by decide⟩
  · exact ⟨1, 4, rfl, rfl, by decide +kernel, by decide +kernel, by decide, by decide⟩
  · exact ⟨6, 1217, rfl, rfl, by decide +kernel, by decide +kernel, by decide, by decide⟩
end Go.Nt
namespace Go.Proofs.YtjidkoabdmjgkaaDoor
open Go Go.Sy Go.Nt Go.RowKit
attribute [local irreducible] Sy SyL SyX Sy.Fn callFunc natC rowN refC iC gP gQ gL memB safeC
set_option maxRecDepth 10000
set_option maxHeartbeats 4000000 in
theorem known3_fn (w : World) (hG : GT w) : Sy.Fn Tryd.prog 6 [] w No (Gives (.bool true)) := by
  refine fn_enter Tryd.func6 rfl Tryd.ntmps6 (by simp) Holds.nil ?_
  have hW : ∀ n, n < 18446744073709551616 → n < 18446744073709551616 ^ 16 := fun n h => Nat.lt_of_lt_of_le h (Nat.le_self_pow (by decide) _)
  repeat' (first | refine sy_seqC ?_ | refine syl_nil ?_ | refine sy_block ?_ | refine syx_then ?_ | refine syx_go ?_ | (refine sy_region (id := 0) ?_; refine y_assign ?_) | (refine sy_region (id := 1) ?_; (refine ys op_buildSlice (k := ?_); rintro _ _ ⟨_, rfl, rfl⟩); refine y_len ?_; refine y_move ?_) | fail)
  rename_i b13
  refine sy_loop (γ := Nat) (fun k => [(13, .slice (some ⟨b13, 0, none⟩) 3 3), (14, .int .i64 3), (15, .int .i64 (k : Int))]) (fun _ => [.blk b13 3 [.int .i64 0, .int .i64 1, .int .i64 6]]) (fun k => k ≤ 3) (fun k => 3 - k) 0 (Nat.zero_le _) ?_ ?_ ?_
  · exact Sub.go
  · exact SubR.go
  intro k hk
  rcases Nat.lt_or_ge k 3 with h | h
  · obtain ⟨e, r, he, hr, hpow, heq, he10, hr2⟩ := pow_ex k h
    have hlt : decide ((k : Int) < 3) = true := decide_eq_true (by omega)
    have hadd : IntKind.i64.wrap ((k : Int) + 1) = ((k + 1 : Nat) : Int) := by rw [IntWalk.i64_in _ (by omega)]; omega
    have c1 : [Value.int IntKind.i64 0, .int .i64 1, .int .i64 6][k]? = some (.int .i64 (e : Int)) := by
      have : [Value.int IntKind.i64 0, .int .i64 1, .int .i64 6] = [0, 1, 6].map (fun n : Nat => Value.int IntKind.i64 (n : Int)) := rfl
      rw [this, List.getElem?_map, he]; rfl
    have c2 : [Value.int IntKind.i64 1, .int .i64 4, .int .i64 1217][k]? = some (.int .i64 (r : Int)) := by
      have : [Value.int IntKind.i64 1, .int .i64 4, .int .i64 1217] = [1, 4, 1217].map (fun n : Nat => Value.int IntKind.i64 (n : Int)) := rfl
      rw [this, List.getElem?_map, hr]; rfl
    have f1 := fun w' => number3_fn e w' (by omega)
    have f2 := fun w' (hk : Keep No w w') => gpower_fn 1 e w' (by decide) (by decide) (hG.to hk) (hW _ (by omega)) heq
    rw [hpow] at f2
    have f3 := fun w' => number3_fn r w' (by omega)
    have lr := natC_len r
    have hrW := hW r (by omega)
    repeat' (first | refine sy_seqC ?_ | refine syl_nil ?_ | refine sy_if_t rfl ?_ | refine sy_block ?_ | refine sy_skip ?_ | refine syx_then ?_ | refine syx_go ?_ | (refine sy_region (id := 2) ?_; refine yv (op_lss (hr := hlt)) (k := ?_)) | (refine sy_region (id := 3) ?_; refine y_move ?_; refine yv (op_indexAddr10 (j := k)) (k := ?_); refine yv (op_load (hv := c1)) (k := ?_); refine y_assign ?_; refine y_assign ?_) | (refine sy_region (id := 4) ?_; refine y_move ?_; refine yv (op_callV (hc := fun _ _ _ _ => (f1 _))) (k := ?_); refine yv (op_callV (f := 18) (hc := fun w' _ hk _ => f2 w' hk)) (k := ?_); refine y_move ?_; refine y_extract ?_; refine y_extract ?_; (refine y_new ?_; intro _); refine yn (op_storeNat (n := r)) (k := ?_); refine y_assign ?_) | fail)
    rename_i b3
    refine sy_drawA (id := 5) mixed ?_
    (refine sye_part 10 10 [[], [0], [0, 1], [0, 1, 2], [0, 1, 2], [0, 1, 2], [0, 1, 2, 4, 5], [0, 1, 2, 4, 5, 6], [0, 1, 2, 4, 5, 6, 7], [0, 1, 2, 3, 4, 5, 6, 7, 8], [0, 1, 2, 3, 4, 5, 6, 7, 8, 9]] [[], [], [], [], [], [], [], [], [], [], []] none rfl ?_ ?_ ?_; kernel_rfl; kernel_rfl; refine e_move ?_; refine e_neq ?_; refine e_move ?_; refine dcE (fun _ _ => op_loads (B := natC r)) (k := ?_); try refine dh_0nE (h := ?_))
    refine dh_rE (R := fun _ => SlOf 3 3 [Value.int IntKind.i64 1, .int .i64 4, .int .i64 1217]) (fun _ _ _ => rfl) (fun ρ hρ => OpT.mono (op_buildSlice (vs := [.int .i64 1, .int .i64 4, .int .i64 1217])) fun v L' h => ?_) (h := ?_)
    · obtain ⟨b, rfl, rfl⟩ := h
      exact ⟨[_], rfl, b, rfl, rfl⟩
    (skip; refine e_move ?_; try refine dh_0nE (h := ?_))
    refine dh_vE (u := fun ρ => match (ρ 4).1 with | .slice (some a) _ _ => .pointer (some ⟨a.block, a.off + k, none⟩) | v => v) (fun ρ hρ => ?_) (fun _ => rfl) rfl (fun ρ ρ' h => by rw [h 4 (by decide)]) (h := ?_)
    · obtain ⟨⟨bx, e1, e2⟩, -⟩ := hρ
      refine OpT.mono (op_indexAddr1 (b := bx) (off := 0) (n := 3) (c := 3) (j := k) (hx := by show some (ρ 4).1 = _; rw [e1])) fun v L' h => ?_
      obtain ⟨rfl, rfl⟩ := h
      exact ⟨by rw [e1], rfl⟩
    refine dcE (u := .int .i64 (r : Int)) (fun ρ hρ => ?_) (k := ?_)
    · obtain ⟨⟨bx, e1, e2⟩, -⟩ := hρ
      exact op_load (b := bx) (off := 0 + k) (T := 3) (C := [Value.int IntKind.i64 1, .int .i64 4, .int .i64 1217]) (hx := by show some (match (ρ 4).1 with | .slice (some a) _ _ => Value.pointer (some ⟨a.block, a.off + k, none⟩) | v => v) = _; rw [e1]) (hL := by show Has ((ρ 4).2 ++ _) _; rw [e2]; exact Has.here) (hv := by rw [Nat.zero_add]; exact c2)
    (skip; refine dcE (fun _ _ => op_callV (hc := fun _ _ _ _ => (f3 _))) (k := ?_); refine dcE (fun _ _ => op_neNat (a := r) (b := r) (r := false) natTy hrW hrW (by simp)) (k := ?_); try refine dh_0nE (h := ?_))
    refine dh_0E (h := ?_)
    rintro ρ ⟨⟨bx, e1, e2⟩, -⟩
    (refine sya_list [[], [0], [0, 1], [0, 1, 2], [0, 1, 2], [0, 1, 2], [0, 1, 2, 4, 5], [0, 1, 2, 4, 5, 6], [0, 1, 2, 4, 5, 6, 7], [0, 1, 2, 3, 4, 5, 6, 7, 8], [0, 1, 2, 3, 4, 5, 6, 7, 8, 9]] ?_ ?_; kernel_rfl)
    refine SyL.weaken (fr' := [(28, .bool false), (35, .bool false), (13, .slice (some ⟨b13, 0, none⟩) 3 3), (14, .int .i64 3), (15, .int .i64 (k : Int))]) (L' := [.blk b13 3 [.int .i64 0, .int .i64 1, .int .i64 6]]) ?_ (by exact Sub.go) ?_
    rotate_left
    · show SubR _ ((ρ 4).2 ++ _)
      rw [e2]
      exact SubR.go2
    repeat' (first | refine syl_nil ?_ | refine sy_if_f rfl ?_ | refine sy_skip ?_ | refine syx_then ?_ | refine syx_go ?_ | (refine sy_region (id := 7) ?_; refine yv (op_add (hr := hadd)) (k := ?_); refine y_move ?_) | (refine syl_id ?_; first | refine y_pick ?_ | fail) | fail)
    refine syx_back (k + 1) ?_ ?_ ?_ ?_
    · show k + 1 ≤ 3; omega
    · show 3 - (k + 1) < 3 - k; omega
    · exact Sub.go
    · exact SubR.go2
  · obtain rfl : k = 3 := by omega
    have hlt : decide (((3 : Nat) : Int) < 3) = false := rfl
    have l0 := natC_len 0
    have l1 := natC_len 1
    have n0 := fun w' => number3_fn 0 w' (by decide)
    have n1 := fun w' => number3_fn 1 w' (by decide)
    have n4 := fun w' => number3_fn 4 w' (by decide)
    have n39 := fun w' => number3_fn 1439 w' (by decide)
    have n78 := fun w' => number3_fn 2878 w' (by decide)
    have p1 := fun w' (hk : Keep No w w') => gpower_no 1 1439 w' (by decide) (by decide) (hG.to hk) (hW _ (by decide)) (by rw [gQ_1]; decide)
    have m1 := fun w' (hk : Keep No w w') => gmember_fn 1 1 w' (by decide) (by decide) (hG.to hk) (hW _ (by decide))
    have m4 := fun w' (hk : Keep No w w') => gmember_fn 1 4 w' (by decide) (by decide) (hG.to hk) (hW _ (by decide))
    have m78 := fun w' (hk : Keep No w w') => gmember_fn 1 2878 w' (by decide) (by decide) (hG.to hk) (hW _ (by decide))
    have m0 := fun w' (hk : Keep No w w') => gmember_fn 1 0 w' (by decide) (by decide) (hG.to hk) (hW _ (by decide))
    rw [mem1_1] at m1
    rw [mem1_4] at m4
    rw [mem1_2878] at m78
    rw [mem1_0] at m0
    have m9 := fun w' => gmember_bad 9 1 w' (by decide)
    have by4 := fun w' (hk : Keep No w w') => gbytes_fn 1 4 w' (by decide) (by decide) (hG.to hk) (hW _ (by decide)) mem1_4
    unfold FixG at by4
    rw [gL_1, fix1_4] at by4
    have el1 := fun w' b (hk : Keep No w w') (h : SlA w' (some ⟨b, 0, none⟩) (([0, 1] : List UInt8).map v8)) => gelement_fn 1 (some ⟨b, 0, none⟩) 2 2 [0, 1] w' (by decide) (by decide) (hG.to hk) gL_1.symm rfl (Nat.le_refl _) h mem1_1
    rw [bev1] at el1
    have el2 := fun w' b (hk : Keep No w w') => gelement_short 1 (some ⟨b, 0, none⟩) 1 1 w' (by decide) (by decide) (hG.to hk) (by rw [gL_1]; decide)
    have len1 := fun w' (hk : Keep No w w') => glen_fn 1 w' (by decide) (by decide) (hG.to hk)
    have len4 := fun w' (hk : Keep No w w') => glen_fn 4 w' (by decide) (by decide) (hG.to hk)
    rw [gL_1] at len1
    rw [gL_4] at len4
    repeat' (first | refine sy_seqC ?_ | refine syl_nil ?_ | refine sy_if_f rfl ?_ | refine sy_skip ?_ | refine sy_exit ?_ | refine syx_then ?_ | refine syx_go ?_ | (refine sy_region (id := 2) ?_; refine yv (op_lss (hr := hlt)) (k := ?_)) | (refine sy_region (id := 8) ?_; refine yv (op_callV (hc := fun _ _ _ _ => (n39 _))) (k := ?_); refine yv (op_callV (f := 18) (hc := fun w' _ hk _ => p1 w' hk)) (k := ?_); refine y_move ?_; refine y_extract ?_; refine y_extract ?_; (refine y_new ?_; intro _); refine yn (op_storeNat (n := 0)) (k := ?_); refine y_assign ?_) | (refine sy_region (id := 9) ?_; refine y_move ?_; refine y_neq ?_; refine y_move ?_; refine yv (op_callV (hc := fun _ _ _ _ => (n1 _))) (k := ?_); refine yv (op_callV (f := 11) (hc := fun w' _ hk _ => m1 w' hk)) (k := ?_); refine y_unOp ?_; refine y_pick ?_; refine y_move ?_; refine yv (op_callV (hc := fun _ _ _ _ => (n4 _))) (k := ?_); refine yv (op_callV (f := 11) (hc := fun w' _ hk _ => m4 w' hk)) (k := ?_); refine y_unOp ?_; refine y_pick ?_; refine y_move ?_; refine yv (op_callV (hc := fun _ _ _ _ => (n78 _))) (k := ?_); refine yv (op_callV (f := 11) (hc := fun w' _ hk _ => m78 w' hk)) (k := ?_); refine y_pick ?_; refine y_move ?_; refine yv (op_callV (hc := fun _ _ _ _ => (n0 _))) (k := ?_); refine yv (op_callV (f := 11) (hc := fun w' _ hk _ => m0 w' hk)) (k := ?_); refine y_pick ?_; refine y_move ?_; refine yv (op_callV (hc := fun _ _ _ _ => (n1 _))) (k := ?_); refine yv (op_callV (f := 11) (hc := fun w' _ hk _ => m9 w')) (k := ?_); refine y_pick ?_) | fail)
    refine Sy.weaken (fr' := []) (L' := []) ?_ Sub.nil SubR.nil
    repeat' (first | refine sy_seqC ?_ | refine syl_nil ?_ | refine sy_ret ?_ | refine syx_then ?_ | refine syx_go ?_ | (refine sy_region (id := 11) ?_; refine yv (op_callV (hc := fun _ _ _ _ => (n4 _))) (k := ?_); (refine ys (op_call0 (f := 10) (hc := fun w' X hk hh => by4 w' hk)) (k := ?_); rintro _ _ ⟨R, rfl, aB, cB, rfl, rfl⟩); refine y_move ?_; refine y_extract ?_; refine y_extract ?_; refine y_assign ?_; refine y_assign ?_) | (refine sy_region (id := 12) ?_; (refine ys op_buildSlice (k := ?_); rintro _ _ ⟨_, rfl, rfl⟩); refine yv (op_callV (f := 14) (hc := fun w' X hk hh => el1 w' _ hk (.inr ⟨_, 0, rfl, blk_range (hh.has (by exact Has.append Has.here)) Seg.all⟩))) (k := ?_); refine y_move ?_; refine y_extract ?_; refine y_extract ?_; (refine y_new ?_; intro _); refine yn (op_storeNat (n := 1)) (k := ?_); refine y_assign ?_) | (refine sy_region (id := 13) ?_; (refine ys op_buildSlice (k := ?_); rintro _ _ ⟨_, rfl, rfl⟩); refine yv (op_callV (f := 14) (hc := fun w' X hk hh => el2 w' _ hk)) (k := ?_); refine y_move ?_; refine y_extract ?_; refine y_extract ?_; (refine y_new ?_; intro _); refine yn (op_storeNat (n := 0)) (k := ?_); refine y_assign ?_) | (refine sy_draw (id := 14) 18 [[], [0], [0, 1], [0, 1, 2], [0, 1, 2, 3], [0, 1, 2, 3, 4], [0, 1, 2, 3, 4, 5], [0, 1, 2, 3, 4, 5, 6], [0, 1, 2, 3, 4, 5, 6, 7], [0, 1, 2, 3, 4, 5, 6, 7, 8], [0, 1, 2, 3, 4, 5, 6, 7, 8, 9], [0, 1, 2, 3, 4, 5, 6, 7, 8, 9, 10], [0, 1, 2, 3, 4, 5, 6, 7, 8, 9, 10, 11], [0, 1, 2, 3, 4, 5, 6, 7, 8, 9, 10, 11, 12], [0, 1, 2, 3, 4, 5, 6, 7, 8, 9, 10, 11, 12, 13], [0, 1, 2, 3, 4, 5, 6, 7, 8, 9, 10, 11, 12, 13, 14], [0, 1, 2, 3, 4, 5, 6, 7, 8, 9, 10, 11, 12, 13, 14, 15], [0, 1, 2, 3, 4, 5, 6, 7, 8, 9, 10, 11, 12, 13, 14, 15], [0, 1, 2, 3, 4, 5, 6, 7, 8, 9, 10, 11, 12, 13, 14, 15, 16, 17], [0, 1, 2, 3, 4, 5, 6, 7, 8, 9, 10, 11, 12, 13, 14, 15, 16, 17, 18], [0, 1, 2, 3, 4, 5, 6, 7, 8, 9, 10, 11, 12, 13, 14, 15, 16, 17, 18, 19], [0, 1, 2, 3, 4, 5, 6, 7, 8, 9, 10, 11, 12, 13, 14, 15, 16, 17, 18, 19, 20], [0, 1, 2, 3, 4, 5, 6, 7, 8, 9, 10, 11, 12, 13, 14, 15, 16, 17, 18, 19, 20, 21], [0, 1, 2, 3, 4, 5, 6, 7, 8, 9, 10, 11, 12, 13, 14, 15, 16, 17, 18, 19, 20, 21, 22], [0, 1, 2, 3, 4, 5, 6, 7, 8, 9, 10, 11, 12, 13, 14, 15, 16, 17, 18, 19, 20, 21, 22, 23], [0, 1, 2, 3, 4, 5, 6, 7, 8, 9, 10, 11, 12, 13, 14, 15, 16, 17, 18, 19, 20, 21, 22, 23, 24], [0, 1, 2, 3, 4, 5, 6, 7, 8, 9, 10, 11, 12, 13, 14, 15, 16, 17, 18, 19, 20, 21, 22, 23, 24, 25], [0, 1, 2, 3, 4, 5, 6, 7, 8, 9, 10, 11, 12, 13, 14, 15, 16, 17, 18, 19, 20, 21, 22, 23, 24, 25, 26], [0, 1, 2, 3, 4, 5, 6, 7, 8, 9, 10, 11, 12, 13, 14, 15, 16, 17, 18, 19, 20, 21, 22, 23, 24, 25, 26, 27]] mixed ?_ ?_; kernel_rfl; refine dc (fun _ _ => op_callV (f := 27) (hc := fun w' _ hk _ => len1 w' hk)) (k := ?_); refine d_eql ?_; refine d_move ?_; refine dc (fun _ _ => op_callV (f := 27) (hc := fun w' _ hk _ => len4 w' hk)) (k := ?_); refine d_eql ?_; refine d_pick ?_; refine d_move ?_; refine d_move ?_; refine dc (fun _ _ => op_toStrD (l := [0, 4]) (hr := Rd.row Has.go) (hn := rfl)) (k := ?_); refine dc (fun _ _ => op_eqStr (a := [0, 4]) (b := [0, 4]) (r := true) (hr := rfl)) (k := ?_); refine d_pick ?_; refine d_move ?_; refine d_move ?_; refine d_eql ?_; refine d_pick ?_; refine d_move ?_; refine dc (fun _ _ => op_loads (B := natC 1)) (k := ?_); refine dc (fun _ _ => op_callV (hc := fun _ _ _ _ => (n1 _))) (k := ?_); refine dh_0n ?_; refine yv (op_eqNat (a := 1) (b := 1) (r := true) natTy (hW _ (by decide)) (hW _ (by decide)) (by decide)) (k := ?_); refine y_pick ?_; refine y_move ?_; refine y_move ?_; refine y_eql ?_; refine y_pick ?_; refine y_move ?_; refine y_move ?_; refine y_eql ?_; refine y_pick ?_; refine y_assign ?_) | fail)
    exact ret1 rfl (resTmp rfl) SubR.nil ⟨rfl, rfl⟩
end Go.Proofs.YtjidkoabdmjgkaaDoor
