/- The statements about layer group, walked: GroupScalars. -/
import Derived.Test.YtajepigjkcaghaaGreatDoorULaw03k
set_option linter.all false
namespace Go.Proofs.YtajepigjkcaghaaGreatDoor
open Go Go.Sy Go.Nt Go.RowKit
attribute [local irreducible] Sy SyL SyX Sy.Fn callFunc natC rowN refC iC gP gQ gL memB safeC fixB
set_option maxRecDepth 10000
set_option maxHeartbeats 4000000 in
theorem groupScalars_fn (z : Int) (a0 a1 : Option Addr) (n0 c0 n1 c1 : Nat) (l0 l1 : List UInt8) (w : World) (hG : GT w) (hn0 : l0.length = n0) (hc0 : n0 ≤ c0) (hs0 : SlA w a0 (l0.map v8)) (hn1 : l1.length = n1) (hc1 : n1 ≤ c1) (hs1 : SlA w a1 (l1.map v8)) :
    Sy.Fn Tryz.prog 3 [.int .i64 z, .slice a0 n0 c0, .slice a1 n1 c1] w No (Gives (.bool true)) := by
  refine fn_enter Tryz.func3 rfl Tryz.ntmps3 (by simp) Holds.nil ?_
  by_cases hb0 : 128 < n0
  · have g1 : decide ((128 : Int) < (n0 : Int)) = true := decide_eq_true (by omega)
    repeat' (first | refine sy_seqC ?_ | refine syl_nil ?_ | refine sy_if_t rfl ?_ | refine sy_ret ?_ | refine syx_then ?_ | refine syx_go ?_ | refine syx_then_ret ?_ | (refine sy_region (id := 0) ?_; refine y_assign ?_) | (refine sy_region (id := 1) ?_; refine y_move ?_; refine y_len ?_; refine yv (op_gtr (hr := g1)) (k := ?_); refine y_move ?_; refine syl_skip rfl rfl rfl ?_; refine syl_skip rfl rfl rfl ?_; refine syl_skip rfl rfl rfl ?_; refine y_pick ?_) | (refine sy_region (id := 2) ?_; refine yv (op_callV (f := 5) (hc := fun w' _ hk _ => known3_fn w' (hG.to hk))) (k := ?_); refine y_assign ?_) | fail)
    exact ret1 rfl (resTmp rfl) SubR.nil ⟨rfl, rfl⟩
  have g1 : decide ((128 : Int) < (n0 : Int)) = false := decide_eq_false (by omega)
  by_cases hb1 : 128 < n1
  · have g2 : decide ((128 : Int) < (n1 : Int)) = true := decide_eq_true (by omega)
    repeat' (first | refine sy_seqC ?_ | refine syl_nil ?_ | refine sy_if_t rfl ?_ | refine sy_ret ?_ | refine syx_then ?_ | refine syx_go ?_ | refine syx_then_ret ?_ | (refine sy_region (id := 0) ?_; refine y_assign ?_) | (refine sy_region (id := 1) ?_; refine y_move ?_; refine y_len ?_; refine yv (op_gtr (hr := g1)) (k := ?_); refine y_move ?_; refine y_move ?_; refine y_len ?_; refine yv (op_gtr (hr := g2)) (k := ?_); refine y_pick ?_) | (refine sy_region (id := 2) ?_; refine yv (op_callV (f := 5) (hc := fun w' _ hk _ => known3_fn w' (hG.to hk))) (k := ?_); refine y_assign ?_) | fail)
    exact ret1 rfl (resTmp rfl) SubR.nil ⟨rfl, rfl⟩
  have g2 : decide ((128 : Int) < (n1 : Int)) = false := decide_eq_false (by omega)
  have hV0 := bevW (l := l0) (by omega)
  have hm0 := fun w' (hk : Keep No w w') => made3s_fn a0 n0 c0 l0 w' hn0 hc0 (hs0.to hk (fun _ h => .inr h)).sla (by omega)
  have hf0 := fun w' (hk : Keep No w w') => from_fn a0 n0 c0 l0 w' hn0 (hs0.to hk (fun _ h => .inr h)).sla (by omega)
  have hV1 := bevW (l := l1) (by omega)
  have hm1 := fun w' (hk : Keep No w w') => made3s_fn a1 n1 c1 l1 w' hn1 hc1 (hs1.to hk (fun _ h => .inr h)).sla (by omega)
  have hf1 := fun w' (hk : Keep No w w') => from_fn a1 n1 c1 l1 w' hn1 (hs1.to hk (fun _ h => .inr h)).sla (by omega)
  have hf0' := hf0
  have hf1' := hf1
  unfold RefG at hf0' hf1'
  have hgs := fun i w' (h0 : 1 ≤ i) (h5 : i ≤ 4) (hk : Keep No w w') => gscalar_fn i a0 n0 c0 l0 w' h0 h5 (hG.to hk) hn0 hc0 (by omega) (hs0.to hk (fun _ h => .inr h)).sla
  have hzs := fun i w' (h0 : 1 ≤ i) (h5 : i ≤ 4) (hk : Keep No w w') => zscalar_fn i a0 n0 c0 l0 w' h0 h5 hn0 (hs0.to hk (fun _ h => .inr h)).sla (by omega)
  have hNs := fun i w' (h0 : 1 ≤ i) (h5 : i ≤ 4) (hk : Keep No w w') (hlt : n0 < gL i) => gnumber_short i a0 n0 c0 w' h0 h5 (hG.to hk) hlt
  have hNl := fun i w' (h0 : 1 ≤ i) (h5 : i ≤ 4) (hk : Keep No w w') (hlt : gL i < n0) => gnumber_long i a0 n0 c0 w' h0 h5 (hG.to hk) hlt
  have hNn := fun i w' (h0 : 1 ≤ i) (h5 : i ≤ 4) (hk : Keep No w w') (he : n0 = gL i) (hc : decide (bev 256 (bn l0) < gQ i) = false) => gnumber_no i a0 n0 c0 l0 w' h0 h5 (hG.to hk) he hn0 hc0 (hs0.to hk (fun _ h => .inr h)).sla hc
  have hNf := fun i w' (h0 : 1 ≤ i) (h5 : i ≤ 4) (hk : Keep No w w') (he : n0 = gL i) (hc : decide (bev 256 (bn l0) < gQ i) = true) => gnumber_fn i a0 n0 c0 l0 w' h0 h5 (hG.to hk) he hn0 hc0 (hs0.to hk (fun _ h => .inr h)).sla hc
  generalize bev 256 (bn l0) = V0 at *
  have e0 := natC_len V0
  have k0 := ndW hV0
  generalize bev 256 (bn l1) = V1 at *
  have e1 := natC_len V1
  have k1 := ndW hV1
  have ez := natC_len 0
  by_cases hz : 1 ≤ z ∧ z ≤ 4
  rotate_left
  · have hsc := fun w' a n ca => scalar3_bad z a n ca w' hz
    have hgs' := fun w' => gscalar_bad z a0 n0 c0 w' hz
    have hgb := fun w' => gsbytes_bad z V0 w' hz
    have hgn := fun w' => gnumber_bad z a0 n0 c0 w' hz
    have hga := fun w' => gadds_bad z V0 V1 w' hz
    have hgm := fun w' => gmuls_bad z V0 V1 w' hz
    have hwr := fun w' a n c => wrong_bad z a n c w' hz
    have hha := fun w' => zhas_fn z w'
    rw [decide_eq_false hz] at hha
    have hz0 := fun w' => isZero_fn 0 w' (by decide)
    have hsm := fun w' a n c => same3_no 2 a n c w' (by decide)
    repeat' (first | refine sy_seqC ?_ | refine syl_nil ?_ | refine sy_if_t rfl ?_ | refine sy_if_f rfl ?_ | refine sy_skip ?_ | refine syx_then ?_ | refine syx_go ?_ | (refine sy_region (id := 0) ?_; refine y_assign ?_) | (refine sy_region (id := 1) ?_; refine y_move ?_; refine y_len ?_; refine yv (op_gtr (hr := g1)) (k := ?_); refine y_move ?_; refine y_move ?_; refine y_len ?_; refine yv (op_gtr (hr := g2)) (k := ?_); refine y_pick ?_) | (refine sy_region (id := 3) ?_; refine y_move ?_; refine yv (op_callV (f := 6) (hc := fun w' _ hk _ => hm0 w' hk)) (k := ?_); refine y_move ?_; refine yv (op_callV (f := 6) (hc := fun w' _ hk _ => hm1 w' hk)) (k := ?_); refine y_move ?_; (refine ys (op_call0 (f := 7) (hc := fun w' X hk hh => hf0' w' hk)) (k := ?_); rintro _ _ ⟨R, rfl, a9, c9, rfl, rfl⟩); refine y_move ?_; (refine ys (op_call0 (f := 7) (hc := fun w' X hk hh => hf1' w' hk)) (k := ?_); rintro _ _ ⟨R, rfl, a10, c10, rfl, rfl⟩); (refine y_new ?_; intro _); (refine y_new ?_; intro _); refine yn (op_storeNat (n := V0)) (k := ?_); refine yn (op_storeNat (n := V1)) (k := ?_); refine y_assign ?_; refine y_assign ?_) | (refine sy_region (id := 4) ?_; refine y_move ?_; refine y_move ?_; refine yv (op_callV (hc := fun _ _ _ _ => (hgs' _))) (k := ?_); refine y_move ?_; refine y_extract ?_; refine y_extract ?_; (refine y_new ?_; intro _); refine yn (op_storeNat (n := 0)) (k := ?_); refine y_assign ?_) | (refine sy_region (id := 5) ?_; refine y_move ?_; refine yv (op_callV (hc := fun _ _ _ _ => (hha _))) (k := ?_); refine y_unOp ?_) | (refine sy_region (id := 6) ?_; refine yv (op_loads (B := natC 0)) (k := ?_); refine yv (op_callV (hc := fun _ _ _ _ => (hz0 _))) (k := ?_); refine y_unOp ?_; refine y_move ?_; refine y_move ?_; refine y_neq ?_; refine y_pick ?_) | (refine sy_region (id := 10) ?_; refine y_move ?_; refine y_move ?_; refine yv (op_callV (hc := fun _ _ _ _ => (hsc _ _ _ _))) (k := ?_); refine y_move ?_; refine y_move ?_; refine yv (op_callV (hc := fun _ _ _ _ => (hsc _ _ _ _))) (k := ?_); refine y_assign ?_; refine y_assign ?_) | (refine sy_region (id := 11) ?_; refine y_move ?_; refine yv (op_loads (B := natC V0)) (k := ?_); refine yv (op_callV (hc := fun _ _ _ _ => (hgb _))) (k := ?_); refine y_move ?_; refine y_extract ?_; refine y_extract ?_; refine y_assign ?_; refine y_assign ?_) | fail)
    rename_i b7 b8 b11
    refine sy_drawA (id := 12) mixed ?_
    (refine sye_part 28 28 [[], [], [], [2], [1, 2, 3], [0, 1, 2, 3, 4], [0, 1, 2, 3, 4, 5], [0, 1, 2, 3, 4, 5, 6], [0, 1, 2, 3, 4, 5, 6, 7], [0, 1, 2, 3, 4, 5, 6, 7, 8], [0, 1, 2, 3, 4, 5, 6, 7, 8, 9], [0, 1, 2, 3, 4, 5, 6, 7, 8, 9, 10], [0, 1, 2, 3, 4, 5, 6, 7, 8, 9, 10, 11], [0, 1, 2, 3, 4, 5, 6, 7, 8, 9, 10, 11, 12], [0, 1, 2, 3, 4, 5, 6, 7, 8, 9, 10, 11, 12, 13], [0, 1, 2, 3, 4, 5, 6, 7, 8, 9, 10, 11, 12, 13, 14], [0, 1, 2, 3, 4, 5, 6, 7, 8, 9, 10, 11, 12, 13, 14, 15], [0, 1, 2, 3, 4, 5, 6, 7, 8, 9, 10, 11, 12, 13, 14, 15, 16], [0, 1, 2, 3, 4, 5, 6, 7, 8, 9, 10, 11, 12, 13, 14, 15, 16, 17], [0, 1, 2, 3, 4, 5, 6, 7, 8, 9, 10, 11, 12, 13, 14, 15, 16, 17, 18], [0, 1, 2, 3, 4, 5, 6, 7, 8, 9, 10, 11, 12, 13, 14, 15, 16, 17, 18, 19], [0, 1, 2, 3, 4, 5, 6, 7, 8, 9, 10, 11, 12, 13, 14, 15, 16, 17, 18], [0, 1, 2, 3, 4, 5, 6, 7, 8, 9, 10, 11, 12, 13, 14, 15, 16, 17, 18], [0, 1, 2, 3, 4, 5, 6, 7, 8, 9, 10, 11, 12, 13, 14, 15, 16, 17, 18, 21, 22], [0, 1, 2, 3, 4, 5, 6, 7, 8, 9, 10, 11, 12, 13, 14, 15, 16, 17, 18, 21, 22, 23], [0, 1, 2, 3, 4, 5, 6, 7, 8, 9, 10, 11, 12, 13, 14, 15, 16, 17, 18, 19, 20, 21, 22, 23, 24], [0, 1, 2, 3, 4, 5, 6, 7, 8, 9, 10, 11, 12, 13, 14, 15, 16, 17, 18, 19, 20, 21, 22, 23, 24, 25], [0, 1, 2, 3, 4, 5, 6, 7, 8, 9, 10, 11, 12, 13, 14, 15, 16, 17, 18, 19, 20, 21, 22, 23, 24, 25, 26]] [[], [], [], [], [], [], [], [], [], [], [], [], [], [], [], [], [], [], [], [], [], [], [], [], [], [], [], []] none rfl ?_ ?_ ?_; kernel_rfl; kernel_rfl; refine e_move ?_; refine e_move ?_; refine e_move ?_; try refine dh_0nE (h := ?_))
    refine dh_rE (R := fun _ => SlOf 4 1 [.bool false]) (fun _ _ _ => rfl) (fun ρ hρ => OpT.mono (op_buildSlice (vs := [.bool false])) fun v L' h => ?_) (h := ?_)
    · obtain ⟨b, rfl, rfl⟩ := h
      exact ⟨[_], rfl, b, rfl, rfl⟩
    refine dcE (u := .int .i64 2) (fun ρ hρ => ?_) (k := ?_)
    · obtain ⟨⟨b0, p1, p2⟩, -⟩ := hρ
      exact op_callV (f := 15) (vs := [.int .i64 z, .slice (some ⟨b0, 0, none⟩) 1 1]) (ha := by show some [_, (ρ 3).1] = _; rw [p1]) (hc := fun w' X hk hh => hwr _ _ _ _)
    (skip; refine e_neq ?_; refine e_move ?_; refine e_move ?_; refine e_neq ?_; refine e_move ?_; refine e_move ?_; refine e_len ?_; refine e_neq ?_; refine e_pick ?_; refine e_pick ?_; refine e_move ?_; refine e_move ?_; refine e_eql ?_; refine e_move ?_; refine dh_skipE (fun _ => rfl) rfl (h := ?_); refine dh_skipE (fun _ => rfl) rfl (h := ?_); refine dh_skipE (fun _ => rfl) rfl (h := ?_); refine dh_skipE (fun _ => rfl) rfl (h := ?_); refine dh_skipE (fun _ => rfl) rfl (h := ?_); refine dh_skipE (fun _ => rfl) rfl (h := ?_); refine dh_skipE (fun _ => rfl) rfl (h := ?_); refine e_pick ?_; refine e_pick ?_; try refine dh_0nE (h := ?_))
    refine dh_0E (h := ?_)
    rintro ρ ⟨⟨bx, e1, e2⟩, -⟩
    (refine sya_list [[], [], [], [2], [1, 2, 3], [0, 1, 2, 3, 4], [0, 1, 2, 3, 4, 5], [0, 1, 2, 3, 4, 5, 6], [0, 1, 2, 3, 4, 5, 6, 7], [0, 1, 2, 3, 4, 5, 6, 7, 8], [0, 1, 2, 3, 4, 5, 6, 7, 8, 9], [0, 1, 2, 3, 4, 5, 6, 7, 8, 9, 10], [0, 1, 2, 3, 4, 5, 6, 7, 8, 9, 10, 11], [0, 1, 2, 3, 4, 5, 6, 7, 8, 9, 10, 11, 12], [0, 1, 2, 3, 4, 5, 6, 7, 8, 9, 10, 11, 12, 13], [0, 1, 2, 3, 4, 5, 6, 7, 8, 9, 10, 11, 12, 13, 14], [0, 1, 2, 3, 4, 5, 6, 7, 8, 9, 10, 11, 12, 13, 14, 15], [0, 1, 2, 3, 4, 5, 6, 7, 8, 9, 10, 11, 12, 13, 14, 15, 16], [0, 1, 2, 3, 4, 5, 6, 7, 8, 9, 10, 11, 12, 13, 14, 15, 16, 17], [0, 1, 2, 3, 4, 5, 6, 7, 8, 9, 10, 11, 12, 13, 14, 15, 16, 17, 18], [0, 1, 2, 3, 4, 5, 6, 7, 8, 9, 10, 11, 12, 13, 14, 15, 16, 17, 18, 19], [0, 1, 2, 3, 4, 5, 6, 7, 8, 9, 10, 11, 12, 13, 14, 15, 16, 17, 18], [0, 1, 2, 3, 4, 5, 6, 7, 8, 9, 10, 11, 12, 13, 14, 15, 16, 17, 18], [0, 1, 2, 3, 4, 5, 6, 7, 8, 9, 10, 11, 12, 13, 14, 15, 16, 17, 18, 21, 22], [0, 1, 2, 3, 4, 5, 6, 7, 8, 9, 10, 11, 12, 13, 14, 15, 16, 17, 18, 21, 22, 23], [0, 1, 2, 3, 4, 5, 6, 7, 8, 9, 10, 11, 12, 13, 14, 15, 16, 17, 18, 19, 20, 21, 22, 23, 24], [0, 1, 2, 3, 4, 5, 6, 7, 8, 9, 10, 11, 12, 13, 14, 15, 16, 17, 18, 19, 20, 21, 22, 23, 24, 25], [0, 1, 2, 3, 4, 5, 6, 7, 8, 9, 10, 11, 12, 13, 14, 15, 16, 17, 18, 19, 20, 21, 22, 23, 24, 25, 26]] ?_ ?_; kernel_rfl)
    refine SyL.weaken (fr' := [(104, .bool false), (0, .int .i64 z), (1, .slice a0 n0 c0), (7, .pointer (some ⟨b7, 0, none⟩)), (8, .pointer (some ⟨b8, 0, none⟩)), (9, .slice a9 (nd 65536 V0) c9), (10, .slice a10 (nd 65536 V1) c10), (13, .bool false), (14, .bool false)]) (L' := [.blk b7 28 (natC V0), .blk b8 28 (natC V1)]) ?_ (by exact Sub.go) ?_
    rotate_left
    · show SubR _ ((ρ 3).2 ++ _)
      rw [e2]
      exact SubR.go2
    repeat' (first | refine sy_seqC ?_ | refine syl_nil ?_ | refine sy_if_t rfl ?_ | refine sy_if_f rfl ?_ | refine sy_skip ?_ | refine sy_ret ?_ | refine syx_then ?_ | refine syx_go ?_ | refine syx_then_ret ?_ | (refine sy_region (id := 14) ?_; refine y_move ?_; refine y_move ?_; refine yv (op_callV (hc := fun _ _ _ _ => (hgn _))) (k := ?_); refine y_move ?_; refine y_extract ?_; refine y_extract ?_; (refine y_new ?_; intro _); refine yn (op_storeNat (n := 0)) (k := ?_); refine y_assign ?_) | (refine sy_region (id := 15) ?_; refine y_move ?_; refine y_move ?_; (refine ys op_buildSlice (k := ?_); rintro _ _ ⟨_, rfl, rfl⟩); refine yv (op_callV (hc := fun _ _ _ _ => (hwr _ _ _ _))) (k := ?_); refine y_assign ?_) | (refine sy_region (id := 16) ?_; refine y_move ?_; refine yv (op_callV (hc := fun _ _ _ _ => (hha _))) (k := ?_); refine y_move ?_; refine syl_skip rfl rfl rfl ?_; refine syl_skip rfl rfl rfl ?_; refine syl_skip rfl rfl rfl ?_; refine syl_skip rfl rfl rfl ?_; refine syl_skip rfl rfl rfl ?_; refine y_pick ?_) | (refine sy_region (id := 18) ?_; refine y_move ?_; refine yv (op_callV (hc := fun _ _ _ _ => (hha _))) (k := ?_); refine y_move ?_; refine syl_skip rfl rfl rfl ?_; refine syl_skip rfl rfl rfl ?_; refine syl_skip rfl rfl rfl ?_; refine syl_skip rfl rfl rfl ?_; refine syl_skip rfl rfl rfl ?_; refine y_pick ?_) | (refine sy_region (id := 20) ?_; refine y_move ?_; refine y_move ?_; refine y_move ?_; (refine ys op_buildSlice (k := ?_); rintro _ _ ⟨_, rfl, rfl⟩); refine yv (op_callV (hc := fun _ _ _ _ => (hwr _ _ _ _))) (k := ?_); refine y_assign ?_) | (refine sy_region (id := 21) ?_; refine y_move ?_; refine yv (op_loads (B := natC V0)) (k := ?_); refine yv (op_loads (B := natC V1)) (k := ?_); refine yv (op_callV (hc := fun _ _ _ _ => (hga _))) (k := ?_); refine y_move ?_; refine y_extract ?_; refine y_extract ?_; (refine y_new ?_; intro _); refine yn (op_storeNat (n := 0)) (k := ?_); refine y_assign ?_) | (refine sy_region (id := 22) ?_; refine y_move ?_; refine yv (op_loads (B := natC V0)) (k := ?_); refine yv (op_loads (B := natC V1)) (k := ?_); refine yv (op_callV (hc := fun _ _ _ _ => (hgm _))) (k := ?_); refine y_move ?_; refine y_extract ?_; refine y_extract ?_; (refine y_new ?_; intro _); refine yn (op_storeNat (n := 0)) (k := ?_); refine y_assign ?_) | (refine sy_region (id := 23) ?_; refine yv (op_loads (B := natC 0)) (k := ?_); refine y_move ?_; refine y_move ?_; refine y_move ?_; refine yv (op_callV (hc := fun _ _ _ _ => (hsm _ _ _ _))) (k := ?_); refine y_unOp ?_) | (refine sy_region (id := 25) ?_; refine y_move ?_; refine y_neq ?_) | (refine sy_region (id := 26) ?_; refine yv (op_loads (B := natC 0)) (k := ?_); refine y_move ?_; refine y_move ?_; refine yv (op_callV (hc := fun _ _ _ _ => (hsm _ _ _ _))) (k := ?_); refine y_move ?_; refine yv (op_loads (B := natC 0)) (k := ?_); refine y_move ?_; refine y_move ?_; refine yv (op_callV (hc := fun _ _ _ _ => (hsm _ _ _ _))) (k := ?_); refine y_pick ?_; refine y_move ?_; refine yv (op_callV (f := 5) (hc := fun w' _ hk _ => known3_fn w' (hG.to hk))) (k := ?_); refine y_pick ?_; refine y_assign ?_) | fail)
    exact ret1 rfl (resTmp rfl) SubR.nil ⟨rfl, rfl⟩
  obtain ⟨i, rfl⟩ : ∃ i : Nat, z = (i : Int) := ⟨z.toNat, by omega⟩
  have h0 : 1 ≤ i := by omega
  have h5 : i ≤ 4 := by omega
  have hQ0 : 0 < gQ i := Nat.lt_of_lt_of_le (by decide) (gQ_low i h0 h5)
  have hQW := gQ_W i h0 h5
  have hsc0 := fun w' a ca (h : SlA w' a (refC V0)) => scalar3_fn i a ca V0 w' h0 h5 h (by omega)
  have hsc1 := fun w' a ca (h : SlA w' a (refC V1)) => scalar3_fn i a ca V1 w' h0 h5 h (by omega)
  have hbn := fun w' (hk : Keep No w w') => gsbytes_no i V0 w' h0 h5 (hG.to hk) hV0
  have hbf := fun w' (hk : Keep No w w') => gsbytes_fn i V0 w' h0 h5 (hG.to hk) hV0
  unfold FixG at hbf
  have hgs' := fun w' => hgs i w' h0 h5
  have hzs' := fun w' => hzs i w' h0 h5
  have hNs' := fun w' => hNs i w' h0 h5
  have hNl' := fun w' => hNl i w' h0 h5
  have hNn' := fun w' => hNn i w' h0 h5
  have hNf' := fun w' => hNf i w' h0 h5
  clear hgs hzs hNs hNl hNn hNf
  have hwr1 := fun s w' b (h : w'.rangeAt b 0 ([s].map Value.bool)) => wrong_fn i b 0 1 1 [s] w' h0 h5 rfl (by decide) h
  have hwr2 := fun m s w' b (h : w'.rangeAt b 0 ([m, s].map Value.bool)) => wrong_fn i b 0 2 2 [m, s] w' h0 h5 rfl (by decide) h
  have han := fun w' (hk : Keep No w w') => gadds_no i V0 V1 w' h0 h5 (hG.to hk) hV0 hV1
  have haf := fun w' (hk : Keep No w w') => gadds_fn i V0 V1 w' h0 h5 (hG.to hk) hV0 hV1
  have hpn := fun w' (hk : Keep No w w') => gmuls_no i V0 V1 w' h0 h5 (hG.to hk) hV0 hV1
  have hpf := fun w' (hk : Keep No w w') => gmuls_fn i V0 V1 w' h0 h5 (hG.to hk) hV0 hV1
  have qA := fun w' a ca b cb (ha : SlA w' a (refC V0)) (hb : SlA w' b (refC V1)) => zadds_fn i a b ca cb V0 V1 w' h0 h5 ha hb (by omega) (by omega)
  have qM := fun w' a ca b cb (ha : SlA w' a (refC V0)) (hb : SlA w' b (refC V1)) => zmuls_fn i a b ca cb V0 V1 w' h0 h5 ha hb (by omega) (by omega)
  have hha := fun w' => zhas_fn (i : Int) w'
  rw [hasI i h0 h5] at hha
  have hle := fun w' => zlen_fn i w' h0 h5
  have hyb := fun w' a ca (h : SlA w' a (refC V0)) hd => zbytes_fn i a ca V0 w' h0 h5 h (by omega) hd
  have hll := fixB_len (gL i) V0
  have hnd : decide (V0 < gQ i) = true → nd 256 V0 ≤ gL i := fun hm => gP_nd h0 h5 (Nat.lt_of_lt_of_le (of_decide_eq_true hm) (gQ_P i))
  have hW_r := Nat.lt_trans (Nat.mod_lt V0 hQ0) hQW
  have hW_s := Nat.lt_trans (Nat.mod_lt (V0 + V1) hQ0) hQW
  have hW_p := Nat.lt_trans (Nat.mod_lt (V0 * V1) hQ0) hQW
  generalize V0 % gQ i = r at *
  generalize (V0 + V1) % gQ i = s at *
  generalize V0 * V1 % gQ i = p at *
  have er := natC_len r
  have es := natC_len s
  have ep := natC_len p
  have kr := ndW hW_r
  have ks := ndW hW_s
  have kp := ndW hW_p
  generalize decide (V0 < gQ i) = m at *
  generalize decide (V1 < gQ i) = m' at *
  generalize fixB (gL i) V0 = lb at *
  generalize gL i = len at *
  repeat' (first | refine sy_seqC ?_ | refine syl_nil ?_ | refine sy_if_f rfl ?_ | refine sy_skip ?_ | refine syx_then ?_ | refine syx_go ?_ | (refine sy_region (id := 0) ?_; refine y_assign ?_) | (refine sy_region (id := 1) ?_; refine y_move ?_; refine y_len ?_; refine yv (op_gtr (hr := g1)) (k := ?_); refine y_move ?_; refine y_move ?_; refine y_len ?_; refine yv (op_gtr (hr := g2)) (k := ?_); refine y_pick ?_) | (refine sy_region (id := 3) ?_; refine y_move ?_; refine yv (op_callV (f := 6) (hc := fun w' _ hk _ => hm0 w' hk)) (k := ?_); refine y_move ?_; refine yv (op_callV (f := 6) (hc := fun w' _ hk _ => hm1 w' hk)) (k := ?_); refine y_move ?_; (refine ys (op_call0 (f := 7) (hc := fun w' X hk hh => hf0' w' hk)) (k := ?_); rintro _ _ ⟨R, rfl, a9, c9, rfl, rfl⟩); refine y_move ?_; (refine ys (op_call0 (f := 7) (hc := fun w' X hk hh => hf1' w' hk)) (k := ?_); rintro _ _ ⟨R, rfl, a10, c10, rfl, rfl⟩); (refine y_new ?_; intro _); (refine y_new ?_; intro _); refine yn (op_storeNat (n := V0)) (k := ?_); refine yn (op_storeNat (n := V1)) (k := ?_); refine y_assign ?_; refine y_assign ?_) | (refine sy_region (id := 4) ?_; refine y_move ?_; refine y_move ?_; refine yv (op_callV (f := 8) (hc := fun w' _ hk _ => hgs' w' hk)) (k := ?_); refine y_move ?_; refine y_extract ?_; refine y_extract ?_; (refine y_new ?_; intro _); refine yn (op_storeNat (n := r)) (k := ?_); refine y_assign ?_) | (refine sy_region (id := 5) ?_; refine y_move ?_; refine yv (op_callV (hc := fun _ _ _ _ => (hha _))) (k := ?_); refine y_unOp ?_) | fail)
  rename_i b7 b8 b11
  refine sy_drawA (id := 8) mixed ?_
  (refine sye_part 7 7 [[], [], [], [], [2, 3], [0, 1, 2, 3, 4], [0, 1, 2, 3, 4, 5]] [[], [], [], [], [], [], []] none rfl ?_ ?_ ?_; kernel_rfl; kernel_rfl; refine dcE (fun _ _ => op_loads (B := natC r)) (k := ?_); refine e_move ?_; refine e_move ?_; refine e_move ?_; try refine dh_0nE (h := ?_))
  refine dh_rE (R := fun _ => RefG r) (fun _ _ _ => rfl) (fun ρ hρ => op_call0 (f := 12) (hc := fun w' X hk hh => hzs' w' hk)) (h := ?_)
  refine dcE (u := .bool true) (fun ρ hρ => ?_) (k := ?_)
  · obtain ⟨⟨b0, d0, p1, p2⟩, -⟩ := hρ
    refine op_callV (f := 11) (vs := [natV r, .int .i64 0, .slice b0 (nd 65536 r) d0, .int .i64 0]) (ha := by show some [_, _, (ρ 4).1, _] = _; rw [p1]; rfl) (hc := fun w' X hk hh => ?_)
    have hh : Holds w.heap.size No (((ρ 4).2 ++ _) ++ X) w' := hh
    rw [p2] at hh
    exact same3_fn r b0 d0 w' hW_r (row_sla hh (by exact Has.append Has.go))
  (skip; refine e_unOp ?_; try refine dh_0nE (h := ?_))
  refine dh_0E (h := ?_)
  rintro ρ ⟨⟨b0, d0, p1, p2⟩, -⟩
  (refine sya_list [[], [], [], [], [2, 3], [0, 1, 2, 3, 4], [0, 1, 2, 3, 4, 5]] ?_ ?_; kernel_rfl)
  refine SyL.weaken (fr' := [(64, .bool false), (0, .int .i64 (i : Int)), (1, .slice a0 n0 c0), (7, .pointer (some ⟨b7, 0, none⟩)), (8, .pointer (some ⟨b8, 0, none⟩)), (9, .slice a9 (nd 65536 V0) c9), (10, .slice a10 (nd 65536 V1) c10)]) (L' := [.blk b7 28 (natC V0), .blk b8 28 (natC V1), .row (.slice a9 (nd 65536 V0) c9) 3 1 (nd 65536 V0) (refC V0), .row (.slice a10 (nd 65536 V1) c10) 3 1 (nd 65536 V1) (refC V1)]) ?_ (by exact Sub.go) ?_
  rotate_left
  · show SubR _ ((ρ 4).2 ++ _)
    rw [p2]
    exact SubR.go2
  repeat' (first | refine sy_seqC ?_ | refine syl_nil ?_ | refine sy_if_f rfl ?_ | refine sy_skip ?_ | refine syx_then ?_ | refine syx_go ?_ | (refine sy_region (id := 10) ?_; refine y_move ?_; refine y_move ?_; refine yv (op_callV (f := 13) (hc := fun w' X hk hh => hsc0 w' _ _ (row_sla hh (by exact Has.append Has.go)))) (k := ?_); refine y_move ?_; refine y_move ?_; refine yv (op_callV (f := 13) (hc := fun w' X hk hh => hsc1 w' _ _ (row_sla hh (by exact Has.append Has.go)))) (k := ?_); refine y_assign ?_; refine y_assign ?_) | fail)
  repeat refine sy_seqC ?_
  refine sy_cut2 (γ := Unit) (fun _ => [(0, .int .i64 (i : Int)), (1, .slice a0 n0 c0), (7, .pointer (some ⟨b7, 0, none⟩)), (8, .pointer (some ⟨b8, 0, none⟩)), (9, .slice a9 (nd 65536 V0) c9), (10, .slice a10 (nd 65536 V1) c10), (13, .bool m), (14, .bool m')]) (fun _ => [.blk b7 28 (natC V0), .blk b8 28 (natC V1), .row (.slice a9 (nd 65536 V0) c9) 3 1 (nd 65536 V0) (refC V0), .row (.slice a10 (nd 65536 V1) c10) 3 1 (nd 65536 V1) (refC V1)]) (fun _ => True) ?_ ?_
  · cases m with
    | false =>
      have hbn' := fun w' (hk : Keep No w w') => hbn w' hk rfl
      repeat' (first | refine sy_seqC ?_ | refine syl_nil ?_ | refine syx_then ?_ | refine syx_go ?_ | (refine sy_region (id := 11) ?_; refine y_move ?_; refine yv (op_loads (B := natC V0)) (k := ?_); refine yv (op_callV (f := 14) (hc := fun w' _ hk _ => hbn' w' hk)) (k := ?_); refine y_move ?_; refine y_extract ?_; refine y_extract ?_; refine y_assign ?_; refine y_assign ?_) | fail)
      refine sy_drawA (id := 12) mixed ?_
      (refine sye_part 28 28 [[], [], [], [2], [1, 2, 3], [0, 1, 2, 3, 4], [0, 1, 2, 3, 4, 5], [0, 1, 2, 3, 4, 5, 6], [0, 1, 2, 3, 4, 5, 6, 7], [0, 1, 2, 3, 4, 5, 6, 7, 8], [0, 1, 2, 3, 4, 5, 6, 7, 8, 9], [0, 1, 2, 3, 4, 5, 6, 7, 8, 9, 10], [0, 1, 2, 3, 4, 5, 6, 7, 8, 9, 10, 11], [0, 1, 2, 3, 4, 5, 6, 7, 8, 9, 10, 11, 12], [0, 1, 2, 3, 4, 5, 6, 7, 8, 9, 10, 11, 12, 13], [0, 1, 2, 3, 4, 5, 6, 7, 8, 9, 10, 11, 12, 13, 14], [0, 1, 2, 3, 4, 5, 6, 7, 8, 9, 10, 11, 12, 13, 14, 15], [0, 1, 2, 3, 4, 5, 6, 7, 8, 9, 10, 11, 12, 13, 14, 15, 16], [0, 1, 2, 3, 4, 5, 6, 7, 8, 9, 10, 11, 12, 13, 14, 15, 16, 17], [0, 1, 2, 3, 4, 5, 6, 7, 8, 9, 10, 11, 12, 13, 14, 15, 16, 17, 18], [0, 1, 2, 3, 4, 5, 6, 7, 8, 9, 10, 11, 12, 13, 14, 15, 16, 17, 18, 19], [0, 1, 2, 3, 4, 5, 6, 7, 8, 9, 10, 11, 12, 13, 14, 15, 16, 17, 18], [0, 1, 2, 3, 4, 5, 6, 7, 8, 9, 10, 11, 12, 13, 14, 15, 16, 17, 18], [0, 1, 2, 3, 4, 5, 6, 7, 8, 9, 10, 11, 12, 13, 14, 15, 16, 17, 18, 21, 22], [0, 1, 2, 3, 4, 5, 6, 7, 8, 9, 10, 11, 12, 13, 14, 15, 16, 17, 18, 21, 22, 23], [0, 1, 2, 3, 4, 5, 6, 7, 8, 9, 10, 11, 12, 13, 14, 15, 16, 17, 18, 19, 20, 21, 22, 23, 24], [0, 1, 2, 3, 4, 5, 6, 7, 8, 9, 10, 11, 12, 13, 14, 15, 16, 17, 18, 19, 20, 21, 22, 23, 24, 25], [0, 1, 2, 3, 4, 5, 6, 7, 8, 9, 10, 11, 12, 13, 14, 15, 16, 17, 18, 19, 20, 21, 22, 23, 24, 25, 26]] [[], [], [], [], [], [], [], [], [], [], [], [], [], [], [], [], [], [], [], [], [], [], [], [], [], [], [], []] none rfl ?_ ?_ ?_; kernel_rfl; kernel_rfl; refine e_move ?_; refine e_move ?_; refine e_move ?_; try refine dh_0nE (h := ?_))
      refine dh_rE (R := fun _ => SlOf 4 1 [.bool false]) (fun _ _ _ => rfl) (fun ρ hρ => OpT.mono (op_buildSlice (vs := [.bool false])) fun v L' h => ?_) (h := ?_)
      · obtain ⟨b, rfl, rfl⟩ := h
        exact ⟨[_], rfl, b, rfl, rfl⟩
      refine dcE (u := .int .i64 3) (fun ρ hρ => ?_) (k := ?_)
      · obtain ⟨⟨b0, p1, p2⟩, -⟩ := hρ
        refine op_callV (f := 15) (vs := [.int .i64 (i : Int), .slice (some ⟨b0, 0, none⟩) 1 1]) (ha := by show some [_, (ρ 3).1] = _; rw [p1]) (hc := fun w' X hk hh => ?_)
        have hh : Holds w.heap.size No (((ρ 3).2 ++ _) ++ X) w' := hh
        rw [p2] at hh
        exact hwr1 false w' b0 (blk_range (hh.has (by exact Has.append Has.here)) Seg.all)
      (skip; refine e_neq ?_; refine e_move ?_; refine e_move ?_; refine e_neq ?_; refine e_move ?_; refine e_move ?_; refine e_len ?_; refine e_neq ?_; refine e_pick ?_; refine e_pick ?_; refine e_move ?_; refine e_move ?_; refine e_eql ?_; refine e_move ?_; refine dh_skipE (fun _ => rfl) rfl (h := ?_); refine dh_skipE (fun _ => rfl) rfl (h := ?_); refine dh_skipE (fun _ => rfl) rfl (h := ?_); refine dh_skipE (fun _ => rfl) rfl (h := ?_); refine dh_skipE (fun _ => rfl) rfl (h := ?_); refine dh_skipE (fun _ => rfl) rfl (h := ?_); refine dh_skipE (fun _ => rfl) rfl (h := ?_); refine e_pick ?_; refine e_pick ?_; try refine dh_0nE (h := ?_))
      refine dh_0E (h := ?_)
      rintro ρ ⟨⟨bx, e1, e2⟩, -⟩
      (refine sya_list [[], [], [], [2], [1, 2, 3], [0, 1, 2, 3, 4], [0, 1, 2, 3, 4, 5], [0, 1, 2, 3, 4, 5, 6], [0, 1, 2, 3, 4, 5, 6, 7], [0, 1, 2, 3, 4, 5, 6, 7, 8], [0, 1, 2, 3, 4, 5, 6, 7, 8, 9], [0, 1, 2, 3, 4, 5, 6, 7, 8, 9, 10], [0, 1, 2, 3, 4, 5, 6, 7, 8, 9, 10, 11], [0, 1, 2, 3, 4, 5, 6, 7, 8, 9, 10, 11, 12], [0, 1, 2, 3, 4, 5, 6, 7, 8, 9, 10, 11, 12, 13], [0, 1, 2, 3, 4, 5, 6, 7, 8, 9, 10, 11, 12, 13, 14], [0, 1, 2, 3, 4, 5, 6, 7, 8, 9, 10, 11, 12, 13, 14, 15], [0, 1, 2, 3, 4, 5, 6, 7, 8, 9, 10, 11, 12, 13, 14, 15, 16], [0, 1, 2, 3, 4, 5, 6, 7, 8, 9, 10, 11, 12, 13, 14, 15, 16, 17], [0, 1, 2, 3, 4, 5, 6, 7, 8, 9, 10, 11, 12, 13, 14, 15, 16, 17, 18], [0, 1, 2, 3, 4, 5, 6, 7, 8, 9, 10, 11, 12, 13, 14, 15, 16, 17, 18, 19], [0, 1, 2, 3, 4, 5, 6, 7, 8, 9, 10, 11, 12, 13, 14, 15, 16, 17, 18], [0, 1, 2, 3, 4, 5, 6, 7, 8, 9, 10, 11, 12, 13, 14, 15, 16, 17, 18], [0, 1, 2, 3, 4, 5, 6, 7, 8, 9, 10, 11, 12, 13, 14, 15, 16, 17, 18, 21, 22], [0, 1, 2, 3, 4, 5, 6, 7, 8, 9, 10, 11, 12, 13, 14, 15, 16, 17, 18, 21, 22, 23], [0, 1, 2, 3, 4, 5, 6, 7, 8, 9, 10, 11, 12, 13, 14, 15, 16, 17, 18, 19, 20, 21, 22, 23, 24], [0, 1, 2, 3, 4, 5, 6, 7, 8, 9, 10, 11, 12, 13, 14, 15, 16, 17, 18, 19, 20, 21, 22, 23, 24, 25], [0, 1, 2, 3, 4, 5, 6, 7, 8, 9, 10, 11, 12, 13, 14, 15, 16, 17, 18, 19, 20, 21, 22, 23, 24, 25, 26]] ?_ ?_; kernel_rfl)
      refine SyL.weaken (fr' := [(104, .bool false), (0, .int .i64 (i : Int)), (1, .slice a0 n0 c0), (7, .pointer (some ⟨b7, 0, none⟩)), (8, .pointer (some ⟨b8, 0, none⟩)), (9, .slice a9 (nd 65536 V0) c9), (10, .slice a10 (nd 65536 V1) c10), (13, .bool false), (14, .bool m')]) (L' := [.blk b7 28 (natC V0), .blk b8 28 (natC V1), .row (.slice a9 (nd 65536 V0) c9) 3 1 (nd 65536 V0) (refC V0), .row (.slice a10 (nd 65536 V1) c10) 3 1 (nd 65536 V1) (refC V1)]) ?_ (by exact Sub.go) ?_
      rotate_left
      · show SubR _ ((ρ 3).2 ++ _)
        rw [e2]
        exact SubR.go2
      repeat' (first | refine syl_nil ?_ | refine sy_if_f rfl ?_ | refine sy_skip ?_ | refine syx_then ?_ | refine syx_go ?_ | fail)
      exact syx_cut () trivial (by exact Sub.go) (by exact SubR.go2)
    | true =>
      have hnd' := hnd rfl
      have hlen := hll hnd'
      have hyb' := fun w' a ca (h : SlA w' a (refC V0)) => hyb w' a ca h hnd'
      repeat' (first | refine sy_seqC ?_ | refine syl_nil ?_ | refine syx_then ?_ | refine syx_go ?_ | (refine sy_region (id := 11) ?_; refine y_move ?_; refine yv (op_loads (B := natC V0)) (k := ?_); (refine ys (op_call0 (f := 14) (hc := fun w' X hk hh => hbf w' hk rfl)) (k := ?_); rintro _ _ ⟨R, rfl, aB, cB, rfl, rfl⟩); refine y_move ?_; refine y_extract ?_; refine y_extract ?_; refine y_assign ?_; refine y_assign ?_) | fail)
      refine sy_drawA (id := 12) mixed ?_
      (refine sye_part 28 28 [[], [], [], [2], [1, 2, 3], [0, 1, 2, 3, 4], [0, 1, 2, 3, 4, 5], [0, 1, 2, 3, 4, 5, 6], [0, 1, 2, 3, 4, 5, 6, 7], [0, 1, 2, 3, 4, 5, 6, 7, 8], [0, 1, 2, 3, 4, 5, 6, 7, 8, 9], [0, 1, 2, 3, 4, 5, 6, 7, 8, 9, 10], [0, 1, 2, 3, 4, 5, 6, 7, 8, 9, 10, 11], [0, 1, 2, 3, 4, 5, 6, 7, 8, 9, 10, 11, 12], [0, 1, 2, 3, 4, 5, 6, 7, 8, 9, 10, 11, 12, 13], [0, 1, 2, 3, 4, 5, 6, 7, 8, 9, 10, 11, 12, 13, 14], [0, 1, 2, 3, 4, 5, 6, 7, 8, 9, 10, 11, 12, 13, 14, 15], [0, 1, 2, 3, 4, 5, 6, 7, 8, 9, 10, 11, 12, 13, 14, 15, 16], [0, 1, 2, 3, 4, 5, 6, 7, 8, 9, 10, 11, 12, 13, 14, 15, 16, 17], [0, 1, 2, 3, 4, 5, 6, 7, 8, 9, 10, 11, 12, 13, 14, 15, 16, 17, 18], [0, 1, 2, 3, 4, 5, 6, 7, 8, 9, 10, 11, 12, 13, 14, 15, 16, 17, 18, 19], [0, 1, 2, 3, 4, 5, 6, 7, 8, 9, 10, 11, 12, 13, 14, 15, 16, 17, 18], [0, 1, 2, 3, 4, 5, 6, 7, 8, 9, 10, 11, 12, 13, 14, 15, 16, 17, 18], [0, 1, 2, 3, 4, 5, 6, 7, 8, 9, 10, 11, 12, 13, 14, 15, 16, 17, 18, 21, 22], [0, 1, 2, 3, 4, 5, 6, 7, 8, 9, 10, 11, 12, 13, 14, 15, 16, 17, 18, 21, 22, 23], [0, 1, 2, 3, 4, 5, 6, 7, 8, 9, 10, 11, 12, 13, 14, 15, 16, 17, 18, 19, 20, 21, 22, 23, 24], [0, 1, 2, 3, 4, 5, 6, 7, 8, 9, 10, 11, 12, 13, 14, 15, 16, 17, 18, 19, 20, 21, 22, 23, 24, 25], [0, 1, 2, 3, 4, 5, 6, 7, 8, 9, 10, 11, 12, 13, 14, 15, 16, 17, 18, 19, 20, 21, 22, 23, 24, 25, 26]] [[], [], [], [], [], [], [], [], [], [], [], [], [], [], [], [], [], [], [], [], [], [], [], [], [], [], [], []] none rfl ?_ ?_ ?_; kernel_rfl; kernel_rfl; refine e_move ?_; refine e_move ?_; refine e_move ?_; try refine dh_0nE (h := ?_))
      refine dh_rE (R := fun _ => SlOf 4 1 [.bool true]) (fun _ _ _ => rfl) (fun ρ hρ => OpT.mono (op_buildSlice (vs := [.bool true])) fun v L' h => ?_) (h := ?_)
      · obtain ⟨b, rfl, rfl⟩ := h
        exact ⟨[_], rfl, b, rfl, rfl⟩
      refine dcE (u := .int .i64 0) (fun ρ hρ => ?_) (k := ?_)
      · obtain ⟨⟨b0, p1, p2⟩, -⟩ := hρ
        refine op_callV (f := 15) (vs := [.int .i64 (i : Int), .slice (some ⟨b0, 0, none⟩) 1 1]) (ha := by show some [_, (ρ 3).1] = _; rw [p1]) (hc := fun w' X hk hh => ?_)
        have hh : Holds w.heap.size No (((ρ 3).2 ++ _) ++ X) w' := hh
        rw [p2] at hh
        exact hwr1 true w' b0 (blk_range (hh.has (by exact Has.append Has.here)) Seg.all)
      (skip; refine e_neq ?_; refine e_move ?_; refine e_move ?_; refine e_neq ?_; refine e_move ?_; refine dh_skipE (fun _ => rfl) rfl (h := ?_); refine dh_skipE (fun _ => rfl) rfl (h := ?_); refine dh_skipE (fun _ => rfl) rfl (h := ?_); refine e_pick ?_; refine e_pick ?_; refine e_move ?_; refine e_move ?_; refine e_eql ?_; refine e_move ?_; refine e_move ?_; try refine dh_0nE (h := ?_))
      refine dcE (u := .string (str lb)) (fun ρ hρ => op_toStrD (l := lb) (n := len) (hr := Rd.row (by exact Has.appR Has.go)) (hn := hlen)) (k := ?_)
      (skip; refine e_move ?_; refine e_move ?_; try refine dh_0nE (h := ?_))
      refine dh_rE (R := fun _ => RowOf 5 len (lb.map v8)) (fun _ _ _ => rfl) (fun ρ hρ => ?_) (h := ?_)
      · refine op_call0 (f := 16) (vs := [.int .i64 (i : Int), .slice a9 (nd 65536 V0) c9]) (hc := fun w' X hk hh => ?_)
        have hh : Holds w.heap.size No (((ρ 3).2 ++ _) ++ X) w' := hh
        exact hyb' w' a9 c9 (row_sla hh (by exact Has.append (Has.appR Has.go)))
      refine dcE (u := .string (str lb)) (fun ρ hρ => ?_) (k := ?_)
      · obtain ⟨⟨a1, c1, e1, e2⟩, -⟩ := hρ
        rw [e1] at e2
        exact op_toStrD (l := lb) (n := len) (hx := by show some (ρ 23).1 = _; rw [e1]) (hr := Rd.row (by show Has ((ρ 23).2 ++ _) _; rw [e2]; exact Has.here)) (hn := hlen)
      (skip; refine dcE (fun _ _ => op_neStr (a := lb) (b := lb) (r := false) (hr := decide_eq_false (fun h => h rfl))) (k := ?_); refine e_pick ?_; refine e_pick ?_; try refine dh_0nE (h := ?_))
      refine dh_0E (h := ?_)
      rintro ρ ⟨⟨a1, c1, e3, e4⟩, ⟨bx, e1, e2⟩, -⟩
      (refine sya_list [[], [], [], [2], [1, 2, 3], [0, 1, 2, 3, 4], [0, 1, 2, 3, 4, 5], [0, 1, 2, 3, 4, 5, 6], [0, 1, 2, 3, 4, 5, 6, 7], [0, 1, 2, 3, 4, 5, 6, 7, 8], [0, 1, 2, 3, 4, 5, 6, 7, 8, 9], [0, 1, 2, 3, 4, 5, 6, 7, 8, 9, 10], [0, 1, 2, 3, 4, 5, 6, 7, 8, 9, 10, 11], [0, 1, 2, 3, 4, 5, 6, 7, 8, 9, 10, 11, 12], [0, 1, 2, 3, 4, 5, 6, 7, 8, 9, 10, 11, 12, 13], [0, 1, 2, 3, 4, 5, 6, 7, 8, 9, 10, 11, 12, 13, 14], [0, 1, 2, 3, 4, 5, 6, 7, 8, 9, 10, 11, 12, 13, 14, 15], [0, 1, 2, 3, 4, 5, 6, 7, 8, 9, 10, 11, 12, 13, 14, 15, 16], [0, 1, 2, 3, 4, 5, 6, 7, 8, 9, 10, 11, 12, 13, 14, 15, 16, 17], [0, 1, 2, 3, 4, 5, 6, 7, 8, 9, 10, 11, 12, 13, 14, 15, 16, 17, 18], [0, 1, 2, 3, 4, 5, 6, 7, 8, 9, 10, 11, 12, 13, 14, 15, 16, 17, 18, 19], [0, 1, 2, 3, 4, 5, 6, 7, 8, 9, 10, 11, 12, 13, 14, 15, 16, 17, 18], [0, 1, 2, 3, 4, 5, 6, 7, 8, 9, 10, 11, 12, 13, 14, 15, 16, 17, 18], [0, 1, 2, 3, 4, 5, 6, 7, 8, 9, 10, 11, 12, 13, 14, 15, 16, 17, 18, 21, 22], [0, 1, 2, 3, 4, 5, 6, 7, 8, 9, 10, 11, 12, 13, 14, 15, 16, 17, 18, 21, 22, 23], [0, 1, 2, 3, 4, 5, 6, 7, 8, 9, 10, 11, 12, 13, 14, 15, 16, 17, 18, 19, 20, 21, 22, 23, 24], [0, 1, 2, 3, 4, 5, 6, 7, 8, 9, 10, 11, 12, 13, 14, 15, 16, 17, 18, 19, 20, 21, 22, 23, 24, 25], [0, 1, 2, 3, 4, 5, 6, 7, 8, 9, 10, 11, 12, 13, 14, 15, 16, 17, 18, 19, 20, 21, 22, 23, 24, 25, 26]] ?_ ?_; kernel_rfl)
      refine SyL.weaken (fr' := [(104, .bool false), (0, .int .i64 (i : Int)), (1, .slice a0 n0 c0), (7, .pointer (some ⟨b7, 0, none⟩)), (8, .pointer (some ⟨b8, 0, none⟩)), (9, .slice a9 (nd 65536 V0) c9), (10, .slice a10 (nd 65536 V1) c10), (13, .bool true), (14, .bool m')]) (L' := [.blk b7 28 (natC V0), .blk b8 28 (natC V1), .row (.slice a9 (nd 65536 V0) c9) 3 1 (nd 65536 V0) (refC V0), .row (.slice a10 (nd 65536 V1) c10) 3 1 (nd 65536 V1) (refC V1)]) ?_ (by exact Sub.go) ?_
      rotate_left
      · show SubR _ ((ρ 23).2 ++ ((ρ 3).2 ++ _))
        rw [e3] at e4
        rw [e4, e2]
        exact SubR.go2
      repeat' (first | refine syl_nil ?_ | refine sy_if_f rfl ?_ | refine sy_skip ?_ | refine syx_then ?_ | refine syx_go ?_ | fail)
      exact syx_cut () trivial (by exact Sub.go) (by exact SubR.go2)
  rintro - -
  have kn : n0 ≤ 128 := by omega
  have hwr' : ∀ w' b, w'.rangeAt b 0 [Value.bool m] → Sy.Fn Tryz.prog 15 [.int .i64 (i : Int), .slice (some ⟨b, 0, none⟩) 1 1] w' No (Gives (.int .i64 (if m then 0 else 3))) := by
    intro w' b h
    have := hwr1 m w' b h
    rwa [show [m].all id = m by cases m <;> rfl] at this
  repeat refine sy_seqC ?_
  refine sy_cut3 (γ := Nat × Nat × Int) (fun g => [(0, .int .i64 (i : Int)), (1, .slice a0 n0 c0), (7, .pointer (some ⟨b7, 0, none⟩)), (8, .pointer (some ⟨b8, 0, none⟩)), (9, .slice a9 (nd 65536 V0) c9), (10, .slice a10 (nd 65536 V1) c10), (13, .bool m), (14, .bool m'), (17, .pointer (some ⟨g.1, 0, none⟩)), (18, .int .i64 g.2.2), (19, .int .i64 g.2.2)]) (fun g => [.blk g.1 28 (natC g.2.1), .blk b7 28 (natC V0), .blk b8 28 (natC V1), .row (.slice a9 (nd 65536 V0) c9) 3 1 (nd 65536 V0) (refC V0), .row (.slice a10 (nd 65536 V1) c10) 3 1 (nd 65536 V1) (refC V1)])
    (fun g => ∀ w' a ca, SlA w' a (refC V0) → Sy.Fn Tryz.prog 11 [natV g.2.1, .int .i64 g.2.2, .slice a (nd 65536 V0) ca, .int .i64 g.2.2] w' No (Gives (.bool true))) ?_ ?_
  · rcases Nat.lt_trichotomy n0 len with h | h | h
    · have hl1 : decide ((n0 : Int) < (len : Int)) = true := decide_eq_true (by omega)
      have hN := fun w' hk => hNs' w' hk h
      repeat' (first | refine sy_seqC ?_ | refine syl_nil ?_ | refine sy_if_t rfl ?_ | refine syx_then ?_ | refine syx_go ?_ | (refine sy_region (id := 14) ?_; refine y_move ?_; refine y_move ?_; refine yv (op_callV (f := 17) (hc := fun w' _ hk _ => hN w' hk)) (k := ?_); refine y_move ?_; refine y_extract ?_; refine y_extract ?_; (refine y_new ?_; intro _); refine yn (op_storeNat (n := 0)) (k := ?_); refine y_assign ?_) | (refine sy_region (id := 15) ?_; refine y_move ?_; refine y_move ?_; (refine ys op_buildSlice (k := ?_); rintro _ _ ⟨_, rfl, rfl⟩); refine yv (op_callV (f := 15) (hc := fun w' X hk hh => hwr' w' _ (blk_range (hh.has (by exact Has.append Has.here)) Seg.all))) (k := ?_); refine y_assign ?_) | (refine sy_region (id := 16) ?_; refine y_move ?_; refine yv (op_callV (hc := fun _ _ _ _ => (hha _))) (k := ?_); refine y_move ?_; refine y_move ?_; refine y_len ?_; refine y_move ?_; refine yv (op_callV (hc := fun _ _ _ _ => (hle _))) (k := ?_); refine yv (op_lss (hr := hl1)) (k := ?_); refine y_pick ?_) | (refine sy_region (id := 17) ?_; refine y_assign ?_) | fail)
      exact syx_cut (_, 0, 4) (fun w' a ca _ => same3_no 4 a _ ca w' (by decide)) (by exact Sub.go) (by exact SubR.go2)
    · have hl1 : decide ((n0 : Int) < (len : Int)) = false := decide_eq_false (by omega)
      have hl2 : decide ((len : Int) < (n0 : Int)) = false := decide_eq_false (by omega)
      obtain ⟨x, e, he, hN, hsm⟩ : ∃ (x : Nat) (e : Int), (if m then (0 : Int) else 3) = e ∧ (∀ w', Keep No w w' → Sy.Fn Tryz.prog 17 [.int .i64 (i : Int), .slice a0 n0 c0] w' No (Gives (.tuple #[natV x, .int .i64 e]))) ∧ (∀ w' a ca, SlA w' a (refC V0) → Sy.Fn Tryz.prog 11 [natV x, .int .i64 e, .slice a (nd 65536 V0) ca, .int .i64 e] w' No (Gives (.bool true))) := by
        cases m with
        | false => exact ⟨0, 3, rfl, fun w' hk => hNn' w' hk h rfl, fun w' a ca _ => same3_no 3 a _ ca w' (by decide)⟩
        | true => exact ⟨V0, 0, rfl, fun w' hk => hNf' w' hk h rfl, fun w' a ca hs => same3_fn V0 a ca w' hV0 hs⟩
      rw [he] at hwr'
      have ex := natC_len x
      repeat' (first | refine sy_seqC ?_ | refine syl_nil ?_ | refine sy_if_f rfl ?_ | refine sy_skip ?_ | refine syx_then ?_ | refine syx_go ?_ | (refine sy_region (id := 14) ?_; refine y_move ?_; refine y_move ?_; refine yv (op_callV (f := 17) (hc := fun w' _ hk _ => hN w' hk)) (k := ?_); refine y_move ?_; refine y_extract ?_; refine y_extract ?_; (refine y_new ?_; intro _); refine yn (op_storeNat (n := x)) (k := ?_); refine y_assign ?_) | (refine sy_region (id := 15) ?_; refine y_move ?_; refine y_move ?_; (refine ys op_buildSlice (k := ?_); rintro _ _ ⟨_, rfl, rfl⟩); refine yv (op_callV (f := 15) (hc := fun w' X hk hh => hwr' w' _ (blk_range (hh.has (by exact Has.append Has.here)) Seg.all))) (k := ?_); refine y_assign ?_) | (refine sy_region (id := 16) ?_; refine y_move ?_; refine yv (op_callV (hc := fun _ _ _ _ => (hha _))) (k := ?_); refine y_move ?_; refine y_move ?_; refine y_len ?_; refine y_move ?_; refine yv (op_callV (hc := fun _ _ _ _ => (hle _))) (k := ?_); refine yv (op_lss (hr := hl1)) (k := ?_); refine y_pick ?_) | (refine sy_region (id := 18) ?_; refine y_move ?_; refine yv (op_callV (hc := fun _ _ _ _ => (hha _))) (k := ?_); refine y_move ?_; refine y_move ?_; refine y_len ?_; refine y_move ?_; refine yv (op_callV (hc := fun _ _ _ _ => (hle _))) (k := ?_); refine yv (op_gtr (hr := hl2)) (k := ?_); refine y_pick ?_) | fail)
      exact syx_cut (_, x, e) hsm (by exact Sub.go) (by exact SubR.go2)
    · have hl1 : decide ((n0 : Int) < (len : Int)) = false := decide_eq_false (by omega)
      have hl2 : decide ((len : Int) < (n0 : Int)) = true := decide_eq_true (by omega)
      have hN := fun w' hk => hNl' w' hk h
      repeat' (first | refine sy_seqC ?_ | refine syl_nil ?_ | refine sy_if_t rfl ?_ | refine sy_if_f rfl ?_ | refine syx_then ?_ | refine syx_go ?_ | (refine sy_region (id := 14) ?_; refine y_move ?_; refine y_move ?_; refine yv (op_callV (f := 17) (hc := fun w' _ hk _ => hN w' hk)) (k := ?_); refine y_move ?_; refine y_extract ?_; refine y_extract ?_; (refine y_new ?_; intro _); refine yn (op_storeNat (n := 0)) (k := ?_); refine y_assign ?_) | (refine sy_region (id := 15) ?_; refine y_move ?_; refine y_move ?_; (refine ys op_buildSlice (k := ?_); rintro _ _ ⟨_, rfl, rfl⟩); refine yv (op_callV (f := 15) (hc := fun w' X hk hh => hwr' w' _ (blk_range (hh.has (by exact Has.append Has.here)) Seg.all))) (k := ?_); refine y_assign ?_) | (refine sy_region (id := 16) ?_; refine y_move ?_; refine yv (op_callV (hc := fun _ _ _ _ => (hha _))) (k := ?_); refine y_move ?_; refine y_move ?_; refine y_len ?_; refine y_move ?_; refine yv (op_callV (hc := fun _ _ _ _ => (hle _))) (k := ?_); refine yv (op_lss (hr := hl1)) (k := ?_); refine y_pick ?_) | (refine sy_region (id := 18) ?_; refine y_move ?_; refine yv (op_callV (hc := fun _ _ _ _ => (hha _))) (k := ?_); refine y_move ?_; refine y_move ?_; refine y_len ?_; refine y_move ?_; refine yv (op_callV (hc := fun _ _ _ _ => (hle _))) (k := ?_); refine yv (op_gtr (hr := hl2)) (k := ?_); refine y_pick ?_) | (refine sy_region (id := 19) ?_; refine y_assign ?_) | fail)
      exact syx_cut (_, 0, 5) (fun w' a ca _ => same3_no 5 a _ ca w' (by decide)) (by exact Sub.go) (by exact SubR.go2)
  rintro ⟨b17, x, e⟩ hsm
  dsimp only at hsm ⊢
  have ex := natC_len x
  replace hwr2 := hwr2 m m'
  rw [show [m, m'].all id = (m && m') by cases m <;> cases m' <;> rfl] at hwr2
  have h39 := fun w' a n c => same3_no 3 a n c w' (by decide)
  cases hb : m && m' with
  | false =>
    rw [hb] at hwr2
    have han' := fun w' (hk : Keep No w w') => han w' hk hb
    have hpn' := fun w' (hk : Keep No w w') => hpn w' hk hb
    repeat' (first | refine sy_seqC ?_ | refine syl_nil ?_ | refine sy_if_t rfl ?_ | refine sy_if_f rfl ?_ | refine sy_skip ?_ | refine sy_ret ?_ | refine syx_then ?_ | refine syx_go ?_ | refine syx_then_ret ?_ | (refine sy_region (id := 20) ?_; refine y_move ?_; refine y_move ?_; refine y_move ?_; (refine ys op_buildSlice (k := ?_); rintro _ _ ⟨_, rfl, rfl⟩); refine yv (op_callV (f := 15) (hc := fun w' X hk hh => hwr2 w' _ (blk_range (hh.has (by exact Has.append Has.here)) Seg.all))) (k := ?_); refine y_assign ?_) | (refine sy_region (id := 21) ?_; refine y_move ?_; refine yv (op_loads (B := natC V0)) (k := ?_); refine yv (op_loads (B := natC V1)) (k := ?_); refine yv (op_callV (f := 19) (hc := fun w' _ hk _ => han' w' hk)) (k := ?_); refine y_move ?_; refine y_extract ?_; refine y_extract ?_; (refine y_new ?_; intro _); refine yn (op_storeNat (n := 0)) (k := ?_); refine y_assign ?_) | (refine sy_region (id := 22) ?_; refine y_move ?_; refine yv (op_loads (B := natC V0)) (k := ?_); refine yv (op_loads (B := natC V1)) (k := ?_); refine yv (op_callV (f := 20) (hc := fun w' _ hk _ => hpn' w' hk)) (k := ?_); refine y_move ?_; refine y_extract ?_; refine y_extract ?_; (refine y_new ?_; intro _); refine yn (op_storeNat (n := 0)) (k := ?_); refine y_assign ?_) | (refine sy_region (id := 23) ?_; refine yv (op_loads (B := natC x)) (k := ?_); refine y_move ?_; refine y_move ?_; refine y_move ?_; refine yv (op_callV (f := 11) (hc := fun w' X hk hh => hsm w' _ _ (row_sla hh (by exact Has.append Has.go)))) (k := ?_); refine y_unOp ?_) | (refine sy_region (id := 25) ?_; refine y_move ?_; refine y_neq ?_) | (refine sy_region (id := 26) ?_; refine yv (op_loads (B := natC 0)) (k := ?_); refine y_move ?_; refine y_move ?_; refine yv (op_callV (hc := fun _ _ _ _ => (h39 _ _ _ _))) (k := ?_); refine y_move ?_; refine yv (op_loads (B := natC 0)) (k := ?_); refine y_move ?_; refine y_move ?_; refine yv (op_callV (hc := fun _ _ _ _ => (h39 _ _ _ _))) (k := ?_); refine y_pick ?_; refine y_move ?_; refine yv (op_callV (f := 5) (hc := fun w' _ hk _ => known3_fn w' (hG.to hk))) (k := ?_); refine y_pick ?_; refine y_assign ?_) | fail)
    exact ret1 rfl (resTmp rfl) SubR.nil ⟨rfl, rfl⟩
  | true =>
    rw [hb] at hwr2
    have haf' := fun w' (hk : Keep No w w') => haf w' hk hb
    have hpf' := fun w' (hk : Keep No w w') => hpf w' hk hb
    repeat' (first | refine sy_seqC ?_ | refine syl_nil ?_ | refine sy_if_f rfl ?_ | refine sy_skip ?_ | refine syx_then ?_ | refine syx_go ?_ | (refine sy_region (id := 20) ?_; refine y_move ?_; refine y_move ?_; refine y_move ?_; (refine ys op_buildSlice (k := ?_); rintro _ _ ⟨_, rfl, rfl⟩); refine yv (op_callV (f := 15) (hc := fun w' X hk hh => hwr2 w' _ (blk_range (hh.has (by exact Has.append Has.here)) Seg.all))) (k := ?_); refine y_assign ?_) | (refine sy_region (id := 21) ?_; refine y_move ?_; refine yv (op_loads (B := natC V0)) (k := ?_); refine yv (op_loads (B := natC V1)) (k := ?_); refine yv (op_callV (f := 19) (hc := fun w' _ hk _ => haf' w' hk)) (k := ?_); refine y_move ?_; refine y_extract ?_; refine y_extract ?_; (refine y_new ?_; intro _); refine yn (op_storeNat (n := s)) (k := ?_); refine y_assign ?_) | (refine sy_region (id := 22) ?_; refine y_move ?_; refine yv (op_loads (B := natC V0)) (k := ?_); refine yv (op_loads (B := natC V1)) (k := ?_); refine yv (op_callV (f := 20) (hc := fun w' _ hk _ => hpf' w' hk)) (k := ?_); refine y_move ?_; refine y_extract ?_; refine y_extract ?_; (refine y_new ?_; intro _); refine yn (op_storeNat (n := p)) (k := ?_); refine y_assign ?_) | (refine sy_region (id := 23) ?_; refine yv (op_loads (B := natC x)) (k := ?_); refine y_move ?_; refine y_move ?_; refine y_move ?_; refine yv (op_callV (f := 11) (hc := fun w' X hk hh => hsm w' _ _ (row_sla hh (by exact Has.append Has.go)))) (k := ?_); refine y_unOp ?_) | (refine sy_region (id := 25) ?_; refine y_move ?_; refine y_neq ?_) | fail)
    rename_i b20 b21 b23
    refine sy_drawA (id := 27) mixed ?_
    (refine sye_part 19 19 [[], [], [], [], [], [2, 3, 4], [0, 1, 2, 3, 4, 5], [0, 1, 2, 3, 4, 5, 6], [0, 1, 2, 3, 4, 5, 6, 7], [0, 1, 2, 3, 4, 5, 6, 7], [0, 1, 2, 3, 4, 5, 6, 7], [0, 1, 2, 3, 4, 5, 6, 7], [0, 1, 2, 3, 4, 5, 6, 7], [0, 1, 2, 3, 4, 5, 6, 7, 10, 11, 12], [0, 1, 2, 3, 4, 5, 6, 7, 8, 9, 10, 11, 12, 13], [0, 1, 2, 3, 4, 5, 6, 7, 8, 9, 10, 11, 12, 13, 14], [0, 1, 2, 3, 4, 5, 6, 7, 8, 9, 10, 11, 12, 13, 14, 15], [0, 1, 2, 3, 4, 5, 6, 7, 8, 9, 10, 11, 12, 13, 14, 15, 16], [0, 1, 2, 3, 4, 5, 6, 7, 8, 9, 10, 11, 12, 13, 14, 15, 16, 17], [0, 1, 2, 3, 4, 5, 6, 7, 8, 9, 10, 11, 12, 13, 14, 15, 16, 17, 18]] [[], [], [], [], [], [], [], [], [], [], [], [], [], [], [], [], [], [], [], []] none rfl ?_ ?_ ?_; kernel_rfl; kernel_rfl; refine dcE (fun _ _ => op_loads (B := natC s)) (k := ?_); refine e_move ?_; refine e_move ?_; refine e_move ?_; refine e_move ?_; try refine dh_0nE (h := ?_))
    refine dh_rE (R := fun _ => RefG s) (fun _ _ _ => rfl) (fun ρ hρ => op_call0 (f := 21) (hc := fun w' X hk hh => qA w' _ _ _ _ (row_sla hh (by exact Has.append Has.go)) (row_sla hh (by exact Has.append Has.go)))) (h := ?_)
    refine dcE (u := .bool true) (fun ρ hρ => ?_) (k := ?_)
    · obtain ⟨⟨b0, d0, p1, p2⟩, -⟩ := hρ
      refine op_callV (f := 11) (vs := [natV s, .int .i64 0, .slice b0 (nd 65536 s) d0, .int .i64 0]) (ha := by show some [_, _, (ρ 5).1, _] = _; rw [p1]; rfl) (hc := fun w' X hk hh => ?_)
      have hh : Holds w.heap.size No (((ρ 5).2 ++ _) ++ X) w' := hh
      rw [p2] at hh
      exact same3_fn s b0 d0 w' hW_s (row_sla hh (by exact Has.append Has.go))
    (skip; refine e_move ?_; refine dcE (fun _ _ => op_loads (B := natC p) (hL := by exact Has.appR Has.go)) (k := ?_); refine e_move ?_; refine e_move ?_; refine e_move ?_; refine e_move ?_; try refine dh_0nE (h := ?_))
    refine dh_rE (R := fun _ => RefG p) (fun _ _ _ => rfl) (fun ρ hρ => ?_) (h := ?_)
    · refine op_call0 (f := 22) (vs := [.int .i64 (i : Int), .slice a9 (nd 65536 V0) c9, .slice a10 (nd 65536 V1) c10]) (hc := fun w' X hk hh => ?_)
      have hh : Holds w.heap.size No (((ρ 5).2 ++ _) ++ X) w' := hh
      exact qM w' a9 c9 a10 c10 (row_sla hh (by exact Has.append (Has.appR Has.go))) (row_sla hh (by exact Has.append (Has.appR Has.go)))
    refine dcE (u := .bool true) (fun ρ hρ => ?_) (k := ?_)
    · obtain ⟨⟨b0, d0, p1, p2⟩, -⟩ := hρ
      refine op_callV (f := 11) (vs := [natV p, .int .i64 0, .slice b0 (nd 65536 p) d0, .int .i64 0]) (ha := by show some [_, _, (ρ 13).1, _] = _; rw [p1]; rfl) (hc := fun w' X hk hh => ?_)
      have hh : Holds w.heap.size No (((ρ 13).2 ++ _) ++ X) w' := hh
      rw [p2] at hh
      exact same3_fn p b0 d0 w' hW_p (row_sla hh (by exact Has.append Has.go))
    (skip; refine e_pick ?_; refine e_move ?_; refine dcE (fun _ _ => op_callV (f := 5) (hc := fun w' _ hk _ => known3_fn w' (hG.to hk))) (k := ?_); refine e_pick ?_; try refine dh_0nE (h := ?_))
    refine dh_0E (h := ?_)
    rintro ρ -
    (refine sya_list [[], [], [], [], [], [2, 3, 4], [0, 1, 2, 3, 4, 5], [0, 1, 2, 3, 4, 5, 6], [0, 1, 2, 3, 4, 5, 6, 7], [0, 1, 2, 3, 4, 5, 6, 7], [0, 1, 2, 3, 4, 5, 6, 7], [0, 1, 2, 3, 4, 5, 6, 7], [0, 1, 2, 3, 4, 5, 6, 7], [0, 1, 2, 3, 4, 5, 6, 7, 10, 11, 12], [0, 1, 2, 3, 4, 5, 6, 7, 8, 9, 10, 11, 12, 13], [0, 1, 2, 3, 4, 5, 6, 7, 8, 9, 10, 11, 12, 13, 14], [0, 1, 2, 3, 4, 5, 6, 7, 8, 9, 10, 11, 12, 13, 14, 15], [0, 1, 2, 3, 4, 5, 6, 7, 8, 9, 10, 11, 12, 13, 14, 15, 16], [0, 1, 2, 3, 4, 5, 6, 7, 8, 9, 10, 11, 12, 13, 14, 15, 16, 17], [0, 1, 2, 3, 4, 5, 6, 7, 8, 9, 10, 11, 12, 13, 14, 15, 16, 17, 18]] ?_ ?_; kernel_rfl)
    refine SyL.weaken (fr' := [(191, .bool true)]) (L' := []) ?_ (by exact Sub.go) SubR.nil
    repeat' (first | refine syl_nil ?_ | refine sy_ret ?_ | refine syx_then ?_ | refine syx_go ?_ | (refine syl_id ?_; first | refine y_assign ?_ | fail) | fail)
    exact ret1 rfl (resTmp rfl) SubR.nil ⟨rfl, rfl⟩
end Go.Proofs.YtajepigjkcaghaaGreatDoor
