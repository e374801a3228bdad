/- The statements about layer group, walked: GroupPowers. -/
import Derived.Test.YtjidkoabdmjgkaaDoorULaw03k
set_option linter.all false
namespace Go.Proofs.YtjidkoabdmjgkaaDoor
open Go Go.Sy Go.Nt Go.RowKit
attribute [local irreducible] Sy SyL SyX Sy.Fn callFunc natC rowN refC iC gP gQ gL memB safeC fixB
set_option maxRecDepth 10000
set_option maxHeartbeats 2000000 in
theorem groupPowers_fn (z : Int) (a0 a1 : Option Addr) (n0 c0 n1 c1 : Nat) (l0 l1 : List UInt8) (w : World) (hG : GT w) (hn0 : l0.length = n0) (hc0 : n0 ≤ c0) (hs0 : SlA w a0 (l0.map v8)) (hn1 : l1.length = n1) (hc1 : n1 ≤ c1) (hs1 : SlA w a1 (l1.map v8)) :
    Sy.Fn Tryd.prog 4 [.int .i64 z, .slice a0 n0 c0, .slice a1 n1 c1] w No (Gives (.bool true)) := by
  refine fn_enter Tryd.func4 rfl Tryd.ntmps4 (by simp) Holds.nil ?_
  by_cases hb0 : 128 < n0
  · have g1 : decide ((128 : Int) < (n0 : Int)) = true := decide_eq_true (by omega)
    repeat' (first | refine sy_seqC ?_ | refine syl_nil ?_ | refine sy_if_t rfl ?_ | refine sy_ret ?_ | refine syx_then ?_ | refine syx_go ?_ | refine syx_then_ret ?_ | (refine sy_region (id := 0) ?_; refine y_assign ?_) | (refine sy_region (id := 1) ?_; refine y_move ?_; refine y_len ?_; refine yv (op_gtr (hr := g1)) (k := ?_); refine y_move ?_; refine syl_skip rfl rfl rfl ?_; refine syl_skip rfl rfl rfl ?_; refine syl_skip rfl rfl rfl ?_; refine y_pick ?_) | (refine sy_region (id := 2) ?_; refine yv (op_callV (f := 6) (hc := fun w' _ hk _ => known3_fn w' (hG.to hk))) (k := ?_); refine y_assign ?_) | fail)
    exact ret1 rfl (resTmp rfl) SubR.nil ⟨rfl, rfl⟩
  have g1 : decide ((128 : Int) < (n0 : Int)) = false := decide_eq_false (by omega)
  by_cases hb1 : 128 < n1
  · have g2 : decide ((128 : Int) < (n1 : Int)) = true := decide_eq_true (by omega)
    repeat' (first | refine sy_seqC ?_ | refine syl_nil ?_ | refine sy_if_t rfl ?_ | refine sy_ret ?_ | refine syx_then ?_ | refine syx_go ?_ | refine syx_then_ret ?_ | (refine sy_region (id := 0) ?_; refine y_assign ?_) | (refine sy_region (id := 1) ?_; refine y_move ?_; refine y_len ?_; refine yv (op_gtr (hr := g1)) (k := ?_); refine y_move ?_; refine y_move ?_; refine y_len ?_; refine yv (op_gtr (hr := g2)) (k := ?_); refine y_pick ?_) | (refine sy_region (id := 2) ?_; refine yv (op_callV (f := 6) (hc := fun w' _ hk _ => known3_fn w' (hG.to hk))) (k := ?_); refine y_assign ?_) | fail)
    exact ret1 rfl (resTmp rfl) SubR.nil ⟨rfl, rfl⟩
  have g2 : decide ((128 : Int) < (n1 : Int)) = false := decide_eq_false (by omega)
  have hV0 := bevW (l := l0) (by omega)
  have hm0 := fun w' (hk : Keep No w w') => made3s_fn a0 n0 c0 l0 w' hn0 hc0 (hs0.to hk (fun _ h => .inr h)).sla (by omega)
  have hf0 := fun w' (hk : Keep No w w') => from_fn a0 n0 c0 l0 w' hn0 (hs0.to hk (fun _ h => .inr h)).sla (by omega)
  have hV1 := bevW (l := l1) (by omega)
  have hm1 := fun w' (hk : Keep No w w') => made3s_fn a1 n1 c1 l1 w' hn1 hc1 (hs1.to hk (fun _ h => .inr h)).sla (by omega)
  have hf1 := fun w' (hk : Keep No w w') => from_fn a1 n1 c1 l1 w' hn1 (hs1.to hk (fun _ h => .inr h)).sla (by omega)
  have hf0' := hf0
  have hf1' := hf1
  unfold RefG at hf0' hf1'
  generalize bev 256 (bn l0) = V0 at *
  have e0 := natC_len V0
  have k0 := ndW hV0
  generalize bev 256 (bn l1) = V1 at *
  have e1 := natC_len V1
  have k1 := ndW hV1
  have ez := natC_len 0
  by_cases hz : 1 ≤ z ∧ z ≤ 4
  rotate_left
  · have hzm := fun w' a ca => zmember_bad z a (nd 65536 V0) ca w' hz
    have hsc := fun w' a ca => scalar3_bad z a (nd 65536 V1) ca w' hz
    have hgp := fun w' => gpower_bad z V1 w' hz
    have hge := fun w' => gexp_bad z V0 V1 w' hz
    have hwr := fun w' a n c => wrong_bad z a n c w' hz
    have hsm := fun w' a n c => same3_no 2 a n c w' (by decide)
    repeat' (first | refine sy_seqC ?_ | refine syl_nil ?_ | refine sy_if_t rfl ?_ | refine sy_if_f rfl ?_ | refine sy_skip ?_ | refine sy_ret ?_ | refine syx_then ?_ | refine syx_go ?_ | refine syx_then_ret ?_ | (refine sy_region (id := 0) ?_; refine y_assign ?_) | (refine sy_region (id := 1) ?_; refine y_move ?_; refine y_len ?_; refine yv (op_gtr (hr := g1)) (k := ?_); refine y_move ?_; refine y_move ?_; refine y_len ?_; refine yv (op_gtr (hr := g2)) (k := ?_); refine y_pick ?_) | (refine sy_region (id := 3) ?_; refine y_move ?_; (refine ys (op_call0 (f := 8) (hc := fun w' X hk hh => hf0' w' hk)) (k := ?_); rintro _ _ ⟨R, rfl, a8, c8, rfl, rfl⟩); refine y_move ?_; (refine ys (op_call0 (f := 8) (hc := fun w' X hk hh => hf1' w' hk)) (k := ?_); rintro _ _ ⟨R, rfl, a9, c9, rfl, rfl⟩); refine y_assign ?_; refine y_assign ?_) | (refine sy_region (id := 4) ?_; refine y_move ?_; refine y_move ?_; refine yv (op_callV (f := 7) (hc := fun w' _ hk _ => hm1 w' hk)) (k := ?_); refine yv (op_callV (hc := fun _ _ _ _ => (hgp _))) (k := ?_); refine y_move ?_; refine y_extract ?_; refine y_extract ?_; (refine y_new ?_; intro _); refine yn (op_storeNat (n := 0)) (k := ?_); refine y_assign ?_) | (refine sy_region (id := 5) ?_; refine y_move ?_; refine y_move ?_; refine yv (op_callV (f := 7) (hc := fun w' _ hk _ => hm0 w' hk)) (k := ?_); refine y_move ?_; refine yv (op_callV (f := 7) (hc := fun w' _ hk _ => hm1 w' hk)) (k := ?_); refine yv (op_callV (hc := fun _ _ _ _ => (hge _))) (k := ?_); refine y_move ?_; refine y_extract ?_; refine y_extract ?_; (refine y_new ?_; intro _); refine yn (op_storeNat (n := 0)) (k := ?_); refine y_assign ?_) | (refine sy_region (id := 6) ?_; refine y_move ?_; refine y_move ?_; refine y_move ?_; refine yv (op_callV (hc := fun _ _ _ _ => (hsc _ _ _))) (k := ?_); (refine ys op_buildSlice (k := ?_); rintro _ _ ⟨_, rfl, rfl⟩); refine yv (op_callV (hc := fun _ _ _ _ => (hwr _ _ _ _))) (k := ?_); refine y_assign ?_) | (refine sy_region (id := 7) ?_; refine y_move ?_; refine y_move ?_; refine y_move ?_; refine yv (op_callV (hc := fun _ _ _ _ => (hzm _ _ _))) (k := ?_); refine y_move ?_; refine y_move ?_; refine yv (op_callV (hc := fun _ _ _ _ => (hsc _ _ _))) (k := ?_); (refine ys op_buildSlice (k := ?_); rintro _ _ ⟨_, rfl, rfl⟩); refine yv (op_callV (hc := fun _ _ _ _ => (hwr _ _ _ _))) (k := ?_); refine y_assign ?_) | (refine sy_region (id := 8) ?_; refine y_move ?_; refine y_neq ?_) | (refine sy_region (id := 9) ?_; refine yv (op_loads (B := natC 0)) (k := ?_); refine y_move ?_; refine y_move ?_; refine yv (op_callV (hc := fun _ _ _ _ => (hsm _ _ _ _))) (k := ?_); refine y_move ?_; refine yv (op_loads (B := natC 0)) (k := ?_); refine y_move ?_; refine y_move ?_; refine yv (op_callV (hc := fun _ _ _ _ => (hsm _ _ _ _))) (k := ?_); refine y_pick ?_; refine y_move ?_; refine yv (op_callV (f := 6) (hc := fun w' _ hk _ => known3_fn w' (hG.to hk))) (k := ?_); refine y_pick ?_; refine y_assign ?_) | fail)
    exact ret1 rfl (resTmp rfl) SubR.nil ⟨rfl, rfl⟩
  obtain ⟨i, rfl⟩ : ∃ i : Nat, z = (i : Int) := ⟨z.toNat, by omega⟩
  have h0 : 1 ≤ i := by omega
  have h5 : i ≤ 4 := by omega
  have hP : 0 < gP i := Nat.lt_trans Nat.zero_lt_one (gP_one i h0 h5)
  have hzm := fun w' a ca (h : SlA w' a (refC V0)) => zmember_fn i a ca V0 w' h0 h5 h (by omega)
  have hsc := fun w' a ca (h : SlA w' a (refC V1)) => scalar3_fn i a ca V1 w' h0 h5 h (by omega)
  have hwr1 := fun s w' b (h : w'.rangeAt b 0 ([s].map Value.bool)) => wrong_fn i b 0 1 1 [s] w' h0 h5 rfl (by decide) h
  have hwr2 := fun m s w' b (h : w'.rangeAt b 0 ([m, s].map Value.bool)) => wrong_fn i b 0 2 2 [m, s] w' h0 h5 rfl (by decide) h
  have hpn := fun w' (hk : Keep No w w') => gpower_no i V1 w' h0 h5 (hG.to hk) hV1
  have hpf := fun w' (hk : Keep No w w') => gpower_fn i V1 w' h0 h5 (hG.to hk) hV1
  have hx1 := fun w' (hk : Keep No w w') => gexp_nox i V0 V1 w' h0 h5 (hG.to hk) hV0 hV1
  have hx2 := fun w' (hk : Keep No w w') => gexp_noe i V0 V1 w' h0 h5 (hG.to hk) hV0 hV1
  have hx3 := fun w' (hk : Keep No w w') => gexp_fn i V0 V1 w' h0 h5 (hG.to hk) hV0 hV1
  have qP := fun w' a ca (h : SlA w' a (refC V1)) => zpower_fn i a ca V1 w' h0 h5 h (by omega)
  have qE := fun w' a ca b cb (ha : SlA w' a (refC V0)) (hb : SlA w' b (refC V1)) => zexp_fn i a b ca cb V0 V1 w' h0 h5 ha hb (by omega) (by omega)
  have hW_r := Nat.lt_trans (Nat.mod_lt (4 ^ V1) hP) (gP_W i h0 h5)
  have hW_s := Nat.lt_trans (Nat.mod_lt (V0 ^ V1) hP) (gP_W i h0 h5)
  generalize 4 ^ V1 % gP i = r at *
  generalize V0 ^ V1 % gP i = s at *
  have er := natC_len r
  have es := natC_len s
  have kr := ndW hW_r
  have ks := ndW hW_s
  generalize memB (gP i) (gQ i) V0 = m at *
  by_cases hQ : V1 < gQ i
  rotate_left
  · simp only [decide_eq_false hQ] at hsc
    replace hwr1 := hwr1 false
    replace hwr2 := hwr2 m false
    rw [show [m, false].all id = false by cases m <;> rfl] at hwr2
    have hE : ∀ w', Keep No w w' → Sy.Fn Tryd.prog 19 [.int .i64 (i : Int), natV V0, natV V1] w' No (Gives (.tuple #[natV 0, .int .i64 3])) := by
      cases m with
      | false => exact fun w' hk => hx1 w' hk rfl
      | true => exact fun w' hk => hx2 w' hk rfl hQ
    have hsm := fun w' a n c => same3_no 3 a n c w' (by decide)
    repeat' (first | refine sy_seqC ?_ | refine syl_nil ?_ | refine sy_if_t rfl ?_ | refine sy_if_f rfl ?_ | refine sy_skip ?_ | refine sy_ret ?_ | refine syx_then ?_ | refine syx_go ?_ | refine syx_then_ret ?_ | (refine sy_region (id := 0) ?_; refine y_assign ?_) | (refine sy_region (id := 1) ?_; refine y_move ?_; refine y_len ?_; refine yv (op_gtr (hr := g1)) (k := ?_); refine y_move ?_; refine y_move ?_; refine y_len ?_; refine yv (op_gtr (hr := g2)) (k := ?_); refine y_pick ?_) | (refine sy_region (id := 3) ?_; refine y_move ?_; (refine ys (op_call0 (f := 8) (hc := fun w' X hk hh => hf0' w' hk)) (k := ?_); rintro _ _ ⟨R, rfl, a8, c8, rfl, rfl⟩); refine y_move ?_; (refine ys (op_call0 (f := 8) (hc := fun w' X hk hh => hf1' w' hk)) (k := ?_); rintro _ _ ⟨R, rfl, a9, c9, rfl, rfl⟩); refine y_assign ?_; refine y_assign ?_) | (refine sy_region (id := 4) ?_; refine y_move ?_; refine y_move ?_; refine yv (op_callV (f := 7) (hc := fun w' _ hk _ => hm1 w' hk)) (k := ?_); refine yv (op_callV (f := 18) (hc := fun w' _ hk _ => (fun w' hk => hpn w' hk hQ) w' hk)) (k := ?_); refine y_move ?_; refine y_extract ?_; refine y_extract ?_; (refine y_new ?_; intro _); refine yn (op_storeNat (n := 0)) (k := ?_); refine y_assign ?_) | (refine sy_region (id := 5) ?_; refine y_move ?_; refine y_move ?_; refine yv (op_callV (f := 7) (hc := fun w' _ hk _ => hm0 w' hk)) (k := ?_); refine y_move ?_; refine yv (op_callV (f := 7) (hc := fun w' _ hk _ => hm1 w' hk)) (k := ?_); refine yv (op_callV (f := 19) (hc := fun w' _ hk _ => hE w' hk)) (k := ?_); refine y_move ?_; refine y_extract ?_; refine y_extract ?_; (refine y_new ?_; intro _); refine yn (op_storeNat (n := 0)) (k := ?_); refine y_assign ?_) | (refine sy_region (id := 6) ?_; refine y_move ?_; refine y_move ?_; refine y_move ?_; refine yv (op_callV (f := 20) (hc := fun w' X hk hh => hsc w' _ _ (row_sla hh (by exact Has.append Has.go)))) (k := ?_); (refine ys op_buildSlice (k := ?_); rintro _ _ ⟨_, rfl, rfl⟩); refine yv (op_callV (f := 12) (hc := fun w' X hk hh => hwr1 w' _ (blk_range (hh.has (by exact Has.append Has.here)) Seg.all))) (k := ?_); refine y_assign ?_) | (refine sy_region (id := 7) ?_; refine y_move ?_; refine y_move ?_; refine y_move ?_; refine yv (op_callV (f := 9) (hc := fun w' X hk hh => hzm w' _ _ (row_sla hh (by exact Has.append Has.go)))) (k := ?_); refine y_move ?_; refine y_move ?_; refine yv (op_callV (f := 20) (hc := fun w' X hk hh => hsc w' _ _ (row_sla hh (by exact Has.append Has.go)))) (k := ?_); (refine ys op_buildSlice (k := ?_); rintro _ _ ⟨_, rfl, rfl⟩); refine yv (op_callV (f := 12) (hc := fun w' X hk hh => hwr2 w' _ (blk_range (hh.has (by exact Has.append Has.here)) Seg.all))) (k := ?_); refine y_assign ?_) | (refine sy_region (id := 8) ?_; refine y_move ?_; refine y_neq ?_) | (refine sy_region (id := 9) ?_; refine yv (op_loads (B := natC 0)) (k := ?_); refine y_move ?_; refine y_move ?_; refine yv (op_callV (hc := fun _ _ _ _ => (hsm _ _ _ _))) (k := ?_); refine y_move ?_; refine yv (op_loads (B := natC 0)) (k := ?_); refine y_move ?_; refine y_move ?_; refine yv (op_callV (hc := fun _ _ _ _ => (hsm _ _ _ _))) (k := ?_); refine y_pick ?_; refine y_move ?_; refine yv (op_callV (f := 6) (hc := fun w' _ hk _ => known3_fn w' (hG.to hk))) (k := ?_); refine y_pick ?_; refine y_assign ?_) | fail)
    exact ret1 rfl (resTmp rfl) SubR.nil ⟨rfl, rfl⟩
  simp only [decide_eq_true hQ] at hsc
  replace hwr1 := hwr1 true
  cases m with
  | false =>
    replace hwr2 := hwr2 false true
    have hsm := fun w' a n c => same3_no 3 a n c w' (by decide)
    repeat' (first | refine sy_seqC ?_ | refine syl_nil ?_ | refine sy_if_f rfl ?_ | refine sy_skip ?_ | refine syx_then ?_ | refine syx_go ?_ | (refine sy_region (id := 0) ?_; refine y_assign ?_) | (refine sy_region (id := 1) ?_; refine y_move ?_; refine y_len ?_; refine yv (op_gtr (hr := g1)) (k := ?_); refine y_move ?_; refine y_move ?_; refine y_len ?_; refine yv (op_gtr (hr := g2)) (k := ?_); refine y_pick ?_) | (refine sy_region (id := 3) ?_; refine y_move ?_; (refine ys (op_call0 (f := 8) (hc := fun w' X hk hh => hf0' w' hk)) (k := ?_); rintro _ _ ⟨R, rfl, a8, c8, rfl, rfl⟩); refine y_move ?_; (refine ys (op_call0 (f := 8) (hc := fun w' X hk hh => hf1' w' hk)) (k := ?_); rintro _ _ ⟨R, rfl, a9, c9, rfl, rfl⟩); refine y_assign ?_; refine y_assign ?_) | (refine sy_region (id := 4) ?_; refine y_move ?_; refine y_move ?_; refine yv (op_callV (f := 7) (hc := fun w' _ hk _ => hm1 w' hk)) (k := ?_); refine yv (op_callV (f := 18) (hc := fun w' _ hk _ => (fun w' hk => hpf w' hk hQ) w' hk)) (k := ?_); refine y_move ?_; refine y_extract ?_; refine y_extract ?_; (refine y_new ?_; intro _); refine yn (op_storeNat (n := r)) (k := ?_); refine y_assign ?_) | (refine sy_region (id := 5) ?_; refine y_move ?_; refine y_move ?_; refine yv (op_callV (f := 7) (hc := fun w' _ hk _ => hm0 w' hk)) (k := ?_); refine y_move ?_; refine yv (op_callV (f := 7) (hc := fun w' _ hk _ => hm1 w' hk)) (k := ?_); refine yv (op_callV (f := 19) (hc := fun w' _ hk _ => (fun w' hk => hx1 w' hk rfl) w' hk)) (k := ?_); refine y_move ?_; refine y_extract ?_; refine y_extract ?_; (refine y_new ?_; intro _); refine yn (op_storeNat (n := 0)) (k := ?_); refine y_assign ?_) | (refine sy_region (id := 6) ?_; refine y_move ?_; refine y_move ?_; refine y_move ?_; refine yv (op_callV (f := 20) (hc := fun w' X hk hh => hsc w' _ _ (row_sla hh (by exact Has.append Has.go)))) (k := ?_); (refine ys op_buildSlice (k := ?_); rintro _ _ ⟨_, rfl, rfl⟩); refine yv (op_callV (f := 12) (hc := fun w' X hk hh => hwr1 w' _ (blk_range (hh.has (by exact Has.append Has.here)) Seg.all))) (k := ?_); refine y_assign ?_) | (refine sy_region (id := 7) ?_; refine y_move ?_; refine y_move ?_; refine y_move ?_; refine yv (op_callV (f := 9) (hc := fun w' X hk hh => hzm w' _ _ (row_sla hh (by exact Has.append Has.go)))) (k := ?_); refine y_move ?_; refine y_move ?_; refine yv (op_callV (f := 20) (hc := fun w' X hk hh => hsc w' _ _ (row_sla hh (by exact Has.append Has.go)))) (k := ?_); (refine ys op_buildSlice (k := ?_); rintro _ _ ⟨_, rfl, rfl⟩); refine yv (op_callV (f := 12) (hc := fun w' X hk hh => hwr2 w' _ (blk_range (hh.has (by exact Has.append Has.here)) Seg.all))) (k := ?_); refine y_assign ?_) | (refine sy_region (id := 8) ?_; refine y_move ?_; refine y_neq ?_) | fail)
    rename_i b7 b11 b6 b14
    refine sy_drawA (id := 10) mixed ?_
    (refine sye_part 7 7 [[], [], [], [], [2, 3], [0, 1, 2, 3, 4], [0, 1, 2, 3, 4, 5]] [[], [], [], [], [], [], []] none rfl ?_ ?_ ?_; kernel_rfl; kernel_rfl; refine dcE (fun _ _ => op_loads (B := natC r)) (k := ?_); refine e_move ?_; refine e_move ?_; refine e_move ?_; try refine dh_0nE (h := ?_))
    refine dh_rE (R := fun _ => RefG r) (fun _ _ _ => rfl) (fun ρ hρ => op_call0 (f := 21) (hc := fun w' X hk hh => qP w' _ _ (row_sla hh (by exact Has.append Has.go)))) (h := ?_)
    refine dcE (u := .bool true) (fun ρ hρ => ?_) (k := ?_)
    · obtain ⟨⟨b0, d0, p1, p2⟩, -⟩ := hρ
      refine op_callV (f := 17) (vs := [natV r, .int .i64 0, .slice b0 (nd 65536 r) d0, .int .i64 0]) (ha := by show some [_, _, (ρ 4).1, _] = _; rw [p1]; rfl) (hc := fun w' X hk hh => ?_)
      have hh : Holds w.heap.size No (((ρ 4).2 ++ _) ++ X) w' := hh
      rw [p2] at hh
      exact same3_fn r b0 d0 w' hW_r (row_sla hh (by exact Has.append Has.go))
    (skip; refine e_unOp ?_; try refine dh_0nE (h := ?_))
    refine dh_0E (h := ?_)
    rintro ρ ⟨⟨b0, d0, p1, p2⟩, -⟩
    (refine sya_list [[], [], [], [], [2, 3], [0, 1, 2, 3, 4], [0, 1, 2, 3, 4, 5]] ?_ ?_; kernel_rfl)
    obtain ⟨L, hL⟩ : ∃ L, L = (ρ 4).2 := ⟨_, rfl⟩
    refine SyL.weaken (fr' := [(80, .bool false), (11, .pointer (some ⟨b11, 0, none⟩)), (12, .int .i64 3), (14, .int .i64 3)]) (L' := [.blk b11 28 (natC 0)]) ?_ (by exact Sub.go) ?_
    rotate_left
    · show SubR _ ((ρ 4).2 ++ _)
      rw [p2]
      exact SubR.go2
    repeat' (first | refine sy_seqC ?_ | refine syl_nil ?_ | refine sy_if_t rfl ?_ | refine sy_if_f rfl ?_ | refine sy_skip ?_ | refine sy_ret ?_ | refine syx_then ?_ | refine syx_go ?_ | refine syx_then_ret ?_ | (refine sy_region (id := 12) ?_; refine y_move ?_; refine y_neq ?_) | (refine sy_region (id := 13) ?_; refine yv (op_loads (B := natC 0)) (k := ?_); refine y_move ?_; refine y_move ?_; refine yv (op_callV (hc := fun _ _ _ _ => (hsm _ _ _ _))) (k := ?_); refine y_move ?_; refine yv (op_callV (f := 6) (hc := fun w' _ hk _ => known3_fn w' (hG.to hk))) (k := ?_); refine y_pick ?_; refine y_assign ?_) | fail)
    exact ret1 rfl (resTmp rfl) SubR.nil ⟨rfl, rfl⟩
  | true =>
    replace hwr2 := hwr2 true true
    repeat' (first | refine sy_seqC ?_ | refine syl_nil ?_ | refine sy_if_f rfl ?_ | refine sy_skip ?_ | refine syx_then ?_ | refine syx_go ?_ | (refine sy_region (id := 0) ?_; refine y_assign ?_) | (refine sy_region (id := 1) ?_; refine y_move ?_; refine y_len ?_; refine yv (op_gtr (hr := g1)) (k := ?_); refine y_move ?_; refine y_move ?_; refine y_len ?_; refine yv (op_gtr (hr := g2)) (k := ?_); refine y_pick ?_) | (refine sy_region (id := 3) ?_; refine y_move ?_; (refine ys (op_call0 (f := 8) (hc := fun w' X hk hh => hf0' w' hk)) (k := ?_); rintro _ _ ⟨R, rfl, a8, c8, rfl, rfl⟩); refine y_move ?_; (refine ys (op_call0 (f := 8) (hc := fun w' X hk hh => hf1' w' hk)) (k := ?_); rintro _ _ ⟨R, rfl, a9, c9, rfl, rfl⟩); refine y_assign ?_; refine y_assign ?_) | (refine sy_region (id := 4) ?_; refine y_move ?_; refine y_move ?_; refine yv (op_callV (f := 7) (hc := fun w' _ hk _ => hm1 w' hk)) (k := ?_); refine yv (op_callV (f := 18) (hc := fun w' _ hk _ => (fun w' hk => hpf w' hk hQ) w' hk)) (k := ?_); refine y_move ?_; refine y_extract ?_; refine y_extract ?_; (refine y_new ?_; intro _); refine yn (op_storeNat (n := r)) (k := ?_); refine y_assign ?_) | (refine sy_region (id := 5) ?_; refine y_move ?_; refine y_move ?_; refine yv (op_callV (f := 7) (hc := fun w' _ hk _ => hm0 w' hk)) (k := ?_); refine y_move ?_; refine yv (op_callV (f := 7) (hc := fun w' _ hk _ => hm1 w' hk)) (k := ?_); refine yv (op_callV (f := 19) (hc := fun w' _ hk _ => (fun w' hk => hx3 w' hk rfl hQ) w' hk)) (k := ?_); refine y_move ?_; refine y_extract ?_; refine y_extract ?_; (refine y_new ?_; intro _); refine yn (op_storeNat (n := s)) (k := ?_); refine y_assign ?_) | (refine sy_region (id := 6) ?_; refine y_move ?_; refine y_move ?_; refine y_move ?_; refine yv (op_callV (f := 20) (hc := fun w' X hk hh => hsc w' _ _ (row_sla hh (by exact Has.append Has.go)))) (k := ?_); (refine ys op_buildSlice (k := ?_); rintro _ _ ⟨_, rfl, rfl⟩); refine yv (op_callV (f := 12) (hc := fun w' X hk hh => hwr1 w' _ (blk_range (hh.has (by exact Has.append Has.here)) Seg.all))) (k := ?_); refine y_assign ?_) | (refine sy_region (id := 7) ?_; refine y_move ?_; refine y_move ?_; refine y_move ?_; refine yv (op_callV (f := 9) (hc := fun w' X hk hh => hzm w' _ _ (row_sla hh (by exact Has.append Has.go)))) (k := ?_); refine y_move ?_; refine y_move ?_; refine yv (op_callV (f := 20) (hc := fun w' X hk hh => hsc w' _ _ (row_sla hh (by exact Has.append Has.go)))) (k := ?_); (refine ys op_buildSlice (k := ?_); rintro _ _ ⟨_, rfl, rfl⟩); refine yv (op_callV (f := 12) (hc := fun w' X hk hh => hwr2 w' _ (blk_range (hh.has (by exact Has.append Has.here)) Seg.all))) (k := ?_); refine y_assign ?_) | (refine sy_region (id := 8) ?_; refine y_move ?_; refine y_neq ?_) | fail)
    rename_i b7 b11 b6 b14
    refine sy_drawA (id := 10) mixed ?_
    (refine sye_part 7 7 [[], [], [], [], [2, 3], [0, 1, 2, 3, 4], [0, 1, 2, 3, 4, 5]] [[], [], [], [], [], [], []] none rfl ?_ ?_ ?_; kernel_rfl; kernel_rfl; refine dcE (fun _ _ => op_loads (B := natC r)) (k := ?_); refine e_move ?_; refine e_move ?_; refine e_move ?_; try refine dh_0nE (h := ?_))
    refine dh_rE (R := fun _ => RefG r) (fun _ _ _ => rfl) (fun ρ hρ => op_call0 (f := 21) (hc := fun w' X hk hh => qP w' _ _ (row_sla hh (by exact Has.append Has.go)))) (h := ?_)
    refine dcE (u := .bool true) (fun ρ hρ => ?_) (k := ?_)
    · obtain ⟨⟨b0, d0, p1, p2⟩, -⟩ := hρ
      refine op_callV (f := 17) (vs := [natV r, .int .i64 0, .slice b0 (nd 65536 r) d0, .int .i64 0]) (ha := by show some [_, _, (ρ 4).1, _] = _; rw [p1]; rfl) (hc := fun w' X hk hh => ?_)
      have hh : Holds w.heap.size No (((ρ 4).2 ++ _) ++ X) w' := hh
      rw [p2] at hh
      exact same3_fn r b0 d0 w' hW_r (row_sla hh (by exact Has.append Has.go))
    (skip; refine e_unOp ?_; try refine dh_0nE (h := ?_))
    refine dh_0E (h := ?_)
    rintro ρ ⟨⟨b0, d0, p1, p2⟩, -⟩
    (refine sya_list [[], [], [], [], [2, 3], [0, 1, 2, 3, 4], [0, 1, 2, 3, 4, 5]] ?_ ?_; kernel_rfl)
    refine SyL.weaken (fr' := [(80, .bool false), (0, .int .i64 (i : Int)), (7, .slice a8 (nd 65536 V0) c8), (8, .slice a9 (nd 65536 V1) c9), (11, .pointer (some ⟨b11, 0, none⟩)), (12, .int .i64 0), (14, .int .i64 0)]) (L' := [.blk b11 28 (natC s), .row (.slice a9 (nd 65536 V1) c9) 3 1 (nd 65536 V1) (refC V1), .row (.slice a8 (nd 65536 V0) c8) 3 1 (nd 65536 V0) (refC V0)]) ?_ (by exact Sub.go) ?_
    rotate_left
    · show SubR _ ((ρ 4).2 ++ _)
      rw [p2]
      exact SubR.go2
    repeat' (first | refine sy_seqC ?_ | refine syl_nil ?_ | refine sy_if_f rfl ?_ | refine sy_skip ?_ | refine syx_then ?_ | refine syx_go ?_ | (refine sy_region (id := 12) ?_; refine y_move ?_; refine y_neq ?_) | fail)
    refine sy_drawA (id := 14) mixed ?_
    (refine sye_part 10 10 [[], [], [], [], [], [2, 3, 4], [0, 1, 2, 3, 4, 5], [0, 1, 2, 3, 4, 5, 6], [0, 1, 2, 3, 4, 5, 6, 7], [0, 1, 2, 3, 4, 5, 6, 7, 8], [0, 1, 2, 3, 4, 5, 6, 7, 8, 9]] [[], [], [], [], [], [], [], [], [], [], []] none rfl ?_ ?_ ?_; kernel_rfl; kernel_rfl; refine dcE (fun _ _ => op_loads (B := natC s)) (k := ?_); refine e_move ?_; refine e_move ?_; refine e_move ?_; refine e_move ?_; try refine dh_0nE (h := ?_))
    refine dh_rE (R := fun _ => RefG s) (fun _ _ _ => rfl) (fun ρ hρ => op_call0 (f := 22) (hc := fun w' X hk hh => qE w' _ _ _ _ (row_sla hh (by exact Has.append Has.go)) (row_sla hh (by exact Has.append Has.go)))) (h := ?_)
    refine dcE (u := .bool true) (fun ρ hρ => ?_) (k := ?_)
    · obtain ⟨⟨b0, d0, p1, p2⟩, -⟩ := hρ
      refine op_callV (f := 17) (vs := [natV s, .int .i64 0, .slice b0 (nd 65536 s) d0, .int .i64 0]) (ha := by show some [_, _, (ρ 5).1, _] = _; rw [p1]; rfl) (hc := fun w' X hk hh => ?_)
      have hh : Holds w.heap.size No (((ρ 5).2 ++ _) ++ X) w' := hh
      rw [p2] at hh
      exact same3_fn s b0 d0 w' hW_s (row_sla hh (by exact Has.append Has.go))
    (skip; refine e_move ?_; refine dcE (fun _ _ => op_callV (f := 6) (hc := fun w' _ hk _ => known3_fn w' (hG.to hk))) (k := ?_); refine e_pick ?_; try refine dh_0nE (h := ?_))
    refine dh_0E (h := ?_)
    rintro ρ -
    (refine sya_list [[], [], [], [], [], [2, 3, 4], [0, 1, 2, 3, 4, 5], [0, 1, 2, 3, 4, 5, 6], [0, 1, 2, 3, 4, 5, 6, 7], [0, 1, 2, 3, 4, 5, 6, 7, 8], [0, 1, 2, 3, 4, 5, 6, 7, 8, 9]] ?_ ?_; kernel_rfl)
    refine SyL.weaken (fr' := [(99, .bool true)]) (L' := []) ?_ (by exact Sub.go) SubR.nil
    repeat' (first | refine syl_nil ?_ | refine sy_ret ?_ | refine syx_then ?_ | refine syx_go ?_ | (refine syl_id ?_; first | refine y_assign ?_ | fail) | fail)
    exact ret1 rfl (resTmp rfl) SubR.nil ⟨rfl, rfl⟩
end Go.Proofs.YtjidkoabdmjgkaaDoor
