/- The statements about layer modular, walked: ModularProducts. -/
import Derived.Test.YtkipmhcmdejcfaaDoorQLaw02k
set_option linter.all false
namespace Go.Proofs.YtkipmhcmdejcfaaDoor
open Go Go.Sy Go.Nt Go.RowKit
attribute [local irreducible] Sy SyL SyX Sy.Fn callFunc natC rowN refC iC facsI
set_option maxRecDepth 10000
set_option maxHeartbeats 2000000 in
theorem modularProducts_fn (a0 a1 a2 : Option Addr) (n0 c0 n1 c1 n2 c2 : Nat) (l0 l1 l2 : List UInt8) (w : World) (hn0 : l0.length = n0) (hc0 : n0 ≤ c0) (hs0 : SlA w a0 (l0.map v8)) (hn1 : l1.length = n1) (hc1 : n1 ≤ c1) (hs1 : SlA w a1 (l1.map v8)) (hn2 : l2.length = n2) (hc2 : n2 ≤ c2) (hs2 : SlA w a2 (l2.map v8)) :
    Sy.Fn Tryd.prog 11 [.slice a0 n0 c0, .slice a1 n1 c1, .slice a2 n2 c2] w No (Gives (.bool true)) := by
  refine fn_enter Tryd.func11 rfl Tryd.ntmps11 (by simp) Holds.nil ?_
  by_cases hb0 : 128 < n0
  · have g1 : decide ((128 : Int) < (n0 : Int)) = true := decide_eq_true (by omega)
    repeat' (first | refine sy_seqC ?_ | refine syl_nil ?_ | refine sy_if_t rfl ?_ | refine sy_if_f rfl ?_ | refine sy_block ?_ | refine sy_skip ?_ | refine sy_ret ?_ | refine sy_exit ?_ | refine sy_label ?_ | refine syx_then ?_ | refine syx_go ?_ | refine syx_then_ret ?_ | refine syx_then_exit ?_ | refine syx_in ?_ | refine syx_in_ret ?_ | refine syx_in_here ?_ | refine syx_in_past rfl ?_ | (apply syx_begin; (focus ((repeat (first | exact Rem.here | apply Rem.there)); done)); assumption) | (refine sy_region (id := 0) ?_; try refine y_assign ?_) | (refine sy_region (id := 1) ?_; try refine y_move ?_; try refine y_len ?_; try refine yv (op_gtr (hr := g1)) (k := ?_); try refine y_move ?_; try refine syl_skip rfl rfl rfl ?_; try refine syl_skip rfl rfl rfl ?_; try refine syl_skip rfl rfl rfl ?_; try refine y_pick ?_; try refine y_move ?_; try refine syl_skip rfl rfl rfl ?_; try refine syl_skip rfl rfl rfl ?_; try refine syl_skip rfl rfl rfl ?_; try refine y_pick ?_) | (refine sy_region (id := 2) ?_; try refine yv (op_callV (hc := fun _ _ _ _ => (known2_fn _))) (k := ?_); try refine y_assign ?_) | refine sy_region ?_ | fail)
    exact ret1 rfl (resTmp rfl) SubR.nil ⟨rfl, rfl⟩
  have g1 : decide ((128 : Int) < (n0 : Int)) = false := decide_eq_false (by omega)
  by_cases hb1 : 128 < n1
  · have g2 : decide ((128 : Int) < (n1 : Int)) = true := decide_eq_true (by omega)
    repeat' (first | refine sy_seqC ?_ | refine syl_nil ?_ | refine sy_if_t rfl ?_ | refine sy_if_f rfl ?_ | refine sy_block ?_ | refine sy_skip ?_ | refine sy_ret ?_ | refine sy_exit ?_ | refine sy_label ?_ | refine syx_then ?_ | refine syx_go ?_ | refine syx_then_ret ?_ | refine syx_then_exit ?_ | refine syx_in ?_ | refine syx_in_ret ?_ | refine syx_in_here ?_ | refine syx_in_past rfl ?_ | (apply syx_begin; (focus ((repeat (first | exact Rem.here | apply Rem.there)); done)); assumption) | (refine sy_region (id := 0) ?_; try refine y_assign ?_) | (refine sy_region (id := 1) ?_; try refine y_move ?_; try refine y_len ?_; try refine yv (op_gtr (hr := g1)) (k := ?_); try refine y_move ?_; try refine y_move ?_; try refine y_len ?_; try refine yv (op_gtr (hr := g2)) (k := ?_); try refine y_pick ?_; try refine y_move ?_; try refine syl_skip rfl rfl rfl ?_; try refine syl_skip rfl rfl rfl ?_; try refine syl_skip rfl rfl rfl ?_; try refine y_pick ?_) | (refine sy_region (id := 2) ?_; try refine yv (op_callV (hc := fun _ _ _ _ => (known2_fn _))) (k := ?_); try refine y_assign ?_) | refine sy_region ?_ | fail)
    exact ret1 rfl (resTmp rfl) SubR.nil ⟨rfl, rfl⟩
  have g2 : decide ((128 : Int) < (n1 : Int)) = false := decide_eq_false (by omega)
  by_cases hb2 : 128 < n2
  · have g3 : decide ((128 : Int) < (n2 : Int)) = true := decide_eq_true (by omega)
    repeat' (first | refine sy_seqC ?_ | refine syl_nil ?_ | refine sy_if_t rfl ?_ | refine sy_if_f rfl ?_ | refine sy_block ?_ | refine sy_skip ?_ | refine sy_ret ?_ | refine sy_exit ?_ | refine sy_label ?_ | refine syx_then ?_ | refine syx_go ?_ | refine syx_then_ret ?_ | refine syx_then_exit ?_ | refine syx_in ?_ | refine syx_in_ret ?_ | refine syx_in_here ?_ | refine syx_in_past rfl ?_ | (apply syx_begin; (focus ((repeat (first | exact Rem.here | apply Rem.there)); done)); assumption) | (refine sy_region (id := 0) ?_; try refine y_assign ?_) | (refine sy_region (id := 1) ?_; try refine y_move ?_; try refine y_len ?_; try refine yv (op_gtr (hr := g1)) (k := ?_); try refine y_move ?_; try refine y_move ?_; try refine y_len ?_; try refine yv (op_gtr (hr := g2)) (k := ?_); try refine y_pick ?_; try refine y_move ?_; try refine y_move ?_; try refine y_len ?_; try refine yv (op_gtr (hr := g3)) (k := ?_); try refine y_pick ?_) | (refine sy_region (id := 2) ?_; try refine yv (op_callV (hc := fun _ _ _ _ => (known2_fn _))) (k := ?_); try refine y_assign ?_) | refine sy_region ?_ | fail)
    exact ret1 rfl (resTmp rfl) SubR.nil ⟨rfl, rfl⟩
  have g3 : decide ((128 : Int) < (n2 : Int)) = false := decide_eq_false (by omega)
  have hV0 := bev_128 (l := l0) (by omega)
  have hm0 := fun w' (hk : Keep No w w') => made128_fn a0 n0 c0 l0 w' hn0 hc0 (hs0.to hk (fun _ h => .inr h)).sla (by omega)
  have hf0 := fun w' (hk : Keep No w w') => from_fn a0 n0 c0 l0 w' hn0 (hs0.to hk (fun _ h => .inr h)).sla (by omega)
  have hV1 := bev_128 (l := l1) (by omega)
  have hm1 := fun w' (hk : Keep No w w') => made128_fn a1 n1 c1 l1 w' hn1 hc1 (hs1.to hk (fun _ h => .inr h)).sla (by omega)
  have hf1 := fun w' (hk : Keep No w w') => from_fn a1 n1 c1 l1 w' hn1 (hs1.to hk (fun _ h => .inr h)).sla (by omega)
  have hV2 := bev_128 (l := l2) (by omega)
  have hm2 := fun w' (hk : Keep No w w') => made128_fn a2 n2 c2 l2 w' hn2 hc2 (hs2.to hk (fun _ h => .inr h)).sla (by omega)
  have hf2 := fun w' (hk : Keep No w w') => from_fn a2 n2 c2 l2 w' hn2 (hs2.to hk (fun _ h => .inr h)).sla (by omega)
  generalize bev 256 (bn l0) = V0 at *
  have e0 := natC_len V0
  have k0 := nd_w64 hV0
  generalize bev 256 (bn l1) = V1 at *
  have e1 := natC_len V1
  have k1 := nd_w64 hV1
  generalize bev 256 (bn l2) = V2 at *
  have e2 := natC_len V2
  have k2 := nd_w64 hV2
  have ez := natC_len 0
  have hz0 := fun w' => isZero_fn 0 w' (by decide)
  have hmul := fun w' => mmul_fn V0 V1 V2 w' hV0 hV1 hV2
  unfold modR at hmul
  rcases Nat.eq_zero_or_pos V2 with h | h
  · subst h
    simp only [if_pos] at hmul
    unfold RefG at hf2
    have hlen : decide (((nd 65536 0 : Nat) : Int) = 0) = true := decide_eq_true (by rw [nd_zero]; rfl)
    repeat' (first | refine sy_seqC ?_ | refine syl_nil ?_ | refine sy_if_t rfl ?_ | refine sy_if_f rfl ?_ | refine sy_block ?_ | refine sy_skip ?_ | refine sy_ret ?_ | refine sy_exit ?_ | refine sy_label ?_ | refine syx_then ?_ | refine syx_go ?_ | refine syx_then_ret ?_ | refine syx_then_exit ?_ | refine syx_in ?_ | refine syx_in_ret ?_ | refine syx_in_here ?_ | refine syx_in_past rfl ?_ | (apply syx_begin; (focus ((repeat (first | exact Rem.here | apply Rem.there)); done)); assumption) | (refine sy_region (id := 0) ?_; try refine y_assign ?_) | (refine sy_region (id := 1) ?_; try refine y_move ?_; try refine y_len ?_; try refine yv (op_gtr (hr := g1)) (k := ?_); try refine y_move ?_; try refine y_move ?_; try refine y_len ?_; try refine yv (op_gtr (hr := g2)) (k := ?_); try refine y_pick ?_; try refine y_move ?_; try refine y_move ?_; try refine y_len ?_; try refine yv (op_gtr (hr := g3)) (k := ?_); try refine y_pick ?_) | (refine sy_region (id := 3) ?_; try refine y_move ?_; try refine yv (op_callV (f := 59) (hc := fun w' _ hk _ => hm0 w' hk)) (k := ?_); try refine y_move ?_; try refine yv (op_callV (f := 59) (hc := fun w' _ hk _ => hm1 w' hk)) (k := ?_); try refine y_move ?_; try refine yv (op_callV (f := 59) (hc := fun w' _ hk _ => hm2 w' hk)) (k := ?_); try refine yv (op_callV (hc := fun _ _ _ _ => (hmul _))) (k := ?_); try refine y_move ?_; try refine y_extract ?_; try refine y_extract ?_; try (refine y_new ?_; intro _); try refine yn (op_storeNat (n := 0)) (k := ?_); try refine y_assign ?_) | (refine sy_region (id := 4) ?_; try refine y_move ?_; try (refine ys (op_call0 (f := 24) (hc := fun w' X hk hh => hf2 w' hk)) (k := ?_); rintro _ _ ⟨R, rfl, a9, c9, rfl, rfl⟩); try refine y_assign ?_) | (refine sy_region (id := 5) ?_; try refine y_move ?_; try refine y_len ?_; try refine yv (op_eql (hr := hlen)) (k := ?_)) | (refine sy_region (id := 6) ?_; try refine yv (op_loads (B := natC 0)) (k := ?_); try refine yv (op_callV (hc := fun _ _ _ _ => (hz0 _))) (k := ?_); try refine y_move ?_; try refine y_move ?_; try refine y_eql ?_; try refine y_pick ?_; try refine y_move ?_; try refine yv (op_callV (hc := fun _ _ _ _ => (known2_fn _))) (k := ?_); try refine y_pick ?_; try refine y_assign ?_) | refine sy_region ?_ | fail)
    exact ret1 rfl (resTmp rfl) SubR.nil ⟨rfl, rfl⟩
  · simp only [if_neg (show ¬ V2 = 0 by omega)] at hmul
    have hnz := (nd_eq_zero 65536 V2 (by decide)).1
    have hlen : decide (((nd 65536 V2 : Nat) : Int) = 0) = false := decide_eq_false (by omega)
    have hrW : V0 * V1 % V2 < 18446744073709551616 ^ 16 := Nat.lt_trans (Nat.mod_lt _ h) hV2
    have hq := fun w' b0 d0 b1 d1 b2 d2 (h0 : SlA w' b0 (refC V0)) (h1 : SlA w' b1 (refC V1)) (h2 : SlA w' b2 (refC V2)) => qmul_fn b0 b1 b2 d0 d1 d2 V0 V1 V2 w' h0 h1 h2 (by omega) (by omega) (by omega) h
    have kr := nd_w64 hrW
    have er := natC_len (V0 * V1 % V2)
    generalize V0 * V1 % V2 = r at *
    have hsm := fun w' b d (h : SlA w' b (refC r)) => same2_fn r r b d w' hrW h (by omega)
    rw [decide_eq_true (rfl : r = r)] at hsm
    have hf2' := hf2
    unfold RefG at hf2'
    repeat' (first | refine sy_seqC ?_ | refine syl_nil ?_ | refine sy_if_t rfl ?_ | refine sy_if_f rfl ?_ | refine sy_block ?_ | refine sy_skip ?_ | refine sy_ret ?_ | refine sy_exit ?_ | refine sy_label ?_ | refine syx_then ?_ | refine syx_go ?_ | refine syx_then_ret ?_ | refine syx_then_exit ?_ | refine syx_in ?_ | refine syx_in_ret ?_ | refine syx_in_here ?_ | refine syx_in_past rfl ?_ | (apply syx_begin; (focus ((repeat (first | exact Rem.here | apply Rem.there)); done)); assumption) | (refine sy_region (id := 0) ?_; try refine y_assign ?_) | (refine sy_region (id := 1) ?_; try refine y_move ?_; try refine y_len ?_; try refine yv (op_gtr (hr := g1)) (k := ?_); try refine y_move ?_; try refine y_move ?_; try refine y_len ?_; try refine yv (op_gtr (hr := g2)) (k := ?_); try refine y_pick ?_; try refine y_move ?_; try refine y_move ?_; try refine y_len ?_; try refine yv (op_gtr (hr := g3)) (k := ?_); try refine y_pick ?_) | (refine sy_region (id := 3) ?_; try refine y_move ?_; try refine yv (op_callV (f := 59) (hc := fun w' _ hk _ => hm0 w' hk)) (k := ?_); try refine y_move ?_; try refine yv (op_callV (f := 59) (hc := fun w' _ hk _ => hm1 w' hk)) (k := ?_); try refine y_move ?_; try refine yv (op_callV (f := 59) (hc := fun w' _ hk _ => hm2 w' hk)) (k := ?_); try refine yv (op_callV (hc := fun _ _ _ _ => (hmul _))) (k := ?_); try refine y_move ?_; try refine y_extract ?_; try refine y_extract ?_; try (refine y_new ?_; intro _); try refine yn (op_storeNat (n := r)) (k := ?_); try refine y_assign ?_) | (refine sy_region (id := 4) ?_; try refine y_move ?_; try (refine ys (op_call0 (f := 24) (hc := fun w' X hk hh => hf2' w' hk)) (k := ?_); rintro _ _ ⟨R, rfl, a9, c9, rfl, rfl⟩); try refine y_assign ?_) | (refine sy_region (id := 5) ?_; try refine y_move ?_; try refine y_len ?_; try refine yv (op_eql (hr := hlen)) (k := ?_)) | fail)
    rename_i b7
    refine sy_drawA (id := 7) mixed ?_
    (refine sye_part 15 15 [[], [0], [0, 1], [0, 1, 2], [0, 1, 2], [0, 1, 2, 4], [0, 1, 2], [0, 1, 2, 4, 5, 6], [0, 1, 2], [0, 1, 2, 4, 5, 6, 7, 8], [0, 1, 2, 3, 4, 5, 6, 7, 8, 9], [0, 1, 2, 3, 4, 5, 6, 7, 8, 9, 10], [0, 1, 2, 3, 4, 5, 6, 7, 8, 9, 10, 11], [0, 1, 2, 3, 4, 5, 6, 7, 8, 9, 10, 11, 12], [0, 1, 2, 3, 4, 5, 6, 7, 8, 9, 10, 11, 12, 13], [0, 1, 2, 3, 4, 5, 6, 7, 8, 9, 10, 11, 12, 13, 14]] [[], [], [], [], [], [], [], [], [], [], [], [], [], [], [], []] none rfl ?_ ?_ ?_; kernel_rfl; kernel_rfl; try refine e_move ?_; try refine e_eql ?_; try refine e_move ?_; try refine dcE (fun _ _ => op_loads (B := natC r)) (k := ?_); try refine e_move ?_; try refine dh_0nE (h := ?_))
    refine dh_rE (R := fun _ => RefG V0) (fun _ _ _ => rfl) (fun ρ hρ => op_call0 (f := 24) (hc := fun w' X hk hh => hf0 w' hk)) (h := ?_)
    (skip; try refine e_move ?_; try refine dh_0nE (h := ?_))
    refine dh_rE (R := fun _ => RefG V1) (fun _ _ _ => rfl) (fun ρ hρ => op_call0 (f := 24) (hc := fun w' X hk hh => hf1 w' hk)) (h := ?_)
    (skip; try refine e_move ?_; try refine dh_0nE (h := ?_))
    refine dh_rE (R := fun _ => RefG r) (fun _ _ _ => rfl) (fun ρ hρ => ?_) (h := ?_)
    · obtain ⟨⟨b1, d1, p3, p4⟩, ⟨b0, d0, p1, p2⟩, -⟩ := hρ
      refine op_call0 (f := 61) (vs := [.slice b0 (nd 65536 V0) d0, .slice b1 (nd 65536 V1) d1, .slice a9 (nd 65536 V2) c9]) (ha := by show some [(ρ 5).1, (ρ 7).1, _] = _; rw [p1, p3]) (hc := fun w' X hk hh => ?_)
      have hh : Holds w.heap.size No (((ρ 7).2 ++ ((ρ 5).2 ++ _)) ++ X) w' := hh
      rw [p2, p4] at hh
      exact hq w' b0 d0 b1 d1 a9 c9 (row_sla hh (by exact Has.append (by repeat (first | exact Has.here | apply Has.there)))) (row_sla hh (by exact Has.append (by repeat (first | exact Has.here | apply Has.there)))) (row_sla hh (by exact Has.append (by repeat (first | exact Has.here | apply Has.there))))
    refine dcE (u := .bool true) (fun ρ hρ => ?_) (k := ?_)
    · obtain ⟨⟨b0, d0, p1, p2⟩, -⟩ := hρ
      refine op_callV (f := 60) (vs := [natV r, .slice b0 (nd 65536 r) d0]) (ha := by show some [_, (ρ 9).1] = _; rw [p1]; rfl) (hc := fun w' X hk hh => ?_)
      have hh : Holds w.heap.size No (((ρ 9).2 ++ _) ++ X) w' := hh
      rw [p2] at hh
      exact hsm w' b0 d0 (row_sla hh (by exact Has.append (by repeat (first | exact Has.here | apply Has.there))))
    (skip; try refine e_pick ?_; try refine e_move ?_; try refine dcE (fun _ _ => op_callV (hc := fun _ _ _ _ => (known2_fn _))) (k := ?_); try refine e_pick ?_; try refine dh_0nE (h := ?_))
    refine dh_0E (h := ?_)
    rintro ρ -
    (refine sya_list [[], [0], [0, 1], [0, 1, 2], [0, 1, 2], [0, 1, 2, 4], [0, 1, 2], [0, 1, 2, 4, 5, 6], [0, 1, 2], [0, 1, 2, 4, 5, 6, 7, 8], [0, 1, 2, 3, 4, 5, 6, 7, 8, 9], [0, 1, 2, 3, 4, 5, 6, 7, 8, 9, 10], [0, 1, 2, 3, 4, 5, 6, 7, 8, 9, 10, 11], [0, 1, 2, 3, 4, 5, 6, 7, 8, 9, 10, 11, 12], [0, 1, 2, 3, 4, 5, 6, 7, 8, 9, 10, 11, 12, 13], [0, 1, 2, 3, 4, 5, 6, 7, 8, 9, 10, 11, 12, 13, 14]] ?_ ?_; kernel_rfl)
    refine SyL.weaken (fr' := [(62, .bool true)]) (L' := []) ?_ (by (repeat' (first | exact Sub.nil | refine Sub.cons rfl ?_ ?_ | rfl))) SubR.nil
    repeat' (first | refine sy_seqC ?_ | refine syl_nil ?_ | refine sy_if_t rfl ?_ | refine sy_if_f rfl ?_ | refine sy_block ?_ | refine sy_skip ?_ | refine sy_ret ?_ | refine sy_exit ?_ | refine sy_label ?_ | refine syx_then ?_ | refine syx_go ?_ | refine syx_then_ret ?_ | refine syx_then_exit ?_ | refine syx_in ?_ | refine syx_in_ret ?_ | refine syx_in_here ?_ | refine syx_in_past rfl ?_ | (apply syx_begin; (focus ((repeat (first | exact Rem.here | apply Rem.there)); done)); assumption) | (refine sy_draw (id := 7) 10 [[], [0], [0, 1], [0, 1, 2], [0, 1, 2], [0, 1, 2, 4], [0, 1, 2], [0, 1, 2, 4, 5, 6], [0, 1, 2], [0, 1, 2, 4, 5, 6, 7, 8], [0, 1, 2, 3, 4, 5, 6, 7, 8, 9], [0, 1, 2, 3, 4, 5, 6, 7, 8, 9, 10], [0, 1, 2, 3, 4, 5, 6, 7, 8, 9, 10, 11], [0, 1, 2, 3, 4, 5, 6, 7, 8, 9, 10, 11, 12], [0, 1, 2, 3, 4, 5, 6, 7, 8, 9, 10, 11, 12, 13], [0, 1, 2, 3, 4, 5, 6, 7, 8, 9, 10, 11, 12, 13, 14]] mixed ?_ ?_; kernel_rfl) | (refine syl_id ?_; first | refine y_assign ?_ | fail) | refine dh_0n ?_ | refine sy_region ?_ | fail)
    exact ret1 rfl (resTmp rfl) SubR.nil ⟨rfl, rfl⟩
end Go.Proofs.YtkipmhcmdejcfaaDoor
