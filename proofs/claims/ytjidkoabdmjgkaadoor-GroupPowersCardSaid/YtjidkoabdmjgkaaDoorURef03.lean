/- The specification of layer group, walked. -/
import Derived.Test.YtjidkoabdmjgkaaDoorURefM
import Derived.Test.YtjidkoabdmjgkaaDoorURef8
import Derived.Test.YtjidkoabdmjgkaaDoorUGrp2
set_option linter.all false
namespace Go.Sy
open Go
theorem Has.appR {A L : List Res} {r : Res} (h : Has L r) : Has (A ++ L) r := List.mem_append_right _ h
end Go.Sy
namespace Go.Nt
open Go Go.Sy
theorem w64k : 18446744073709551616 ^ 16 = 65536 ^ 64 := w_of 65536 16 64 rfl rfl
theorem ndW {x : Nat} (h : x < 18446744073709551616 ^ 16) : nd 65536 x ≤ 64 := nd_le _ _ _ (by decide) (by rw [← w64k]; exact h)
theorem gQ_half (i : Nat) (h0 : 1 ≤ i) (h5 : i ≤ 4) : (gP i - 1) / 2 = gQ i := by
  have := gP_odd i h0 h5; omega
end Go.Nt
namespace Go.Proofs.YtjidkoabdmjgkaaDoor
open Go Go.Sy Go.Nt Go.RowKit
attribute [local irreducible] Sy SyL SyX Sy.Fn callFunc natC refC iC gP gQ gL memB
set_option maxRecDepth 10000
theorem zhas_fn (z : Int) (w : World) : Sy.Fn Tryd.prog 15 [.int .i64 z] w No (Gives (.bool (decide (1 ≤ z ∧ z ≤ 4)))) := by
  refine fn_enter Tryd.func15 rfl Tryd.ntmps15 (by simp) Holds.nil ?_
  by_cases h1 : 1 ≤ z
  · have g1 : decide (z ≥ 1) = true := decide_eq_true h1
    have g2 : decide (z ≤ 4) = decide (1 ≤ z ∧ z ≤ 4) := decide_eq_decide.2 ⟨fun h => ⟨h1, h⟩, fun h => h.2⟩
    generalize decide (1 ≤ z ∧ z ≤ 4) = b at *
    repeat' (first | refine sy_seqC ?_ | refine syl_nil ?_ | refine sy_ret ?_ | refine syx_then ?_ | refine syx_go ?_ | (refine sy_region (id := 0) ?_; refine y_assign ?_) | (refine sy_region (id := 1) ?_; refine y_move ?_; refine yv (op_geq (hr := g1)) (k := ?_); refine y_move ?_; refine y_move ?_; refine yv (op_leq (hr := g2)) (k := ?_); refine y_pick ?_; refine y_assign ?_) | fail)
    exact ret1 rfl (resTmp rfl) SubR.nil ⟨rfl, rfl⟩
  · have g1 : decide (z ≥ 1) = false := decide_eq_false h1
    rw [show decide (1 ≤ z ∧ z ≤ 4) = false from decide_eq_false (fun h => h1 h.1)]
    repeat' (first | refine sy_seqC ?_ | refine syl_nil ?_ | refine sy_ret ?_ | refine syx_then ?_ | refine syx_go ?_ | (refine sy_region (id := 0) ?_; refine y_assign ?_) | (refine sy_region (id := 1) ?_; refine y_move ?_; refine yv (op_geq (hr := g1)) (k := ?_); refine y_move ?_; refine syl_skip rfl rfl rfl ?_; refine syl_skip rfl rfl rfl ?_; refine y_pick ?_; refine y_assign ?_) | fail)
    exact ret1 rfl (resTmp rfl) SubR.nil ⟨rfl, rfl⟩
theorem zprime_fn (i : Nat) (w : World) (h0 : 1 ≤ i) (h5 : i ≤ 4) : Sy.Fn Tryd.prog 28 [.int .i64 (i : Int)] w No (RefG (gP i)) := by
  refine fn_enter Tryd.func28 rfl Tryd.ntmps28 (by simp) Holds.nil ?_
  have g3 : IntKind.i64.wrap ((i : Int) - 1) = ((i - 1 : Nat) : Int) := by rw [IntWalk.i64_in _ (by omega)]; omega
  have hcell := gCells_get i h0 h5
  have hpa := fun w' => rparse_fn (gS i) w' (by have := gS_len i h0 h5; omega)
  rw [parse_gS i h0 h5] at hpa
  dsimp only at hpa
  unfold RefG
  repeat' (first | refine sy_seqC ?_ | refine syl_nil ?_ | refine syx_then ?_ | refine syx_go ?_ | (refine sy_region (id := 0) ?_; refine y_assign ?_) | fail)
  refine sy_region (id := 1) ?_
  refine ys (op_buildSlice (vs := gCells)) (k := ?_)
  rintro _ _ ⟨b6, rfl, rfl⟩
  generalize gCells = GC at *
  generalize gS i = S at *
  repeat' (first | refine sy_seqC ?_ | refine syl_nil ?_ | refine sy_ret ?_ | refine syx_then ?_ | refine syx_go ?_ | (refine sy_region (id := 2) ?_; refine y_move ?_; (refine ys (op_call0 (f := 48) (hc := fun w' X hk hh => hpa w')) (k := ?_); rintro _ _ ⟨R, rfl, a1, c1, rfl, rfl⟩); refine y_move ?_; refine y_extract ?_; refine y_extract ?_; refine y_assign ?_; refine y_assign ?_) | (refine sy_region (id := 3) ?_; refine y_move ?_; refine y_assign ?_) | (refine syl_id ?_; first | refine yv (op_sub (hr := g3)) (k := ?_) | refine yv (op_indexAddr10 (j := i - 1)) (k := ?_) | refine yv (op_load (hv := hcell)) (k := ?_) | refine y_assign ?_ | refine y_move ?_ | fail) | fail)
  exact ret1 rfl (resTmp rfl) (by exact SubR.go2) ⟨_, _, rfl, rfl⟩
theorem zorder_fn (i : Nat) (w : World) (h0 : 1 ≤ i) (h5 : i ≤ 4) : Sy.Fn Tryd.prog 29 [.int .i64 (i : Int)] w No (RefG (gQ i)) := by
  refine fn_enter Tryd.func29 rfl Tryd.ntmps29 (by simp) Holds.nil ?_
  have hW := gP_W i h0 h5
  have k0 := ndW hW
  have hp1 := gP_one i h0 h5
  have hp := fun w' => zprime_fn i w' h0 h5
  have h1 := fun w' => of_fn 1 w' (by decide)
  have h2 := fun w' => of_fn 2 w' (by decide)
  have n1 := nd_le 65536 1 1 (by decide) (by decide)
  have n2 := nd_le 65536 2 1 (by decide) (by decide)
  have n3 := nd_mono 65536 (gP i - 1) (gP i) (by decide) (Nat.sub_le _ _)
  have hs := fun w' a c a' c' (h : SlA w' a (refC (gP i))) (h' : SlA w' a' (refC 1)) => rsub_fn a a' c c' (gP i) 1 w' h h' (by omega) (by omega)
  have hd := fun w' a c a' c' (h : SlA w' a (refC (gP i - 1))) (h' : SlA w' a' (refC 2)) => rdivide_fn a a' c c' (gP i - 1) 2 w' h h' (by omega) (by omega) (by decide)
  rw [gQ_half i h0 h5] at hd
  unfold RefG at *
  generalize (gP i - 1) % 2 = r at *
  generalize gP i - 1 = p1 at *
  generalize gP i = p at *
  generalize gQ i = q at *
  repeat' (first | refine sy_seqC ?_ | refine syl_nil ?_ | refine sy_ret ?_ | refine syx_then ?_ | refine syx_go ?_ | (refine sy_region (id := 0) ?_; refine y_assign ?_) | (refine sy_region (id := 1) ?_; refine y_move ?_; (refine ys (op_call0 (f := 28) (hc := fun w' X hk hh => hp w')) (k := ?_); rintro _ _ ⟨R, rfl, a1, c1, rfl, rfl⟩); (refine ys (op_call0 (f := 36) (hc := fun w' X hk hh => h1 w')) (k := ?_); rintro _ _ ⟨R, rfl, a2, c2, rfl, rfl⟩); (refine ys (op_call0 (f := 50) (hc := fun w' X hk hh => hs w' _ _ _ _ (row_sla hh (by exact Has.append Has.go)) (row_sla hh (by exact Has.append Has.go)))) (k := ?_); rintro _ _ ⟨R, rfl, a3, c3, rfl, rfl⟩); (refine ys (op_call0 (f := 36) (hc := fun w' X hk hh => h2 w')) (k := ?_); rintro _ _ ⟨R, rfl, a4, c4, rfl, rfl⟩); (refine ys (op_call0 (f := 49) (hc := fun w' X hk hh => hd w' _ _ _ _ (row_sla hh (by exact Has.append Has.go)) (row_sla hh (by exact Has.append Has.go)))) (k := ?_); rintro _ _ ⟨R, rfl, a5, c5, a6, c6, rfl, rfl⟩); refine y_move ?_; refine y_extract ?_; refine y_extract ?_; refine y_assign ?_; refine y_assign ?_) | (refine sy_region (id := 2) ?_; refine y_move ?_; refine y_assign ?_) | fail)
  exact ret1 rfl (resTmp rfl) (by exact SubR.go2) ⟨_, _, rfl, rfl⟩
theorem zlen_bad (z : Int) (w : World) (hz : ¬ (1 ≤ z ∧ z ≤ 4)) : Sy.Fn Tryd.prog 16 [.int .i64 z] w No (Gives (.int .i64 0)) := by
  refine fn_enter Tryd.func16 rfl Tryd.ntmps16 (by simp) Holds.nil ?_
  have hh := fun w' => zhas_fn z w'
  rw [decide_eq_false hz] at hh
  repeat' (first | refine sy_seqC ?_ | refine syl_nil ?_ | refine sy_if_t rfl ?_ | refine sy_ret ?_ | refine syx_then ?_ | refine syx_go ?_ | refine syx_then_ret ?_ | (refine sy_region (id := 0) ?_; refine y_assign ?_) | (refine sy_region (id := 1) ?_; refine y_move ?_; refine yv (op_callV (hc := fun _ _ _ _ => (hh _))) (k := ?_); refine y_unOp ?_) | (refine sy_region (id := 2) ?_; refine y_assign ?_) | fail)
  exact ret1 rfl (resTmp rfl) SubR.nil ⟨rfl, rfl⟩
theorem hasI (i : Nat) (h0 : 1 ≤ i) (h5 : i ≤ 4) : decide (1 ≤ (i : Int) ∧ (i : Int) ≤ 4) = true := decide_eq_true ⟨by omega, by omega⟩
theorem zlen_fn (i : Nat) (w : World) (h0 : 1 ≤ i) (h5 : i ≤ 4) : Sy.Fn Tryd.prog 16 [.int .i64 (i : Int)] w No (Gives (.int .i64 ((gL i : Nat) : Int))) := by
  refine fn_enter Tryd.func16 rfl Tryd.ntmps16 (by simp) Holds.nil ?_
  have hh := fun w' => zhas_fn (i : Int) w'
  rw [hasI i h0 h5] at hh
  have k0 := ndW (gP_W i h0 h5)
  have hp := fun w' => zprime_fn i w' h0 h5
  have hb := fun w' a c (h : SlA w' a (refC (gP i))) => rbytes_fn a c (gP i) w' h (by omega)
  rw [gP_len i h0 h5] at hb
  unfold RefG at hp
  generalize byt (gP i) = D at *
  generalize gP i = p at *
  generalize gL i = l at *
  repeat' (first | refine sy_seqC ?_ | refine syl_nil ?_ | refine sy_if_f rfl ?_ | refine sy_skip ?_ | refine sy_ret ?_ | refine syx_then ?_ | refine syx_go ?_ | (refine sy_region (id := 0) ?_; refine y_assign ?_) | (refine sy_region (id := 1) ?_; refine y_move ?_; refine yv (op_callV (hc := fun _ _ _ _ => (hh _))) (k := ?_); refine y_unOp ?_) | (refine sy_region (id := 3) ?_; refine y_move ?_; (refine ys (op_call0 (f := 28) (hc := fun w' X hk hh => hp w')) (k := ?_); rintro _ _ ⟨R, rfl, a1, c1, rfl, rfl⟩); (refine ys (op_call0 (f := 40) (hc := fun w' X hk hh => hb w' _ _ (row_sla hh (by exact Has.append Has.go)))) (k := ?_); rintro _ _ ⟨R, rfl, a2, c2, rfl, rfl⟩); refine y_len ?_; refine y_assign ?_) | fail)
  exact ret1 rfl (resTmp rfl) SubR.nil ⟨rfl, rfl⟩
theorem zexp_fn (i : Nat) (a b : Option Addr) (ca cb x e : Nat) (w : World) (h0 : 1 ≤ i) (h5 : i ≤ 4) (ha : SlA w a (refC x)) (hb : SlA w b (refC e)) (hx : nd 65536 x < 20000) (he : nd 65536 e < 20000) :
    Sy.Fn Tryd.prog 22 [.int .i64 (i : Int), .slice a (nd 65536 x) ca, .slice b (nd 65536 e) cb] w No (RefG (x ^ e % gP i)) := by
  refine fn_enter Tryd.func22 rfl Tryd.ntmps22 (by simp) Holds.nil ?_
  have k0 := ndW (gP_W i h0 h5)
  have hp1 := gP_one i h0 h5
  have hp := fun w' => zprime_fn i w' h0 h5
  have hq := fun w' d cd (hk : Keep No w w') (h : SlA w' d (refC (gP i))) => qexp_fn a b d ca cb cd x e (gP i) w' (ha.to hk (fun _ h => .inr h)).sla (hb.to hk (fun _ h => .inr h)).sla h hx he (by omega) (by omega)
  unfold RefG at *
  generalize x ^ e % gP i = r at *
  generalize gP i = p at *
  repeat' (first | refine sy_seqC ?_ | refine syl_nil ?_ | refine sy_if_t rfl ?_ | refine sy_if_f rfl ?_ | refine sy_block ?_ | refine sy_skip ?_ | refine sy_ret ?_ | refine sy_exit ?_ | refine sy_label ?_ | refine syx_then ?_ | refine syx_go ?_ | refine syx_then_ret ?_ | refine syx_then_exit ?_ | refine syx_in ?_ | refine syx_in_ret ?_ | refine syx_in_here ?_ | refine syx_in_past rfl ?_ | (apply syx_begin; (focus ((repeat (first | exact Rem.here | apply Rem.there)); done)); assumption) | (refine sy_region (id := 0) ?_; try refine y_assign ?_) | (refine sy_region (id := 1) ?_; try refine y_move ?_; try refine y_move ?_; try refine y_move ?_; try (first | (refine ys (op_call0 (f := 28) (hc := fun w' X hk hh => hp w')) (k := ?_); rintro _ _ ⟨R, rfl, a1, c1, rfl, rfl⟩) | (refine ys (op_call0 (f := 35) (hc := fun w' X hk hh => hq w' _ _ hk (row_sla hh (by exact Has.append Has.go)))) (k := ?_); rintro _ _ ⟨R, rfl, a2, c2, rfl, rfl⟩) | fail); try (first | (refine ys (op_call0 (f := 28) (hc := fun w' X hk hh => hp w')) (k := ?_); rintro _ _ ⟨R, rfl, a1, c1, rfl, rfl⟩) | (refine ys (op_call0 (f := 35) (hc := fun w' X hk hh => hq w' _ _ hk (row_sla hh (by exact Has.append Has.go)))) (k := ?_); rintro _ _ ⟨R, rfl, a2, c2, rfl, rfl⟩) | fail); try refine y_assign ?_) | (refine syl_id ?_; first | (refine ys (op_call0 (f := 28) (hc := fun w' X hk hh => hp w')) (k := ?_); rintro _ _ ⟨R, rfl, a1, c1, rfl, rfl⟩) | (refine ys (op_call0 (f := 35) (hc := fun w' X hk hh => hq w' _ _ hk (row_sla hh (by exact Has.append Has.go)))) (k := ?_); rintro _ _ ⟨R, rfl, a2, c2, rfl, rfl⟩) | refine y_assign ?_ | refine y_move ?_ | fail) | refine sy_region ?_ | fail)
  exact ret1 rfl (resTmp rfl) (by exact SubR.go2) ⟨_, _, rfl, rfl⟩
theorem zpower_fn (i : Nat) (b : Option Addr) (cb e : Nat) (w : World) (h0 : 1 ≤ i) (h5 : i ≤ 4) (hb : SlA w b (refC e)) (he : nd 65536 e < 20000) :
    Sy.Fn Tryd.prog 21 [.int .i64 (i : Int), .slice b (nd 65536 e) cb] w No (RefG (4 ^ e % gP i)) := by
  refine fn_enter Tryd.func21 rfl Tryd.ntmps21 (by simp) Holds.nil ?_
  have h4 := fun w' => of_fn 4 w' (by decide)
  have n4 := nd_le 65536 4 1 (by decide) (by decide)
  have hq := fun w' a ca (hk : Keep No w w') (h : SlA w' a (refC 4)) => zexp_fn i a b ca cb 4 e w' h0 h5 h (hb.to hk (fun _ h => .inr h)).sla (by omega) he
  unfold RefG at *
  generalize 4 ^ e % gP i = r at *
  repeat' (first | refine sy_seqC ?_ | refine syl_nil ?_ | refine sy_if_t rfl ?_ | refine sy_if_f rfl ?_ | refine sy_block ?_ | refine sy_skip ?_ | refine sy_ret ?_ | refine sy_exit ?_ | refine sy_label ?_ | refine syx_then ?_ | refine syx_go ?_ | refine syx_then_ret ?_ | refine syx_then_exit ?_ | refine syx_in ?_ | refine syx_in_ret ?_ | refine syx_in_here ?_ | refine syx_in_past rfl ?_ | (apply syx_begin; (focus ((repeat (first | exact Rem.here | apply Rem.there)); done)); assumption) | (refine sy_region (id := 0) ?_; try refine y_assign ?_) | (refine sy_region (id := 1) ?_; try refine y_move ?_; try (first | (refine ys (op_call0 (f := 36) (hc := fun w' X hk hh => h4 w')) (k := ?_); rintro _ _ ⟨R, rfl, a1, c1, rfl, rfl⟩) | (refine ys (op_call0 (f := 22) (hc := fun w' X hk hh => hq w' _ _ hk (row_sla hh (by exact Has.append Has.go)))) (k := ?_); rintro _ _ ⟨R, rfl, a2, c2, rfl, rfl⟩) | fail); try refine y_move ?_; try (first | (refine ys (op_call0 (f := 36) (hc := fun w' X hk hh => h4 w')) (k := ?_); rintro _ _ ⟨R, rfl, a1, c1, rfl, rfl⟩) | (refine ys (op_call0 (f := 22) (hc := fun w' X hk hh => hq w' _ _ hk (row_sla hh (by exact Has.append Has.go)))) (k := ?_); rintro _ _ ⟨R, rfl, a2, c2, rfl, rfl⟩) | fail); try refine y_assign ?_) | (refine syl_id ?_; first | (refine ys (op_call0 (f := 36) (hc := fun w' X hk hh => h4 w')) (k := ?_); rintro _ _ ⟨R, rfl, a1, c1, rfl, rfl⟩) | (refine ys (op_call0 (f := 22) (hc := fun w' X hk hh => hq w' _ _ hk (row_sla hh (by exact Has.append Has.go)))) (k := ?_); rintro _ _ ⟨R, rfl, a2, c2, rfl, rfl⟩) | refine y_assign ?_ | refine y_move ?_ | fail) | refine sy_region ?_ | fail)
  exact ret1 rfl (resTmp rfl) (by exact SubR.go2) ⟨_, _, rfl, rfl⟩
theorem zisScalar_fn (i : Nat) (a : Option Addr) (ca x : Nat) (w : World) (h0 : 1 ≤ i) (h5 : i ≤ 4) (ha : SlA w a (refC x)) (hx : nd 65536 x < 20000) :
    Sy.Fn Tryd.prog 47 [.int .i64 (i : Int), .slice a (nd 65536 x) ca] w No (Gives (.bool (decide (x < gQ i)))) := by
  refine fn_enter Tryd.func47 rfl Tryd.ntmps47 (by simp) Holds.nil ?_
  have k0 := ndW (gQ_W i h0 h5)
  have hp := fun w' => zorder_fn i w' h0 h5
  have hq := fun w' d cd (hk : Keep No w w') (h : SlA w' d (refC (gQ i))) => rcompare_fn a d ca cd x (gQ i) w' (ha.to hk (fun _ h => .inr h)).sla h (by omega) (by omega)
  have hr : decide (cmpI x (gQ i) < 0) = decide (x < gQ i) := decide_eq_decide.2 (by
    unfold cmpI
    by_cases h : x < gQ i
    · rw [if_pos h]; exact ⟨fun _ => h, fun _ => by decide⟩
    · rw [if_neg h]; split <;> omega)
  unfold RefG at *
  generalize decide (x < gQ i) = b at *
  generalize cmpI x (gQ i) = cz at *
  generalize gQ i = q at *
  repeat' (first | refine sy_seqC ?_ | refine syl_nil ?_ | refine sy_ret ?_ | refine syx_then ?_ | refine syx_go ?_ | (refine sy_region (id := 0) ?_; refine y_assign ?_) | (refine sy_region (id := 1) ?_; refine y_move ?_; refine y_move ?_; (refine ys (op_call0 (f := 29) (hc := fun w' X hk hh => hp w')) (k := ?_); rintro _ _ ⟨R, rfl, a1, c1, rfl, rfl⟩); refine yv (op_callV (f := 34) (hc := fun w' X hk hh => hq w' _ _ hk (row_sla hh (by exact Has.append Has.go)))) (k := ?_); refine yv (op_lss (hr := hr)) (k := ?_); refine y_assign ?_) | fail)
  exact ret1 rfl (resTmp rfl) SubR.nil ⟨rfl, rfl⟩
theorem zmember_bad (z : Int) (a : Option Addr) (n ca : Nat) (w : World) (hz : ¬ (1 ≤ z ∧ z ≤ 4)) : Sy.Fn Tryd.prog 9 [.int .i64 z, .slice a n ca] w No (Gives (.bool false)) := by
  refine fn_enter Tryd.func9 rfl Tryd.ntmps9 (by simp) Holds.nil ?_
  have hh := fun w' => zhas_fn z w'
  rw [decide_eq_false hz] at hh
  repeat' (first | refine sy_seqC ?_ | refine syl_nil ?_ | refine sy_if_t rfl ?_ | refine sy_ret ?_ | refine syx_then ?_ | refine syx_go ?_ | refine syx_then_ret ?_ | (refine sy_region (id := 0) ?_; refine y_assign ?_) | (refine sy_region (id := 1) ?_; refine y_move ?_; refine yv (op_callV (hc := fun _ _ _ _ => (hh _))) (k := ?_); refine y_unOp ?_; refine y_move ?_; refine syl_skip rfl rfl rfl ?_; refine syl_skip rfl rfl rfl ?_; refine syl_skip rfl rfl rfl ?_; refine y_pick ?_; refine y_move ?_; refine syl_skip rfl rfl rfl ?_; refine syl_skip rfl rfl rfl ?_; refine syl_skip rfl rfl rfl ?_; refine syl_skip rfl rfl rfl ?_; refine syl_skip rfl rfl rfl ?_; refine y_pick ?_) | (refine sy_region (id := 2) ?_; refine y_assign ?_) | fail)
  exact ret1 rfl (resTmp rfl) SubR.nil ⟨rfl, rfl⟩
theorem zmember_fn (i : Nat) (a : Option Addr) (ca x : Nat) (w : World) (h0 : 1 ≤ i) (h5 : i ≤ 4) (ha : SlA w a (refC x)) (hx : nd 65536 x < 20000) :
    Sy.Fn Tryd.prog 9 [.int .i64 (i : Int), .slice a (nd 65536 x) ca] w No (Gives (.bool (memB (gP i) (gQ i) x))) := by
  refine fn_enter Tryd.func9 rfl Tryd.ntmps9 (by simp) Holds.nil ?_
  have hh := fun w' => zhas_fn (i : Int) w'
  rw [hasI i h0 h5] at hh
  have kp := ndW (gP_W i h0 h5)
  have kq := ndW (gQ_W i h0 h5)
  have hp1 := gP_one i h0 h5
  have hnx := (nd_eq_zero 65536 x (by decide)).1
  rcases Nat.eq_zero_or_pos x with h | h
  · subst h
    have hb : memB (gP i) (gQ i) 0 = false := by unfold memB; exact decide_eq_false (fun h => absurd h.1 (by omega))
    rw [hb]
    have g1 : decide (((nd 65536 0 : Nat) : Int) = 0) = true := decide_eq_true (by rw [nd_zero]; rfl)
    repeat' (first | refine sy_seqC ?_ | refine syl_nil ?_ | refine sy_if_t rfl ?_ | refine sy_ret ?_ | refine syx_then ?_ | refine syx_go ?_ | refine syx_then_ret ?_ | (refine sy_region (id := 0) ?_; refine y_assign ?_) | (refine sy_region (id := 1) ?_; refine y_move ?_; refine yv (op_callV (hc := fun _ _ _ _ => (hh _))) (k := ?_); refine y_unOp ?_; refine y_move ?_; refine y_move ?_; refine y_len ?_; refine yv (op_eql (hr := g1)) (k := ?_); refine y_pick ?_; refine y_move ?_; refine syl_skip rfl rfl rfl ?_; refine syl_skip rfl rfl rfl ?_; refine syl_skip rfl rfl rfl ?_; refine syl_skip rfl rfl rfl ?_; refine syl_skip rfl rfl rfl ?_; refine y_pick ?_) | (refine sy_region (id := 2) ?_; refine y_assign ?_) | fail)
    exact ret1 rfl (resTmp rfl) SubR.nil ⟨rfl, rfl⟩
  have g1 : decide (((nd 65536 x : Nat) : Int) = 0) = false := decide_eq_false (by omega)
  have hp := fun w' => zprime_fn i w' h0 h5
  have hc := fun w' d cd (hk : Keep No w w') (h : SlA w' d (refC (gP i))) => rcompare_fn a d ca cd x (gP i) w' (ha.to hk (fun _ h => .inr h)).sla h (by omega) (by omega)
  by_cases hxp : x < gP i
  · have g2 : decide (cmpI x (gP i) ≥ 0) = false := by rw [cmpI_lt hxp]; rfl
    have ho := fun w' => zorder_fn i w' h0 h5
    have he := fun w' d cd d' cd' (hk : Keep No w w') (h : SlA w' d (refC (gQ i))) (h' : SlA w' d' (refC (gP i))) => qexp_fn a d d' ca cd cd' x (gQ i) (gP i) w' (ha.to hk (fun _ h => .inr h)).sla h h' hx (by omega) (by omega) (by omega)
    have h1 := fun w' => of_fn 1 w' (by decide)
    have n1 := nd_le 65536 1 1 (by decide) (by decide)
    have nr := nd_mod 65536 (x ^ gQ i) (gP i) (by decide) (by omega)
    have hc2 := fun w' d cd d' cd' (h : SlA w' d (refC (x ^ gQ i % gP i))) (h' : SlA w' d' (refC 1)) => rcompare_fn d d' cd cd' (x ^ gQ i % gP i) 1 w' h h' (by omega) (by omega)
    have g3 : decide (cmpI (x ^ gQ i % gP i) 1 = 0) = memB (gP i) (gQ i) x := by
      unfold memB
      refine decide_eq_decide.2 ⟨fun e => ⟨h, hxp, cmpI_zero e⟩, fun e => ?_⟩
      rw [e.2.2]; exact cmpI_self 1
    unfold RefG at *
    generalize memB (gP i) (gQ i) x = b at *
    generalize x ^ gQ i % gP i = r at *
    generalize cmpI r 1 = cz2 at *
    generalize cmpI x (gP i) = cz at *
    generalize gP i = p at *
    generalize gQ i = q at *
    repeat' (first | refine sy_seqC ?_ | refine syl_nil ?_ | refine sy_if_f rfl ?_ | refine sy_skip ?_ | refine sy_ret ?_ | refine syx_then ?_ | refine syx_go ?_ | (refine sy_region (id := 0) ?_; refine y_assign ?_) | (refine sy_region (id := 1) ?_; refine y_move ?_; refine yv (op_callV (hc := fun _ _ _ _ => (hh _))) (k := ?_); refine y_unOp ?_; refine y_move ?_; refine y_move ?_; refine y_len ?_; refine yv (op_eql (hr := g1)) (k := ?_); refine y_pick ?_; refine y_move ?_; refine y_move ?_; refine y_move ?_; (refine ys (op_call0 (f := 28) (hc := fun w' X hk hh => hp w')) (k := ?_); rintro _ _ ⟨R, rfl, a1, c1, rfl, rfl⟩); refine yv (op_callV (f := 34) (hc := fun w' X hk hh => hc w' _ _ hk (row_sla hh (by exact Has.append Has.go)))) (k := ?_); refine yv (op_geq (hr := g2)) (k := ?_); refine y_pick ?_) | (refine sy_region (id := 3) ?_; refine y_move ?_; refine y_move ?_; (refine ys (op_call0 (f := 29) (hc := fun w' X hk hh => ho w')) (k := ?_); rintro _ _ ⟨R, rfl, a2, c2, rfl, rfl⟩); refine y_move ?_; (refine ys (op_call0 (f := 28) (hc := fun w' X hk hh => hp w')) (k := ?_); rintro _ _ ⟨R, rfl, a1, c1, rfl, rfl⟩); (refine ys (op_call0 (f := 35) (hc := fun w' X hk hh => he w' _ _ _ _ hk (row_sla hh (by exact Has.append Has.go)) (row_sla hh (by exact Has.append Has.go)))) (k := ?_); rintro _ _ ⟨R, rfl, a3, c3, rfl, rfl⟩); (refine ys (op_call0 (f := 36) (hc := fun w' X hk hh => h1 w')) (k := ?_); rintro _ _ ⟨R, rfl, a4, c4, rfl, rfl⟩); refine yv (op_callV (f := 34) (hc := fun w' X hk hh => hc2 w' _ _ _ _ (row_sla hh (by exact Has.append Has.go)) (row_sla hh (by exact Has.append Has.go)))) (k := ?_); refine yv (op_eql (hr := g3)) (k := ?_); refine y_assign ?_) | fail)
    exact ret1 rfl (resTmp rfl) SubR.nil ⟨rfl, rfl⟩
  · have g2 : decide (cmpI x (gP i) ≥ 0) = true := decide_eq_true (cmpI_ge (by omega))
    have hb : memB (gP i) (gQ i) x = false := by unfold memB; exact decide_eq_false (fun h => hxp h.2.1)
    rw [hb]
    unfold RefG at *
    generalize cmpI x (gP i) = cz at *
    generalize gP i = p at *
    repeat' (first | refine sy_seqC ?_ | refine syl_nil ?_ | refine sy_if_t rfl ?_ | refine sy_ret ?_ | refine syx_then ?_ | refine syx_go ?_ | refine syx_then_ret ?_ | (refine sy_region (id := 0) ?_; refine y_assign ?_) | (refine sy_region (id := 1) ?_; refine y_move ?_; refine yv (op_callV (hc := fun _ _ _ _ => (hh _))) (k := ?_); refine y_unOp ?_; refine y_move ?_; refine y_move ?_; refine y_len ?_; refine yv (op_eql (hr := g1)) (k := ?_); refine y_pick ?_; refine y_move ?_; refine y_move ?_; refine y_move ?_; (refine ys (op_call0 (f := 28) (hc := fun w' X hk hh => hp w')) (k := ?_); rintro _ _ ⟨R, rfl, a1, c1, rfl, rfl⟩); refine yv (op_callV (f := 34) (hc := fun w' X hk hh => hc w' _ _ hk (row_sla hh (by exact Has.append Has.go)))) (k := ?_); refine yv (op_geq (hr := g2)) (k := ?_); refine y_pick ?_) | (refine sy_region (id := 2) ?_; refine y_assign ?_) | fail)
    exact ret1 rfl (resTmp rfl) SubR.nil ⟨rfl, rfl⟩
theorem zbytes_fn (i : Nat) (a : Option Addr) (ca x : Nat) (w : World) (h0 : 1 ≤ i) (h5 : i ≤ 4) (ha : SlA w a (refC x)) (hx : nd 65536 x < 20000) (hn : nd 256 x ≤ gL i) :
    Sy.Fn Tryd.prog 13 [.int .i64 (i : Int), .slice a (nd 65536 x) ca] w No (RowOf 5 (gL i) ((fixB (gL i) x).map v8)) := by
  refine fn_enter Tryd.func13 rfl Tryd.ntmps13 (by simp) Holds.nil ?_
  have hl96 := (gL_le i h0 h5).2
  have hle := fun w' => zlen_fn i w' h0 h5
  have hby := fun w' (hk : Keep No w w') => rbytes_fn a ca x w' (ha.to hk (fun _ h => .inr h)).sla (by omega)
  have hbl := byt_len x
  unfold RowOf fixB
  generalize byt x = D at *
  generalize nd 256 x = n at *
  generalize gL i = l at *
  repeat' (first | refine sy_seqC ?_ | refine syl_nil ?_ | refine sy_block ?_ | refine syx_then ?_ | refine syx_go ?_ | (refine sy_region (id := 0) ?_; refine y_assign ?_) | (refine sy_region (id := 1) ?_; refine y_move ?_; (refine ys (op_call0 (f := 40) (hc := fun w' X hk hh => hby w' hk)) (k := ?_); rintro _ _ ⟨R, rfl, a0, c0, rfl, rfl⟩); refine y_assign ?_) | fail)
  refine sy_loop (γ := Nat × Option Addr × Nat) (fun g => [(0, .int .i64 (i : Int)), (5, .slice g.2.1 (g.1 + n) g.2.2)]) (fun g => [.row (.slice g.2.1 (g.1 + n) g.2.2) 5 1 (g.1 + n) ((List.replicate g.1 0 ++ D).map v8)])
    (fun g => g.1 + n ≤ l) (fun g => l - g.1) (0, a0, c0) (by show 0 + n ≤ l; omega) ?_ ?_ ?_
  · dsimp only
    rw [Nat.zero_add]
    exact Sub.go
  · dsimp only
    rw [Nat.zero_add, List.replicate_zero, List.nil_append]
    exact SubR.go2
  rintro ⟨j, aj, cj⟩ hj
  dsimp only at hj ⊢
  rcases Nat.lt_or_ge (j + n) l with h | h
  · have hlt : decide (((j + n : Nat) : Int) < (l : Int)) = true := decide_eq_true (by omega)
    have hE : (List.replicate j (0 : UInt8) ++ D).length = j + n := by rw [List.length_append, List.length_replicate, hbl]
    have hY : List.replicate (j + 1) (0 : UInt8) ++ D = 0 :: (List.replicate j 0 ++ D) := by rw [List.replicate_succ, List.cons_append]
    generalize List.replicate j (0 : UInt8) ++ D = E at *
    refine sy_fact (fun w' hh => (Row.none hh (a := aj) (n := j + n) (c := cj) Has.here : aj = none → cj = 0)) fun hnil => ?_
    repeat' (first | refine sy_seqC ?_ | refine syl_nil ?_ | refine sy_if_t rfl ?_ | refine sy_block ?_ | refine sy_skip ?_ | refine syx_then ?_ | refine syx_go ?_ | refine syx_in ?_ | (refine sy_region (id := 2) ?_; refine y_move ?_; refine y_len ?_; refine y_move ?_; refine yv (op_callV (hc := fun _ _ _ _ => (hle _))) (k := ?_); refine yv (op_lss (hr := hlt)) (k := ?_)) | (refine sy_region (id := 3) ?_; (refine ys op_buildSlice (k := ?_); rintro _ _ ⟨_, rfl, rfl⟩); refine y_move ?_; (refine ys (op_appendB (xs := [.int .u8 0]) (k := 1) (m := j + n) (km := j + 1 + n) (hxn := rfl) (hr := Rd.row Has.go) (hn := by rw [List.length_map, hE, Nat.mul_one]) (hnil := hnil) (hkm := by omega) (hys := rfl)) (k := ?_); rintro _ _ ⟨rfl, aN, cN, rfl⟩); refine y_assign ?_) | fail)
    refine syx_back (j + 1, aN, cN) ?_ ?_ ?_ ?_
    · show j + 1 + n ≤ l; omega
    · show l - (j + 1) < l - j; omega
    · exact Sub.go
    · dsimp only
      rw [hY]
      exact SubR.go2
  · obtain rfl : l = j + n := by omega
    have hlt : decide (((j + n : Nat) : Int) < ((j + n : Nat) : Int)) = false := decide_eq_false (by omega)
    rw [show j + n - n = j by omega]
    repeat' (first | refine sy_seqC ?_ | refine syl_nil ?_ | refine sy_if_f rfl ?_ | refine sy_ret ?_ | refine sy_exit ?_ | refine syx_then ?_ | refine syx_go ?_ | (refine sy_region (id := 2) ?_; refine y_move ?_; refine y_len ?_; refine y_move ?_; refine yv (op_callV (hc := fun _ _ _ _ => (hle _))) (k := ?_); refine yv (op_lss (hr := hlt)) (k := ?_)) | (refine sy_region (id := 4) ?_; refine y_move ?_; refine y_assign ?_) | fail)
    exact ret1 rfl (resTmp rfl) (by exact SubR.go2) ⟨_, _, rfl, rfl⟩
end Go.Proofs.YtjidkoabdmjgkaaDoor
