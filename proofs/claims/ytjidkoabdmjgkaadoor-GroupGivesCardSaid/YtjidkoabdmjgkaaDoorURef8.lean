/- The specification's numbers: Parse. -/
import Derived.Test.YtjidkoabdmjgkaaDoorURef5
set_option linter.all false
namespace Go.Nt
open Go Go.Sy
theorem hexc_v : ∀ d : Fin 16, hexv (hexc d.1) = some d.1 := by decide +kernel
theorem hexv_c0 : ∀ u : Fin 256, ∀ d : Fin 16, hexv (UInt8.ofNat u.1) = some d.1 → hexc d.1 = UInt8.ofNat u.1 := by decide +kernel
theorem hexv_c {u : UInt8} {d : Nat} (h : hexv u = some d) : hexc d = u := by
  have := hexv_c0 ⟨u.toNat, u.toNat_lt⟩ ⟨d, hexv_lt h⟩
  rw [show UInt8.ofNat u.toNat = u from UInt8.ofNat_toNat] at this
  exact this h
theorem hexc_ne {u : UInt8} {d q : Nat} (h : hexv u = some d) (hq : q < 16) (hn : q ≠ d) : hexc q ≠ u := fun he => by
  have := hexc_v ⟨q, hq⟩
  rw [show hexc (⟨q, hq⟩ : Fin 16).1 = u from he, h] at this
  exact hn (Option.some.inj this).symm
theorem hexc_none {u : UInt8} {q : Nat} (h : hexv u = none) (hq : q < 16) : hexc q ≠ u := fun he => by
  have := hexc_v ⟨q, hq⟩
  rw [show hexc (⟨q, hq⟩ : Fin 16).1 = u from he, h] at this
  cases this
theorem n8_ne {u v : UInt8} (h : u ≠ v) : decide (Wd.n8 u ≠ Wd.n8 v) = true := decide_eq_true (fun e => h (UInt8.toNat_inj.1 (Int.ofNat.inj e)))
def hexd (l : List UInt8) : List Nat := l.map (fun u => (hexv u).getD 0)
theorem hexs_eq : ∀ {l : List UInt8} {r : List Nat}, hexs l = some r → r = hexd l
  | [], _, h => by cases h; rfl
  | u :: l, r, h => by
    unfold hexs at h
    split at h
    · rename_i d r' h1 h2
      cases h
      rw [hexs_eq h2]
      simp only [hexd, List.map_cons, h1, Option.getD_some]
    · cases h
theorem hexd_get {l : List UInt8} {i d : Nat} {u : UInt8} (h : l[i]? = some u) (hd : hexv u = some d) : (hexd l)[i]? = some d := by
  simp only [hexd, List.getElem?_map, h, Option.map_some, hd, Option.getD_some]
theorem hexd_lt (l : List UInt8) : ∀ d ∈ hexd l, d < 16 := by
  intro d hd
  simp only [hexd, List.mem_map] at hd
  obtain ⟨u, -, rfl⟩ := hd
  cases h : hexv u with
  | none => decide
  | some d => exact hexv_lt h
theorem hexd_nd (l : List UInt8) (i : Nat) : nd 65536 (bev 16 ((hexd l).take i)) ≤ l.length := by
  refine nd_le _ _ _ (by decide) ?_
  refine Nat.lt_of_lt_of_le (bev_lt 16 _ (fun d hd => hexd_lt l d (List.mem_of_mem_take hd))) ?_
  refine Nat.le_trans (Nat.pow_le_pow_left (by decide) _) (Nat.pow_le_pow_right (by decide) ?_)
  rw [List.length_take, hexd, List.length_map]
  exact Nat.min_le_right _ _
end Go.Nt
namespace Go.Proofs.YtjidkoabdmjgkaaDoor
open Go Go.Sy Go.Nt Go.RowKit
theorem refC_nil0 : refC 0 = [] := by unfold refC cd; rw [nd_zero]; rfl
attribute [local irreducible] Sy SyL SyX Sy.Fn callFunc natC refC iC
set_option maxRecDepth 10000
set_option maxHeartbeats 1000000 in
theorem rparse_fn (l : List UInt8) (w : World) (hx : l.length < 10000) :
    Sy.Fn Tryd.prog 48 [.string (str l)] w No (fun v R => match parse l with
      | none => v = .tuple #[.slice none 0 0, .bool false] ∧ R = []
      | some x => ∃ a c, v = .tuple #[.slice a (nd 65536 x) c, .bool true] ∧ R = [.row (.slice a (nd 65536 x) c) 3 1 (nd 65536 x) (refC x)]) := by
  refine fn_enter Tryd.func48 rfl Tryd.ntmps48 (by simp) Holds.nil ?_
  repeat' (first | refine sy_seqC ?_ | refine syl_nil ?_ | refine syx_then ?_ | refine syx_go ?_ | (refine sy_region (id := 0) ?_; refine y_assign ?_; refine y_assign ?_) | fail)
  refine sy_cut (γ := Unit) (fun _ => [(0, .string (str l)), (2, .slice none 0 0), (3, .bool false), (19, .bool (badS l))]) (fun _ => []) (fun _ => True) ?_ ?_
  · cases l with
    | nil =>
      rw [show badS [] = true from rfl]
      have hz : decide ((((str []).size : Nat) : Int) = 0) = true := rfl
      repeat' (first | refine syl_nil ?_ | refine syx_then ?_ | (refine sy_region (id := 1) ?_; refine y_move ?_; refine y_len ?_; refine yv (op_eql (hr := hz)) (k := ?_); refine y_move ?_; refine syl_skip rfl rfl rfl ?_; refine syl_skip rfl rfl rfl ?_; refine syl_skip rfl rfl rfl ?_; refine syl_skip rfl rfl rfl ?_; refine syl_skip rfl rfl rfl ?_; refine syl_skip rfl rfl rfl ?_; refine syl_skip rfl rfl rfl ?_; refine syl_skip rfl rfl rfl ?_; refine y_pick ?_) | fail)
      exact syx_cut () trivial (by exact Sub.go) (by exact SubR.go)
    | cons u r =>
      have hsz : (str (u :: r)).size = r.length + 1 := rfl
      have hz : decide ((((str (u :: r)).size : Nat) : Int) = 0) = false := decide_eq_false (by rw [hsz]; omega)
      by_cases hu : u = 48
      · have h48 : decide (((u.toNat : Nat) : Int) = 48) = true := decide_eq_true (by rw [hu]; rfl)
        by_cases hr : 0 < r.length
        · rw [show badS (u :: r) = true by simp only [badS, hu, decide_true, hr, Bool.and_self]]
          have hg : decide (1 < (((str (u :: r)).size : Nat) : Int)) = true := decide_eq_true (by rw [hsz]; omega)
          repeat' (first | refine syl_nil ?_ | refine syx_then ?_ | (refine sy_region (id := 1) ?_; refine y_move ?_; refine y_len ?_; refine yv (op_eql (hr := hz)) (k := ?_); refine y_move ?_; refine y_move ?_; refine yv (op_indexStr (s := str (u :: r)) (u := u) (hv := rfl)) (k := ?_); refine yv (op_eql (hr := h48)) (k := ?_); refine y_move ?_; refine y_move ?_; refine y_len ?_; refine yv (op_gtr (hr := hg)) (k := ?_); refine y_pick ?_; refine y_pick ?_) | fail)
          exact syx_cut () trivial (by exact Sub.go) (by exact SubR.go)
        · rw [show badS (u :: r) = false by simp only [badS, hr, decide_false, Bool.and_false]]
          have hg : decide (1 < (((str (u :: r)).size : Nat) : Int)) = false := decide_eq_false (by rw [hsz]; omega)
          repeat' (first | refine syl_nil ?_ | refine syx_then ?_ | (refine sy_region (id := 1) ?_; refine y_move ?_; refine y_len ?_; refine yv (op_eql (hr := hz)) (k := ?_); refine y_move ?_; refine y_move ?_; refine yv (op_indexStr (s := str (u :: r)) (u := u) (hv := rfl)) (k := ?_); refine yv (op_eql (hr := h48)) (k := ?_); refine y_move ?_; refine y_move ?_; refine y_len ?_; refine yv (op_gtr (hr := hg)) (k := ?_); refine y_pick ?_; refine y_pick ?_) | fail)
          exact syx_cut () trivial (by exact Sub.go) (by exact SubR.go)
      · rw [show badS (u :: r) = false by simp only [badS, hu, decide_false, Bool.false_and]]
        have h48 : decide (((u.toNat : Nat) : Int) = 48) = false := decide_eq_false (fun h => hu (UInt8.toNat_inj.1 (show u.toNat = 48 by omega)))
        repeat' (first | refine syl_nil ?_ | refine syx_then ?_ | (refine sy_region (id := 1) ?_; refine y_move ?_; refine y_len ?_; refine yv (op_eql (hr := hz)) (k := ?_); refine y_move ?_; refine y_move ?_; refine yv (op_indexStr (s := str (u :: r)) (u := u) (hv := rfl)) (k := ?_); refine yv (op_eql (hr := h48)) (k := ?_); refine y_move ?_; refine syl_skip rfl rfl rfl ?_; refine syl_skip rfl rfl rfl ?_; refine syl_skip rfl rfl rfl ?_; refine y_pick ?_; refine y_pick ?_) | fail)
        exact syx_cut () trivial (by exact Sub.go) (by exact SubR.go)
  rintro - -
  unfold parse
  cases hb : badS l with
  | true =>
    rw [if_pos rfl]
    repeat' (first | refine sy_seqC ?_ | refine syl_nil ?_ | refine sy_if_t rfl ?_ | refine sy_ret ?_ | refine syx_then ?_ | refine syx_go ?_ | refine syx_then_ret ?_ | (refine sy_region (id := 2) ?_; refine y_assign ?_; refine y_assign ?_) | fail)
    exact ret2 rfl (resTmp rfl) (resTmp rfl) SubR.nil ⟨rfl, rfl⟩
  | false =>
  rw [if_neg (by decide)]
  repeat' (first | refine sy_seqC ?_ | refine syl_nil ?_ | refine sy_if_f rfl ?_ | refine sy_block ?_ | refine sy_skip ?_ | refine syx_then ?_ | refine syx_go ?_ | (refine sy_region (id := 3) ?_; refine y_assign ?_) | (refine sy_region (id := 4) ?_; refine y_assign ?_) | fail)
  refine sy_conv (conv_nil 3 1) ?_
  obtain ⟨n, hn⟩ : ∃ n, n = l.length := ⟨_, rfl⟩
  have hsz : (str l).size = n := by rw [hn]; rfl
  have hnd := hexd_nd l
  rw [← hn] at hx hnd
  refine sy_loop (γ := Nat × Option Addr × Nat) (fun g => [(0, .string (str l)), (4, .slice g.2.1 (nd 65536 (bev 16 ((hexd l).take g.1))) g.2.2), (5, .int .i64 g.1)])
    (fun g => [.row (.slice g.2.1 (nd 65536 (bev 16 ((hexd l).take g.1))) g.2.2) 3 1 (nd 65536 (bev 16 ((hexd l).take g.1))) (refC (bev 16 ((hexd l).take g.1)))])
    (fun g => g.1 ≤ n ∧ ∀ j < g.1, ∃ v d, l[j]? = some v ∧ hexv v = some d) (fun g => n - g.1) (0, none, 0) ⟨Nat.zero_le _, fun j hj => absurd hj (by omega)⟩ ?_ ?_ ?_
  · rw [show bev 16 ((hexd l).take 0) = 0 from rfl, nd_zero]
    exact Sub.go
  · show SubR [.row (.slice none (nd 65536 (bev 16 ((hexd l).take 0))) 0) 3 1 (nd 65536 (bev 16 ((hexd l).take 0))) (refC (bev 16 ((hexd l).take 0)))] _
    rw [show bev 16 ((hexd l).take 0) = 0 from rfl, nd_zero, refC_nil0]
    exact SubR.go
  rintro ⟨i, a, c⟩ ⟨hi, hok⟩
  dsimp only at hi hok ⊢
  have hX := hnd i
  have hlss : decide (((i : Nat) : Int) < (((str l).size : Nat) : Int)) = decide (i < n) := decide_eq_decide.2 (by rw [hsz]; omega)
  by_cases hlt : i < n
  · obtain ⟨u, hu⟩ : ∃ u, l[i]? = some u := ⟨l[i]'(by omega), List.getElem?_eq_getElem _⟩
    have hch : (str l).data[i]? = some u := by
      show l.toArray[i]? = _
      rw [List.getElem?_toArray, hu]
    rw [decide_eq_true hlt] at hlss
    have hti := fun d (hd : hexv u = some d) => bev_take_succ 16 (hexd l) i d (hexd_get hu hd)
    have hX1 := hnd (i + 1)
    generalize hXX : bev 16 ((hexd l).take i) = X at *
    repeat' (first | refine sy_seqC ?_ | refine syl_nil ?_ | refine sy_if_t rfl ?_ | refine sy_block ?_ | refine sy_skip ?_ | refine syx_then ?_ | refine syx_go ?_ | (refine sy_region (id := 5) ?_; refine y_move ?_; refine y_move ?_; refine y_len ?_; refine yv (op_lss (hr := hlss)) (k := ?_)) | (refine sy_region (id := 7) ?_; refine y_assign ?_) | fail)
    have hdat : ∀ q < 16, (str hexT).data[q]? = some (hexc q) := fun q hq => by
      show hexT.toArray[q]? = _
      rw [List.getElem?_toArray]
      exact hexT_get q hq
    cases hd : hexv u with
    | none =>
      have hnone : hexs l = none := by
        cases hh : hexs l with
        | none => rfl
        | some r =>
          obtain ⟨d, h1, _⟩ := hexs_get hh i u hu
          rw [hd] at h1; cases h1
      rw [hnone]
      refine sy_loop (γ := Nat) (fun q => [(0, .string (str l)), (5, .int .i64 i), (6, .int .i64 q)]) (fun _ => []) (fun q => q ≤ 16) (fun q => 16 - q) 0 (Nat.zero_le _) ?_ ?_ ?_
      · exact Sub.go
      · exact SubR.nil
      intro q hq
      by_cases hq6 : q < 16
      · have hs := hdat q hq6
        have hne := n8_ne (hexc_none hd hq6)
        repeat' (first | refine sy_seqC ?_ | refine syl_nil ?_ | refine sy_if_t rfl ?_ | refine sy_block ?_ | refine sy_skip ?_ | refine syx_then ?_ | refine syx_go ?_ | refine syx_in ?_ | (refine sy_draw (id := 8) 8 [[], [0], [0, 1], [0, 1, 2], [0, 1, 2, 3], [0, 1, 2], [0, 1, 2], [0, 1, 2, 5, 6], [0, 1, 2, 3, 4, 5, 6, 7], [0, 1, 2, 3, 4, 5, 6, 7, 8]] mixed ?_ ?_; kernel_rfl; refine d_move ?_; refine d_lss ?_; refine d_move ?_; refine d_move ?_; refine dc (fun _ _ => op_indexStr (s := str hexT) (hv := hs)) (k := ?_); refine d_move ?_; refine d_move ?_; refine dc (fun _ _ => op_indexStr (s := str l) (u := u) (hv := hch)) (k := ?_); refine dh_0n ?_; refine yv (op_neq (hr := hne)) (k := ?_); refine y_pick ?_) | (refine sy_region (id := 9) ?_; refine y_move ?_; refine y_add ?_; refine y_assign ?_) | fail)
        refine syx_back (q + 1) ?_ ?_ ?_ ?_
        · show q + 1 ≤ 16; omega
        · show 16 - (q + 1) < 16 - q; omega
        · exact Sub.go
        · exact SubR.nil
      obtain rfl : q = 16 := by omega
      repeat' (first | refine sy_seqC ?_ | refine syl_nil ?_ | refine sy_if_t rfl ?_ | refine sy_if_f rfl ?_ | refine sy_ret ?_ | refine sy_exit ?_ | refine syx_then ?_ | refine syx_go ?_ | refine syx_then_ret ?_ | refine syx_in_ret ?_ | (refine sy_draw (id := 8) 8 [[], [0], [0, 1], [0, 1, 2], [0, 1, 2, 3], [0, 1, 2], [0, 1, 2], [0, 1, 2, 5, 6], [0, 1, 2, 3, 4, 5, 6, 7], [0, 1, 2, 3, 4, 5, 6, 7, 8]] mixed ?_ ?_; kernel_rfl; refine d_move ?_; refine d_lss ?_; refine d_move ?_; refine dh_skip (fun _ => rfl) rfl ?_; refine dh_skip (fun _ => rfl) rfl ?_; refine dh_skip (fun _ => rfl) rfl ?_; refine dh_skip (fun _ => rfl) rfl ?_; refine dh_skip (fun _ => rfl) rfl ?_; refine dh_0n ?_; refine syl_skip rfl rfl rfl ?_; refine y_pick ?_) | (refine sy_region (id := 10) ?_; refine y_move ?_; refine y_eql ?_) | (refine sy_region (id := 11) ?_; refine y_assign ?_; refine y_assign ?_) | fail)
      exact ret2 rfl (resTmp rfl) (resTmp rfl) SubR.nil ⟨rfl, rfl⟩
    | some d =>
      have hd16 := hexv_lt hd
      have hti := hti d hd
      refine sy_loop (γ := Nat) (fun q => [(0, .string (str l)), (4, .slice a (nd 65536 X) c), (5, .int .i64 i), (6, .int .i64 q)]) (fun _ => [.row (.slice a (nd 65536 X) c) 3 1 (nd 65536 X) (refC X)]) (fun q => q ≤ d) (fun q => d - q) 0 (Nat.zero_le _) ?_ ?_ ?_
      · exact Sub.go
      · exact SubR.go
      intro q hq
      by_cases hqd : q < d
      · have hs := hdat q (by omega)
        have hne := n8_ne (hexc_ne hd (show q < 16 by omega) (by omega))
        repeat' (first | refine sy_seqC ?_ | refine syl_nil ?_ | refine sy_if_t rfl ?_ | refine sy_block ?_ | refine sy_skip ?_ | refine syx_then ?_ | refine syx_go ?_ | refine syx_in ?_ | (refine sy_draw (id := 8) 8 [[], [0], [0, 1], [0, 1, 2], [0, 1, 2, 3], [0, 1, 2], [0, 1, 2], [0, 1, 2, 5, 6], [0, 1, 2, 3, 4, 5, 6, 7], [0, 1, 2, 3, 4, 5, 6, 7, 8]] mixed ?_ ?_; kernel_rfl; refine d_move ?_; refine d_lss ?_; refine d_move ?_; refine d_move ?_; refine dc (fun _ _ => op_indexStr (s := str hexT) (hv := hs)) (k := ?_); refine d_move ?_; refine d_move ?_; refine dc (fun _ _ => op_indexStr (s := str l) (u := u) (hv := hch)) (k := ?_); refine dh_0n ?_; refine yv (op_neq (hr := hne)) (k := ?_); refine y_pick ?_) | (refine sy_region (id := 9) ?_; refine y_move ?_; refine y_add ?_; refine y_assign ?_) | fail)
        refine syx_back (q + 1) ?_ ?_ ?_ ?_
        · show q + 1 ≤ d; omega
        · show d - (q + 1) < d - q; omega
        · exact Sub.go
        · exact SubR.go
      obtain rfl : q = d := by omega
      have hs := hdat q hd16
      rw [hexv_c hd] at hs
      have hne : decide (Wd.n8 u ≠ Wd.n8 u) = false := decide_eq_false (fun h => h rfl)
      have hsh := fun w' (h : SlA w' a (refC X)) => rshift_fn a c X 4 w' h (by omega) (by decide)
      rw [show X * 2 ^ 4 = X * 16 from rfl] at hsh
      have hof := fun w' => of_fn q w' (by omega)
      have hn16 : nd 65536 (X * 16) < 100000000 := by
        refine Nat.lt_of_le_of_lt (nd_le 65536 (X * 16) (nd 65536 X + 1) (by decide) ?_) (by omega)
        have := nd_lt 65536 X (by decide)
        rw [Nat.pow_succ]
        omega
      have hnq : nd 65536 q < 100000000 := Nat.lt_of_le_of_lt (nd_le 65536 q 1 (by decide) (by omega)) (by decide)
      have had := fun w' a1 c1 a2 c2 (h1 : SlA w' a1 (refC (X * 16))) (h2 : SlA w' a2 (refC q)) => radd_fn a1 a2 c1 c2 (X * 16) q w' h1 h2 hn16 hnq
      rw [← hti] at had
      generalize X * 16 = Y at *
      repeat' (first | refine sy_seqC ?_ | refine syl_nil ?_ | refine sy_if_f rfl ?_ | refine sy_skip ?_ | refine sy_exit ?_ | refine syx_then ?_ | refine syx_go ?_ | (refine sy_draw (id := 8) 8 [[], [0], [0, 1], [0, 1, 2], [0, 1, 2, 3], [0, 1, 2], [0, 1, 2], [0, 1, 2, 5, 6], [0, 1, 2, 3, 4, 5, 6, 7], [0, 1, 2, 3, 4, 5, 6, 7, 8]] mixed ?_ ?_; kernel_rfl; refine d_move ?_; refine d_lss ?_; refine d_move ?_; refine d_move ?_; refine dc (fun _ _ => op_indexStr (s := str hexT) (hv := hs)) (k := ?_); refine d_move ?_; refine d_move ?_; refine dc (fun _ _ => op_indexStr (s := str l) (u := u) (hv := hch)) (k := ?_); refine dh_0n ?_; refine yv (op_neq (hr := hne)) (k := ?_); refine y_pick ?_) | (refine sy_region (id := 10) ?_; refine y_move ?_; refine y_eql ?_) | (refine sy_region (id := 12) ?_; refine y_move ?_; (refine ys (op_call0 (f := 66) (hc := fun w' X hk hh => hsh w' (row_sla hh (by exact Has.append Has.go)))) (k := ?_); rintro _ _ ⟨R, rfl, a3, c3, rfl, rfl⟩); refine y_move ?_; (refine ys (op_call0 (f := 36) (hc := fun w' X hk hh => hof w')) (k := ?_); rintro _ _ ⟨R, rfl, a4, c4, rfl, rfl⟩); (refine ys (op_call0 (f := 65) (hc := fun w' X hk hh => had w' _ _ _ _ (row_sla hh (by exact Has.append Has.go)) (row_sla hh (by exact Has.append Has.go)))) (k := ?_); rintro _ _ ⟨R, rfl, a5, c5, rfl, rfl⟩); refine y_assign ?_) | (refine sy_region (id := 6) ?_; refine y_move ?_; refine y_add ?_; refine y_assign ?_) | fail)
      refine syx_back (i + 1, a5, c5) ⟨by show i + 1 ≤ n; omega, fun j hj => ?_⟩ ?_ ?_ ?_
      · rcases Nat.lt_or_ge j i with h | h
        · exact hok j h
        · obtain rfl : j = i := by omega
          exact ⟨u, q, hu, hd⟩
      · show n - (i + 1) < n - i; omega
      · exact Sub.go
      · exact SubR.go2
  obtain rfl : i = n := by omega
  obtain ⟨r, hr⟩ : ∃ r, hexs l = some r := by
    cases hh : hexs l with
    | some r => exact ⟨r, rfl⟩
    | none =>
      obtain ⟨j, u, h1, h2, _⟩ := hexs_none hh
      have hj : j < l.length := by
        rcases Nat.lt_or_ge j l.length with h | h
        · exact h
        · rw [List.getElem?_eq_none h] at h1; cases h1
      obtain ⟨v, d, h3, h4⟩ := hok j (by omega)
      rw [h1] at h3
      cases h3
      rw [h2] at h4; cases h4
  have htk : (hexd l).take i = hexd l := List.take_of_length_le (by rw [hexd, List.length_map]; omega)
  rw [hr, Option.map_some]
  dsimp only
  rw [htk, hexs_eq hr]
  rw [decide_eq_false hlt] at hlss
  generalize bev 16 (hexd l) = X at *
  repeat' (first | refine sy_seqC ?_ | refine syl_nil ?_ | refine sy_if_f rfl ?_ | refine sy_ret ?_ | refine sy_exit ?_ | refine syx_then ?_ | refine syx_go ?_ | (refine sy_region (id := 5) ?_; refine y_move ?_; refine y_move ?_; refine y_len ?_; refine yv (op_lss (hr := hlss)) (k := ?_)) | (refine sy_region (id := 13) ?_; refine y_move ?_; refine y_assign ?_; refine y_assign ?_) | fail)
  exact ret2 rfl (resTmp rfl) (resTmp rfl) (by exact SubR.go) ⟨a, c, rfl, rfl⟩
end Go.Proofs.YtjidkoabdmjgkaaDoor
