/- A hash in progress amid a block: Write and Sum, at whatever place. -/
import Derived.Test.YtaeddmcoanefhaaGreatDoorVJ32
import Derived.Test.YtaeddmcoanefhaaGreatDoorVJ03
set_option linter.all false
section
namespace Go.Sh
open Go Go.Wd Go.RowKit Go.Sy
section
variable {A B C D C' : List Value} {k : Nat} {v : Value}
theorem setSeg_in (h : k + D.length ≤ C.length) : setSeg (A ++ (C ++ B)) (A.length + k) D = A ++ (setSeg C k D ++ B) := by
  unfold setSeg
  rw [List.take_length_add_append, Nat.add_assoc, List.drop_length_add_append, List.take_append_of_le_length (by omega), List.drop_append_of_le_length (by omega)]
  simp
theorem Seg.in (h : Seg C k D) : Seg (A ++ (C ++ B)) (A.length + k) D := fun j v hj => by
  have h1 := h j v hj
  have hlt := (List.getElem?_eq_some_iff.1 h1).1
  rw [Nat.add_assoc, List.getElem?_append_right (by omega), Nat.add_sub_cancel_left, List.getElem?_append_left hlt]; exact h1
theorem SetAt.in (h : SetAt C k v C') : SetAt (A ++ (C ++ B)) (A.length + k) v (A ++ (C' ++ B)) :=
  ⟨by have := h.1; simp; omega, by rw [List.set_append_right _ _ (by omega), Nat.add_sub_cancel_left, List.set_append_left _ _ h.1, h.2]⟩
theorem get_in (h : C[k]? = some v) : (A ++ (C ++ B))[A.length + k]? = some v := by
  have hlt := (List.getElem?_eq_some_iff.1 h).1
  rw [List.getElem?_append_right (by omega), Nat.add_sub_cancel_left, List.getElem?_append_left hlt]; exact h
end
def gcells (A B : List Value) (s : List UInt32) (r : List UInt8) (N : Nat) : List Value := A ++ (hcells s r N ++ B)
section
variable {A B : List Value} {s s' : List UInt32} {r b : List UInt8} {N N' : Nat}
theorem gcells_def : gcells A B s r N = A ++ (hcells s r N ++ B) := rfl
theorem gcells_len (hs : s.length = 8) (hr : r.length = 64) : (gcells A B s r N).length = A.length + 73 + B.length := by unfold gcells; simp [hcells_len hs hr]; omega
theorem gcells_n (hs : s.length = 8) (hr : r.length = 64) : (gcells A B s r N)[A.length + 72]? = some (.int .i64 N) := get_in (hcells_n hs hr)
theorem gcells_setN (hs : s.length = 8) (hr : r.length = 64) : SetAt (gcells A B s r N) (A.length + 72) (.int .i64 N') (gcells A B s r N') := SetAt.in (hcells_setN hs hr)
theorem gcells_seg : Seg (gcells A B s r N) (A.length + 0) (s.map Sy.v32) := Seg.in hcells_seg
theorem gcells_segR (hs : s.length = 8) : Seg (gcells A B s r N) (A.length + 8) (r.map Sy.v8) := Seg.in (hcells_segR hs)
theorem gcells_setS (hs : s.length = 8) (hs' : s'.length = 8) : setSeg (gcells A B s r N) (A.length + 0) (s'.map Sy.v32) = gcells A B s' r N := by
  unfold gcells; rw [setSeg_in (by unfold hcells; simp [hs, hs']), hcells_setS hs hs']
theorem gcells_setR {u : Nat} (hs : s.length = 8) (hr : r.length = 64) (hb : u + b.length ≤ 64) : setSeg (gcells A B s r N) (A.length + 8 + u) (b.map Sy.v8) = gcells A B s (r.take u ++ b ++ r.drop (u + b.length)) N := by
  unfold gcells; rw [Nat.add_assoc, setSeg_in (by rw [hcells_len hs hr, List.length_map]; omega), hcells_setR hs hr hb]
end
end Go.Sh
namespace Go.Proofs.YtaeddmcoanefhaaGreatDoor
open Go Go.Sy Go.Sh Go.RowKit
attribute [local irreducible] Sy SyL SyX Sy.Fn callFunc gcells hcells
set_option maxRecDepth 10000
theorem addG_fn (S T b bo N : Nat) (A B : List Value) (s : List UInt32) (r blk : List UInt8) (w : World) (hs : s.length = 8) (hr : r.length = 64) (hb : blk.length = 64) (hC : (Res.blk S T (gcells A B s r N)).holds w)
    (hB : w.rangeAt b bo (blk.map Sy.v8)) (hK : w.rangeAt 2 0 (kC.map Sy.v32)) :
    Sy.Fn Tryz.prog 110 [.pointer (some ⟨S, A.length + 0, none⟩), .slice (some ⟨b, bo, none⟩) 64 64] w (fun x => x = S) (fun v R => v = .tuple #[] ∧ R = [.blk S T (gcells A B (compress s blk) r N)]) := by
  have h := shadd_fn S T (A.length + 0) b bo _ s blk w hs hb hC gcells_seg (by rw [gcells_len hs hr]; omega) hB hK
  rw [gcells_setS hs (compress_len s blk hs)] at h
  exact h
set_option maxHeartbeats 1000000 in
theorem writeG_fn (S T : Nat) (A B : List Value) (l b : List UInt8) (C : List Value) (a0 : Option Addr) (n c : Nat) (w : World) (hC : (Res.blk S T (A ++ (C ++ B))).holds w) (hI : HashIs l C) (hn : b.length = n) (hc : n ≤ c)
    (hb : l.length + n < 1000000000000) (hsl : SlF w (fun x => x = S) a0 (b.map Sy.v8)) (hT : Tab w (fun x => x = S)) :
    Sy.Fn Tryz.prog 83 [.pointer (some ⟨S, A.length, none⟩), .slice a0 n c] w (fun x => x = S) (fun v R => v = .int .i64 0 ∧ ∃ C', HashIs (l ++ b) C' ∧ R = [.blk S T (A ++ (C' ++ B))]) := by
  obtain ⟨s, r, rfl, hs, hr, hS, hR⟩ := hI
  rw [← gcells_def] at hC
  have hst : w.rangeAt 1 0 (h0.map Sy.v32) := hT.start
  have hns := hT.ns
  have hL0 : Holds w.heap.size (fun x => x = S) [.blk S T (gcells A B s r l.length)] w := ⟨fun x hx => by obtain rfl := List.mem_singleton.1 hx; exact hC, List.pairwise_singleton _ _, fun x hx y hy => by obtain rfl := List.mem_singleton.1 hx; exact .inr (Eq.symm hy)⟩
  refine fn_enter Tryz.func83 rfl Tryz.ntmps83 (by simp) hL0 ?_
  generalize hN : l.length = N at *
  have g72 := gcells_n (A := A) (B := B) (N := N) hs hr
  repeat' (first | refine sy_seqC ?_ | refine syl_nil ?_ | refine sy_if_f rfl ?_ | refine sy_skip ?_ | refine syx_then ?_ | refine syx_go ?_ | (refine sy_region (id := 0) ?_; refine y_assign ?_) | (refine sy_region (id := 1) ?_; refine y_move ?_; refine y_eql ?_) | (refine sy_region (id := 3) ?_; refine y_move ?_; refine y_nilCheck ?_; refine y_fieldAddr ?_; refine yv (op_load (hv := g72)) (k := ?_); refine y_eql ?_) | fail)
  refine sy_cut (γ := List UInt32) (fun _ => [(0, .pointer (some ⟨S, A.length, none⟩)), (1, .slice a0 n c), (4, .int .i64 0)]) (fun s' => [.blk S T (gcells A B s' r N)]) (fun s' => s'.length = 8 ∧ s' = fold h0 (whole (N / 64) l)) ?_ ?_
  · refine sy_cond rfl (fun h => ?_) (fun h => ?_)
    · have h := of_decide_eq_true h
      have hN0 : N = 0 := by omega
      repeat' (first | refine syl_nil ?_ | refine syx_then ?_ | (refine sy_region (id := 4) ?_; refine y_move ?_; refine yv (op_loads_old (hn := hns)) (k := ?_); refine y_nilCheck ?_; refine y_fieldAddr ?_; refine yn (op_stores (hL := by rw [gcells_setS hs rfl]; exact Upd.here) (hC := by rw [gcells_len hs hr, List.length_map, show h0.length = 8 from rfl]; omega)) (k := ?_)) | fail)
      refine syx_cut h0 ⟨rfl, by rw [hN0]; rfl⟩ ?_ ?_
      · exact Sub.go
      · exact SubR.go
    · have h := of_decide_eq_false h
      have hne : l ≠ [] := fun e => by subst e; simp at hN; omega
      repeat' (first | refine sy_skip ?_ | refine syx_then ?_ | fail)
      refine syx_cut s ⟨hs, hS hne⟩ ?_ ?_
      · exact Sub.go
      · exact SubR.go
  clear hs hS g72 hst hL0
  rintro s ⟨hs, hS⟩
  have g72 := gcells_n (A := A) (B := B) (N := N) hs hr
  obtain ⟨L, hL⟩ : ∃ L, L = l ++ b := ⟨_, rfl⟩
  have hLl : L.length = N + n := by rw [hL, List.length_append, hN, hn]
  have hLl' : (l ++ b).length = N + n := by rw [← hL]; exact hLl
  obtain ⟨j, hj⟩ : ∃ j, j = N / 64 := ⟨_, rfl⟩
  have hrem : ((N : Int)).tmod 64 = ((N % 64 : Nat) : Int) := rfl
  obtain ⟨u, hu⟩ : ∃ u, u = N % 64 := ⟨_, rfl⟩
  have hNj : N = 64 * j + u := by omega
  have hu64 : u < 64 := by omega
  rw [← hu] at hrem hR
  rw [← hj] at hR hS
  have hwl : whole j L = whole j l := by rw [hL]; exact whole_prefix j l b (by omega)
  have hLd : L.drop (64 * j) = l.drop (64 * j) ++ b := by rw [hL, List.drop_append_of_le_length (by omega)]
  repeat' (first | refine sy_seqC ?_ | refine syl_nil ?_ | refine syx_then ?_ | refine syx_go ?_ | (refine sy_region (id := 5) ?_; refine y_move ?_; refine y_nilCheck ?_; refine y_fieldAddr ?_; refine yv (op_load (hv := g72)) (k := ?_); refine yv (op_rem (hr := hrem)) (k := ?_); refine y_assign ?_) | (refine sy_region (id := 6) ?_; refine y_move ?_; refine y_nilCheck ?_; refine y_fieldAddr ?_; refine yv (op_load (hv := g72)) (k := ?_); refine y_move ?_; refine y_len ?_; refine y_add ?_; refine y_nilCheck ?_; refine y_fieldAddr ?_; refine yn (op_store (hC := gcells_setN (N' := N + n) hs hr)) (k := ?_)) | (refine sy_region (id := 7) ?_; refine y_move ?_; refine y_gtr ?_) | fail)
  refine sy_cut (γ := Nat × List UInt32 × List UInt8 × Option Addr × Nat × Nat) (fun g => [(0, .pointer (some ⟨S, A.length, none⟩)), (1, .slice g.2.2.2.1 g.2.2.2.2.1 g.2.2.2.2.2), (4, .int .i64 0)]) (fun g => [.blk S T (gcells A B g.2.1 g.2.2.1 (N + n))])
    (fun g => 64 * g.1 + g.2.2.2.2.1 = N + n ∧ g.2.1.length = 8 ∧ g.2.2.1.length = 64 ∧ g.2.1 = fold h0 (whole g.1 L) ∧ SlF w (fun x => x = S) g.2.2.2.1 ((L.drop (64 * g.1)).map Sy.v8) ∧ g.2.2.2.2.1 ≤ g.2.2.2.2.2 ∧ g.2.2.2.2.2 ≤ c) ?_ ?_
  · refine sy_cond rfl (fun h => ?_) (fun h => ?_)
    · have h := of_decide_eq_true h
      have hrl : (l.drop (64 * j)).length = u := by rw [List.length_drop]; omega
      by_cases hsm : u + n < 64
      · -- the block is not full
        have hmin : Nat.min n (64 - u) = n := Nat.min_eq_left (by omega)
        have hset := gcells_setR (A := A) (B := B) (s := s) (r := r) (b := b) (N := N + n) (u := u) hs hr (by omega)
        repeat' (first | refine sy_seqC ?_ | refine syl_nil ?_ | refine sy_if_t rfl ?_ | refine sy_ret ?_ | refine syx_then ?_ | refine syx_go ?_ | refine syx_then_ret ?_ | (refine sy_region (id := 8) ?_; refine y_move ?_; refine y_nilCheck ?_; refine y_fieldAddr ?_; refine y_move ?_; refine yv (op_sliceArrR (ha := movA_lt1 (by omega))) (k := ?_); refine y_move ?_; refine yv (op_copyC (Rd.oldF hsl) (by rw [List.length_map, hn]) hset (hC := by rw [gcells_len hs hr]; omega)) (k := ?_); refine y_assign ?_) | (refine sy_region (id := 9) ?_; refine y_move ?_; refine y_move ?_; refine y_add ?_; refine y_lss ?_) | (refine sy_region (id := 10) ?_; refine y_assign ?_) | fail)
        refine ret1 rfl (resTmp rfl) (R := [.blk S T (gcells A B s (r.take u ++ b ++ r.drop (u + b.length)) (N + n))]) (by exact SubR.go) ⟨rfl, hcells s (r.take u ++ b ++ r.drop (u + b.length)) (N + n), ⟨s, _, by rw [hLl'], hs, ?_, fun _ => ?_, ?_⟩, congrArg (fun x => [Res.blk S T x]) gcells_def⟩
        · simp [hr]; omega
        · rw [hLl', show (N + n) / 64 = j from by omega, ← hL, hwl]; exact hS
        · rw [hLl', show (N + n) / 64 = j from by omega, show (N + n) % 64 = u + n from by omega, ← hL, hLd, hR]
          exact List.take_left' (by rw [List.length_append, hrl, hn])
      · -- the block is full
        have hbl : (b.take (64 - u)).length = 64 - u := by rw [List.length_take]; omega
        have hset := gcells_setR (A := A) (B := B) (s := s) (r := r) (b := b.take (64 - u)) (N := N + n) (u := u) hs hr (by omega)
        have hrr : r.take u ++ b.take (64 - u) ++ r.drop (u + (b.take (64 - u)).length) = (L.drop (64 * j)).take 64 := by
          rw [hbl, List.drop_eq_nil_of_le (by omega), List.append_nil, hR, hLd, List.take_append, hrl, List.take_of_length_le (l := l.drop (64 * j)) (by omega)]
        rw [hrr] at hset
        obtain ⟨r2, hr2⟩ : ∃ r2, r2 = (L.drop (64 * j)).take 64 := ⟨_, rfl⟩
        rw [← hr2] at hset
        have hr2l : r2.length = 64 := by rw [hr2, List.length_take, List.length_drop]; omega
        have hcl := compress_len s r2 hs
        have hst2 : compress s r2 = fold h0 (whole (j + 1) L) := by rw [whole_snoc, Sh.fold_snoc, ← hr2, hwl, ← hS]
        have hsl2 : SlF w (fun x => x = S) a0 ((b.take (64 - u)).map Sy.v8) := by rw [List.map_take]; exact hsl.take _
        repeat' (first | refine sy_seqC ?_ | refine syl_nil ?_ | refine sy_if_f rfl ?_ | refine sy_skip ?_ | refine syx_then ?_ | refine syx_go ?_ | (refine sy_region (id := 8) ?_; refine y_move ?_; refine y_nilCheck ?_; refine y_fieldAddr ?_; refine y_move ?_; refine yv (op_sliceArrR (ha := movA_lt1 (by omega))) (k := ?_); refine y_move ?_; refine yv (op_copyC (Rd.oldF hsl2) ((List.length_map _).trans hbl) hset (hC := by rw [gcells_len hs hr]; omega)) (k := ?_); refine y_assign ?_) | (refine sy_region (id := 9) ?_; refine y_move ?_; refine y_move ?_; refine y_add ?_; refine y_lss ?_) | (refine sy_draw (id := 11) 7 [[], [0], [0, 1], [], [3], [3, 4], [3, 4, 5], [0, 1, 2, 3, 4, 5, 6]] mixed ?_ ?_; kernel_rfl; refine d_move ?_; refine d_nilCheck ?_; refine d_fieldAddr ?_; refine d_move ?_; refine d_nilCheck ?_; refine d_fieldAddr ?_; refine dc (fun _ _ => op_sliceArrR (ha := movA_lt1 (by omega))) (k := ?_); refine dh_0n ?_; refine yv (op_callB (hc := fun w' X hk hh => addG_fn S T S (A.length + 8 + 0) (N + n) A B s r2 r2 w' hs hr2l hr2l (hh.has (Has.append Has.here)) (blk_range (hh.has (Has.append Has.here)) (show Seg _ (A.length + 8 + 0) _ from gcells_segR hs)) (hT.no hk).konst)) (k := ?_)) | (refine sy_region (id := 12) ?_; refine y_move ?_; refine y_move ?_; refine y_slice ?_; refine y_assign ?_) | fail)
        refine syx_cut (j + 1, compress s r2, r2, movA a0 (64 - u) c 1, n - (64 - u), c - (64 - u)) ⟨by dsimp only; omega, hcl, hr2l, hst2, ?_, by dsimp only; omega, by dsimp only; omega⟩ ?_ ?_
        · have := hsl.mov (l := 64 - u) (m := c) (by rw [List.length_map]; omega)
          show SlF w _ (movA a0 (64 - u) c 1) ((L.drop (64 * (j + 1))).map Sy.v8)
          rw [show 64 * (j + 1) = 64 * j + 64 from by omega, ← List.drop_drop, hLd, List.drop_append, List.drop_eq_nil_of_le (by omega), hrl, List.nil_append, List.map_drop]
          exact this
        · exact Sub.go
        · exact SubR.go
    · have h := of_decide_eq_false h
      have hu0 : u = 0 := by omega
      repeat' (first | refine sy_skip ?_ | refine syx_then ?_ | fail)
      refine syx_cut (j, s, r, a0, n, c) ⟨by show 64 * j + n = N + n; omega, hs, hr, by show s = _; rw [hS, hwl], ?_, hc, Nat.le_refl _⟩ ?_ ?_
      · show SlF w _ a0 ((L.drop (64 * j)).map Sy.v8)
        rw [hLd, List.drop_eq_nil_of_le (by omega), List.nil_append]; exact hsl
      · exact Sub.go
      · exact SubR.go
  clear hrem hu hwl hLd hR hr g72 hS hs hNj hj
  rintro ⟨j, s, r, a1, m, c1⟩ ⟨hj, hs, hr, hS, hs1, hmc, hcc⟩
  dsimp only at *
  repeat' (first | refine sy_seqC ?_ | refine sy_block ?_ | fail)
  refine sy_loop (γ := Nat × List UInt32 × List UInt8 × Option Addr × Nat × Nat) (fun g => [(0, .pointer (some ⟨S, A.length, none⟩)), (1, .slice g.2.2.2.1 g.2.2.2.2.1 g.2.2.2.2.2), (4, .int .i64 0)]) (fun g => [.blk S T (gcells A B g.2.1 g.2.2.1 (N + n))])
    (fun g => 64 * g.1 + g.2.2.2.2.1 = N + n ∧ g.2.1.length = 8 ∧ g.2.2.1.length = 64 ∧ g.2.1 = fold h0 (whole g.1 L) ∧ SlF w (fun x => x = S) g.2.2.2.1 ((L.drop (64 * g.1)).map Sy.v8) ∧ g.2.2.2.2.1 ≤ g.2.2.2.2.2 ∧ g.2.2.2.2.2 ≤ c) (fun g => g.2.2.2.2.1) (j, s, r, a1, m, c1) ⟨hj, hs, hr, hS, hs1, hmc, hcc⟩ ?_ ?_ ?_
  · exact Sub.go
  · exact SubR.go
  clear hj hs hr hS hs1 hmc hcc
  rintro ⟨j, s, r, a1, m, c1⟩ ⟨hj, hs, hr, hS, hs1, hmc, hcc⟩
  dsimp only at *
  have hdl : (L.drop (64 * j)).length = m := by rw [List.length_drop]; omega
  by_cases hge : 64 ≤ m
  · obtain ⟨x, hx⟩ : ∃ x, x = (L.drop (64 * j)).take 64 := ⟨_, rfl⟩
    have hxl : x.length = 64 := by rw [hx, List.length_take]; omega
    obtain ⟨b1, o1, rfl, hrd, hno⟩ : ∃ b1 o1, a1 = some ⟨b1, o1, none⟩ ∧ w.rangeAt b1 o1 (x.map Sy.v8) ∧ ¬ b1 = S := by
      rcases hs1.take 64 with h | ⟨b1, o1, h1, h2, h3⟩
      · exfalso; have := congrArg List.length h; simp [hdl] at this; omega
      · exact ⟨b1, o1, h1, by rw [hx, List.map_take]; exact h2, h3⟩
    have hcl := compress_len s x hs
    have hst2 : compress s x = fold h0 (whole (j + 1) L) := by rw [whole_snoc, Sh.fold_snoc, ← hx, ← hS]
    repeat' (first | refine sy_seqC ?_ | refine syl_nil ?_ | refine sy_if_t rfl ?_ | refine sy_block ?_ | refine sy_skip ?_ | refine syx_then ?_ | refine syx_go ?_ | refine syx_in ?_ | (refine sy_region (id := 13) ?_; refine y_move ?_; refine y_len ?_; refine y_geq ?_) | (refine sy_draw (id := 14) 5 [[], [0], [0, 1], [], [3], [0, 1, 2, 3, 4]] mixed ?_ ?_; kernel_rfl; refine d_move ?_; refine d_nilCheck ?_; refine d_fieldAddr ?_; refine d_move ?_; refine d_slice ?_; refine dh_0n ?_; refine yv (op_callB (hc := fun w' X hk hh => addG_fn S T b1 o1 (N + n) A B s r x w' hs hr hxl (hh.has (Has.append Has.here)) (range_keep hrd hk hno) (hT.no hk).konst)) (k := ?_)) | (refine sy_region (id := 15) ?_; refine y_move ?_; refine y_slice ?_; refine y_assign ?_) | fail)
    refine syx_back (j + 1, compress s x, r, movA (some ⟨b1, o1, none⟩) 64 c1 1, m - 64, c1 - 64) ⟨by dsimp only; omega, hcl, hr, hst2, ?_, by dsimp only; omega, by dsimp only; omega⟩ ?_ ?_ ?_
    · have := hs1.mov (l := 64) (m := c1) (by rw [List.length_map, hdl]; exact hmc)
      rw [← List.map_drop, List.drop_drop, show 64 * j + 64 = 64 * (j + 1) from by omega] at this
      exact this
    · show m - 64 < m; omega
    · exact Sub.go
    · exact SubR.go
  have hset := gcells_setR (A := A) (B := B) (s := s) (r := r) (b := L.drop (64 * j)) (N := N + n) (u := 0) hs hr (by omega)
  repeat' (first | refine sy_seqC ?_ | refine syl_nil ?_ | refine sy_if_f rfl ?_ | refine sy_ret ?_ | refine sy_exit ?_ | refine syx_then ?_ | refine syx_go ?_ | (refine sy_region (id := 13) ?_; refine y_move ?_; refine y_len ?_; refine y_geq ?_) | (refine sy_region (id := 16) ?_; refine y_move ?_; refine y_nilCheck ?_; refine y_fieldAddr ?_; refine y_slice ?_; refine y_move ?_; refine yv (op_copyC (Rd.oldF hs1) ((List.length_map _).trans hdl) hset (hC := by rw [gcells_len hs hr]; omega)) (k := ?_)) | (refine sy_region (id := 17) ?_; refine y_assign ?_) | fail)
  refine ret1 rfl (resTmp rfl) (R := [.blk S T (gcells A B s (r.take 0 ++ L.drop (64 * j) ++ r.drop (0 + (L.drop (64 * j)).length)) (N + n))]) (by exact SubR.go) ⟨rfl, hcells s (r.take 0 ++ L.drop (64 * j) ++ r.drop (0 + (L.drop (64 * j)).length)) (N + n), ⟨s, _, by rw [hLl'], hs, ?_, fun _ => ?_, ?_⟩, congrArg (fun x => [Res.blk S T x]) gcells_def⟩
  · simp [hr, hdl]; omega
  · rw [hLl', show (N + n) / 64 = j from by omega, ← hL]; exact hS
  · rw [hLl', show (N + n) / 64 = j from by omega, show (N + n) % 64 = m from by omega, ← hL, List.take_zero, List.nil_append, List.take_left' hdl]
end Go.Proofs.YtaeddmcoanefhaaGreatDoor
namespace Go.Proofs.YtaeddmcoanefhaaGreatDoor
open Go Go.Sy Go.Sh Go.RowKit
attribute [local irreducible] Sy SyL SyX Sy.Fn callFunc gcells hcells
set_option maxRecDepth 10000
set_option maxHeartbeats 1000000 in
theorem sumG_fn (S T : Nat) (A B : List Value) (l : List UInt8) (C : List Value) (w : World) (hC : (Res.blk S T (A ++ (C ++ B))).holds w) (hI : HashIs l C) (hb : l.length < 1000000000000) (hT : Tab w No) :
    Sy.Fn Tryz.prog 84 [.pointer (some ⟨S, A.length, none⟩)] w No (Gives (.agg ((sum l).map Sy.v8).toArray)) := by
  obtain ⟨s, r, rfl, hs, hr, hS, hR⟩ := hI
  rw [← gcells_def] at hC
  have h72 : w.cell? ⟨S, A.length + 72, none⟩ = some (.int .i64 l.length) := by rw [Sy.blk_cell hC]; exact gcells_n hs hr
  have hst : w.rangeAt S (A.length + 0) (s.map Sy.v32) := blk_range hC gcells_seg
  have hre : w.rangeAt S (A.length + 8) (r.map Sy.v8) := blk_range hC (gcells_segR hs)
  refine fn_enter Tryz.func84 rfl Tryz.ntmps84 (by simp) Holds.nil ?_
  by_cases hl0 : l = []
  · subst hl0
    repeat' (first | refine sy_seqC ?_ | refine syl_nil ?_ | refine sy_if_t rfl ?_ | refine sy_ret ?_ | refine syx_then ?_ | refine syx_go ?_ | refine syx_then_ret ?_ | (refine sy_region (id := 0) ?_; (refine y_new ?_; intro _)) | (refine sy_region (id := 1) ?_; refine y_move ?_; refine y_eql ?_; refine y_move ?_; refine y_move ?_; refine y_nilCheck ?_; refine y_fieldAddr ?_; refine y_load ?_; refine y_eql ?_; refine y_pick ?_) | (refine sy_region (id := 2) ?_; refine yv (op_callV (hc := fun w' _ hk _ => shsum_fn none 0 0 [] w' rfl (Nat.le_refl _) (by decide) SlA.nil (hT.no hk))) (k := ?_); refine y_store ?_) | fail)
    exact ret1 rfl (resCells rfl (ty rfl) rfl Has.go Seg.all (by first | rfl | (simp only [List.length_map, List.length_set, List.length_replicate, List.length_append]; omega) | (simp only [List.length_map]; first | assumption | omega) | (simp; omega) | fail)) SubR.nil ⟨rfl, rfl⟩
  · have hpos : 0 < l.length := List.length_pos_iff.2 hl0
    have hrem : ((l.length : Int)).tmod 64 = ((l.length % 64 : Nat) : Int) := rfl
    have hu : l.length % 64 < 64 := by omega
    generalize hud : l.length % 64 = u at *
    repeat' (first | refine sy_seqC ?_ | refine syl_nil ?_ | refine sy_if_f rfl ?_ | refine sy_skip ?_ | refine syx_then ?_ | refine syx_go ?_ | (refine sy_region (id := 0) ?_; (refine y_new ?_; intro _)) | (refine sy_region (id := 1) ?_; refine y_move ?_; refine y_eql ?_; refine y_move ?_; refine y_move ?_; refine y_nilCheck ?_; refine y_fieldAddr ?_; refine y_load ?_; refine y_eql ?_; refine y_pick ?_) | (refine sy_region (id := 3) ?_; refine y_move ?_; refine y_nilCheck ?_; refine y_fieldAddr ?_; refine y_load ?_; (refine y_new ?_; intro _); refine y_store ?_) | (refine sy_region (id := 4) ?_; refine y_move ?_; refine y_nilCheck ?_; refine y_fieldAddr ?_; refine y_load ?_; refine yv (op_rem (hr := hrem)) (k := ?_); refine y_assign ?_) | (refine sy_draw (id := 5) 10 [[], [0], [0, 1], [], [], [0, 1, 2, 3, 4], [], [6], [6, 7], [6, 7, 8], [0, 1, 2, 3, 4, 5, 6, 7, 8, 9]] mixed ?_ ?_; kernel_rfl; refine d_move ?_; refine d_nilCheck ?_; refine d_fieldAddr ?_; refine d_move ?_; refine d_move ?_; refine d_slice ?_; refine d_move ?_; refine d_nilCheck ?_; refine d_fieldAddr ?_; refine d_load ?_; refine dh_0n ?_) | fail)
    rename_i bo bs
    have hlast : (l.drop (64 * (l.length / 64))).length = u := by rw [List.length_drop]; omega
    have hsl : SlA w (some ⟨S, A.length + 8, none⟩) ((l.drop (64 * (l.length / 64))).map Sy.v8) := by
      refine .inr ⟨S, A.length + 8, rfl, fun j v hj => hre j v ?_⟩
      rw [← hR, List.map_take, List.getElem?_take] at hj
      split at hj
      · exact hj
      · cases hj
    generalize hlst : l.drop (64 * (l.length / 64)) = last at *
    refine ys (op_call0 (hc := fun w' X hk hh => padded_fn _ _ w' rfl)) (k := ?_)
    rintro _ _ ⟨R, rfl, b1, b2, rfl, rfl⟩
    repeat' (first | refine syl_nil ?_ | refine sy_block ?_ | refine syx_then ?_ | refine syx_go ?_ | fail)
    refine sy_range (γ := Nat) (xs := blocks last l.length) (Arg := ArgB) entered_outer rfl (en rfl) rfl (fun k s => s = k) (fun _ _ _ => False) (fun k => [.blk bs 126 ((fold s ((blocks last l.length).take k)).map Sy.v32)])
      [.blk b1 22 [.slice (some ⟨S, A.length + 8, none⟩) u u], .blk b2 3 [.int .i64 l.length]] [.blk bo 37 (List.replicate 32 (.int .u8 0))] 0 rfl ?_ ?_ ?_ ?_ ?_ ?_
    · exact (List.perm_append_comm (l₁ := [_, _]) (l₂ := [_])).append_right _
    · exact fun w' Mi X hk hm _ _ => padded1_it b1 b2 _ u u l.length last w' Mi hlast (Nat.le_refl _) (by omega) (hsl.to hk hm)
    · rintro O x vs RA w' ⟨b, o, rfl, _⟩; rfl
    · rintro lp k hk q vs RA W rec hrec rfl ⟨b, o, rfl, rfl, hrd, hno⟩ hkW hmine
      have hT' := hT.to hkW hmine
      have hl8 : (fold s ((blocks last l.length).take q)).length = 8 := fold_len _ _ hs
      have hl64 : (blocks last l.length)[q].length = 64 := blocks_all _ _ _ (List.getElem_mem hk)
      have hfs := fold_take_succ s (blocks last l.length) q hk
      generalize fold s ((blocks last l.length).take q) = st at *
      generalize (blocks last l.length)[q] = x at *
      have hcl := compress_len st x hl8
      repeat' (first | refine syl_nil ?_ | refine sy_block ?_ | refine syx_then ?_ | refine syx_in ?_ | (apply syx_begin; (focus ((repeat (first | exact Rem.here | apply Rem.there)); done)); assumption) | (refine sy_region (id := 6) ?_; refine y_assign ?_) | (refine sy_region (id := 7) ?_; refine y_move ?_; refine yv (op_callB (hc := fun w' X hk hh => add_fn0 bs 126 b o st x w' hl8 hl64 (hh.has (Has.append (Has.there Has.here))) (range_keep hrd hk hno) (hT'.no hk).konst)) (k := ?_)) | fail)
      refine syx_rnd (q + 1) rfl ?_
      (repeat' (first | exact SubR.nil | (apply SubR.same; with_reducible (focus ((repeat (first | exact Rem.here | apply Rem.there)); done))) | (apply SubR.blk; (focus ((repeat (first | exact Rem.here | apply Rem.there)); done))) | (apply SubR.pick; (focus ((repeat (first | exact Rem.here | apply Rem.there)); done))) | rfl))
      rw [hfs]
    · rintro q rfl
      rw [List.take_length]
      have hf8 : (fold s (blocks last l.length)).length = 8 := fold_len _ _ hs
      have hsum : ser (fold s (blocks last l.length)) = sum l := by
        have hq0 : last.length / 64 = 0 := by omega
        unfold sum fold
        rw [hS hl0]
        unfold blocks fold
        simp only [hq0, hlst, whole, List.nil_append, Nat.mul_zero, List.drop_zero, List.foldl_append]
      generalize fold s (blocks last l.length) = st at *
      have hs32 : (ser st).length = 32 := by rw [ser_len, hf8]
      repeat' (first | refine sy_seqC ?_ | refine syl_nil ?_ | refine sy_ret ?_ | refine syx_then ?_ | refine syx_go ?_ | (refine sy_region (id := 8) ?_; refine y_load ?_; refine yv (op_callV (hc := fun w' _ _ _ => bytes_any st w' hf8)) (k := ?_); refine y_store ?_) | fail)
      exact ret1 rfl (resCells rfl (ty rfl) rfl Has.go Seg.all (by first | rfl | (simp only [List.length_map, List.length_set, List.length_replicate, List.length_append]; omega) | (simp only [List.length_map]; first | assumption | omega) | (simp; omega) | fail)) SubR.nil ⟨by rw [hsum], rfl⟩
    · exact fun _ _ _ _ h => h.elim
end Go.Proofs.YtaeddmcoanefhaaGreatDoor
end
section
namespace Go.Proofs.YtaeddmcoanefhaaGreatDoor
open Go Go.Sy Go.Sh Go.RowKit
attribute [local irreducible] Sy SyL SyX Sy.Fn callFunc Sh.sum hcells HashIs
set_option maxRecDepth 10000
section
variable {w0 w : World} {M : Nat → Prop} {L X : List Res} {S : Nat} {l b : List UInt8} {C : List Value}
theorem sumH_at (hk : Keep M w0 w) (hh : Holds w0.heap.size M (L ++ X) w) (hL : Has L (.blk S 129 C)) (hI : HashIs l C) (hb : l.length < 1000000000000) (hT : Tab w0 M) :
    Sy.Fn Tryz.prog 84 [.pointer (some ⟨S, 0, none⟩)] w No (Gives (.agg ((Sh.sum l).map Sy.v8).toArray)) :=
  sumH_fn S l C w (hh.has (Has.append hL)) hI hb (hT.no hk)
end
end Go.Proofs.YtaeddmcoanefhaaGreatDoor
end
