/- The hash in progress, walked: Write. -/
import Derived.Test.YtaeddmcoanefhaaGreatDoorVJ31
import Derived.Test.YtaeddmcoanefhaaGreatDoorVJ03
import Derived.Lib.ConvBytes
import Derived.Test.YtaeddmcoanefhaaGreatDoorVJ05
set_option linter.all false
section
namespace Go.Proofs.YtaeddmcoanefhaaGreatDoor
open Go Go.Sy Go.Sh Go.RowKit
attribute [local irreducible] Sy SyL SyX Sy.Fn callFunc hcells
set_option maxRecDepth 10000
theorem addH_fn (S b bo N : Nat) (s : List UInt32) (r blk : List UInt8) (w : World) (hs : s.length = 8) (hr : r.length = 64) (hb : blk.length = 64) (hC : (Res.blk S 129 (hcells s r N)).holds w)
    (hB : w.rangeAt b bo (blk.map Sy.v8)) (hK : w.rangeAt 2 0 (kC.map Sy.v32)) :
    Sy.Fn Tryz.prog 110 [.pointer (some ⟨S, 0, none⟩), .slice (some ⟨b, bo, none⟩) 64 64] w (fun x => x = S) (fun v R => v = .tuple #[] ∧ R = [.blk S 129 (hcells (compress s blk) r N)]) := by
  have h := shadd_fn S 129 0 b bo _ s blk w hs hb hC hcells_seg (by rw [hcells_len hs hr]; omega) hB hK
  rw [hcells_setS hs (compress_len s blk hs)] at h
  exact h
set_option maxHeartbeats 1000000 in
theorem write_fn (S : Nat) (l b : List UInt8) (C : List Value) (a0 : Option Addr) (n c : Nat) (w : World) (hC : (Res.blk S 129 C).holds w) (hI : HashIs l C) (hn : b.length = n) (hc : n ≤ c)
    (hb : l.length + n < 1000000000000) (hsl : SlF w (fun x => x = S) a0 (b.map Sy.v8)) (hT : Tab w (fun x => x = S)) :
    Sy.Fn Tryz.prog 83 [.pointer (some ⟨S, 0, none⟩), .slice a0 n c] w (fun x => x = S) (fun v R => v = .int .i64 0 ∧ ∃ C', HashIs (l ++ b) C' ∧ R = [.blk S 129 C']) := by
  obtain ⟨s, r, rfl, hs, hr, hS, hR⟩ := hI
  have hst : w.rangeAt 1 0 (h0.map Sy.v32) := hT.start
  have hns := hT.ns
  have hL0 : Holds w.heap.size (fun x => x = S) [.blk S 129 (hcells s r l.length)] w := ⟨fun x hx => by obtain rfl := List.mem_singleton.1 hx; exact hC, List.pairwise_singleton _ _, fun x hx y hy => by obtain rfl := List.mem_singleton.1 hx; exact .inr (Eq.symm hy)⟩
  refine fn_enter Tryz.func83 rfl Tryz.ntmps83 (by simp) hL0 ?_
  generalize hN : l.length = N at *
  have g72 := hcells_n (N := N) hs hr
  repeat' (first | refine sy_seqC ?_ | refine syl_nil ?_ | refine sy_if_f rfl ?_ | refine sy_skip ?_ | refine syx_then ?_ | refine syx_go ?_ | (refine sy_region (id := 0) ?_; refine y_assign ?_) | (refine sy_region (id := 1) ?_; refine y_move ?_; refine y_eql ?_) | (refine sy_region (id := 3) ?_; refine y_move ?_; refine y_nilCheck ?_; refine y_fieldAddr ?_; refine yv (op_load (hv := g72)) (k := ?_); refine y_eql ?_) | fail)
  refine sy_cut (γ := List UInt32) (fun _ => [(0, .pointer (some ⟨S, 0, none⟩)), (1, .slice a0 n c), (4, .int .i64 0)]) (fun s' => [.blk S 129 (hcells s' r N)]) (fun s' => s'.length = 8 ∧ s' = fold h0 (whole (N / 64) l)) ?_ ?_
  · refine sy_cond rfl (fun h => ?_) (fun h => ?_)
    · have h := of_decide_eq_true h
      have hN0 : N = 0 := by omega
      repeat' (first | refine syl_nil ?_ | refine syx_then ?_ | (refine sy_region (id := 4) ?_; refine y_move ?_; refine yv (op_loads_old (hn := hns)) (k := ?_); refine y_nilCheck ?_; refine y_fieldAddr ?_; refine yn (op_stores (hL := by rw [hcells_setS hs rfl]; exact Upd.here) (hC := by rw [hcells_len hs hr]; decide)) (k := ?_)) | fail)
      refine syx_cut h0 ⟨rfl, by rw [hN0]; rfl⟩ ?_ ?_
      · exact Sub.go
      · exact SubR.go
    · have h := of_decide_eq_false h
      have hne : l ≠ [] := fun e => by subst e; simp at hN; omega
      repeat' (first | refine sy_skip ?_ | refine syx_then ?_ | fail)
      refine syx_cut s ⟨hs, hS hne⟩ ?_ ?_
      · exact Sub.go
      · exact SubR.go
  clear hs hS g72 hst hL0
  rintro s ⟨hs, hS⟩
  have g72 := hcells_n (N := N) hs hr
  obtain ⟨L, hL⟩ : ∃ L, L = l ++ b := ⟨_, rfl⟩
  have hLl : L.length = N + n := by rw [hL, List.length_append, hN, hn]
  have hLl' : (l ++ b).length = N + n := by rw [← hL]; exact hLl
  obtain ⟨j, hj⟩ : ∃ j, j = N / 64 := ⟨_, rfl⟩
  have hrem : ((N : Int)).tmod 64 = ((N % 64 : Nat) : Int) := rfl
  obtain ⟨u, hu⟩ : ∃ u, u = N % 64 := ⟨_, rfl⟩
  have hNj : N = 64 * j + u := by omega
  have hu64 : u < 64 := by omega
  rw [← hu] at hrem hR
  rw [← hj] at hR hS
  have hwl : whole j L = whole j l := by rw [hL]; exact whole_prefix j l b (by omega)
  have hLd : L.drop (64 * j) = l.drop (64 * j) ++ b := by rw [hL, List.drop_append_of_le_length (by omega)]
  repeat' (first | refine sy_seqC ?_ | refine syl_nil ?_ | refine syx_then ?_ | refine syx_go ?_ | (refine sy_region (id := 5) ?_; refine y_move ?_; refine y_nilCheck ?_; refine y_fieldAddr ?_; refine yv (op_load (hv := g72)) (k := ?_); refine yv (op_rem (hr := hrem)) (k := ?_); refine y_assign ?_) | (refine sy_region (id := 6) ?_; refine y_move ?_; refine y_nilCheck ?_; refine y_fieldAddr ?_; refine yv (op_load (hv := g72)) (k := ?_); refine y_move ?_; refine y_len ?_; refine y_add ?_; refine y_nilCheck ?_; refine y_fieldAddr ?_; refine yn (op_store (hC := hcells_setN (N' := N + n) hs hr)) (k := ?_)) | (refine sy_region (id := 7) ?_; refine y_move ?_; refine y_gtr ?_) | fail)
  refine sy_cut (γ := Nat × List UInt32 × List UInt8 × Option Addr × Nat × Nat) (fun g => [(0, .pointer (some ⟨S, 0, none⟩)), (1, .slice g.2.2.2.1 g.2.2.2.2.1 g.2.2.2.2.2), (4, .int .i64 0)]) (fun g => [.blk S 129 (hcells g.2.1 g.2.2.1 (N + n))])
    (fun g => 64 * g.1 + g.2.2.2.2.1 = N + n ∧ g.2.1.length = 8 ∧ g.2.2.1.length = 64 ∧ g.2.1 = fold h0 (whole g.1 L) ∧ SlF w (fun x => x = S) g.2.2.2.1 ((L.drop (64 * g.1)).map Sy.v8) ∧ g.2.2.2.2.1 ≤ g.2.2.2.2.2 ∧ g.2.2.2.2.2 ≤ c) ?_ ?_
  · refine sy_cond rfl (fun h => ?_) (fun h => ?_)
    · have h := of_decide_eq_true h
      have hrl : (l.drop (64 * j)).length = u := by rw [List.length_drop]; omega
      by_cases hsm : u + n < 64
      · -- the block is not full
        have hmin : Nat.min n (64 - u) = n := Nat.min_eq_left (by omega)
        have hset := hcells_setR (s := s) (r := r) (b := b) (N := N + n) (u := u) hs hr (by omega)
        repeat' (first | refine sy_seqC ?_ | refine syl_nil ?_ | refine sy_if_t rfl ?_ | refine sy_ret ?_ | refine syx_then ?_ | refine syx_go ?_ | refine syx_then_ret ?_ | (refine sy_region (id := 8) ?_; refine y_move ?_; refine y_nilCheck ?_; refine y_fieldAddr ?_; refine y_move ?_; refine yv (op_sliceArrR (ha := movA_lt1 (by omega))) (k := ?_); refine y_move ?_; refine yv (op_copyC (Rd.oldF hsl) (by rw [List.length_map, hn]) hset (hC := by rw [hcells_len hs hr]; omega)) (k := ?_); refine y_assign ?_) | (refine sy_region (id := 9) ?_; refine y_move ?_; refine y_move ?_; refine y_add ?_; refine y_lss ?_) | (refine sy_region (id := 10) ?_; refine y_assign ?_) | fail)
        refine ret1 rfl (resTmp rfl) (R := [.blk S 129 (hcells s (r.take u ++ b ++ r.drop (u + b.length)) (N + n))]) (by exact SubR.go) ⟨rfl, _, ⟨s, _, by rw [hLl'], hs, ?_, fun _ => ?_, ?_⟩, rfl⟩
        · simp [hr]; omega
        · rw [hLl', show (N + n) / 64 = j from by omega, ← hL, hwl]; exact hS
        · rw [hLl', show (N + n) / 64 = j from by omega, show (N + n) % 64 = u + n from by omega, ← hL, hLd, hR]
          exact List.take_left' (by rw [List.length_append, hrl, hn])
      · -- the block is full
        have hbl : (b.take (64 - u)).length = 64 - u := by rw [List.length_take]; omega
        have hset := hcells_setR (s := s) (r := r) (b := b.take (64 - u)) (N := N + n) (u := u) hs hr (by omega)
        have hrr : r.take u ++ b.take (64 - u) ++ r.drop (u + (b.take (64 - u)).length) = (L.drop (64 * j)).take 64 := by
          rw [hbl, List.drop_eq_nil_of_le (by omega), List.append_nil, hR, hLd, List.take_append, hrl, List.take_of_length_le (l := l.drop (64 * j)) (by omega)]
        rw [hrr] at hset
        obtain ⟨r2, hr2⟩ : ∃ r2, r2 = (L.drop (64 * j)).take 64 := ⟨_, rfl⟩
        rw [← hr2] at hset
        have hr2l : r2.length = 64 := by rw [hr2, List.length_take, List.length_drop]; omega
        have hcl := compress_len s r2 hs
        have hst2 : compress s r2 = fold h0 (whole (j + 1) L) := by rw [whole_snoc, Sh.fold_snoc, ← hr2, hwl, ← hS]
        have hsl2 : SlF w (fun x => x = S) a0 ((b.take (64 - u)).map Sy.v8) := by rw [List.map_take]; exact hsl.take _
        repeat' (first | refine sy_seqC ?_ | refine syl_nil ?_ | refine sy_if_f rfl ?_ | refine sy_skip ?_ | refine syx_then ?_ | refine syx_go ?_ | (refine sy_region (id := 8) ?_; refine y_move ?_; refine y_nilCheck ?_; refine y_fieldAddr ?_; refine y_move ?_; refine yv (op_sliceArrR (ha := movA_lt1 (by omega))) (k := ?_); refine y_move ?_; refine yv (op_copyC (Rd.oldF hsl2) ((List.length_map _).trans hbl) hset (hC := by rw [hcells_len hs hr]; omega)) (k := ?_); refine y_assign ?_) | (refine sy_region (id := 9) ?_; refine y_move ?_; refine y_move ?_; refine y_add ?_; refine y_lss ?_) | (refine sy_draw (id := 11) 7 [[], [0], [0, 1], [], [3], [3, 4], [3, 4, 5], [0, 1, 2, 3, 4, 5, 6]] mixed ?_ ?_; kernel_rfl; refine d_move ?_; refine d_nilCheck ?_; refine d_fieldAddr ?_; refine d_move ?_; refine d_nilCheck ?_; refine d_fieldAddr ?_; refine dc (fun _ _ => op_sliceArrR (ha := movA_lt1 (by omega))) (k := ?_); refine dh_0n ?_; refine yv (op_callB (hc := fun w' X hk hh => addH_fn S S 8 (N + n) s r2 r2 w' hs hr2l hr2l (hh.has (Has.append Has.here)) (blk_range (hh.has (Has.append Has.here)) (hcells_segR hs)) (hT.no hk).konst)) (k := ?_)) | (refine sy_region (id := 12) ?_; refine y_move ?_; refine y_move ?_; refine y_slice ?_; refine y_assign ?_) | fail)
        refine syx_cut (j + 1, compress s r2, r2, movA a0 (64 - u) c 1, n - (64 - u), c - (64 - u)) ⟨by dsimp only; omega, hcl, hr2l, hst2, ?_, by dsimp only; omega, by dsimp only; omega⟩ ?_ ?_
        · have := hsl.mov (l := 64 - u) (m := c) (by rw [List.length_map]; omega)
          show SlF w _ (movA a0 (64 - u) c 1) ((L.drop (64 * (j + 1))).map Sy.v8)
          rw [show 64 * (j + 1) = 64 * j + 64 from by omega, ← List.drop_drop, hLd, List.drop_append, List.drop_eq_nil_of_le (by omega), hrl, List.nil_append, List.map_drop]
          exact this
        · exact Sub.go
        · exact SubR.go
    · have h := of_decide_eq_false h
      have hu0 : u = 0 := by omega
      repeat' (first | refine sy_skip ?_ | refine syx_then ?_ | fail)
      refine syx_cut (j, s, r, a0, n, c) ⟨by show 64 * j + n = N + n; omega, hs, hr, by show s = _; rw [hS, hwl], ?_, hc, Nat.le_refl _⟩ ?_ ?_
      · show SlF w _ a0 ((L.drop (64 * j)).map Sy.v8)
        rw [hLd, List.drop_eq_nil_of_le (by omega), List.nil_append]; exact hsl
      · exact Sub.go
      · exact SubR.go
  clear hrem hu hwl hLd hR hr g72 hS hs hNj hj
  rintro ⟨j, s, r, a1, m, c1⟩ ⟨hj, hs, hr, hS, hs1, hmc, hcc⟩
  dsimp only at *
  repeat' (first | refine sy_seqC ?_ | refine sy_block ?_ | fail)
  refine sy_loop (γ := Nat × List UInt32 × List UInt8 × Option Addr × Nat × Nat) (fun g => [(0, .pointer (some ⟨S, 0, none⟩)), (1, .slice g.2.2.2.1 g.2.2.2.2.1 g.2.2.2.2.2), (4, .int .i64 0)]) (fun g => [.blk S 129 (hcells g.2.1 g.2.2.1 (N + n))])
    (fun g => 64 * g.1 + g.2.2.2.2.1 = N + n ∧ g.2.1.length = 8 ∧ g.2.2.1.length = 64 ∧ g.2.1 = fold h0 (whole g.1 L) ∧ SlF w (fun x => x = S) g.2.2.2.1 ((L.drop (64 * g.1)).map Sy.v8) ∧ g.2.2.2.2.1 ≤ g.2.2.2.2.2 ∧ g.2.2.2.2.2 ≤ c) (fun g => g.2.2.2.2.1) (j, s, r, a1, m, c1) ⟨hj, hs, hr, hS, hs1, hmc, hcc⟩ ?_ ?_ ?_
  · exact Sub.go
  · exact SubR.go
  clear hj hs hr hS hs1 hmc hcc
  rintro ⟨j, s, r, a1, m, c1⟩ ⟨hj, hs, hr, hS, hs1, hmc, hcc⟩
  dsimp only at *
  have hdl : (L.drop (64 * j)).length = m := by rw [List.length_drop]; omega
  by_cases hge : 64 ≤ m
  · obtain ⟨x, hx⟩ : ∃ x, x = (L.drop (64 * j)).take 64 := ⟨_, rfl⟩
    have hxl : x.length = 64 := by rw [hx, List.length_take]; omega
    obtain ⟨b1, o1, rfl, hrd, hno⟩ : ∃ b1 o1, a1 = some ⟨b1, o1, none⟩ ∧ w.rangeAt b1 o1 (x.map Sy.v8) ∧ ¬ b1 = S := by
      rcases hs1.take 64 with h | ⟨b1, o1, h1, h2, h3⟩
      · exfalso; have := congrArg List.length h; simp [hdl] at this; omega
      · exact ⟨b1, o1, h1, by rw [hx, List.map_take]; exact h2, h3⟩
    have hcl := compress_len s x hs
    have hst2 : compress s x = fold h0 (whole (j + 1) L) := by rw [whole_snoc, Sh.fold_snoc, ← hx, ← hS]
    repeat' (first | refine sy_seqC ?_ | refine syl_nil ?_ | refine sy_if_t rfl ?_ | refine sy_block ?_ | refine sy_skip ?_ | refine syx_then ?_ | refine syx_go ?_ | refine syx_in ?_ | (refine sy_region (id := 13) ?_; refine y_move ?_; refine y_len ?_; refine y_geq ?_) | (refine sy_draw (id := 14) 5 [[], [0], [0, 1], [], [3], [0, 1, 2, 3, 4]] mixed ?_ ?_; kernel_rfl; refine d_move ?_; refine d_nilCheck ?_; refine d_fieldAddr ?_; refine d_move ?_; refine d_slice ?_; refine dh_0n ?_; refine yv (op_callB (hc := fun w' X hk hh => addH_fn S b1 o1 (N + n) s r x w' hs hr hxl (hh.has (Has.append Has.here)) (range_keep hrd hk hno) (hT.no hk).konst)) (k := ?_)) | (refine sy_region (id := 15) ?_; refine y_move ?_; refine y_slice ?_; refine y_assign ?_) | fail)
    refine syx_back (j + 1, compress s x, r, movA (some ⟨b1, o1, none⟩) 64 c1 1, m - 64, c1 - 64) ⟨by dsimp only; omega, hcl, hr, hst2, ?_, by dsimp only; omega, by dsimp only; omega⟩ ?_ ?_ ?_
    · have := hs1.mov (l := 64) (m := c1) (by rw [List.length_map, hdl]; exact hmc)
      rw [← List.map_drop, List.drop_drop, show 64 * j + 64 = 64 * (j + 1) from by omega] at this
      exact this
    · show m - 64 < m; omega
    · exact Sub.go
    · exact SubR.go
  have hset := hcells_setR (s := s) (r := r) (b := L.drop (64 * j)) (N := N + n) (u := 0) hs hr (by omega)
  repeat' (first | refine sy_seqC ?_ | refine syl_nil ?_ | refine sy_if_f rfl ?_ | refine sy_ret ?_ | refine sy_exit ?_ | refine syx_then ?_ | refine syx_go ?_ | (refine sy_region (id := 13) ?_; refine y_move ?_; refine y_len ?_; refine y_geq ?_) | (refine sy_region (id := 16) ?_; refine y_move ?_; refine y_nilCheck ?_; refine y_fieldAddr ?_; refine y_slice ?_; refine y_move ?_; refine yv (op_copyC (Rd.oldF hs1) ((List.length_map _).trans hdl) hset (hC := by rw [hcells_len hs hr]; omega)) (k := ?_)) | (refine sy_region (id := 17) ?_; refine y_assign ?_) | fail)
  refine ret1 rfl (resTmp rfl) (R := [.blk S 129 (hcells s (r.take 0 ++ L.drop (64 * j) ++ r.drop (0 + (L.drop (64 * j)).length)) (N + n))]) (by exact SubR.go) ⟨rfl, _, ⟨s, _, by rw [hLl'], hs, ?_, fun _ => ?_, ?_⟩, rfl⟩
  · simp [hr, hdl]; omega
  · rw [hLl', show (N + n) / 64 = j from by omega, ← hL]; exact hS
  · rw [hLl', show (N + n) / 64 = j from by omega, show (N + n) % 64 = m from by omega, ← hL, List.take_zero, List.nil_append, List.take_left' hdl]
end Go.Proofs.YtaeddmcoanefhaaGreatDoor
end
section
namespace Go.Sy
open Go
section
variable {P : Program} {ro : Option Nat} {N : Nat} {w0 : World} {M : Nat → Prop} {ds : List Deferred} {g : Nat → Option Value} {L : List Res} {o : Oper}
variable {t t' : TypeId} {x z : Operand} {y ye : Ty}
theorem Holds.fresh {B : Nat} {w w' : World} {r : Res} (h : Holds B M L w) (hk : Keep No w w') (hr : r.holds w') (ho : ∀ b, r.own b → b = w.heap.size) (hB : B ≤ w.heap.size) : Holds B M (r :: L) w' :=
  (h.keep hk (fun _ _ _ _ h => h)).cons hr (fun x hx b hb hb' => by
    have h1 := ho b hb
    have h2 := Res.own_lt (h.all x hx) hb'
    omega) (fun b hb => .inl (by have := ho b hb; omega))
theorem op_toBytes {e : Nat} {l : List UInt8} (ho : o.op = .convert t t' x := by exact rfl) (hx : ev g x = some (.string (str l)) := by exact rfl) (ht : tyOf P t = some y := by exact ty rfl) {y' : Ty} (ht' : tyOf P t' = some y' := by exact ty rfl) (hy' : y'.desc = .slice e := by exact rfl) (he : tyOf P e = some ye := by exact ty rfl) (hye : ye.desc = .int .u8 := by exact rfl) :
    OpT P ro N w0 M ds o g L (fun v L' => ∃ b c J fz, l.length ≤ c ∧ v = .slice (some ⟨b, 0, none⟩) l.length c ∧ L' = .obj b (.cells (l.map v8 ++ J).toArray e fz) :: L) :=
  OpT.run (by rw [ho]; rfl) fun a w X hst => by
    obtain ⟨d, i, hd, hi, hs, _⟩ := tyOf_spec ht
    obtain ⟨d', i', hd', hi', hs', _⟩ := tyOf_spec ht'
    rw [hy'] at hs'
    have := slim_slice hs'; subst this
    obtain ⟨d2, i2, hd2, hi2, hs2, _⟩ := tyOf_spec he
    rw [hye] at hs2
    have hd2' : d2 = .int .u8 := by
      cases d2 <;> simp [slim] at hs2
      exact congrArg _ hs2
    subst hd2'
    have hrun := Lib.run_convert_string_bytes w t t' e (str l) hd hd' hd2
    have hk : Keep No w (Lib.bytesWorld w e (str l)) := ⟨rfl, rfl, rfl, by rw [Lib.bytesWorld_size]; omega, fun k hk _ => Lib.bytesWorld_at_old w e (str l) k hk⟩
    have hB : w0.heap.size ≤ w.heap.size := hst.keep.size
    have hcells : Lib.bytesCells w e (str l) = (l.map v8 ++ List.replicate (grownCap w (str l).size 0 e - (str l).size) (Value.int .u8 0)).toArray := by
      apply Array.toList_inj.1
      simp [Lib.bytesCells, str, v8, Wd.n8]
    refine ⟨_, _, Lib.bytesWorld w e (str l), _, ?_, .inl rfl, ⟨w.heap.size, grownCap w (str l).size 0 e, List.replicate (grownCap w (str l).size 0 e - (str l).size) (Value.int .u8 0), ((Lib.bytesCells w e (str l)).size, (Lib.bytesCells w e (str l)).size + 1), by have := grownCap_ge w (str l).size 0 e; rw [str_size] at this ⊢; exact this, rfl, rfl⟩, hst.keep.trans hk (fun _ h => h.elim), ?_⟩
    · simp only [execOp, ho, hst.agr.eval hx, Sem.run_bind, hrun, Result.andThen_ok]
      rw [str_size]
      rfl
    · refine Holds.fresh hst.hold hk ?_ (fun b hb => hb.symm) hB
      show (Lib.bytesWorld w e (str l)).heap[w.heap.size]? = _
      rw [Lib.bytesWorld_at_new, hcells]
end
end Go.Sy
end
section
namespace Go.Proofs.YtaeddmcoanefhaaGreatDoor
open Go Go.Sy Go.Sh Go.Nt Go.RowKit
attribute [local irreducible] Sy SyL SyX Sy.Fn callFunc natC rowN gP gQ gL memB safeC fixB Sh.sum glen HashIs pkPt pkH
set_option maxRecDepth 10000
theorem sum_len32 (l : List UInt8) : (Sh.sum l).length = 32 := sum_len l
theorem phash_fn (a1 : Option Addr) (m d : Nat) (xs : List Bs) (w : World) (hm : xs.length = m) (hmb : m < 1000) (hsx : SlA w a1 (xs.map Bs.val)) (hxs : ∀ s ∈ xs, s.ok w ∧ s.n ≤ 10000) (hT : Tab w No) :
    Sy.Fn Tryz.prog 60 [.slice a1 m d] w No (Gives (.agg ((Sh.sum (Bs.cat xs)).map v8).toArray)) := by
  refine fn_enter Tryz.func60 rfl Tryz.ntmps60 (by simp) Holds.nil ?_
  have hz := HashIs.zero
  have hy32 := sum_len32 (Bs.cat xs)
  repeat' (first | refine sy_seqC ?_ | refine syl_nil ?_ | refine sy_block ?_ | refine syx_then ?_ | refine syx_go ?_ | (refine sy_region (id := 0) ?_; (refine y_new ?_; intro _)) | (refine sy_region (id := 1) ?_; (refine y_new ?_; intro _)) | (refine sy_region (id := 2) ?_; refine y_move ?_; refine y_len ?_; refine y_move ?_) | fail)
  rename_i b2 b3
  refine sy_loop (γ := Nat × List Value) (fun g => [(2, .pointer (some ⟨b2, 0, none⟩)), (3, .pointer (some ⟨b3, 0, none⟩)), (6, .slice a1 m d), (7, .int .i64 m), (8, .int .i64 g.1)]) (fun g => [.blk b3 129 g.2, .blk b2 37 (List.replicate 32 (.int .u8 0))])
    (fun g => g.1 ≤ m ∧ HashIs (Bs.cat (xs.take g.1)) g.2) (fun g => m - g.1) (0, List.replicate 8 (.int .u32 0) ++ (List.replicate 64 (.int .u8 0) ++ [.int .i64 0])) ⟨Nat.zero_le _, by exact hz⟩ ?_ ?_ ?_
  · exact Sub.go
  · exact SubR.go2
  rintro ⟨i, C⟩ ⟨hi, hC⟩
  dsimp only at *
  have hcl : (Bs.cat (xs.take i)).length ≤ 10000 * i := by
    have := Bs.cat_le (k := 10000) (xs.take i) (fun s hs => by have := hxs s (List.mem_of_mem_take hs); have h1 := this.1.len; omega)
    rw [List.length_take, Nat.min_eq_left (by omega)] at this; exact this
  by_cases hlt : i < m
  · obtain ⟨bl, ol, rfl, hcell⟩ := Bs.get hsx (hm ▸ hlt)
    have hci := hcell i (hm ▸ hlt)
    have hcat := Bs.cat_succ xs i (hm ▸ hlt)
    obtain ⟨h1, h4⟩ := hxs xs[i] (List.getElem_mem _)
    generalize xs[i] = s at *
    obtain ⟨sa, sn, sc, sl⟩ := s
    dsimp only at *
    have g1 : decide ((i : Int) < (m : Int)) = true := decide_eq_true (by omega)
    have g5 : IntKind.i64.wrap ((i : Int) + 1) = ((i + 1 : Nat) : Int) := by rw [IntWalk.i64_in _ (by omega)]; omega
    repeat' (first | refine sy_seqC ?_ | refine syl_nil ?_ | refine sy_if_t rfl ?_ | refine sy_block ?_ | refine sy_skip ?_ | refine syx_then ?_ | refine syx_go ?_ | (refine sy_region (id := 3) ?_; refine yv (op_lss (hr := g1)) (k := ?_)) | (refine sy_region (id := 4) ?_; refine yv (op_indexAddr1 (j := i)) (k := ?_); refine yv (op_load_old (hv := hci)) (k := ?_); refine y_assign ?_) | (refine sy_region (id := 5) ?_; refine y_move ?_) | fail)
    refine ys (op_callR (b := b3) (Rel := HashIs (Bs.cat (xs.take i) ++ sl)) (hc := fun w' X hk hh => write_fn b3 (Bs.cat (xs.take i)) sl C sa sn sc w' (hh.has (Has.append Has.here)) hC h1.len h1.cap (by omega) (SlF.oldB h1.sla hk hh Has.here) (hT.to hk (hh.one Has.here)))) (k := ?_); rintro _ _ ⟨rfl, C', hC', rfl⟩
    repeat' (first | refine syl_nil ?_ | refine syx_then ?_ | refine syx_go ?_ | (refine sy_region (id := 6) ?_; refine yv (op_add (hr := g5)) (k := ?_); refine y_move ?_) | fail)
    refine syx_back (i + 1, C') ⟨hlt, by show HashIs (Bs.cat (xs.take (i + 1))) C'; rw [hcat]; exact hC'⟩ ?_ ?_ ?_
    · show m - (i + 1) < m - i; omega
    · exact Sub.go
    · exact SubR.go2
  obtain rfl : i = m := by omega
  rw [List.take_of_length_le (by omega)] at hC hcl
  have g1 : decide ((i : Int) < (i : Int)) = false := decide_eq_false (by omega)
  generalize hH : Sh.sum (Bs.cat xs) = H at *
  repeat' (first | refine sy_seqC ?_ | refine syl_nil ?_ | refine sy_if_f rfl ?_ | refine sy_ret ?_ | refine sy_exit ?_ | refine syx_then ?_ | refine syx_go ?_ | (refine sy_region (id := 3) ?_; refine yv (op_lss (hr := g1)) (k := ?_)) | (refine sy_region (id := 7) ?_; refine yv (op_callV (hc := fun w' X hk hh => hH ▸ sumH_fn b3 (Bs.cat xs) C w' (hh.has (Has.append Has.here)) hC (by omega) (hT.no hk))) (k := ?_); refine y_store ?_) | fail)
  exact ret1 rfl (resCells rfl (ty rfl) rfl Has.go Seg.all (by first | rfl | (simp only [List.length_map, List.length_set, List.length_replicate, List.length_append]; omega) | (simp only [List.length_map]; first | assumption | omega) | (simp; omega) | fail)) SubR.nil ⟨rfl, rfl⟩
theorem pnum_fn (n : Nat) (w : World) (hn : n < 9223372036854775808) : Sy.Fn Tryz.prog 32 [.int .i64 (n : Int)] w No (Gives (natV n)) := by
  refine fn_enter Tryz.func32 rfl Tryz.ntmps32 (by simp) Holds.nil ?_
  have hln := natC_len n
  have h1 := fun w' => fromInt_fn n w' hn
  repeat' (first | refine sy_seqC ?_ | refine syl_nil ?_ | refine sy_ret ?_ | refine syx_then ?_ | refine syx_go ?_ | (refine sy_region (id := 0) ?_; (refine y_new ?_; intro _)) | (refine sy_region (id := 1) ?_; refine y_move ?_; refine yv (op_callV (hc := fun _ _ _ _ => (h1 _))) (k := ?_); refine y_move ?_; refine y_extract ?_; refine y_extract ?_; (refine y_new ?_; intro _); refine yn (op_storeNat (n := n)) (k := ?_); refine y_assign ?_) | (refine sy_region (id := 2) ?_; refine yv (op_loads (B := natC n)) (k := ?_); refine yn (op_storeNat (n := n)) (k := ?_)) | fail)
  exact ret1 rfl (resCells (B := natC n) rfl (ty rfl) rfl Has.go Seg.all (natC_len _).symm) SubR.nil ⟨rfl, rfl⟩
theorem u8w (n : Nat) (h : n < 256) : IntKind.u8.wrap (n : Int) = Wd.n8 (UInt8.ofNat n) := by
  rw [IntWalk.u8_in _ (by omega), Wd.n8_of_nat, Nat.mod_eq_of_lt h]
theorem segH {A J : List Value} : Seg (A ++ J) 0 A := fun j v hj => by
  rw [Nat.zero_add, List.getElem?_append_left (List.getElem?_eq_some_iff.1 hj).1]; exact hj
theorem bs_blk {B0 : Nat} {w : World} {M : Nat → Prop} {E b n : Nat} {l : List UInt8} {L : List Res} (hh : Holds B0 M L w) (hl : l.length = n) (hL : Has L (.blk b E (l.map v8))) : (⟨some ⟨b, 0, none⟩, n, n, l⟩ : Bs).ok w :=
  ⟨hl, Nat.le_refl _, .inr ⟨b, 0, rfl, blk_range (hh.has hL) Seg.all⟩, fun h => by cases h⟩
theorem bs_obj {w w' : World} {L X : List Res} {E b c : Nat} {l : List UInt8} {J : List Value} {fz : Nat × Nat} (hk : Keep No w w') (hh : Holds w.heap.size No (L ++ X) w') (hc : l.length ≤ c) (hL : Has L (.obj b (.cells (l.map v8 ++ J).toArray E fz))) : (⟨some ⟨b, 0, none⟩, l.length, c, l⟩ : Bs).ok w' :=
  ⟨rfl, hc, (Rd.of (Reads.obj hL segH)) w' X hk hh, fun h => by cases h⟩
def pkQ (i k : Nat) (lab : List UInt8) : Nat := bev 256 (bn (Sh.sum (lab ++ [UInt8.ofNat i, UInt8.ofNat k]))) * bev 256 (bn (Sh.sum (lab ++ [UInt8.ofNat i, UInt8.ofNat k]))) % gP i
theorem pkQ_pt (i : Nat) (s : Bool) : pkQ i 0 (pkLab s) = pkPt i s := by unfold pkQ pkPt pkH; rfl
set_option maxHeartbeats 1000000 in
theorem psq_fn (i k bl bi bp : Nat) (lab : List UInt8) (w : World) (h0 : 1 ≤ i) (h5 : i ≤ 4) (hk : k < 256) (hlab : lab.length ≤ 1000) (hT : Tab w No) (hcl : w.cell? ⟨bl, 0, none⟩ = some (.string (str lab))) (hci : w.cell? ⟨bi, 0, none⟩ = some (.int .i64 (i : Int))) (hcp : w.rangeAt bp 0 (natC (gP i))) :
    Sy.Fn Tryz.prog 102 [.int .i64 (k : Int), .pointer (some ⟨bl, 0, none⟩), .pointer (some ⟨bi, 0, none⟩), .pointer (some ⟨bp, 0, none⟩)] w No (Gives (.tuple #[natV (pkQ i k lab), .int .i64 0])) := by
  refine fn_enter Tryz.func102 rfl Tryz.ntmps102 (by simp) Holds.nil ?_
  have hui := u8w i (by omega)
  have huk := u8w k hk
  have hP0 : 0 < gP i := Nat.lt_trans Nat.zero_lt_one (gP_one i h0 h5)
  have hPW := gP_W i h0 h5
  have hq : pkQ i k lab = bev 256 (bn (Sh.sum (lab ++ [UInt8.ofNat i, UInt8.ofNat k]))) * bev 256 (bn (Sh.sum (lab ++ [UInt8.ofNat i, UInt8.ofNat k]))) % gP i := rfl
  have h32 := sum_len32 (lab ++ [UInt8.ofNat i, UInt8.ofNat k])
  have hph := fun w' (hk' : Keep No w w') b17 b16 bB cB (s1 : (⟨some ⟨bB, 0, none⟩, lab.length, cB, lab⟩ : Bs).ok w') (s2 : (⟨some ⟨b16, 0, none⟩, 2, 2, [UInt8.ofNat i, UInt8.ofNat k]⟩ : Bs).ok w') (h : w'.rangeAt b17 0 [Value.slice (some ⟨bB, 0, none⟩) lab.length cB, .slice (some ⟨b16, 0, none⟩) 2 2]) =>
    phash_fn (some ⟨b17, 0, none⟩) 2 2 [⟨some ⟨bB, 0, none⟩, lab.length, cB, lab⟩, ⟨some ⟨b16, 0, none⟩, 2, 2, [UInt8.ofNat i, UInt8.ofNat k]⟩] w' rfl (by decide) (.inr ⟨b17, 0, rfl, h⟩) (fun s hs => by
      simp only [List.mem_cons, List.not_mem_nil, or_false] at hs
      rcases hs with rfl | rfl
      · exact ⟨s1, by show lab.length ≤ 10000; omega⟩
      · exact ⟨s2, by show 2 ≤ 10000; decide⟩) (hT.no hk')
  simp only [show ∀ (x y : Bs), Bs.cat [x, y] = x.l ++ y.l from fun x y => by simp [Bs.cat]] at hph
  generalize Sh.sum (lab ++ [UInt8.ofNat i, UInt8.ofNat k]) = D at *
  have hVW : bev 256 (bn D) < 18446744073709551616 ^ 16 := bevW' (by omega)
  have hfb := fun w' b (h : w'.rangeAt b 0 (D.map v8)) => fromBytes_fn (some ⟨b, 0, none⟩) 32 32 D w' h32 (Nat.le_refl _) (.inr ⟨b, 0, rfl, h⟩) (by decide)
  rw [if_pos hVW] at hfb
  have hmul := fun w' => mmul_fn (bev 256 (bn D)) (bev 256 (bn D)) (gP i) w' hVW hVW hPW
  unfold modR at hmul
  rw [if_neg (by omega), ← hq] at hmul
  generalize bev 256 (bn D) = V at *
  generalize pkQ i k lab = r at *
  have lV := natC_len V
  have lr := natC_len r
  have lp := natC_len (gP i)
  repeat' (first | refine sy_seqC ?_ | refine syl_nil ?_ | refine syx_then ?_ | refine syx_go ?_ | (refine sy_region (id := 0) ?_; (refine y_new ?_; intro _); refine y_assign ?_) | (refine sy_region (id := 1) ?_; refine yv (op_load_old (hv := hcl)) (k := ?_)) | (refine ys (op_toBytes (l := lab)) (k := ?_); rintro _ _ ⟨bB, cB, J, fz, hcB, rfl, rfl⟩) | (refine syl_id ?_; first | refine yv (op_load_old (hv := hci)) (k := ?_) | refine yv (op_conv (hr := hui)) (k := ?_) | refine yv (op_conv (hr := huk)) (k := ?_) | refine y_move ?_ | (refine ys op_buildSlice (k := ?_); rintro _ _ ⟨_, rfl, rfl⟩) | fail) | fail)
  rename_i b16 b17
  refine yv (op_callV (f := 60) (hc := fun w' X hk hh => hph w' hk b17 b16 bB cB (bs_obj hk hh hcB (Has.there (Has.there Has.here))) (bs_blk hh rfl (Has.append (Has.there Has.here))) (blk_range (hh.has (Has.append Has.here)) Seg.all))) (k := ?_)
  repeat' (first | refine sy_seqC ?_ | refine syl_nil ?_ | refine sy_if_f rfl ?_ | refine sy_skip ?_ | refine sy_ret ?_ | refine syx_then ?_ | refine syx_go ?_ | (refine sy_region (id := 2) ?_; refine y_slice ?_; refine yv (op_callV (f := 72) (hc := fun w' X hk hh => hfb w' _ (blk_range (hh.has (Has.append Has.here)) Seg.all))) (k := ?_); refine y_move ?_; refine y_extract ?_; refine y_extract ?_; (refine y_new ?_; intro _); refine yn (op_storeNat (n := V)) (k := ?_); refine y_assign ?_) | (refine sy_region (id := 3) ?_; refine y_move ?_; refine y_neq ?_) | (refine sy_region (id := 5) ?_; refine yv (op_loads (B := natC V)) (k := ?_); refine yv (op_loads (B := natC V)) (k := ?_); refine y_load ?_; refine yv (op_callV (hc := fun _ _ _ _ => (hmul _))) (k := ?_); refine y_extract ?_; refine y_extract ?_; refine yn (op_storeNat (n := r)) (k := ?_); refine y_assign ?_) | (refine syl_id ?_; first | refine y_store ?_ | (refine y_new ?_; intro _) | fail) | fail)
  exact ret2 rfl (resCells (B := natC r) rfl (ty rfl) rfl Has.go Seg.all (natC_len _).symm) (resTmp rfl) SubR.nil ⟨rfl, rfl⟩
end Go.Proofs.YtaeddmcoanefhaaGreatDoor
end
