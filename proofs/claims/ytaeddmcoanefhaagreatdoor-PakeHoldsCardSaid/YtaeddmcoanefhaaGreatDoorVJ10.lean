/- Products of words: Mul64. -/
import Derived.Test.YtaeddmcoanefhaaGreatDoorVJ09
import Derived.Test.YtaeddmcoanefhaaGreatDoorVJ07
set_option linter.all false
section
namespace Go.Proofs.YtaeddmcoanefhaaGreatDoor
open Go Go.Sy Go.Nt Go.RowKit
attribute [local irreducible] Sy SyL SyX Sy.Fn callFunc natC
set_option maxRecDepth 10000
theorem mul64_fn (x y : Nat) (w : World) (hx : x < 18446744073709551616) (hy : y < 18446744073709551616) :
    Sy.Fn Tryz.prog 148 [nv x, nv y] w No (Gives (.tuple #[nv (x * y / 18446744073709551616), nv (x * y % 18446744073709551616)])) := by
  refine fn_enter Tryz.func148 rfl Tryz.ntmps148 (by simp) Holds.nil ?_
  obtain ⟨e1, e2, e3, e4⟩ := Lib.mul64_hi x y hx hy
  repeat' (first | refine sy_seqC ?_ | refine syl_nil ?_ | refine sy_ret ?_ | refine syx_then ?_ | refine syx_go ?_ | (refine sy_region (id := 0) ?_; refine y_assign ?_; refine y_assign ?_) | (refine sy_region (id := 1) ?_; refine y_move ?_; refine yv (op_maskN (a := x) 32 (by decide) hx) (k := ?_); refine y_assign ?_) | (refine sy_region (id := 2) ?_; refine y_move ?_; refine yv (op_shrN 32 (by decide)) (k := ?_); refine y_assign ?_) | (refine sy_region (id := 3) ?_; refine y_move ?_; refine yv (op_maskN (a := y) 32 (by decide) hy) (k := ?_); refine y_assign ?_) | (refine sy_region (id := 4) ?_; refine y_move ?_; refine yv (op_shrN 32 (by decide)) (k := ?_); refine y_assign ?_) | (refine sy_region (id := 5) ?_; refine y_move ?_; refine y_move ?_; refine yv op_mulN (k := ?_); refine y_assign ?_) | (refine sy_region (id := 6) ?_; refine y_move ?_; refine y_move ?_; refine yv op_mulN (k := ?_); refine y_move ?_; refine yv (op_shrN 32 (by decide)) (k := ?_); refine yv op_addN (k := ?_); refine y_assign ?_) | (refine sy_region (id := 7) ?_; refine y_move ?_; refine yv (op_maskN 32 (by decide) (Nat.mod_lt _ (by decide))) (k := ?_); refine y_assign ?_) | (refine sy_region (id := 8) ?_; refine y_move ?_; refine yv (op_shrN 32 (by decide)) (k := ?_); refine y_assign ?_) | (refine sy_region (id := 9) ?_; refine y_move ?_; refine y_move ?_; refine y_move ?_; refine yv op_mulN (k := ?_); refine yv op_addN (k := ?_); refine y_assign ?_) | (refine sy_region (id := 10) ?_; refine y_move ?_; refine y_move ?_; refine yv op_mulN (k := ?_); refine y_move ?_; refine yv op_addN (k := ?_); refine y_move ?_; refine yv (op_shrN 32 (by decide)) (k := ?_); refine yv op_addN (k := ?_); refine y_assign ?_) | (refine sy_region (id := 11) ?_; refine y_move ?_; refine y_move ?_; refine yv op_mulN (k := ?_); refine y_assign ?_) | fail)
  refine ret2 rfl (resTmp rfl) (resTmp rfl) SubR.nil ⟨congrArg (fun n => Value.tuple #[nv n, nv (x * y % 18446744073709551616)]) ?_, rfl⟩
  have ha := Lib.half_mul_le (a := x / 4294967296) (b := y / 4294967296) (by omega) (by omega)
  have hb := Lib.half_mul_le (a := x / 4294967296) (b := y % 4294967296) (by omega) (by omega)
  have hc := Lib.half_mul_le (a := x % 4294967296) (b := y / 4294967296) (by omega) (by omega)
  have hd := Lib.half_mul_le (a := x % 4294967296) (b := y % 4294967296) (by omega) (by omega)
  rw [← e4]
  simp only [show (2 : Nat) ^ 32 = 4294967296 from rfl]
  generalize (x / 4294967296) * (y / 4294967296) = a at *
  generalize (x / 4294967296) * (y % 4294967296) = b at *
  generalize (x % 4294967296) * (y / 4294967296) = c at *
  generalize (x % 4294967296) * (y % 4294967296) = d at *
  omega
end Go.Proofs.YtaeddmcoanefhaaGreatDoor
namespace Go.Proofs.YtaeddmcoanefhaaGreatDoor
open Go Go.Sy Go.Nt Go.RowKit
attribute [local irreducible] Sy SyL SyX Sy.Fn callFunc natC
set_option maxRecDepth 10000
set_option maxHeartbeats 1000000 in
theorem times_fn (x y : Nat) (w : World) (hx : x < 18446744073709551616 ^ 16) (hy : y < 18446744073709551616 ^ 16) :
    Sy.Fn Tryz.prog 133 [natV x, natV y] w No (Gives (if x * y < 18446744073709551616 ^ 16 then .tuple #[natV (x * y), .bool true] else .tuple #[natV 0, .bool false])) := by
  refine fn_enter Tryz.func133 rfl Tryz.ntmps133 (by simp) Holds.nil ?_
  have hlx := natC_len x
  have hly := natC_len y
  repeat' (first | refine sy_seqC ?_ | refine syl_nil ?_ | refine sy_block ?_ | refine syx_then ?_ | refine syx_go ?_ | (refine sy_region (id := 0) ?_; (refine y_new ?_; intro _); (refine y_new ?_; intro _); (refine y_new ?_; intro _); refine y_assign ?_) | (refine sy_region (id := 1) ?_; (refine y_new ?_; intro _)) | (refine sy_draw (id := 2) 3 [[], [0], [], [0, 1, 2], [0, 1, 2, 3], [0, 1, 2, 3, 4]] mixed ?_ ?_; kernel_rfl; refine d_load ?_; refine dc (fun _ _ => op_callV (hc := fun _ _ _ _ => (length_fn x _ hx))) (k := ?_); refine d_load ?_; refine dh_0n ?_; refine yv (op_callV (hc := fun _ _ _ _ => (length_fn y _ hy))) (k := ?_); refine y_assign ?_; refine y_assign ?_) | (refine sy_region (id := 3) ?_; refine y_move ?_; refine y_move ?_) | fail)
  rename_i b2 b3 b4 b6
  have hnx := nd_le 18446744073709551616 x 16 (by decide) hx
  have hny := nd_le 18446744073709551616 y 16 (by decide) hy
  have hxl := nd_lt 18446744073709551616 x (by decide)
  have hyl := nd_lt 18446744073709551616 y (by decide)
  have hgx := natC_get x
  have hgy := natC_get y
  have hst := MulJ.start 18446744073709551616 32 x y (nd 18446744073709551616 x) (nd 18446744073709551616 y) (by decide)
  generalize nd 18446744073709551616 x = n at *
  generalize nd 18446744073709551616 y = m at *
  refine sy_loop (γ := Nat × List Nat) (fun g => [(2, .pointer (some ⟨b2, 0, none⟩)), (3, .pointer (some ⟨b3, 0, none⟩)), (4, .pointer (some ⟨b4, 0, none⟩)), (5, .bool false), (6, .pointer (some ⟨b6, 0, none⟩)), (8, .int .i64 m), (21, .int .i64 n), (22, .int .i64 g.1)])
    (fun g => [.blk b6 196 (g.2.map nv), .blk b4 42 (List.replicate 16 (Value.int IntKind.u64 0)), .blk b3 42 (natC y), .blk b2 42 (natC x)])
    (fun g => g.1 ≤ n ∧ MulJ 18446744073709551616 32 x y n m g.1 0 g.2 0) (fun g => n - g.1) (0, List.replicate 32 0) ⟨Nat.zero_le _, hst⟩ ?_ ?_ ?_
  · exact Sub.go
  · exact SubR.go
  rintro ⟨i, l⟩ ⟨hi, hj⟩
  dsimp only at hi hj ⊢
  by_cases hlt : i < n
  · repeat' (first | refine sy_seqC ?_ | refine syl_nil ?_ | refine sy_if_t rfl ?_ | refine sy_block ?_ | refine sy_skip ?_ | refine syx_then ?_ | refine syx_go ?_ | (refine sy_region (id := 4) ?_; refine y_lss ?_) | (refine sy_region (id := 5) ?_; refine y_move ?_; refine y_assign ?_) | (refine sy_region (id := 6) ?_; refine y_assign ?_) | (refine sy_region (id := 7) ?_; refine y_move ?_; refine y_move ?_) | fail)
    refine sy_loop (γ := Nat × List Nat × Nat) (fun g => [(2, .pointer (some ⟨b2, 0, none⟩)), (3, .pointer (some ⟨b3, 0, none⟩)), (4, .pointer (some ⟨b4, 0, none⟩)), (5, .bool false), (6, .pointer (some ⟨b6, 0, none⟩)), (8, .int .i64 m), (21, .int .i64 n), (22, .int .i64 i), (9, .int .i64 i), (10, nv g.2.2), (25, .int .i64 m), (26, .int .i64 g.1)])
      (fun g => [.blk b6 196 (g.2.1.map nv), .blk b4 42 (List.replicate 16 (Value.int IntKind.u64 0)), .blk b3 42 (natC y), .blk b2 42 (natC x)])
      (fun g => g.1 ≤ m ∧ MulJ 18446744073709551616 32 x y n m i g.1 g.2.1 g.2.2) (fun g => m - g.1) (0, l, 0) ⟨Nat.zero_le _, hj⟩ ?_ ?_ ?_
    · exact Sub.go
    · exact SubR.go
    rintro ⟨j, l, c⟩ ⟨hj1, hj2⟩
    dsimp only at hj1 hj2 ⊢
    have hll := hj2.len
    have hml : (l.map nv).length = 32 := by rw [List.length_map, hll]
    have hcW := hj2.car
    by_cases hjl : j < m
    · have ha := hgx i (by omega)
      have hd := hgy j (by omega)
      have hal : x / 18446744073709551616 ^ i % 18446744073709551616 < 18446744073709551616 := Nat.mod_lt _ (by decide)
      have hdl : y / 18446744073709551616 ^ j % 18446744073709551616 < 18446744073709551616 := Nat.mod_lt _ (by decide)
      obtain ⟨u, hu⟩ : ∃ u, l[i + j]? = some u := ⟨l[i + j]'(by omega), List.getElem?_eq_getElem _⟩
      have huW := hj2.low u (List.mem_of_getElem? hu)
      have hu' : (l.map nv)[i + j]? = some (nv u) := by rw [List.getElem?_map, hu]; rfl
      have hadd : IntKind.i64.wrap ((i : Int) + (j : Int)) = ((i + j : Nat) : Int) := by rw [IntWalk.i64_in _ (by omega)]; omega
      have hstep := fun z c' => hj2.step (z := z) (c' := c') (by omega) hjl hu
      generalize x / 18446744073709551616 ^ i % 18446744073709551616 = a at *
      generalize y / 18446744073709551616 ^ j % 18446744073709551616 = d at *
      repeat' (first | refine sy_seqC ?_ | refine syl_nil ?_ | refine sy_if_t rfl ?_ | refine sy_block ?_ | refine sy_skip ?_ | refine syx_then ?_ | refine syx_go ?_ | (refine sy_region (id := 8) ?_; refine y_lss ?_) | (refine sy_region (id := 9) ?_; refine y_move ?_; refine y_assign ?_) | (refine sy_draw (id := 10) 11 [[], [0], [0, 1], [], [3], [3, 4], [0, 1, 2, 3, 4, 5], [0, 1, 2, 3, 4, 5, 6], [0, 1, 2, 3, 4, 5, 6, 7], [0, 1, 2, 3, 4, 5, 6, 7], [0, 1, 2, 3, 4, 5, 6, 7, 8], [0, 1, 2, 3, 4, 5, 6, 7, 8, 9, 10]] mixed ?_ ?_; kernel_rfl; refine d_move ?_; refine d_indexAddr ?_; refine dc (fun _ _ => op_load (hv := ha)) (k := ?_); refine d_move ?_; refine d_indexAddr ?_; refine dc (fun _ _ => op_load (hv := hd)) (k := ?_); refine dc (fun _ _ => op_callV (hc := fun _ _ _ _ => (mul64_fn a d _ hal hdl))) (k := ?_); refine d_move ?_; refine d_extract ?_; refine d_extract ?_; refine d_assign ?_; refine dh_0n ?_; refine y_assign ?_) | (refine sy_region (id := 11) ?_; refine y_assign ?_) | (refine sy_region (id := 12) ?_; refine y_move ?_; refine y_move ?_; refine y_move ?_; refine yv (op_add (hr := hadd)) (k := ?_); refine y_indexAddr ?_; refine yv (op_load (hv := hu')) (k := ?_); refine yv (op_ext (hr := add64_call (a * d % 18446744073709551616) u 0 (by decide))) (k := ?_); refine y_move ?_; refine y_extract ?_; refine y_extract ?_; refine y_assign ?_; refine y_assign ?_) | (refine sy_region (id := 13) ?_; refine y_move ?_; refine y_move ?_; refine yv op_addN (k := ?_); refine y_assign ?_) | (refine sy_region (id := 14) ?_; refine y_move ?_; refine y_move ?_; refine yv (op_ext (hr := add64_call ((a * d % 18446744073709551616 + u + 0) % 18446744073709551616) c 0 (by decide))) (k := ?_); refine y_move ?_; refine y_extract ?_; refine y_extract ?_; refine y_assign ?_; refine y_assign ?_) | (refine sy_region (id := 15) ?_; refine y_move ?_; refine y_move ?_; refine yv (op_add (hr := hadd)) (k := ?_); refine y_move ?_; refine y_move ?_; refine y_move ?_; refine yv op_addN (k := ?_); refine y_indexAddr ?_; refine y_store ?_; refine y_assign ?_) | (refine syl_id ?_; first | refine y_add ?_ | refine y_move ?_ | fail) | refine sy_region ?_ | fail)
      have hP : a * d ≤ 340282366920938463426481119284349108225 := Nat.le_trans (Nat.mul_le_mul (show a ≤ 18446744073709551615 by omega) (show d ≤ 18446744073709551615 by omega)) (by decide)
      generalize a * d = q at *
      obtain ⟨z, hz⟩ : ∃ z, ((q % 18446744073709551616 + u + 0) % 18446744073709551616 + c + 0) % 18446744073709551616 = z := ⟨_, rfl⟩
      obtain ⟨e, he⟩ : ∃ e, ((q / 18446744073709551616 + (q % 18446744073709551616 + u + 0) / 18446744073709551616) % 18446744073709551616 + ((q % 18446744073709551616 + u + 0) % 18446744073709551616 + c + 0) / 18446744073709551616) % 18446744073709551616 = e := ⟨_, rfl⟩
      rw [hz, he]
      refine syx_back (j + 1, l.set (i + j) z, e) ⟨by show j + 1 ≤ m; omega, hstep z e (by omega) (by omega) (by omega)⟩ ?_ ?_ ?_
      · show m - (j + 1) < m - j; omega
      · exact Sub.go
      · show SubR [.blk b6 196 ((l.set (i + j) z).map nv), .blk b4 42 (List.replicate 16 (Value.int IntKind.u64 0)), .blk b3 42 (natC y), .blk b2 42 (natC x)] _
        rw [List.map_set]
        exact SubR.go
    obtain rfl : j = m := by omega
    have hadd : IntKind.i64.wrap ((i : Int) + (j : Int)) = ((i + j : Nat) : Int) := by rw [IntWalk.i64_in _ (by omega)]; omega
    repeat' (first | refine sy_seqC ?_ | refine syl_nil ?_ | refine sy_if_f rfl ?_ | refine sy_exit ?_ | refine syx_then ?_ | refine syx_go ?_ | (refine sy_region (id := 8) ?_; refine y_lss ?_) | (refine sy_region (id := 17) ?_; refine y_move ?_; refine y_move ?_; refine yv (op_add (hr := hadd)) (k := ?_); refine y_move ?_; refine y_indexAddr ?_; refine y_store ?_) | (refine sy_region (id := 18) ?_; refine y_add ?_; refine y_move ?_) | fail)
    refine syx_back (i + 1, l.set (i + j) c) ⟨by show i + 1 ≤ n; omega, hj2.row (by omega) hyl⟩ ?_ ?_ ?_
    · show n - (i + 1) < n - i; omega
    · exact Sub.go
    · show SubR [.blk b6 196 ((l.set (i + j) c).map nv), .blk b4 42 (List.replicate 16 (Value.int IntKind.u64 0)), .blk b3 42 (natC y), .blk b2 42 (natC x)] _
      rw [List.map_set]
      exact SubR.go
  obtain rfl : i = n := by omega
  repeat' (first | refine sy_seqC ?_ | refine syl_nil ?_ | refine sy_if_f rfl ?_ | refine sy_block ?_ | refine sy_exit ?_ | refine syx_then ?_ | refine syx_go ?_ | (refine sy_region (id := 4) ?_; refine y_lss ?_) | (refine sy_region (id := 19) ?_; refine y_slice ?_; refine y_len ?_; refine y_move ?_) | fail)
  have hxy := hj.done hxl
  have hll := hj.len
  have hlow := hj.low
  have hml : (l.map nv).length = 32 := by rw [List.length_map, hll]
  refine sy_loop (γ := Nat) (fun q => [(4, .pointer (some ⟨b4, 0, none⟩)), (6, .pointer (some ⟨b6, 0, none⟩)), (73, .slice (some ⟨b6, 16, none⟩) 16 16), (74, .int .i64 16), (75, .int .i64 q)])
    (fun _ => [.blk b6 196 (l.map nv), .blk b4 42 (List.replicate 16 (Value.int IntKind.u64 0))])
    (fun q => q ≤ 16 ∧ ∀ p, 16 ≤ p → p < 16 + q → l[p]? = some 0) (fun q => 16 - q) 0 ⟨Nat.zero_le _, fun p h1 h2 => absurd h2 (by omega)⟩ ?_ ?_ ?_
  · exact Sub.go
  · exact SubR.go2
  rintro q ⟨hq, hz⟩
  by_cases hql : q < 16
  · obtain ⟨u, hu⟩ : ∃ u, l[16 + q]? = some u := ⟨l[16 + q]'(by omega), List.getElem?_eq_getElem _⟩
    have hu' : (l.map nv)[16 + q]? = some (nv u) := by rw [List.getElem?_map, hu]; rfl
    by_cases h0 : u = 0
    · subst h0
      repeat' (first | refine sy_seqC ?_ | refine syl_nil ?_ | refine sy_if_t rfl ?_ | refine sy_if_f rfl ?_ | refine sy_block ?_ | refine sy_skip ?_ | refine syx_then ?_ | refine syx_go ?_ | (refine sy_region (id := 20) ?_; refine y_lss ?_) | (refine sy_region (id := 21) ?_; refine y_indexAddr ?_; refine yv (op_load (hv := hu')) (k := ?_); refine y_assign ?_) | (refine sy_region (id := 22) ?_; refine y_move ?_; refine y_neq ?_) | (refine sy_region (id := 24) ?_; refine y_add ?_; refine y_move ?_) | fail)
      refine syx_back (q + 1) ⟨by omega, fun p h1 h2 => ?_⟩ ?_ ?_ ?_
      · rcases Nat.lt_or_ge p (16 + q) with h | h
        · exact hz p h1 h
        · obtain rfl : p = 16 + q := by omega
          exact hu
      · show 16 - (q + 1) < 16 - q; omega
      · exact Sub.go
      · exact SubR.go
    · repeat' (first | refine sy_seqC ?_ | refine syl_nil ?_ | refine sy_if_t rfl ?_ | refine sy_block ?_ | refine sy_skip ?_ | refine sy_ret ?_ | refine syx_then ?_ | refine syx_go ?_ | refine syx_then_ret ?_ | refine syx_in_ret ?_ | (refine sy_region (id := 20) ?_; refine y_lss ?_) | (refine sy_region (id := 21) ?_; refine y_indexAddr ?_; refine yv (op_load (hv := hu')) (k := ?_); refine y_assign ?_) | (refine sy_region (id := 22) ?_; refine y_move ?_; refine y_neq ?_) | (refine sy_region (id := 23) ?_; refine y_build ?_; refine y_store ?_; refine y_assign ?_) | fail)
      have hge := vl_set 18446744073709551616 l (16 + q) u 0 hu
      have hpw : 18446744073709551616 ^ 16 ≤ u * 18446744073709551616 ^ (16 + q) := Nat.le_trans (Nat.pow_le_pow_right (by decide) (Nat.le_add_right 16 q)) (Nat.le_mul_of_pos_left _ (by omega))
      rw [if_neg (by omega)]
      exact ret2 rfl (resCells (B := List.replicate 16 (Value.int IntKind.u64 0)) rfl (ty rfl) rfl Has.go Seg.all rfl) (resTmp rfl) SubR.nil ⟨by rw [← natV0], rfl⟩
  obtain rfl : q = 16 := by omega
  have hz16 : l.drop 16 = List.replicate 16 0 := by
    apply List.ext_getElem?
    intro p
    rw [List.getElem?_drop, List.getElem?_replicate]
    split
    · exact hz _ (by omega) (by omega)
    · exact List.getElem?_eq_none (by omega)
  have htl : (l.take 16).length = 16 := by rw [List.length_take]; omega
  have htd := vl_take_drop 18446744073709551616 l 16 (by omega)
  rw [hz16, vl_zeros, Nat.mul_zero, Nat.add_zero] at htd
  have hlt := vl_lt 18446744073709551616 (l.take 16) (fun d hd => hlow d (List.mem_of_mem_take hd))
  have hdv := dg_vl 18446744073709551616 (l.take 16) (fun d hd => hlow d (List.mem_of_mem_take hd))
  rw [htl, ← htd, hxy] at hlt hdv
  have hnc : natC (x * y) = (l.map nv).take 16 := by unfold natC; rw [hdv, List.map_take]
  have hsg : Seg (l.map nv) 0 (natC (x * y)) := fun j v h => by
    rw [hnc] at h
    rw [Nat.zero_add]
    rw [List.getElem?_take] at h
    split at h
    · exact h
    · cases h
  repeat' (first | refine sy_seqC ?_ | refine syl_nil ?_ | refine sy_if_f rfl ?_ | refine sy_ret ?_ | refine sy_exit ?_ | refine syx_then ?_ | refine syx_go ?_ | (refine sy_region (id := 20) ?_; refine y_lss ?_) | (refine sy_region (id := 25) ?_; refine y_slice ?_; refine yv (op_toArr (n := 16)) (k := ?_); refine yv (op_loads (C := l.map nv) (B := natC (x * y)) (hv := hsg) (hz := (natC_len (x * y)).symm)) (k := ?_); refine yn (op_storeNat (n := x * y)) (k := ?_); refine y_assign ?_) | fail)
  rw [if_pos hlt]
  exact ret2 rfl (resCells (B := natC (x * y)) rfl (ty rfl) rfl Has.go Seg.all (natC_len _).symm) (resTmp rfl) SubR.nil ⟨rfl, rfl⟩
end Go.Proofs.YtaeddmcoanefhaaGreatDoor
namespace Go.Proofs.YtaeddmcoanefhaaGreatDoor
open Go Go.Sy Go.Nt Go.RowKit
attribute [local irreducible] Sy SyL SyX Sy.Fn callFunc natC
set_option maxRecDepth 10000
theorem mul_fn (x y : Nat) (w : World) (hx : x < 18446744073709551616 ^ 16) (hy : y < 18446744073709551616 ^ 16) :
    Sy.Fn Tryz.prog 118 [natV x, natV y] w No (Gives (if x * y < 18446744073709551616 ^ 16 then .tuple #[natV (x * y), .int .i64 0] else .tuple #[natV 0, .int .i64 7])) := by
  refine fn_enter Tryz.func118 rfl Tryz.ntmps118 (by simp) Holds.nil ?_
  have hlx := natC_len x
  have hly := natC_len y
  have ht := fun w => times_fn x y w hx hy
  by_cases h : x * y < 18446744073709551616 ^ 16
  · simp only [if_pos h] at ht ⊢
    generalize x * y = s at *
    have hls := natC_len s
    repeat' (first | refine sy_seqC ?_ | refine syl_nil ?_ | refine sy_if_f rfl ?_ | refine sy_skip ?_ | refine sy_ret ?_ | refine syx_then ?_ | refine syx_go ?_ | (refine sy_region (id := 0) ?_; (refine y_new ?_; intro _); (refine y_new ?_; intro _); (refine y_new ?_; intro _); refine y_assign ?_) | (refine sy_region (id := 1) ?_; refine y_fieldAddr ?_; refine y_load ?_; refine y_fieldAddr ?_; refine y_load ?_; refine yv (op_callV (hc := fun _ _ _ _ => (ht _))) (k := ?_); refine y_move ?_; refine y_extract ?_; refine y_extract ?_; (refine y_new ?_; intro _); refine yn (op_storeNat (n := s)) (k := ?_); refine y_assign ?_) | (refine sy_region (id := 2) ?_; refine y_move ?_; refine y_unOp ?_) | (refine sy_region (id := 4) ?_; refine y_load ?_; refine yv (op_buildNat (n := s)) (k := ?_); refine yn (op_storeNat (n := s)) (k := ?_); refine y_assign ?_) | fail)
    exact ret2 rfl (resCells (B := natC s) rfl (ty rfl) rfl Has.go Seg.all (natC_len _).symm) (resTmp rfl) SubR.nil ⟨rfl, rfl⟩
  · simp only [if_neg h] at ht ⊢
    repeat' (first | refine sy_seqC ?_ | refine syl_nil ?_ | refine sy_if_t rfl ?_ | refine sy_ret ?_ | refine syx_then ?_ | refine syx_go ?_ | refine syx_then_ret ?_ | (refine sy_region (id := 0) ?_; (refine y_new ?_; intro _); (refine y_new ?_; intro _); (refine y_new ?_; intro _); refine y_assign ?_) | (refine sy_region (id := 1) ?_; refine y_fieldAddr ?_; refine y_load ?_; refine y_fieldAddr ?_; refine y_load ?_; refine yv (op_callV (hc := fun _ _ _ _ => (ht _))) (k := ?_); refine y_move ?_; refine y_extract ?_; refine y_extract ?_; (refine y_new ?_; intro _); refine yn (op_storeNat (n := 0)) (k := ?_); refine y_assign ?_) | (refine sy_region (id := 2) ?_; refine y_move ?_; refine y_unOp ?_) | (refine sy_region (id := 3) ?_; refine y_build ?_; refine y_store ?_; refine y_assign ?_) | fail)
    exact ret2 rfl (resCells (B := List.replicate 16 (Value.int IntKind.u64 0)) rfl (ty rfl) rfl Has.go Seg.all rfl) (resTmp rfl) SubR.nil ⟨by rw [← natV0], rfl⟩
end Go.Proofs.YtaeddmcoanefhaaGreatDoor
end
