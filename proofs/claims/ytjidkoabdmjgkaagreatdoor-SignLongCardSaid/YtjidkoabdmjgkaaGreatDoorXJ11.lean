/- Products of words: Mul64. -/
import Derived.Test.YtjidkoabdmjgkaaGreatDoorXJ10
import Derived.Test.YtjidkoabdmjgkaaGreatDoorXJ08
set_option linter.all false
section
namespace Go.Proofs.YtjidkoabdmjgkaaGreatDoor
open Go Go.Sy Go.Nt Go.RowKit
attribute [local irreducible] Sy SyL SyX Sy.Fn callFunc natC
set_option maxRecDepth 10000
theorem zfp (x y : Nat) (w : World) (hx : x < 18446744073709551616) (hy : y < 18446744073709551616) :
    Sy.Fn Tryz.prog 166 [nv x, nv y] w No (Gives (.tuple #[nv (x * y / 18446744073709551616), nv (x * y % 18446744073709551616)])) := by
  refine zq Tryz.func166 rfl Tryz.ntmps166 (by simp) Holds.nil ?_
  obtain ⟨e1, e2, e3, e4⟩ := Lib.mul64_hi x y hx hy
  repeat' (first | refine zh ?_ | refine zf ?_ | refine zp ?_ | refine ze ?_ | refine zj ?_ | (refine za (id := 0) ?_; refine zd ?_; refine zd ?_) | (refine za (id := 1) ?_; refine zb ?_; refine yv (zfo (a := x) 32 (by decide) hx) (k := ?_); refine zd ?_) | (refine za (id := 2) ?_; refine zb ?_; refine yv (zce 32 (by decide)) (k := ?_); refine zd ?_) | (refine za (id := 3) ?_; refine zb ?_; refine yv (zfo (a := y) 32 (by decide) hy) (k := ?_); refine zd ?_) | (refine za (id := 4) ?_; refine zb ?_; refine yv (zce 32 (by decide)) (k := ?_); refine zd ?_) | (refine za (id := 5) ?_; refine zb ?_; refine zb ?_; refine yv zdB (k := ?_); refine zd ?_) | (refine za (id := 6) ?_; refine zb ?_; refine zb ?_; refine yv zdB (k := ?_); refine zb ?_; refine yv (zce 32 (by decide)) (k := ?_); refine yv zci (k := ?_); refine zd ?_) | (refine za (id := 7) ?_; refine zb ?_; refine yv (zfo 32 (by decide) (Nat.mod_lt _ (by decide))) (k := ?_); refine zd ?_) | (refine za (id := 8) ?_; refine zb ?_; refine yv (zce 32 (by decide)) (k := ?_); refine zd ?_) | (refine za (id := 9) ?_; refine zb ?_; refine zb ?_; refine zb ?_; refine yv zdB (k := ?_); refine yv zci (k := ?_); refine zd ?_) | (refine za (id := 10) ?_; refine zb ?_; refine zb ?_; refine yv zdB (k := ?_); refine zb ?_; refine yv zci (k := ?_); refine zb ?_; refine yv (zce 32 (by decide)) (k := ?_); refine yv zci (k := ?_); refine zd ?_) | (refine za (id := 11) ?_; refine zb ?_; refine zb ?_; refine yv zdB (k := ?_); refine zd ?_) | fail)
  refine ret2 rfl (resTmp rfl) (resTmp rfl) SubR.nil ⟨congrArg (fun n => Value.tuple #[nv n, nv (x * y % 18446744073709551616)]) ?_, rfl⟩
  have ha := Lib.half_mul_le (a := x / 4294967296) (b := y / 4294967296) (by omega) (by omega)
  have hb := Lib.half_mul_le (a := x / 4294967296) (b := y % 4294967296) (by omega) (by omega)
  have hc := Lib.half_mul_le (a := x % 4294967296) (b := y / 4294967296) (by omega) (by omega)
  have hd := Lib.half_mul_le (a := x % 4294967296) (b := y % 4294967296) (by omega) (by omega)
  rw [← e4]
  simp only [show (2 : Nat) ^ 32 = 4294967296 from rfl]
  generalize (x / 4294967296) * (y / 4294967296) = a at *
  generalize (x / 4294967296) * (y % 4294967296) = b at *
  generalize (x % 4294967296) * (y / 4294967296) = c at *
  generalize (x % 4294967296) * (y % 4294967296) = d at *
  omega
end Go.Proofs.YtjidkoabdmjgkaaGreatDoor
namespace Go.Proofs.YtjidkoabdmjgkaaGreatDoor
open Go Go.Sy Go.Nt Go.RowKit
attribute [local irreducible] Sy SyL SyX Sy.Fn callFunc natC
set_option maxRecDepth 10000
set_option maxHeartbeats 1000000 in
theorem zlx (x y : Nat) (w : World) (hx : x < 18446744073709551616 ^ 16) (hy : y < 18446744073709551616 ^ 16) :
    Sy.Fn Tryz.prog 156 [natV x, natV y] w No (Gives (if x * y < 18446744073709551616 ^ 16 then .tuple #[natV (x * y), .bool true] else .tuple #[natV 0, .bool false])) := by
  refine zq Tryz.func156 rfl Tryz.ntmps156 (by simp) Holds.nil ?_
  have hlx := zg x
  have hly := zg y
  repeat' (first | refine zh ?_ | refine zf ?_ | refine zu ?_ | refine ze ?_ | refine zj ?_ | (refine za (id := 0) ?_; (refine zm ?_; intro _); (refine zm ?_; intro _); (refine zm ?_; intro _); refine zd ?_) | (refine za (id := 1) ?_; (refine zm ?_; intro _)) | (refine zV (id := 2) 3 [[], [0], [], [0, 1, 2], [0, 1, 2, 3], [0, 1, 2, 3, 4]] mixed ?_ ?_; kernel_rfl; refine zcy ?_; refine dc (fun _ _ => zi (hc := fun _ _ _ _ => (zbe x _ hx))) (k := ?_); refine zcy ?_; refine z7 ?_; refine yv (zi (hc := fun _ _ _ _ => (zbe y _ hy))) (k := ?_); refine zd ?_; refine zd ?_) | (refine za (id := 3) ?_; refine zb ?_; refine zb ?_) | fail)
  rename_i b2 b3 b4 b6
  have hnx := zam 18446744073709551616 x 16 (by decide) hx
  have hny := zam 18446744073709551616 y 16 (by decide) hy
  have hxl := zaf 18446744073709551616 x (by decide)
  have hyl := zaf 18446744073709551616 y (by decide)
  have hgx := zay x
  have hgy := zay y
  have hst := MulJ.start 18446744073709551616 32 x y (nd 18446744073709551616 x) (nd 18446744073709551616 y) (by decide)
  generalize nd 18446744073709551616 x = n at *
  generalize nd 18446744073709551616 y = m at *
  refine zQ (γ := Nat × List Nat) (fun g => [(2, .pointer (some ⟨b2, 0, none⟩)), (3, .pointer (some ⟨b3, 0, none⟩)), (4, .pointer (some ⟨b4, 0, none⟩)), (5, .bool false), (6, .pointer (some ⟨b6, 0, none⟩)), (8, .int .i64 m), (21, .int .i64 n), (22, .int .i64 g.1)])
    (fun g => [.blk b6 178 (g.2.map nv), .blk b4 41 (List.replicate 16 (Value.int IntKind.u64 0)), .blk b3 41 (natC y), .blk b2 41 (natC x)])
    (fun g => g.1 ≤ n ∧ MulJ 18446744073709551616 32 x y n m g.1 0 g.2 0) (fun g => n - g.1) (0, List.replicate 32 0) ⟨Nat.zero_le _, hst⟩ ?_ ?_ ?_
  · exact Sub.go
  · exact SubR.go
  rintro ⟨i, l⟩ ⟨hi, hj⟩
  dsimp only at hi hj ⊢
  by_cases hlt : i < n
  · repeat' (first | refine zh ?_ | refine zf ?_ | refine zw rfl ?_ | refine zu ?_ | refine zr ?_ | refine ze ?_ | refine zj ?_ | (refine za (id := 4) ?_; refine zX ?_) | (refine za (id := 5) ?_; refine zb ?_; refine zd ?_) | (refine za (id := 6) ?_; refine zd ?_) | (refine za (id := 7) ?_; refine zb ?_; refine zb ?_) | fail)
    refine zQ (γ := Nat × List Nat × Nat) (fun g => [(2, .pointer (some ⟨b2, 0, none⟩)), (3, .pointer (some ⟨b3, 0, none⟩)), (4, .pointer (some ⟨b4, 0, none⟩)), (5, .bool false), (6, .pointer (some ⟨b6, 0, none⟩)), (8, .int .i64 m), (21, .int .i64 n), (22, .int .i64 i), (9, .int .i64 i), (10, nv g.2.2), (25, .int .i64 m), (26, .int .i64 g.1)])
      (fun g => [.blk b6 178 (g.2.1.map nv), .blk b4 41 (List.replicate 16 (Value.int IntKind.u64 0)), .blk b3 41 (natC y), .blk b2 41 (natC x)])
      (fun g => g.1 ≤ m ∧ MulJ 18446744073709551616 32 x y n m i g.1 g.2.1 g.2.2) (fun g => m - g.1) (0, l, 0) ⟨Nat.zero_le _, hj⟩ ?_ ?_ ?_
    · exact Sub.go
    · exact SubR.go
    rintro ⟨j, l, c⟩ ⟨hj1, hj2⟩
    dsimp only at hj1 hj2 ⊢
    have hll := hj2.len
    have hml : (l.map nv).length = 32 := by rw [List.length_map, hll]
    have hcW := hj2.car
    by_cases hjl : j < m
    · have ha := hgx i (by omega)
      have hd := hgy j (by omega)
      have hal : x / 18446744073709551616 ^ i % 18446744073709551616 < 18446744073709551616 := Nat.mod_lt _ (by decide)
      have hdl : y / 18446744073709551616 ^ j % 18446744073709551616 < 18446744073709551616 := Nat.mod_lt _ (by decide)
      obtain ⟨u, hu⟩ : ∃ u, l[i + j]? = some u := ⟨l[i + j]'(by omega), List.getElem?_eq_getElem _⟩
      have huW := hj2.low u (List.mem_of_getElem? hu)
      have hu' : (l.map nv)[i + j]? = some (nv u) := by rw [List.getElem?_map, hu]; rfl
      have hadd : IntKind.i64.wrap ((i : Int) + (j : Int)) = ((i + j : Nat) : Int) := by rw [IntWalk.i64_in _ (by omega)]; omega
      have hstep := fun z c' => hj2.step (z := z) (c' := c') (by omega) hjl hu
      generalize x / 18446744073709551616 ^ i % 18446744073709551616 = a at *
      generalize y / 18446744073709551616 ^ j % 18446744073709551616 = d at *
      repeat' (first | refine zh ?_ | refine zf ?_ | refine zw rfl ?_ | refine zu ?_ | refine zr ?_ | refine ze ?_ | refine zj ?_ | (refine za (id := 8) ?_; refine zX ?_) | (refine za (id := 9) ?_; refine zb ?_; refine zd ?_) | (refine zV (id := 10) 11 [[], [0], [0, 1], [], [3], [3, 4], [0, 1, 2, 3, 4, 5], [0, 1, 2, 3, 4, 5, 6], [0, 1, 2, 3, 4, 5, 6, 7], [0, 1, 2, 3, 4, 5, 6, 7], [0, 1, 2, 3, 4, 5, 6, 7, 8], [0, 1, 2, 3, 4, 5, 6, 7, 8, 9, 10]] mixed ?_ ?_; kernel_rfl; refine zB ?_; refine zZ ?_; refine dc (fun _ _ => zP (hv := ha)) (k := ?_); refine zB ?_; refine zZ ?_; refine dc (fun _ _ => zP (hv := hd)) (k := ?_); refine dc (fun _ _ => zi (hc := fun _ _ _ _ => (zfp a d _ hal hdl))) (k := ?_); refine zB ?_; refine zbx ?_; refine zbx ?_; refine zh0 ?_; refine z7 ?_; refine zd ?_) | (refine za (id := 11) ?_; refine zd ?_) | (refine za (id := 12) ?_; refine zb ?_; refine zb ?_; refine zb ?_; refine yv (zK (hr := hadd)) (k := ?_); refine zC ?_; refine yv (zP (hv := hu')) (k := ?_); refine yv (zbC (hr := zbb (a * d % 18446744073709551616) u 0 (by decide))) (k := ?_); refine zb ?_; refine zk ?_; refine zk ?_; refine zd ?_; refine zd ?_) | (refine za (id := 13) ?_; refine zb ?_; refine zb ?_; refine yv zci (k := ?_); refine zd ?_) | (refine za (id := 14) ?_; refine zb ?_; refine zb ?_; refine yv (zbC (hr := zbb ((a * d % 18446744073709551616 + u + 0) % 18446744073709551616) c 0 (by decide))) (k := ?_); refine zb ?_; refine zk ?_; refine zk ?_; refine zd ?_; refine zd ?_) | (refine za (id := 15) ?_; refine zb ?_; refine zb ?_; refine yv (zK (hr := hadd)) (k := ?_); refine zb ?_; refine zb ?_; refine zb ?_; refine yv zci (k := ?_); refine zC ?_; refine zH ?_; refine zd ?_) | (refine zT ?_; first | refine zah ?_ | refine zb ?_ | fail) | refine za ?_ | fail)
      have hP : a * d ≤ 340282366920938463426481119284349108225 := Nat.le_trans (Nat.mul_le_mul (show a ≤ 18446744073709551615 by omega) (show d ≤ 18446744073709551615 by omega)) (by decide)
      generalize a * d = q at *
      obtain ⟨z, hz⟩ : ∃ z, ((q % 18446744073709551616 + u + 0) % 18446744073709551616 + c + 0) % 18446744073709551616 = z := ⟨_, rfl⟩
      obtain ⟨e, he⟩ : ∃ e, ((q / 18446744073709551616 + (q % 18446744073709551616 + u + 0) / 18446744073709551616) % 18446744073709551616 + ((q % 18446744073709551616 + u + 0) % 18446744073709551616 + c + 0) / 18446744073709551616) % 18446744073709551616 = e := ⟨_, rfl⟩
      rw [hz, he]
      refine zI (j + 1, l.set (i + j) z, e) ⟨by show j + 1 ≤ m; omega, hstep z e (by omega) (by omega) (by omega)⟩ ?_ ?_ ?_
      · show m - (j + 1) < m - j; omega
      · exact Sub.go
      · show SubR [.blk b6 178 ((l.set (i + j) z).map nv), .blk b4 41 (List.replicate 16 (Value.int IntKind.u64 0)), .blk b3 41 (natC y), .blk b2 41 (natC x)] _
        rw [List.map_set]
        exact SubR.go
    obtain rfl : j = m := by omega
    have hadd : IntKind.i64.wrap ((i : Int) + (j : Int)) = ((i + j : Nat) : Int) := by rw [IntWalk.i64_in _ (by omega)]; omega
    repeat' (first | refine zh ?_ | refine zf ?_ | refine zt rfl ?_ | refine zE ?_ | refine ze ?_ | refine zj ?_ | (refine za (id := 8) ?_; refine zX ?_) | (refine za (id := 17) ?_; refine zb ?_; refine zb ?_; refine yv (zK (hr := hadd)) (k := ?_); refine zb ?_; refine zC ?_; refine zH ?_) | (refine za (id := 18) ?_; refine zah ?_; refine zb ?_) | fail)
    refine zI (i + 1, l.set (i + j) c) ⟨by show i + 1 ≤ n; omega, hj2.row (by omega) hyl⟩ ?_ ?_ ?_
    · show n - (i + 1) < n - i; omega
    · exact Sub.go
    · show SubR [.blk b6 178 ((l.set (i + j) c).map nv), .blk b4 41 (List.replicate 16 (Value.int IntKind.u64 0)), .blk b3 41 (natC y), .blk b2 41 (natC x)] _
      rw [List.map_set]
      exact SubR.go
  obtain rfl : i = n := by omega
  repeat' (first | refine zh ?_ | refine zf ?_ | refine zt rfl ?_ | refine zu ?_ | refine zE ?_ | refine ze ?_ | refine zj ?_ | (refine za (id := 4) ?_; refine zX ?_) | (refine za (id := 19) ?_; refine zbn ?_; refine zA ?_; refine zb ?_) | fail)
  have hxy := hj.done hxl
  have hll := hj.len
  have hlow := hj.low
  have hml : (l.map nv).length = 32 := by rw [List.length_map, hll]
  refine zQ (γ := Nat) (fun q => [(4, .pointer (some ⟨b4, 0, none⟩)), (6, .pointer (some ⟨b6, 0, none⟩)), (73, .slice (some ⟨b6, 16, none⟩) 16 16), (74, .int .i64 16), (75, .int .i64 q)])
    (fun _ => [.blk b6 178 (l.map nv), .blk b4 41 (List.replicate 16 (Value.int IntKind.u64 0))])
    (fun q => q ≤ 16 ∧ ∀ p, 16 ≤ p → p < 16 + q → l[p]? = some 0) (fun q => 16 - q) 0 ⟨Nat.zero_le _, fun p h1 h2 => absurd h2 (by omega)⟩ ?_ ?_ ?_
  · exact Sub.go
  · exact SubR.go2
  rintro q ⟨hq, hz⟩
  by_cases hql : q < 16
  · obtain ⟨u, hu⟩ : ∃ u, l[16 + q]? = some u := ⟨l[16 + q]'(by omega), List.getElem?_eq_getElem _⟩
    have hu' : (l.map nv)[16 + q]? = some (nv u) := by rw [List.getElem?_map, hu]; rfl
    by_cases h0 : u = 0
    · subst h0
      repeat' (first | refine zh ?_ | refine zf ?_ | refine zw rfl ?_ | refine zt rfl ?_ | refine zu ?_ | refine zr ?_ | refine ze ?_ | refine zj ?_ | (refine za (id := 20) ?_; refine zX ?_) | (refine za (id := 21) ?_; refine zC ?_; refine yv (zP (hv := hu')) (k := ?_); refine zd ?_) | (refine za (id := 22) ?_; refine zb ?_; refine zW ?_) | (refine za (id := 24) ?_; refine zah ?_; refine zb ?_) | fail)
      refine zI (q + 1) ⟨by omega, fun p h1 h2 => ?_⟩ ?_ ?_ ?_
      · rcases Nat.lt_or_ge p (16 + q) with h | h
        · exact hz p h1 h
        · obtain rfl : p = 16 + q := by omega
          exact hu
      · show 16 - (q + 1) < 16 - q; omega
      · exact Sub.go
      · exact SubR.go
    · repeat' (first | refine zh ?_ | refine zf ?_ | refine zw rfl ?_ | refine zu ?_ | refine zr ?_ | refine zp ?_ | refine ze ?_ | refine zj ?_ | refine zy ?_ | refine zad ?_ | (refine za (id := 20) ?_; refine zX ?_) | (refine za (id := 21) ?_; refine zC ?_; refine yv (zP (hv := hu')) (k := ?_); refine zd ?_) | (refine za (id := 22) ?_; refine zb ?_; refine zW ?_) | (refine za (id := 23) ?_; refine zbV ?_; refine zH ?_; refine zd ?_) | fail)
      have hge := zb0 18446744073709551616 l (16 + q) u 0 hu
      have hpw : 18446744073709551616 ^ 16 ≤ u * 18446744073709551616 ^ (16 + q) := Nat.le_trans (Nat.pow_le_pow_right (by decide) (Nat.le_add_right 16 q)) (Nat.le_mul_of_pos_left _ (by omega))
      rw [if_neg (by omega)]
      exact ret2 rfl (resCells (B := List.replicate 16 (Value.int IntKind.u64 0)) rfl (ty rfl) rfl Has.go Seg.all rfl) (resTmp rfl) SubR.nil ⟨by rw [← natV0], rfl⟩
  obtain rfl : q = 16 := by omega
  have hz16 : l.drop 16 = List.replicate 16 0 := by
    apply List.ext_getElem?
    intro p
    rw [List.getElem?_drop, List.getElem?_replicate]
    split
    · exact hz _ (by omega) (by omega)
    · exact List.getElem?_eq_none (by omega)
  have htl : (l.take 16).length = 16 := by rw [List.length_take]; omega
  have htd := zc7 18446744073709551616 l 16 (by omega)
  rw [hz16, zb4, Nat.mul_zero, Nat.add_zero] at htd
  have hlt := zcp 18446744073709551616 (l.take 16) (fun d hd => hlow d (List.mem_of_mem_take hd))
  have hdv := zdo 18446744073709551616 (l.take 16) (fun d hd => hlow d (List.mem_of_mem_take hd))
  rw [htl, ← htd, hxy] at hlt hdv
  have hnc : natC (x * y) = (l.map nv).take 16 := by unfold natC; rw [hdv, List.map_take]
  have hsg : Seg (l.map nv) 0 (natC (x * y)) := fun j v h => by
    rw [hnc] at h
    rw [Nat.zero_add]
    rw [List.getElem?_take] at h
    split at h
    · exact h
    · cases h
  repeat' (first | refine zh ?_ | refine zf ?_ | refine zt rfl ?_ | refine zp ?_ | refine zE ?_ | refine ze ?_ | refine zj ?_ | (refine za (id := 20) ?_; refine zX ?_) | (refine za (id := 25) ?_; refine zbn ?_; refine yv (zk4 (n := 16)) (k := ?_); refine yv (zl (C := l.map nv) (B := natC (x * y)) (hv := hsg) (hz := (zg (x * y)).symm)) (k := ?_); refine yn (zn (n := x * y)) (k := ?_); refine zd ?_) | fail)
  rw [if_pos hlt]
  exact ret2 rfl (resCells (B := natC (x * y)) rfl (ty rfl) rfl Has.go Seg.all (zg _).symm) (resTmp rfl) SubR.nil ⟨rfl, rfl⟩
end Go.Proofs.YtjidkoabdmjgkaaGreatDoor
namespace Go.Proofs.YtjidkoabdmjgkaaGreatDoor
open Go Go.Sy Go.Nt Go.RowKit
attribute [local irreducible] Sy SyL SyX Sy.Fn callFunc natC
set_option maxRecDepth 10000
theorem zhT (x y : Nat) (w : World) (hx : x < 18446744073709551616 ^ 16) (hy : y < 18446744073709551616 ^ 16) :
    Sy.Fn Tryz.prog 133 [natV x, natV y] w No (Gives (if x * y < 18446744073709551616 ^ 16 then .tuple #[natV (x * y), .int .i64 0] else .tuple #[natV 0, .int .i64 7])) := by
  refine zq Tryz.func133 rfl Tryz.ntmps133 (by simp) Holds.nil ?_
  have hlx := zg x
  have hly := zg y
  have ht := fun w => zlx x y w hx hy
  by_cases h : x * y < 18446744073709551616 ^ 16
  · simp only [if_pos h] at ht ⊢
    generalize x * y = s at *
    have hls := zg s
    repeat' (first | refine zh ?_ | refine zf ?_ | refine zt rfl ?_ | refine zr ?_ | refine zp ?_ | refine ze ?_ | refine zj ?_ | (refine za (id := 0) ?_; (refine zm ?_; intro _); (refine zm ?_; intro _); (refine zm ?_; intro _); refine zd ?_) | (refine za (id := 1) ?_; refine zD ?_; refine zz ?_; refine zD ?_; refine zz ?_; refine yv (zi (hc := fun _ _ _ _ => (ht _))) (k := ?_); refine zb ?_; refine zk ?_; refine zk ?_; (refine zm ?_; intro _); refine yn (zn (n := s)) (k := ?_); refine zd ?_) | (refine za (id := 2) ?_; refine zb ?_; refine zau ?_) | (refine za (id := 4) ?_; refine zz ?_; refine yv (zcQ (n := s)) (k := ?_); refine yn (zn (n := s)) (k := ?_); refine zd ?_) | fail)
    exact ret2 rfl (resCells (B := natC s) rfl (ty rfl) rfl Has.go Seg.all (zg _).symm) (resTmp rfl) SubR.nil ⟨rfl, rfl⟩
  · simp only [if_neg h] at ht ⊢
    repeat' (first | refine zh ?_ | refine zf ?_ | refine zw rfl ?_ | refine zp ?_ | refine ze ?_ | refine zj ?_ | refine zy ?_ | (refine za (id := 0) ?_; (refine zm ?_; intro _); (refine zm ?_; intro _); (refine zm ?_; intro _); refine zd ?_) | (refine za (id := 1) ?_; refine zD ?_; refine zz ?_; refine zD ?_; refine zz ?_; refine yv (zi (hc := fun _ _ _ _ => (ht _))) (k := ?_); refine zb ?_; refine zk ?_; refine zk ?_; (refine zm ?_; intro _); refine yn (zn (n := 0)) (k := ?_); refine zd ?_) | (refine za (id := 2) ?_; refine zb ?_; refine zau ?_) | (refine za (id := 3) ?_; refine zbV ?_; refine zH ?_; refine zd ?_) | fail)
    exact ret2 rfl (resCells (B := List.replicate 16 (Value.int IntKind.u64 0)) rfl (ty rfl) rfl Has.go Seg.all rfl) (resTmp rfl) SubR.nil ⟨by rw [← natV0], rfl⟩
end Go.Proofs.YtjidkoabdmjgkaaGreatDoor
end
