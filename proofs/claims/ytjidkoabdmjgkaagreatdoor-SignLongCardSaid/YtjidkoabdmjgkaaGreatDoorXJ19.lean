/- Long division: the numbers moved, and the estimate of a digit. -/
import Derived.Test.YtjidkoabdmjgkaaGreatDoorXJ15
import Derived.Test.YtjidkoabdmjgkaaGreatDoorXJ17
import Derived.Test.YtjidkoabdmjgkaaGreatDoorXJ18
set_option linter.all false
section
namespace Go.Nt
open Go Go.Sy
def wC (k x : Nat) : List Value := (dg 18446744073709551616 k x).map nv
theorem zcS (k x : Nat) : (wC k x).length = k := by unfold wC; rw [List.length_map, za9]
theorem zej (k x i : Nat) (h : i < k) : (wC k x)[i]? = some (nv (x / 18446744073709551616 ^ i % 18446744073709551616)) := by
  unfold wC; rw [List.getElem?_map, zcs _ k x i h]; rfl
theorem zhm (k x : Nat) : (wC k x).all (·.oneCell') = true := zmR _
theorem zj8 {W : Nat} (a c s t : Nat) (hW : 2 ^ s * 2 ^ t = W) (hc : c < 2 ^ s) : (a * 2 ^ s % W ||| c) = a * 2 ^ s % W + c := by
  rw [← hW, Nat.mul_comm (2 ^ s) (2 ^ t), Nat.mul_mod_mul_right]
  exact zgY _ _ _ hc
def bel (d i : Nat) : Nat := if i = 0 then 0 else d / 18446744073709551616 ^ (i - 1) % 18446744073709551616
theorem zhG (d i : Nat) : bel d (i + 1) = d / 18446744073709551616 ^ i % 18446744073709551616 := by unfold bel; rw [if_neg (by omega), Nat.add_sub_cancel]
theorem zm2 (d i : Nat) : bel d i < 18446744073709551616 := by
  unfold bel; split
  · decide
  · exact Nat.mod_lt _ (by decide)
theorem zh2 (d s t i : Nat) (hW : 2 ^ s * 2 ^ t = 18446744073709551616) : d * 2 ^ s / 18446744073709551616 ^ i % 18446744073709551616 = d / 18446744073709551616 ^ i % 18446744073709551616 * 2 ^ s % 18446744073709551616 + bel d i / 2 ^ t := by
  cases i with
  | zero => rw [zja, show bel d 0 = 0 from rfl, Nat.zero_div, Nat.pow_zero, Nat.div_one, Nat.add_zero]
  | succ i => rw [zhG]; exact zgt 18446744073709551616 d s t i hW.symm
theorem zlY {W u v q : Nat} (hv : 0 < v) (hq : q < W) (h1 : q * v ≤ u) (h2 : q + 1 = W ∨ u < (q + 1) * v) : min (W - 1) (u / v) = q := by
  rcases h2 with h | h
  · have : q ≤ u / v := (Nat.le_div_iff_mul_le hv).2 h1
    rw [Nat.min_eq_left (by omega)]; omega
  · rw [(zda u v q h1 h).1, Nat.min_eq_right (by omega)]
end Go.Nt
namespace Go.Proofs.YtjidkoabdmjgkaaGreatDoor
open Go Go.Sy Go.Nt Go.RowKit
attribute [local irreducible] Sy SyL SyX Sy.Fn callFunc natC wC
set_option maxRecDepth 10000
theorem zgk (d s : Nat) (w : World) (hd : d < 18446744073709551616 ^ 16) (hs : s < 64) :
    Sy.Fn Tryz.prog 162 [natV d, .int .i64 s] w No (Gives (.agg (wC 17 (d * 2 ^ s)).toArray)) := by
  refine zq Tryz.func162 rfl Tryz.ntmps162 (by simp) Holds.nil ?_
  have hld := zg d
  have hgd := zay d
  have hlw := zcS 17 (d * 2 ^ s)
  have hgw := zej 17 (d * 2 ^ s)
  have hone := zhm 17 (d * 2 ^ s)
  obtain ⟨t, ht⟩ : ∃ t, t = 64 - s := ⟨_, rfl⟩
  have hst : (2 : Nat) ^ s * 2 ^ t = 18446744073709551616 := by rw [← Nat.pow_add, show s + t = 64 by omega]
  have hsd := fun i => zh2 d s t i hst
  have ht0 : IntKind.i64.wrap (64 - (s : Int)) = ((t : Nat) : Int) := by rw [IntWalk.i64_in _ (by omega)]; omega
  have hor := fun a c => zj8 (W := 18446744073709551616) a c s t hst
  generalize wC 17 (d * 2 ^ s) = l at *
  repeat' (first | refine zh ?_ | refine zf ?_ | refine zu ?_ | refine ze ?_ | refine zj ?_ | (refine za (id := 0) ?_; (refine zm ?_; intro _); (refine zm ?_; intro _)) | (refine za (id := 1) ?_; refine zd ?_) | (refine za (id := 2) ?_; refine yv (zl (B := natC d)) (k := ?_); refine zb ?_) | fail)
  rename_i b2 b4
  refine zQ (γ := Nat) (fun i => [(1, .int .i64 s), (4, .pointer (some ⟨b4, 0, none⟩)), (5, nv (bel d i)), (8, natV d), (9, .int .i64 i)])
    (fun i => [.blk b4 172 (l.take i ++ List.replicate (17 - i) (.int .u64 0))])
    (fun i => i ≤ 16) (fun i => 16 - i) 0 (Nat.zero_le _) ?_ ?_ ?_
  · exact Sub.go
  · exact SubR.go
  intro i hi
  have hml : (l.take i ++ List.replicate (17 - i) (Value.int IntKind.u64 0)).length = 17 := by rw [List.length_append, List.length_take, List.length_replicate]; omega
  have hbl := zm2 d i
  have hbt : bel d i / 2 ^ t < 2 ^ s := (Nat.div_lt_iff_lt_mul (Nat.pow_pos (by decide))).2 (by rw [hst]; exact hbl)
  have hbW : bel d i / 2 ^ t < 18446744073709551616 := Nat.lt_of_le_of_lt (Nat.div_le_self _ _) hbl
  by_cases hlt : i < 16
  · have hdi := hgd i hlt
    have hu := hgw i (by omega)
    rw [hsd i] at hu
    have hset := zdM l (.int .u64 0) _ 17 i hu (by omega) hlw
    have hbs := zhG d i
    have hor := hor (d / 18446744073709551616 ^ i % 18446744073709551616) _ hbt
    generalize d / 18446744073709551616 ^ i % 18446744073709551616 = v at *
    rw [← hor] at hset
    generalize bel d i = e at *
    repeat' (first | refine zh ?_ | refine zf ?_ | refine zw rfl ?_ | refine zu ?_ | refine zr ?_ | refine ze ?_ | refine zj ?_ | (refine za (id := 3) ?_; refine zX ?_) | (refine za (id := 4) ?_; refine zb ?_; refine yv (ze6 (hv := hdi)) (k := ?_); refine zd ?_; refine zd ?_) | (refine zV (id := 5) 9 [[], [], [], [1, 2], [], [], [5], [4, 5, 6], [1, 2, 3, 4, 5, 6, 7], [0, 1, 2, 3, 4, 5, 6, 7, 8], [0, 1, 2, 3, 4, 5, 6, 7, 8, 9]] mixed ?_ ?_; kernel_rfl; refine zB ?_; refine zB ?_; refine zB ?_; refine dc (fun _ _ => zdj (a := v) (n := s)) (k := ?_); refine zB ?_; refine zB ?_; refine dc (fun _ _ => zM (hr := ht0)) (k := ?_); refine dc (fun _ _ => zdf (a := e) (n := t) hbl) (k := ?_); refine dc (fun _ _ => zem (a := v * 2 ^ s % 18446744073709551616) (b := e / 2 ^ t) (Nat.mod_lt _ (by decide)) hbW) (k := ?_); refine z7 ?_; refine zC ?_; refine zH ?_) | (refine za (id := 6) ?_; refine zb ?_; refine zd ?_) | (refine za (id := 7) ?_; refine zah ?_; refine zb ?_) | fail)
    refine zI (i + 1) ?_ ?_ ?_ ?_
    · show i + 1 ≤ 16; omega
    · show 16 - (i + 1) < 16 - i; omega
    · rw [hbs]
      exact Sub.go
    · show SubR [.blk b4 172 (l.take (i + 1) ++ List.replicate (17 - (i + 1)) (.int .u64 0))] _
      rw [← hset]
      exact SubR.go
  obtain rfl : i = 16 := by omega
  have hu := hgw 16 (by omega)
  rw [hsd 16, Nat.div_eq_of_lt hd, Nat.zero_mod, Nat.zero_mul, Nat.zero_mod, Nat.zero_add] at hu
  have hset := zdM l (.int .u64 0) _ 17 16 hu (by omega) hlw
  have hlt : l.take (16 + 1) = l := List.take_of_length_le (by omega)
  rw [hlt, List.replicate_zero, List.append_nil] at hset
  generalize bel d 16 = e at *
  repeat' (first | refine zh ?_ | refine zf ?_ | refine zt rfl ?_ | refine zE ?_ | refine ze ?_ | refine zj ?_ | (refine za (id := 3) ?_; refine zX ?_) | (refine za (id := 8) ?_; refine zb ?_; refine zb ?_; refine yv (zM (hr := ht0)) (k := ?_); refine yv (zdf (a := e) (n := t) hbl) (k := ?_); refine zC ?_; refine zH ?_) | fail)
  rw [hset]
  repeat' (first | refine zf ?_ | refine zp ?_ | refine ze ?_ | refine zj ?_ | (refine za (id := 9) ?_; refine yv (zl (B := l)) (k := ?_); refine yn (zR (B := l) (hv := hone) (h1 := hlw.symm)) (k := ?_)) | fail)
  exact ret1 rfl (resCells (B := l) rfl (ty rfl) rfl Has.go Seg.all hlw.symm) SubR.nil ⟨rfl, rfl⟩
set_option maxHeartbeats 1000000 in
theorem zie (u2 u1 u0 v1 v0 : Nat) (w : World) (h2 : u2 ≤ v1) (h1 : u1 < 18446744073709551616) (h0 : u0 < 18446744073709551616) (hv1 : v1 < 18446744073709551616) (hv0 : v0 < 18446744073709551616) (hvp : 0 < v1) :
    Sy.Fn Tryz.prog 163 [nv u2, nv u1, nv u0, nv v1, nv v0] w No (Gives (nv (min (18446744073709551616 - 1) (((u2 * 18446744073709551616 + u1) * 18446744073709551616 + u0) / (v1 * 18446744073709551616 + v0))))) := by
  refine zq Tryz.func163 rfl Tryz.ntmps163 (by simp) Holds.nil ?_
  obtain ⟨X, hX⟩ : ∃ X, X = u2 * 18446744073709551616 + u1 := ⟨_, rfl⟩
  rw [← hX]
  have hV : 0 < v1 * 18446744073709551616 + v0 := by omega
  have hval := fun q => zlY (W := 18446744073709551616) (u := X * 18446744073709551616 + u0) (q := q) hV
  repeat' (first | refine zh ?_ | refine zf ?_ | refine ze ?_ | refine zj ?_ | refine zdN ?_ | (refine za (id := 0) ?_; refine zd ?_) | (refine za (id := 1) ?_; refine zd ?_; refine zd ?_) | (refine za (id := 2) ?_; refine zb ?_; refine zb ?_; refine zaj ?_) | fail)
  refine zbm (γ := Nat × Nat) (fun g => [(2, nv u0), (3, nv v1), (4, nv v0), (10, .int .u64 0), (11, nv g.1), (12, nv g.2)]) (fun _ => []) (fun g => g.1 * v1 + g.2 = X ∧ g.2 < 18446744073709551616 ∧ g.1 < 18446744073709551616 ∧ (g.1 + 1 = 18446744073709551616 ∨ X * 18446744073709551616 + u0 < (g.1 + 1) * (v1 * 18446744073709551616 + v0))) ?_ ?_
  · refine zcj rfl (fun hu => ?_) (fun hu => ?_)
    · have hu := of_decide_eq_true hu
      have hu2 : u2 = v1 := by omega
      have e : 18446744073709551615 * v1 + (u1 + v1) = X := by omega
      by_cases hc : 18446744073709551616 ≤ u1 + v1
      · have hr : (u1 + v1 + 0) / 18446744073709551616 = 1 := by omega
        have hnz : decide ((((u1 + v1 + 0) / 18446744073709551616 : Nat) : Int) ≠ 0) = true := decide_eq_true (by rw [hr]; decide)
        repeat' (first | refine zh ?_ | refine zf ?_ | refine zw rfl ?_ | refine zp ?_ | refine ze ?_ | refine zj ?_ | refine zy ?_ | refine zbB ?_ | (refine za (id := 3) ?_; refine zd ?_) | (refine za (id := 4) ?_; refine zd ?_) | (refine za (id := 5) ?_; refine zb ?_; refine zb ?_; refine yv (zbC (hr := zbb u1 v1 0 (by decide))) (k := ?_); refine zb ?_; refine zk ?_; refine zk ?_; refine zd ?_; refine zd ?_) | (refine za (id := 6) ?_; refine zb ?_; refine yv (zax (hr := hnz)) (k := ?_)) | (refine za (id := 7) ?_; refine zb ?_; refine zd ?_) | fail)
        refine ret1 rfl (resTmp rfl) SubR.nil ⟨?_, rfl⟩
        exact congrArg nv (hval 18446744073709551615 (by decide) (zcb e (zdD hv0 (by decide) hc)) (.inl rfl)).symm
      · have hz : decide ((((u1 + v1 + 0) / 18446744073709551616 : Nat) : Int) ≠ 0) = false := decide_eq_false (by omega)
        repeat' (first | refine zh ?_ | refine zf ?_ | refine zt rfl ?_ | refine zr ?_ | refine ze ?_ | refine zj ?_ | (refine za (id := 3) ?_; refine zd ?_) | (refine za (id := 4) ?_; refine zd ?_) | (refine za (id := 5) ?_; refine zb ?_; refine zb ?_; refine yv (zbC (hr := zbb u1 v1 0 (by decide))) (k := ?_); refine zb ?_; refine zk ?_; refine zk ?_; refine zd ?_; refine zd ?_) | (refine za (id := 6) ?_; refine zb ?_; refine yv (zax (hr := hz)) (k := ?_)) | fail)
        exact zU (18446744073709551615, (u1 + v1 + 0) % 18446744073709551616) ⟨by show 18446744073709551615 * v1 + (u1 + v1 + 0) % 18446744073709551616 = X; omega, by show (u1 + v1 + 0) % 18446744073709551616 < _; omega, by show 18446744073709551615 < 18446744073709551616; decide, .inl rfl⟩ (by exact Sub.go) (by exact SubR.go)
    · have hu := of_decide_eq_false hu
      have hE := Est.start 18446744073709551616 X u0 v1 v0 hvp h0
      have hml := Nat.mod_lt X hvp
      have hql : X / v1 < 18446744073709551616 := (Nat.div_lt_iff_lt_mul hvp).2 (by omega)
      have hd := fun w => zhN u2 u1 v1 w (by omega) hv1 h1
      rw [← hX] at hd
      repeat' (first | refine zf ?_ | refine ze ?_ | (refine za (id := 8) ?_; refine zb ?_; refine zb ?_; refine zb ?_; refine yv (zi (hc := fun _ _ _ _ => (hd _))) (k := ?_); refine zb ?_; refine zk ?_; refine zk ?_; refine zd ?_; refine zd ?_) | fail)
      exact zU (X / v1, X % v1) ⟨hE.eq, by show X % v1 < _; omega, hql, .inr hE.up⟩ (by exact Sub.go) (by exact SubR.go)
  rintro ⟨q, r⟩ ⟨he, hr, hq, hup⟩
  dsimp only at he hr hq hup ⊢
  repeat' (first | refine zh ?_ | refine zu ?_ | refine zdQ ?_ | refine ze ?_ | refine zj ?_ | fail)
  refine zQ (γ := Nat × Nat) (fun g => [(2, nv u0), (3, nv v1), (4, nv v0), (10, .int .u64 0), (11, nv g.1), (12, nv g.2)]) (fun _ => []) (fun g => g.1 * v1 + g.2 = X ∧ g.2 < 18446744073709551616 ∧ g.1 < 18446744073709551616 ∧ (g.1 + 1 = 18446744073709551616 ∨ X * 18446744073709551616 + u0 < (g.1 + 1) * (v1 * 18446744073709551616 + v0))) (fun g => g.1) (q, r) ⟨he, hr, hq, hup⟩ ?_ ?_ ?_
  · exact Sub.go
  · exact SubR.go
  clear he hr hq hup
  rintro ⟨q, r⟩ ⟨he, hr, hq, hup⟩
  dsimp only at he hr hq hup ⊢
  have hmul := fun w => zfp q v0 w hq hv0
  have hdm := Nat.div_add_mod (q * v0) 18446744073709551616
  have hlow := Nat.mod_lt (q * v0) (show 0 < 18446744073709551616 by decide)
  refine zu ?_
  repeat' (first | refine zh ?_ | refine zf ?_ | refine ze ?_ | refine zj ?_ | (refine za (id := 9) ?_; refine zb ?_; refine zb ?_; refine yv (zi (hc := fun _ _ _ _ => (hmul _))) (k := ?_); refine zb ?_; refine zk ?_; refine zk ?_; refine zd ?_; refine zd ?_) | fail)
  refine zbm (γ := Bool) (fun g => [(2, nv u0), (3, nv v1), (4, nv v0), (10, .int .u64 0), (11, nv q), (12, nv r), (54, .bool g)]) (fun _ => []) (fun g => (g = true → q * v0 ≤ r * 18446744073709551616 + u0) ∧ (g = false → r * 18446744073709551616 + u0 < q * v0)) ?_ ?_
  · generalize q * v0 / 18446744073709551616 = hi at *
    generalize q * v0 % 18446744073709551616 = lo at *
    rcases Nat.lt_trichotomy hi r with h | h | h
    · have c1 : decide ((hi : Int) < (r : Int)) = true := decide_eq_true (by omega)
      repeat' (first | refine zf ?_ | refine ze ?_ | (refine za (id := 10) ?_; refine zb ?_; refine zb ?_; refine yv (zS (hr := c1)) (k := ?_); refine zb ?_; refine zo rfl rfl rfl ?_; refine zo rfl rfl rfl ?_; refine zo rfl rfl rfl ?_; refine zo rfl rfl rfl ?_; refine zo rfl rfl rfl ?_; refine zo rfl rfl rfl ?_; refine zo rfl rfl rfl ?_; refine zo rfl rfl rfl ?_; refine zx ?_) | fail)
      exact zU true ⟨fun _ => by omega, fun h => absurd h (by decide)⟩ (by exact Sub.go) (by exact SubR.go)
    · have c1 : decide ((hi : Int) < (r : Int)) = false := decide_eq_false (by omega)
      have c2 : decide ((hi : Int) = (r : Int)) = true := decide_eq_true (by omega)
      by_cases hl : lo ≤ u0
      · have c3 : decide ((lo : Int) ≤ (u0 : Int)) = true := decide_eq_true (by omega)
        repeat' (first | refine zf ?_ | refine ze ?_ | (refine za (id := 10) ?_; refine zb ?_; refine zb ?_; refine yv (zS (hr := c1)) (k := ?_); refine zb ?_; refine zb ?_; refine zb ?_; refine yv (z3 (hr := c2)) (k := ?_); refine zb ?_; refine zb ?_; refine zb ?_; refine yv (zbT (hr := c3)) (k := ?_); refine zx ?_; refine zx ?_) | fail)
        exact zU true ⟨fun _ => by omega, fun h => absurd h (by decide)⟩ (by exact Sub.go) (by exact SubR.go)
      · have c3 : decide ((lo : Int) ≤ (u0 : Int)) = false := decide_eq_false (by omega)
        repeat' (first | refine zf ?_ | refine ze ?_ | (refine za (id := 10) ?_; refine zb ?_; refine zb ?_; refine yv (zS (hr := c1)) (k := ?_); refine zb ?_; refine zb ?_; refine zb ?_; refine yv (z3 (hr := c2)) (k := ?_); refine zb ?_; refine zb ?_; refine zb ?_; refine yv (zbT (hr := c3)) (k := ?_); refine zx ?_; refine zx ?_) | fail)
        exact zU false ⟨fun h => absurd h (by decide), fun _ => by omega⟩ (by exact Sub.go) (by exact SubR.go)
    · have c1 : decide ((hi : Int) < (r : Int)) = false := decide_eq_false (by omega)
      have c2 : decide ((hi : Int) = (r : Int)) = false := decide_eq_false (by omega)
      repeat' (first | refine zf ?_ | refine ze ?_ | (refine za (id := 10) ?_; refine zb ?_; refine zb ?_; refine yv (zS (hr := c1)) (k := ?_); refine zb ?_; refine zb ?_; refine zb ?_; refine yv (z3 (hr := c2)) (k := ?_); refine zb ?_; refine zo rfl rfl rfl ?_; refine zo rfl rfl rfl ?_; refine zo rfl rfl rfl ?_; refine zx ?_; refine zx ?_) | fail)
      exact zU false ⟨fun h => absurd h (by decide), fun _ => by omega⟩ (by exact Sub.go) (by exact SubR.go)
  rintro t ⟨ht, hf⟩
  cases t with
  | true =>
    have ht := ht rfl
    repeat' (first | refine zh ?_ | refine zf ?_ | refine zw rfl ?_ | refine zp ?_ | refine zE ?_ | refine ze ?_ | refine zj ?_ | refine zbB ?_ | (refine za (id := 15) ?_; refine zb ?_; refine zd ?_) | fail)
    exact ret1 rfl (resTmp rfl) SubR.nil ⟨congrArg nv (hval q hq (zcb he ht) hup).symm, rfl⟩
  | false =>
    have hf := hf rfl
    obtain ⟨hq0, hN⟩ := zfi he (zgb he hf)
    have hdec : IntKind.u64.wrap ((q : Int) - 1) = ((q - 1 : Nat) : Int) := by rw [IntWalk.u64_in _ (by omega)]; omega
    by_cases hc : 18446744073709551616 ≤ r + v1
    · have hr1 : (r + v1 + 0) / 18446744073709551616 = 1 := by omega
      have hnz : decide ((((r + v1 + 0) / 18446744073709551616 : Nat) : Int) ≠ 0) = true := decide_eq_true (by rw [hr1]; decide)
      repeat' (first | refine zh ?_ | refine zf ?_ | refine zw rfl ?_ | refine zt rfl ?_ | refine zr ?_ | refine zp ?_ | refine zE ?_ | refine ze ?_ | refine zj ?_ | refine zbB ?_ | (refine za (id := 11) ?_; refine zb ?_; refine yv (zM (hr := hdec)) (k := ?_); refine zd ?_) | (refine za (id := 12) ?_; refine zd ?_) | (refine za (id := 13) ?_; refine zb ?_; refine zb ?_; refine yv (zbC (hr := zbb r v1 0 (by decide))) (k := ?_); refine zb ?_; refine zk ?_; refine zk ?_; refine zd ?_; refine zd ?_) | (refine za (id := 14) ?_; refine zb ?_; refine yv (zax (hr := hnz)) (k := ?_)) | (refine za (id := 15) ?_; refine zb ?_; refine zd ?_) | fail)
      exact ret1 rfl (resTmp rfl) SubR.nil ⟨congrArg nv (hval (q - 1) (by omega) (zcb hN.eq (zdD hv0 (by omega) hc)) (.inr hN.up)).symm, rfl⟩
    · have hz : decide ((((r + v1 + 0) / 18446744073709551616 : Nat) : Int) ≠ 0) = false := decide_eq_false (by omega)
      repeat' (first | refine zh ?_ | refine zf ?_ | refine zt rfl ?_ | refine zr ?_ | refine ze ?_ | refine zj ?_ | refine zaq ?_ | (refine za (id := 11) ?_; refine zb ?_; refine yv (zM (hr := hdec)) (k := ?_); refine zd ?_) | (refine za (id := 12) ?_; refine zd ?_) | (refine za (id := 13) ?_; refine zb ?_; refine zb ?_; refine yv (zbC (hr := zbb r v1 0 (by decide))) (k := ?_); refine zb ?_; refine zk ?_; refine zk ?_; refine zd ?_; refine zd ?_) | (refine za (id := 14) ?_; refine zb ?_; refine yv (zax (hr := hz)) (k := ?_)) | fail)
      refine zI (q - 1, (r + v1 + 0) % 18446744073709551616) ⟨by have := hN.eq; show (q - 1) * v1 + (r + v1 + 0) % 18446744073709551616 = X; omega, by show (r + v1 + 0) % 18446744073709551616 < _; omega, by show q - 1 < _; omega, .inr hN.up⟩ ?_ ?_ ?_
      · show q - 1 < q; omega
      · exact Sub.go
      · exact SubR.go
end Go.Proofs.YtjidkoabdmjgkaaGreatDoor
namespace Go.Proofs.YtjidkoabdmjgkaaGreatDoor
open Go Go.Sy Go.Nt Go.RowKit
attribute [local irreducible] Sy SyL SyX Sy.Fn callFunc natC wC
set_option maxRecDepth 10000
theorem zgX (k x : Nat) : wC k x = (dg 18446744073709551616 k x).map nv := by unfold wC; rfl
theorem zlz {q v hi lo c d u z c' d' k : Nat} (h1 : 18446744073709551616 * hi + lo = q * v) (h2 : 18446744073709551616 * k + (lo + c + 0) % 18446744073709551616 = lo + c) (h3 : c' = hi + k) (h4 : z + (lo + c + 0) % 18446744073709551616 + d = u + d' * 18446744073709551616) : z + q * v + (c + d) = u + (c' + d') * 18446744073709551616 := by omega
set_option maxHeartbeats 1000000 in
theorem zh9 (bu bv j n q U V : Nat) (w : World) (hne : ¬ bv = bu) (hjn : j + n < 17) (hU : U < 18446744073709551616 ^ 17) (hV : V < 18446744073709551616 ^ n) (hq : q < 18446744073709551616)
    (hC : (Res.blk bu 172 (wC 17 U)).holds w) (hB : w.rangeAt bv 0 (wC 17 V)) :
    Sy.Fn Tryz.prog 164 [.slice (some ⟨bu, j, none⟩) (n + 1) (n + 1), .slice (some ⟨bv, 0, none⟩) n n, nv q] w (fun x => x = bu)
      (fun v R => ∃ U' d, d ≤ 1 ∧ v = .bool (decide (((d : Nat) : Int) ≠ 0)) ∧ U' < 18446744073709551616 ^ 17 ∧ U' + q * V * 18446744073709551616 ^ j = U + d * 18446744073709551616 ^ (j + n + 1) ∧ (U < 18446744073709551616 ^ (j + n + 1) → U' < 18446744073709551616 ^ (j + n + 1)) ∧ R = [.blk bu 172 (wC 17 U')]) := by
  have hL0 : Holds w.heap.size (fun x => x = bu) [.blk bu 172 (wC 17 U)] w := ⟨fun x hx => by obtain rfl := List.mem_singleton.1 hx; exact hC, List.pairwise_singleton _ _, fun x hx y hy => by obtain rfl := List.mem_singleton.1 hx; exact .inr (Eq.symm hy)⟩
  refine zq Tryz.func164 rfl Tryz.ntmps164 (by simp) hL0 ?_
  have hst := DivJ.start 18446744073709551616 17 U V j q (by decide) hU
  have hgv := zej 17 V
  repeat' (first | refine zh ?_ | refine zf ?_ | refine zu ?_ | refine ze ?_ | refine zj ?_ | (refine za (id := 0) ?_; refine zd ?_) | (refine za (id := 1) ?_; refine zd ?_; refine zd ?_) | (refine za (id := 2) ?_; refine zb ?_; refine zA ?_; refine zb ?_) | fail)
  refine zQ (γ := Nat × List Nat × Nat × Nat) (fun g => [(0, .slice (some ⟨bu, j, none⟩) (n + 1) (n + 1)), (1, .slice (some ⟨bv, 0, none⟩) n n), (2, nv q), (6, .bool false), (7, nv g.2.2.2), (8, nv g.2.2.1), (14, .int .i64 n), (15, .int .i64 g.1)])
    (fun g => [.blk bu 172 (g.2.1.map nv)])
    (fun g => g.1 ≤ n ∧ DivJ 18446744073709551616 17 U V j q g.1 g.2.1 g.2.2.1 g.2.2.2) (fun g => n - g.1) (0, dg 18446744073709551616 17 U, 0, 0) ⟨Nat.zero_le _, hst⟩ ?_ ?_ ?_
  · exact Sub.go
  · show SubR [.blk bu 172 ((dg 18446744073709551616 17 U).map nv)] _
    rw [← zgX]
    exact SubR.go
  rintro ⟨i, l, c, d⟩ ⟨hi, hJ⟩
  dsimp only at hi hJ ⊢
  have hll := hJ.len
  have hml : (l.map nv).length = 17 := by rw [List.length_map, hll]
  have hcW := hJ.car
  have hd1 := hJ.bit
  by_cases hlt : i < n
  · have hu := hJ.rest (j + i) (Nat.le_refl _) (by omega)
    have hu' : (l.map nv)[j + i]? = some (nv (U / 18446744073709551616 ^ (j + i) % 18446744073709551616)) := by rw [List.getElem?_map, hu]; rfl
    have hvc : w.cell? ⟨bv, i, none⟩ = some (nv (V / 18446744073709551616 ^ i % 18446744073709551616)) := by
      have := hB i _ (hgv i (by omega))
      rw [Nat.zero_add] at this; exact this
    have huW : U / 18446744073709551616 ^ (j + i) % 18446744073709551616 < 18446744073709551616 := Nat.mod_lt _ (by decide)
    have hvW : V / 18446744073709551616 ^ i % 18446744073709551616 < 18446744073709551616 := Nat.mod_lt _ (by decide)
    have hstep := fun z c' d' => hJ.step (z := z) (c' := c') (d' := d') (show j + i < 17 by omega)
    generalize U / 18446744073709551616 ^ (j + i) % 18446744073709551616 = u at *
    generalize V / 18446744073709551616 ^ i % 18446744073709551616 = v at *
    have hmul := fun w => zfp q v w hq hvW
    have e1 := Nat.div_add_mod (q * v) 18446744073709551616
    have hhi : q * v / 18446744073709551616 + (q * v % 18446744073709551616 + c + 0) / 18446744073709551616 < 18446744073709551616 :=
      zm0 18446744073709551616 q v c _ (q * v % 18446744073709551616) ((q * v % 18446744073709551616 + c + 0) % 18446744073709551616) _ hq hvW hcW (by omega) (by omega)
    have hlow := Nat.mod_lt (q * v) (show 0 < 18446744073709551616 by decide)
    have e2 := Nat.div_add_mod (q * v % 18446744073709551616 + c + 0) 18446744073709551616
    have hl1 : (q * v % 18446744073709551616 + c + 0) % 18446744073709551616 < 18446744073709551616 := Nat.mod_lt _ (by decide)
    repeat' (first | refine zh ?_ | refine zf ?_ | refine zw rfl ?_ | refine zu ?_ | refine zr ?_ | refine ze ?_ | refine zj ?_ | (refine za (id := 3) ?_; refine zX ?_) | (refine za (id := 4) ?_; refine zb ?_; refine zd ?_) | (refine za (id := 5) ?_; refine zb ?_; refine zb ?_; refine zb ?_; refine zC ?_; refine yv (zN (hv := hvc) (hn := hne)) (k := ?_); refine yv (zi (hc := fun _ _ _ _ => (hmul _))) (k := ?_); refine zb ?_; refine zk ?_; refine zk ?_; refine zd ?_; refine zd ?_) | (refine za (id := 6) ?_; refine zd ?_) | (refine za (id := 7) ?_; refine zb ?_; refine zb ?_; refine yv (zbC (hr := zbb (q * v % 18446744073709551616) c 0 (by decide))) (k := ?_); refine zb ?_; refine zk ?_; refine zk ?_; refine zd ?_; refine zd ?_) | (refine za (id := 8) ?_; refine zb ?_; refine zb ?_; refine yv zci (k := ?_); refine zd ?_) | (refine za (id := 9) ?_; refine zb ?_; refine zb ?_; refine zb ?_; refine zb ?_; refine zC ?_; refine yv (zP (hv := hu')) (k := ?_); refine zb ?_; refine zb ?_; refine yv (zbC (hr := zdI u ((q * v % 18446744073709551616 + c + 0) % 18446744073709551616) d hd1)) (k := ?_); refine zb ?_; refine zk ?_; refine zk ?_; refine zC ?_; refine zH ?_; refine zd ?_) | (refine za (id := 10) ?_; refine zah ?_; refine zb ?_) | fail)
    obtain ⟨z, hz⟩ : ∃ z, (u + 18446744073709551616 - (q * v % 18446744073709551616 + c + 0) % 18446744073709551616 - d) % 18446744073709551616 = z := ⟨_, rfl⟩
    obtain ⟨c', hc'⟩ : ∃ c', (q * v / 18446744073709551616 + (q * v % 18446744073709551616 + c + 0) / 18446744073709551616) % 18446744073709551616 = c' := ⟨_, rfl⟩
    obtain ⟨d', hd'⟩ : ∃ d', (if u < (q * v % 18446744073709551616 + c + 0) % 18446744073709551616 + d then 1 else 0) = d' := ⟨_, rfl⟩
    rw [hz, hc', hd']
    have hd'1 : d' ≤ 1 := by rw [← hd']; split <;> omega
    refine zI (i + 1, l.set (j + i) z, c', d') ⟨by show i + 1 ≤ n; omega, hstep z c' d' (by omega) (by omega) hd'1 ?_⟩ ?_ ?_ ?_
    · refine zlz e1 (by omega) (by rw [← hc']; exact Nat.mod_eq_of_lt hhi) ?_
      rw [← hz]
      generalize (q * v % 18446744073709551616 + c + 0) % 18446744073709551616 = f at *
      rw [← hd']
      split <;> omega
    · show n - (i + 1) < n - i; omega
    · exact Sub.go
    · show SubR [.blk bu 172 ((l.set (j + i) z).map nv)] _
      rw [List.map_set]
      exact SubR.go
  obtain rfl : i = n := by omega
  have hu := hJ.rest (j + i) (Nat.le_refl _) (by omega)
  have hu' : (l.map nv)[j + i]? = some (nv (U / 18446744073709551616 ^ (j + i) % 18446744073709551616)) := by rw [List.getElem?_map, hu]; rfl
  have huW : U / 18446744073709551616 ^ (j + i) % 18446744073709551616 < 18446744073709551616 := Nat.mod_lt _ (by decide)
  have hlast := fun z d' => hJ.last (z := z) (d' := d') (show j + i < 17 by omega) hV
  generalize U / 18446744073709551616 ^ (j + i) % 18446744073709551616 = u at *
  repeat' (first | refine zh ?_ | refine zf ?_ | refine zt rfl ?_ | refine zE ?_ | refine ze ?_ | refine zj ?_ | (refine za (id := 3) ?_; refine zX ?_) | (refine za (id := 11) ?_; refine zb ?_; refine zb ?_; refine zA ?_; refine zb ?_; refine zb ?_; refine zA ?_; refine zC ?_; refine yv (zP (hv := hu')) (k := ?_); refine zb ?_; refine zb ?_; refine yv (zbC (hr := zdI u c d hd1)) (k := ?_); refine zb ?_; refine zk ?_; refine zk ?_; refine zC ?_; refine zH ?_; refine zd ?_) | fail)
  obtain ⟨z, hz⟩ : ∃ z, (u + 18446744073709551616 - c - d) % 18446744073709551616 = z := ⟨_, rfl⟩
  obtain ⟨d', hd'⟩ : ∃ d', (if u < c + d then 1 else 0) = d' := ⟨_, rfl⟩
  rw [hz, hd']
  have hd'1 : d' ≤ 1 := by rw [← hd']; split <;> omega
  obtain ⟨U', hU1, hU2, hU3, hU4⟩ := hlast z d' (by omega) (by rw [← hz, ← hd']; split <;> omega) hd'1
  have hset : (l.map nv).set (j + i) (nv z) = wC 17 U' := by rw [← List.map_set, hU1, ← zgX]
  repeat' (first | refine zf ?_ | refine zp ?_ | refine ze ?_ | refine zj ?_ | (refine za (id := 12) ?_; refine zb ?_; refine zW ?_; refine zd ?_) | fail)
  exact ret1 rfl (resTmp rfl) (by (repeat' (first | exact SubR.nil | (apply SubR.same; with_reducible (focus ((repeat (first | exact Rem.here | apply Rem.there)); done))) | (apply SubR.blk; (focus ((repeat (first | exact Rem.here | apply Rem.there)); done))) | (apply SubR.pick; (focus ((repeat (first | exact Rem.here | apply Rem.there)); done))) | rfl)); exact hset) ⟨U', d', hd'1, rfl, hU2, hU3, hU4, rfl⟩
theorem zjl (bu bv j n U V : Nat) (w : World) (hne : ¬ bv = bu) (hjn : j + n < 17) (hU : U < 18446744073709551616 ^ 17) (hV : V < 18446744073709551616 ^ n)
    (hC : (Res.blk bu 172 (wC 17 U)).holds w) (hB : w.rangeAt bv 0 (wC 17 V)) :
    Sy.Fn Tryz.prog 165 [.slice (some ⟨bu, j, none⟩) (n + 1) (n + 1), .slice (some ⟨bv, 0, none⟩) n n] w (fun x => x = bu)
      (fun v R => ∃ U' d, v = .tuple #[] ∧ U' < 18446744073709551616 ^ 17 ∧ U' + d * 18446744073709551616 ^ (j + n + 1) = U + V * 18446744073709551616 ^ j ∧ (U < 18446744073709551616 ^ (j + n + 1) → U' < 18446744073709551616 ^ (j + n + 1)) ∧ R = [.blk bu 172 (wC 17 U')]) := by
  have hL0 : Holds w.heap.size (fun x => x = bu) [.blk bu 172 (wC 17 U)] w := ⟨fun x hx => by obtain rfl := List.mem_singleton.1 hx; exact hC, List.pairwise_singleton _ _, fun x hx y hy => by obtain rfl := List.mem_singleton.1 hx; exact .inr (Eq.symm hy)⟩
  refine zq Tryz.func165 rfl Tryz.ntmps165 (by simp) hL0 ?_
  have hst := ResJ.start 18446744073709551616 17 U V j (by decide) hU
  have hgv := zej 17 V
  repeat' (first | refine zh ?_ | refine zf ?_ | refine zu ?_ | refine ze ?_ | refine zj ?_ | (refine za (id := 0) ?_; refine zd ?_) | (refine za (id := 1) ?_; refine zb ?_; refine zA ?_; refine zb ?_) | fail)
  refine zQ (γ := Nat × List Nat × Nat) (fun g => [(0, .slice (some ⟨bu, j, none⟩) (n + 1) (n + 1)), (1, .slice (some ⟨bv, 0, none⟩) n n), (4, nv g.2.2), (7, .int .i64 n), (8, .int .i64 g.1)])
    (fun g => [.blk bu 172 (g.2.1.map nv)])
    (fun g => g.1 ≤ n ∧ ResJ 18446744073709551616 17 U V j g.1 g.2.1 g.2.2) (fun g => n - g.1) (0, dg 18446744073709551616 17 U, 0) ⟨Nat.zero_le _, hst⟩ ?_ ?_ ?_
  · exact Sub.go
  · show SubR [.blk bu 172 ((dg 18446744073709551616 17 U).map nv)] _
    rw [← zgX]
    exact SubR.go
  rintro ⟨i, l, c⟩ ⟨hi, hJ⟩
  dsimp only at hi hJ ⊢
  have hll := hJ.len
  have hml : (l.map nv).length = 17 := by rw [List.length_map, hll]
  have hc1 := hJ.bit
  by_cases hlt : i < n
  · have hu := hJ.rest (j + i) (Nat.le_refl _) (by omega)
    have hu' : (l.map nv)[j + i]? = some (nv (U / 18446744073709551616 ^ (j + i) % 18446744073709551616)) := by rw [List.getElem?_map, hu]; rfl
    have hvc : w.cell? ⟨bv, i, none⟩ = some (nv (V / 18446744073709551616 ^ i % 18446744073709551616)) := by
      have := hB i _ (hgv i (by omega))
      rw [Nat.zero_add] at this; exact this
    have huW : U / 18446744073709551616 ^ (j + i) % 18446744073709551616 < 18446744073709551616 := Nat.mod_lt _ (by decide)
    have hvW : V / 18446744073709551616 ^ i % 18446744073709551616 < 18446744073709551616 := Nat.mod_lt _ (by decide)
    have hstep := fun z c' => hJ.step (z := z) (c' := c') (show j + i < 17 by omega)
    generalize U / 18446744073709551616 ^ (j + i) % 18446744073709551616 = u at *
    generalize V / 18446744073709551616 ^ i % 18446744073709551616 = v at *
    obtain ⟨z, hz⟩ : ∃ z, (u + v + c) % 18446744073709551616 = z := ⟨_, rfl⟩
    obtain ⟨c', hc'⟩ : ∃ c', (u + v + c) / 18446744073709551616 = c' := ⟨_, rfl⟩
    have hadd := zbb u v c hc1
    rw [hz, hc'] at hadd
    have hset : (l.map nv).set (j + i) (nv z) = (l.set (j + i) z).map nv := by rw [List.map_set]
    repeat' (first | refine zh ?_ | refine zf ?_ | refine zw rfl ?_ | refine zu ?_ | refine zr ?_ | refine ze ?_ | refine zj ?_ | (refine za (id := 2) ?_; refine zX ?_) | (refine za (id := 3) ?_; refine zb ?_; refine zd ?_) | fail)
    refine zaV (id := 4) mixed ?_
    (refine zaT 17 17 [[], [], [], [], [2, 3], [2, 3, 4], [], [], [6, 7], [6, 7, 8], [], [2, 3, 4, 5, 6, 7, 8, 9, 10], [2, 3, 4, 5, 6, 7, 8, 9, 10, 11], [2, 3, 4, 5, 6, 7, 8, 9, 10, 11, 12], [2, 3, 4, 5, 6, 7, 8, 9, 10, 11, 12], [0, 1, 2, 3, 4, 5, 6, 7, 8, 9, 10, 11, 12, 13], [0, 1, 2, 3, 4, 5, 6, 7, 8, 9, 10, 11, 12, 13, 15], [0, 1, 2, 3, 4, 5, 6, 7, 8, 9, 10, 11, 12, 13, 14, 15, 16]] [[], [], [], [], [], [], [], [], [], [], [], [], [], [], [], [], [], []] (some 16) rfl ?_ ?_ ?_; kernel_rfl; kernel_rfl; refine zac ?_; refine zac ?_; refine zac ?_; refine zac ?_; refine zbf ?_; refine dcE (fun _ _ => zP (hv := hu')) (k := ?_); refine zac ?_; refine zac ?_; refine zbf ?_; refine dcE (fun _ _ => zN (hv := hvc) (hn := hne)) (k := ?_); refine zac ?_; refine dcE (fun _ _ => zbC (hr := hadd)) (k := ?_); refine zac ?_; refine zar ?_; refine zar ?_; refine zbf ?_; try refine dh_0nE (h := ?_))
    refine zfy (R := fun _ _ Nw => Nw = [.blk bu 172 ((l.map nv).set (j + i) (nv z))]) (fun _ _ _ => rfl) (fun ρ hρ => OpT.mono (ze5 (C := l.map nv) (L' := [.blk bu 172 ((l.map nv).set (j + i) (nv z))])) fun v L' h => ?_) (h := ?_)
    · obtain ⟨rfl, rfl⟩ := h
      exact ⟨_, (List.append_nil _).symm, rfl⟩
    refine zbI (h := ?_)
    rintro ρ ⟨f', -⟩
    (refine zaU [[], [], [], [], [2, 3], [2, 3, 4], [], [], [6, 7], [6, 7, 8], [], [2, 3, 4, 5, 6, 7, 8, 9, 10], [2, 3, 4, 5, 6, 7, 8, 9, 10, 11], [2, 3, 4, 5, 6, 7, 8, 9, 10, 11, 12], [2, 3, 4, 5, 6, 7, 8, 9, 10, 11, 12], [0, 1, 2, 3, 4, 5, 6, 7, 8, 9, 10, 11, 12, 13], [0, 1, 2, 3, 4, 5, 6, 7, 8, 9, 10, 11, 12, 13, 15], [0, 1, 2, 3, 4, 5, 6, 7, 8, 9, 10, 11, 12, 13, 14, 15, 16]] ?_ ?_; kernel_rfl)
    have f' : (ρ 16).2 = [.blk bu 172 ((l.map nv).set (j + i) (nv z))] := f'
    refine SyL.weaken (fr' := [(25, nv c'), (0, .slice (some ⟨bu, j, none⟩) (n + 1) (n + 1)), (1, .slice (some ⟨bv, 0, none⟩) n n), (7, .int .i64 n), (8, .int .i64 i)])
      (L' := [.blk bu 172 ((l.set (j + i) z).map nv)]) ?_ ?_ ?_
    · repeat' (first | refine zf ?_ | refine ze ?_ | refine zj ?_ | (refine za (id := 5) ?_; refine zah ?_; refine zb ?_) | (refine zT ?_; first | refine zd ?_ | fail) | fail)
      refine zI (i + 1, l.set (j + i) z, c') ⟨by show i + 1 ≤ n; omega, hstep z c' (by omega) (by omega) (by omega)⟩ ?_ ?_ ?_
      · show n - (i + 1) < n - i; omega
      · exact Sub.go
      · exact SubR.go
    · exact Sub.go
    · show SubR _ ((ρ 16).2 ++ [])
      rw [f', hset]
      exact SubR.go2
  obtain rfl : i = n := by omega
  have hu := hJ.rest (j + i) (Nat.le_refl _) (by omega)
  have hu' : (l.map nv)[j + i]? = some (nv (U / 18446744073709551616 ^ (j + i) % 18446744073709551616)) := by rw [List.getElem?_map, hu]; rfl
  have huW : U / 18446744073709551616 ^ (j + i) % 18446744073709551616 < 18446744073709551616 := Nat.mod_lt _ (by decide)
  have hlast := fun z d' => hJ.last (z := z) (d' := d') (show j + i < 17 by omega) hV
  generalize U / 18446744073709551616 ^ (j + i) % 18446744073709551616 = u at *
  obtain ⟨U', hU1, hU2, hU3, hU4⟩ := hlast ((u + c) % 18446744073709551616) ((u + c) / 18446744073709551616) (Nat.mod_lt _ (by decide)) (by decide) (by omega)
  have hset : (l.map nv).set (j + i) (nv ((u + c) % 18446744073709551616)) = wC 17 U' := by rw [← List.map_set, hU1, ← zgX]
  repeat' (first | refine zh ?_ | refine zf ?_ | refine zt rfl ?_ | refine zE ?_ | refine ze ?_ | refine zj ?_ | (refine za (id := 2) ?_; refine zX ?_) | (refine za (id := 6) ?_; refine zb ?_; refine zb ?_; refine zA ?_; refine zC ?_; refine yv (zP (hv := hu')) (k := ?_); refine zb ?_; refine yv zci (k := ?_); refine zC ?_; refine zH ?_) | fail)
  refine end0 (R := [.blk bu 172 (wC 17 U')]) rfl ?_ ?_
  · (repeat' (first | exact SubR.nil | (apply SubR.same; with_reducible (focus ((repeat (first | exact Rem.here | apply Rem.there)); done))) | (apply SubR.blk; (focus ((repeat (first | exact Rem.here | apply Rem.there)); done))) | (apply SubR.pick; (focus ((repeat (first | exact Rem.here | apply Rem.there)); done))) | rfl))
    exact hset
  · exact ⟨U', _, rfl, hU2, hU3, hU4, rfl⟩
end Go.Proofs.YtjidkoabdmjgkaaGreatDoor
end
