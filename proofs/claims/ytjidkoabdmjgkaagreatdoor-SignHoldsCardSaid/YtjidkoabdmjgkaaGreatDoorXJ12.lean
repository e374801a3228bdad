/- The number of bits. -/
import Derived.Test.YtjidkoabdmjgkaaGreatDoorXJ11
import Derived.Test.YtjidkoabdmjgkaaGreatDoorXJ06
set_option linter.all false
section
namespace Go.Nt
theorem zes (b x s : Nat) (hb : 2 ≤ b) (h : b ^ s ≤ x) : nd b x = s + nd b (x / b ^ s) := by
  have hp : 0 < b ^ s := Nat.pow_pos (by omega)
  have h1 := zaf b (x / b ^ s) hb
  have hq : 0 < x / b ^ s := Nat.div_pos h hp
  have h2 := (zbG b hb (x / b ^ s)).2
  have hn : 0 < nd b (x / b ^ s) := by
    rcases Nat.eq_zero_or_pos (nd b (x / b ^ s)) with h0 | h0
    · rw [h0, Nat.pow_zero] at h1; omega
    · exact h0
  have h2 := h2 hn
  refine zbi b x _ hb ?_ fun _ => ?_
  · rw [Nat.pow_add, Nat.mul_comm]; exact (Nat.div_lt_iff_lt_mul hp).1 h1
  · rw [show s + nd b (x / b ^ s) - 1 = (nd b (x / b ^ s) - 1) + s by omega, Nat.pow_add]
    exact Nat.le_trans (Nat.mul_le_mul_right _ h2) (Nat.div_mul_le_self x _)
def bits8 : List UInt8 := [0, 1, 2, 2, 3, 3, 3, 3, 4, 4, 4, 4, 4, 4, 4, 4, 5, 5, 5, 5, 5, 5, 5, 5, 5, 5, 5, 5, 5, 5, 5, 5, 6, 6, 6, 6, 6, 6, 6, 6, 6, 6, 6, 6, 6, 6, 6, 6, 6, 6, 6, 6, 6, 6, 6, 6, 6, 6, 6, 6, 6, 6, 6, 6, 7, 7, 7, 7, 7, 7, 7, 7, 7, 7, 7, 7, 7, 7, 7, 7, 7, 7, 7, 7, 7, 7, 7, 7, 7, 7, 7, 7, 7, 7, 7, 7, 7, 7, 7, 7, 7, 7, 7, 7, 7, 7, 7, 7, 7, 7, 7, 7, 7, 7, 7, 7, 7, 7, 7, 7, 7, 7, 7, 7, 7, 7, 7, 7, 8, 8, 8, 8, 8, 8, 8, 8, 8, 8, 8, 8, 8, 8, 8, 8, 8, 8, 8, 8, 8, 8, 8, 8, 8, 8, 8, 8, 8, 8, 8, 8, 8, 8, 8, 8, 8, 8, 8, 8, 8, 8, 8, 8, 8, 8, 8, 8, 8, 8, 8, 8, 8, 8, 8, 8, 8, 8, 8, 8, 8, 8, 8, 8, 8, 8, 8, 8, 8, 8, 8, 8, 8, 8, 8, 8, 8, 8, 8, 8, 8, 8, 8, 8, 8, 8, 8, 8, 8, 8, 8, 8, 8, 8, 8, 8, 8, 8, 8, 8, 8, 8, 8, 8, 8, 8, 8, 8, 8, 8, 8, 8, 8, 8, 8, 8, 8, 8, 8, 8, 8, 8, 8, 8, 8, 8, 8, 8]
theorem zjK : ∀ j : Fin 256, ∃ u, bits8[j.1]? = some u ∧ j.1 < 2 ^ u.toNat ∧ (0 < u.toNat → 2 ^ (u.toNat - 1) ≤ j.1) := by decide +kernel
theorem zjQ (j : Nat) (h : j < 256) : ∃ u, bits8[j]? = some u ∧ u.toNat = nd 2 j := by
  obtain ⟨u, h1, h2, h3⟩ := zjK ⟨j, h⟩
  exact ⟨u, h1, (zbi 2 j _ (by decide) h2 h3).symm⟩
end Go.Nt
namespace Go.Proofs.YtjidkoabdmjgkaaGreatDoor
open Go Go.Sy Go.Nt Go.RowKit
attribute [local irreducible] Sy SyL SyX Sy.Fn callFunc natC bits8
set_option maxRecDepth 10000
theorem zfj (x : Nat) (w : World) (hx : x < 18446744073709551616) :
    Sy.Fn Tryz.prog 105 [nv x] w No (Gives (.int .i64 ((nd 2 x : Nat) : Int))) := by
  refine zq Tryz.func105 rfl Tryz.ntmps105 (by simp) Holds.nil ?_
  obtain ⟨x1, n1, e1, hx1, hc1⟩ : ∃ x1 n1, nd 2 x = n1 + nd 2 x1 ∧ x1 < 4294967296 ∧ ((4294967296 ≤ x ∧ x1 = x / 2 ^ 32 ∧ n1 = 32) ∨ (x < 4294967296 ∧ x1 = x ∧ n1 = 0)) := by
    rcases Nat.lt_or_ge x 4294967296 with h | h
    · exact ⟨x, 0, by omega, h, .inr ⟨h, rfl, rfl⟩⟩
    · exact ⟨x / 2 ^ 32, 32, zes 2 x 32 (by decide) h, by omega, .inl ⟨h, rfl, rfl⟩⟩
  obtain ⟨x2, n2, e2, hx2, hc2⟩ : ∃ x2 n2, nd 2 x1 = n2 + nd 2 x2 ∧ x2 < 65536 ∧ ((65536 ≤ x1 ∧ x2 = x1 / 2 ^ 16 ∧ n2 = 16) ∨ (x1 < 65536 ∧ x2 = x1 ∧ n2 = 0)) := by
    rcases Nat.lt_or_ge x1 65536 with h | h
    · exact ⟨x1, 0, by omega, h, .inr ⟨h, rfl, rfl⟩⟩
    · exact ⟨x1 / 2 ^ 16, 16, zes 2 x1 16 (by decide) h, by omega, .inl ⟨h, rfl, rfl⟩⟩
  obtain ⟨x3, n3, e3, hx3, hc3⟩ : ∃ x3 n3, nd 2 x2 = n3 + nd 2 x3 ∧ x3 < 256 ∧ ((256 ≤ x2 ∧ x3 = x2 / 2 ^ 8 ∧ n3 = 8) ∨ (x2 < 256 ∧ x3 = x2 ∧ n3 = 0)) := by
    rcases Nat.lt_or_ge x2 256 with h | h
    · exact ⟨x2, 0, by omega, h, .inr ⟨h, rfl, rfl⟩⟩
    · exact ⟨x2 / 2 ^ 8, 8, zes 2 x2 8 (by decide) h, by omega, .inl ⟨h, rfl, rfl⟩⟩
  obtain ⟨u, hu, hun⟩ := zjQ x3 hx3
  rw [e1, e2, e3, ← hun]
  repeat' (first | refine zh ?_ | refine zf ?_ | refine ze ?_ | refine zj ?_ | (refine za (id := 0) ?_; refine zd ?_) | (refine za (id := 1) ?_; refine zb ?_; refine zaj ?_) | fail)
  refine zbm (γ := Unit) (fun _ => [(0, nv x1), (2, .int .i64 ((n1 : Nat) : Int))]) (fun _ => []) (fun _ => True) ?_ ?_
  · refine zcj rfl (fun h => ?_) (fun h => ?_)
    · have h := of_decide_eq_true h
      obtain ⟨-, rfl, rfl⟩ : 4294967296 ≤ x ∧ x1 = x / 2 ^ 32 ∧ n1 = 32 := by
        rcases hc1 with c | c
        · exact c
        · omega
      repeat' (first | refine zh ?_ | refine zf ?_ | refine ze ?_ | refine zj ?_ | (refine za (id := 2) ?_; refine zb ?_; refine yv (zce 32 (by decide)) (k := ?_); refine zd ?_) | (refine za (id := 3) ?_; refine zd ?_) | fail)
      exact zU () trivial (by exact Sub.go) (by exact SubR.go)
    · have h := of_decide_eq_false h
      obtain ⟨-, rfl, rfl⟩ : x < 4294967296 ∧ x1 = x ∧ n1 = 0 := by
        rcases hc1 with c | c
        · omega
        · exact c
      repeat' (first | refine zr ?_ | refine ze ?_ | fail)
      exact zU () trivial (by exact Sub.go) (by exact SubR.go)
  rintro - -
  repeat' (first | refine zh ?_ | refine zf ?_ | refine ze ?_ | refine zj ?_ | (refine za (id := 4) ?_; refine zb ?_; refine zaj ?_) | fail)
  refine zbm (γ := Unit) (fun _ => [(0, nv x2), (2, .int .i64 ((n1 + n2 : Nat) : Int))]) (fun _ => []) (fun _ => True) ?_ ?_
  · refine zcj rfl (fun h => ?_) (fun h => ?_)
    · have h := of_decide_eq_true h
      obtain ⟨-, rfl, rfl⟩ : 65536 ≤ x1 ∧ x2 = x1 / 2 ^ 16 ∧ n2 = 16 := by
        rcases hc2 with c | c
        · exact c
        · omega
      repeat' (first | refine zh ?_ | refine zf ?_ | refine ze ?_ | refine zj ?_ | (refine za (id := 5) ?_; refine zb ?_; refine yv (zce 16 (by decide)) (k := ?_); refine zd ?_) | (refine za (id := 6) ?_; refine zb ?_; refine zah ?_; refine zd ?_) | fail)
      exact zU () trivial (by exact Sub.go) (by exact SubR.go)
    · have h := of_decide_eq_false h
      obtain ⟨-, rfl, rfl⟩ : x1 < 65536 ∧ x2 = x1 ∧ n2 = 0 := by
        rcases hc2 with c | c
        · omega
        · exact c
      repeat' (first | refine zr ?_ | refine ze ?_ | fail)
      exact zU () trivial (by exact Sub.go) (by exact SubR.go)
  rintro - -
  repeat' (first | refine zh ?_ | refine zf ?_ | refine ze ?_ | refine zj ?_ | (refine za (id := 7) ?_; refine zb ?_; refine zaj ?_) | fail)
  refine zbm (γ := Unit) (fun _ => [(0, nv x3), (2, .int .i64 ((n1 + n2 + n3 : Nat) : Int))]) (fun _ => []) (fun _ => True) ?_ ?_
  · refine zcj rfl (fun h => ?_) (fun h => ?_)
    · have h := of_decide_eq_true h
      obtain ⟨-, rfl, rfl⟩ : 256 ≤ x2 ∧ x3 = x2 / 2 ^ 8 ∧ n3 = 8 := by
        rcases hc3 with c | c
        · exact c
        · omega
      repeat' (first | refine zh ?_ | refine zf ?_ | refine ze ?_ | refine zj ?_ | (refine za (id := 8) ?_; refine zb ?_; refine yv (zce 8 (by decide)) (k := ?_); refine zd ?_) | (refine za (id := 9) ?_; refine zb ?_; refine zah ?_; refine zd ?_) | fail)
      exact zU () trivial (by exact Sub.go) (by exact SubR.go)
    · have h := of_decide_eq_false h
      obtain ⟨-, rfl, rfl⟩ : x2 < 256 ∧ x3 = x2 ∧ n3 = 0 := by
        rcases hc3 with c | c
        · omega
        · exact c
      repeat' (first | refine zr ?_ | refine ze ?_ | fail)
      exact zU () trivial (by exact Sub.go) (by exact SubR.go)
  rintro - -
  have hcv : IntKind.u8.wrap (x3 : Int) = (x3 : Int) := IntWalk.u8_in _ (by omega)
  have hu' : bits8.toArray[x3]? = some u := by rw [List.getElem?_toArray]; exact hu
  have hcw : IntKind.i64.wrap ((u.toNat : Nat) : Int) = ((u.toNat : Nat) : Int) := IntWalk.i64_in _ (by have := u.toNat_lt; omega)
  have hul := u.toNat_lt
  repeat' (first | refine zh ?_ | refine zf ?_ | refine zp ?_ | refine ze ?_ | refine zj ?_ | (refine za (id := 10) ?_; refine zb ?_; refine zb ?_; refine yv (zaM (hr := hcv)) (k := ?_); refine yv (z5 (hv := Eq.trans (congrArg (fun a : Array UInt8 => a[x3]?) (show _ = bits8.toArray by decide +kernel)) hu')) (k := ?_); refine yv (zaM (hr := hcw)) (k := ?_); refine zah ?_; refine zd ?_) | fail)
  exact ret1 rfl (resTmp rfl) SubR.nil ⟨congrArg (Value.int .i64) (by omega), rfl⟩
theorem ziI (x : Nat) (w : World) (hx : x < 18446744073709551616) :
    Sy.Fn Tryz.prog 161 [nv x] w No (Gives (.int .i64 ((64 - nd 2 x : Nat) : Int))) := by
  refine zq Tryz.func161 rfl Tryz.ntmps161 (by simp) Holds.nil ?_
  have hn : nd 2 x ≤ 64 := zam 2 x 64 (by decide) hx
  repeat' (first | refine zh ?_ | refine zf ?_ | refine zp ?_ | refine ze ?_ | refine zj ?_ | (refine za (id := 0) ?_; refine zd ?_) | (refine za (id := 1) ?_; refine zb ?_; refine yv (zi (hc := fun _ _ _ _ => (zfj x _ hx))) (k := ?_); refine zcX ?_; refine zd ?_) | fail)
  exact ret1 rfl (resTmp rfl) SubR.nil ⟨congrArg (Value.int .i64) (by omega), rfl⟩
end Go.Proofs.YtjidkoabdmjgkaaGreatDoor
namespace Go.Nt
theorem wpow (k : Nat) : 18446744073709551616 ^ k = 2 ^ (64 * k) := by
  rw [show (18446744073709551616 : Nat) = 2 ^ 64 from rfl, ← Nat.pow_mul]
theorem zi0 : ∃ k, k = 1024 ∧ 18446744073709551616 ^ 16 = 2 ^ k := by
  obtain ⟨m, hm⟩ : ∃ m, m = 16 := ⟨16, rfl⟩
  exact ⟨64 * m, by omega, by rw [← wpow, hm]⟩
theorem znb {x i : Nat} (hi : i ≤ 1024) (h : x < 2 ^ i) : x < 18446744073709551616 ^ 16 := by
  obtain ⟨k, hk, e⟩ := zi0
  rw [e]
  exact Nat.lt_of_lt_of_le h (Nat.pow_le_pow_right (by decide) (by omega))
theorem zng {x i : Nat} (h1 : 2 ^ i ≤ x) (h : x < 18446744073709551616 ^ 16) : i < 1024 := by
  obtain ⟨k, hk, e⟩ := zi0
  rw [e] at h
  have : i < k := (Nat.pow_lt_pow_iff_right (by decide)).1 (Nat.lt_of_le_of_lt h1 h)
  omega
theorem zdt (b t n : Nat) (hb : b = 2 ^ t) (h : t * n = 1024) : 18446744073709551616 ^ 16 = b ^ n := by
  obtain ⟨k, hk, e⟩ := zi0
  rw [e, hb, ← Nat.pow_mul, hk, h]
theorem zcn {x : Nat} (h : x < 18446744073709551616 ^ 16) : nd 2 x ≤ 1024 := by
  obtain ⟨k, hk, e⟩ := zi0
  rw [e] at h
  have := zam 2 x k (by decide) h
  omega
theorem quoI {p k : Nat} (h : p < 9223372036854775808) : IntKind.i64.wrap ((p : Int).tdiv (k : Int)) = ((p / k : Nat) : Int) := by
  have h1 := Nat.div_le_self p k
  rw [Int.tdiv_eq_ediv_of_nonneg (by omega), show ((p : Int) / (k : Int)) = ((p / k : Nat) : Int) from rfl]
  generalize p / k = q at *
  exact IntWalk.i64_in _ (by omega)
theorem remI (p k : Nat) : (p : Int).tmod (k : Int) = ((p % k : Nat) : Int) := by
  rw [Int.tmod_eq_emod_of_nonneg (by omega)]; rfl
end Go.Nt
namespace Go.Proofs.YtjidkoabdmjgkaaGreatDoor
open Go Go.Sy Go.Nt Go.RowKit
attribute [local irreducible] Sy SyL SyX Sy.Fn callFunc natC
set_option maxRecDepth 10000
theorem za0 (x : Nat) (w : World) (hx : x < 18446744073709551616 ^ 16) :
    Sy.Fn Tryz.prog 70 [natV x] w No (Gives (.int .i64 ((nd 2 x : Nat) : Int))) := by
  refine zq Tryz.func70 rfl Tryz.ntmps70 (by simp) Holds.nil ?_
  have hlx := zg x
  rcases Nat.eq_zero_or_pos x with h0 | h0
  · subst h0
    have hl := fun w => zbe 0 w hx
    rw [zbH] at hl ⊢
    repeat' (first | refine zh ?_ | refine zf ?_ | refine zw rfl ?_ | refine zp ?_ | refine ze ?_ | refine zj ?_ | refine zy ?_ | (refine za (id := 0) ?_; (refine zm ?_; intro _); refine zd ?_) | (refine za (id := 1) ?_; refine zD ?_; refine zz ?_; refine yv (zi (hc := fun _ _ _ _ => (hl _))) (k := ?_); refine zd ?_) | (refine za (id := 2) ?_; refine zb ?_; refine zai ?_) | (refine za (id := 3) ?_; refine zd ?_) | fail)
    exact ret1 rfl (resTmp rfl) SubR.nil ⟨rfl, rfl⟩
  have hn := zam 18446744073709551616 x 16 (by decide) hx
  have hl := zaf 18446744073709551616 x (by decide)
  have hs := (zbG 18446744073709551616 (by decide) x).2
  have hlen := fun w => zbe x w hx
  have hgx := zay x
  generalize nd 18446744073709551616 x = n at *
  have hn0 : 0 < n := by
    rcases Nat.eq_zero_or_pos n with h | h
    · subst h; rw [Nat.pow_zero] at hl; omega
    · exact h
  have hs := hs hn0
  have hd := hgx (n - 1) (by omega)
  have hnd : nd 2 x = 64 * (n - 1) + nd 2 (x / 18446744073709551616 ^ (n - 1)) := by
    rw [wpow] at hs ⊢
    exact zes 2 x _ (by decide) hs
  have hdl : x / 18446744073709551616 ^ (n - 1) < 18446744073709551616 := by
    rw [Nat.div_lt_iff_lt_mul (Nat.pow_pos (by decide)), Nat.mul_comm, ← Nat.pow_succ, show (n - 1).succ = n by omega]
    exact hl
  rw [Nat.mod_eq_of_lt hdl] at hd
  have hn2 := zam 2 _ 64 (by decide) hdl
  rw [hnd]
  generalize x / 18446744073709551616 ^ (n - 1) = d at *
  have hs1 : IntKind.i64.wrap ((n : Int) - 1) = ((n - 1 : Nat) : Int) := by rw [IntWalk.i64_in _ (by omega)]; omega
  repeat' (first | refine zh ?_ | refine zf ?_ | refine zt rfl ?_ | refine zr ?_ | refine zp ?_ | refine ze ?_ | refine zj ?_ | (refine za (id := 0) ?_; (refine zm ?_; intro _); refine zd ?_) | (refine za (id := 1) ?_; refine zD ?_; refine zz ?_; refine yv (zi (hc := fun _ _ _ _ => (hlen _))) (k := ?_); refine zd ?_) | (refine za (id := 2) ?_; refine zb ?_; refine zai ?_) | (refine za (id := 4) ?_; refine zb ?_; refine yv (zM (hr := hs1)) (k := ?_); refine zdS ?_; refine zb ?_; refine yv (zM (hr := hs1)) (k := ?_); refine zD ?_; refine zC ?_; refine yv (zP (hv := hd)) (k := ?_); refine yv (zi (hc := fun _ _ _ _ => (zfj d _ hdl))) (k := ?_); refine zah ?_; refine zd ?_) | fail)
  exact ret1 rfl (resTmp rfl) SubR.nil ⟨congrArg (Value.int .i64) (by omega), rfl⟩
end Go.Proofs.YtjidkoabdmjgkaaGreatDoor
end
