/- Plain laws of the groups: the primes, powers of the generator. -/
import Derived.Test.YtkipmhcmdejcfaaDoorTModPlain
set_option linter.all false
namespace Go.Nt
def pmod (m : Nat) : Nat → Nat → Nat → Nat
  | 0, _, _ => 1 % m
  | n + 1, b, e => bif Nat.beq (e % 2) 1 then b * pmod m n (b * b % m) (e / 2) % m else pmod m n (b * b % m) (e / 2)
theorem pmod_ok (m : Nat) : ∀ n b e, e < 2 ^ n → pmod m n b e = b ^ e % m
  | 0, b, e, h => by
    rw [Nat.pow_zero] at h
    obtain rfl : e = 0 := by omega
    rfl
  | n + 1, b, e, h => by
    rw [Nat.pow_succ] at h
    have ih := pmod_ok m n (b * b % m) (e / 2) (by omega)
    have h1 : (b * b % m) ^ (e / 2) % m = (b * b) ^ (e / 2) % m := ((cg_mod m (b * b)).pow _).mod
    rw [h1, ← Nat.pow_two, ← Nat.pow_mul] at ih
    rw [pmod, ← Nat.pow_two, ih]
    rcases (show e % 2 = 0 ∨ e % 2 = 1 by omega) with h2 | h2
    · rw [h2, show Nat.beq 0 1 = false from rfl, cond_false, show 2 * (e / 2) = e by omega]
    · rw [h2, show Nat.beq 1 1 = true from rfl, cond_true, Nat.mul_mod_mod]
      conv => rhs; rw [show e = 2 * (e / 2) + 1 by omega, Nat.pow_succ, Nat.mul_comm]
def gP : Nat → Nat
  | 1 => 2879
  | 2 => 71850239
  | 3 => 2444789759
  | _ => 1552518092300708935130918131258481755631334049434514313202351194902966239949102107258669453876591642442910007680288864229150803718918046342632727613031282983744380820890196288509170691316593175367469551763119843371637221007210577919
def gQ (i : Nat) : Nat := gP i / 2
def gL : Nat → Nat
  | 1 => 2
  | 2 => 4
  | 3 => 4
  | _ => 96
theorem gP_cases {p : Nat → Prop} (h1 : p 1) (h2 : p 2) (h3 : p 3) (h4 : p 4) (i : Nat) (h0 : 1 ≤ i) (h5 : i ≤ 4) : p i := by
  rcases (show i = 1 ∨ i = 2 ∨ i = 3 ∨ i = 4 by omega) with rfl | rfl | rfl | rfl
  · exact h1
  · exact h2
  · exact h3
  · exact h4
def gE : Nat → Nat
  | 0 => 0
  | _ => 768
theorem g4_1 : pmod (gP 1) (gE 1) 4 (gQ 1) = 1 := by decide +kernel
theorem g4_2 : pmod (gP 2) (gE 2) 4 (gQ 2) = 1 := by decide +kernel
theorem g4_3 : pmod (gP 3) (gE 3) 4 (gQ 3) = 1 := by decide +kernel
theorem g4_4 : pmod (gP 4) (gE 4) 4 (gQ 4) = 1 := by decide +kernel
theorem gQ_lt (i : Nat) (h0 : 1 ≤ i) (h5 : i ≤ 4) : gQ i < 2 ^ gE i := gP_cases (p := fun i => gQ i < 2 ^ gE i) (by decide +kernel) (by decide +kernel) (by decide +kernel) (by decide +kernel) i h0 h5
theorem gP_len (i : Nat) (h0 : 1 ≤ i) (h5 : i ≤ 4) : nd 256 (gP i) = gL i :=
  nd_uniq _ _ _ (by decide) (gP_cases (p := fun i => gP i < 256 ^ gL i) (by decide +kernel) (by decide +kernel) (by decide +kernel) (by decide +kernel) i h0 h5)
    fun _ => gP_cases (p := fun i => 256 ^ (gL i - 1) ≤ gP i) (by decide +kernel) (by decide +kernel) (by decide +kernel) (by decide +kernel) i h0 h5
theorem gP_odd (i : Nat) (h0 : 1 ≤ i) (h5 : i ≤ 4) : gP i = 2 * gQ i + 1 := gP_cases (p := fun i => gP i = 2 * gQ i + 1) (by decide +kernel) (by decide +kernel) (by decide +kernel) (by decide +kernel) i h0 h5
theorem gQ_low (i : Nat) (h0 : 1 ≤ i) (h5 : i ≤ 4) : 1439 ≤ gQ i := gP_cases (p := fun i => 1439 ≤ gQ i) (by decide +kernel) (by decide +kernel) (by decide +kernel) (by decide +kernel) i h0 h5
theorem g4 (i : Nat) (h0 : 1 ≤ i) (h5 : i ≤ 4) : 4 ^ gQ i % gP i = 1 := by
  rw [← pmod_ok (gP i) (gE i) 4 (gQ i) (gQ_lt i h0 h5)]
  exact gP_cases (p := fun i => pmod (gP i) (gE i) 4 (gQ i) = 1) g4_1 g4_2 g4_3 g4_4 i h0 h5
theorem cg_dvd {m x y g : Nat} (h : Cg m x y) (h1 : g ∣ m) (h2 : g ∣ x) : g ∣ y := by
  obtain ⟨k, e⟩ := h
  have h1' : (g : Int) ∣ m := Int.ofNat_dvd.2 h1
  have h2' : (g : Int) ∣ x := Int.ofNat_dvd.2 h2
  have h3 : (g : Int) ∣ (y : Int) := by
    rw [show (y : Int) = x - m * k by omega]
    exact Int.dvd_sub h2' (Int.dvd_mul_of_dvd_left h1')
  exact Int.ofNat_dvd.1 h3
theorem unit_gcd {m x q : Nat} (hq : 0 < q) (h : Cg m (x ^ q) 1) : Nat.gcd x m = 1 := by
  have h1 : Nat.gcd x m ∣ x ^ q := by
    obtain ⟨n, rfl⟩ : ∃ n, q = n + 1 := ⟨q - 1, by omega⟩
    rw [Nat.pow_succ]
    exact Nat.dvd_mul_left_of_dvd (Nat.gcd_dvd_left x m) _
  exact Nat.dvd_one.1 (cg_dvd h (Nat.gcd_dvd_right x m) h1)
theorem pow_mod {m b q e : Nat} (h : Cg m (b ^ q) 1) : Cg m (b ^ (e % q)) (b ^ e) := by
  conv => rhs; rw [← Nat.div_add_mod e q, Nat.pow_add, Nat.pow_mul]
  have h1 := (h.pow (e / q)).mul (Cg.refl m (b ^ (e % q)))
  rw [Nat.one_pow, Nat.one_mul] at h1
  exact h1.symm
def mem (i x : Nat) : Prop := 0 < x ∧ x < gP i ∧ x ^ gQ i % gP i = 1
theorem gP_one (i : Nat) (h0 : 1 ≤ i) (h5 : i ≤ 4) : 1 < gP i := by
  have := gP_odd i h0 h5
  have := gQ_low i h0 h5
  omega
theorem mem_cg {i x : Nat} (h0 : 1 ≤ i) (h5 : i ≤ 4) (h : x ^ gQ i % gP i = 1) : Cg (gP i) (x ^ gQ i) 1 :=
  (cg_iff _ _ _).2 (by rw [h, Nat.mod_eq_of_lt (gP_one i h0 h5)])
theorem mem_of {i x : Nat} (h0 : 1 ≤ i) (h5 : i ≤ 4) (h : Cg (gP i) (x ^ gQ i) 1) : mem i (x % gP i) := by
  have h1 := gP_one i h0 h5
  have h2 := gQ_low i h0 h5
  have h3 : (x % gP i) ^ gQ i % gP i = 1 := by
    rw [((cg_mod (gP i) x).pow (gQ i)).mod, h.mod, Nat.mod_eq_of_lt h1]
  refine ⟨?_, Nat.mod_lt _ (by omega), h3⟩
  rcases Nat.eq_zero_or_pos (x % gP i) with h4 | h4
  · rw [h4, Nat.zero_pow (by omega), Nat.zero_mod] at h3; omega
  · exact h4
theorem mem_pow {i : Nat} (h0 : 1 ≤ i) (h5 : i ≤ 4) (e : Nat) : mem i (4 ^ e % gP i) := by
  refine mem_of h0 h5 ?_
  have h := (mem_cg h0 h5 (g4 i h0 h5)).pow e
  rw [Nat.one_pow, ← Nat.pow_mul, Nat.mul_comm, Nat.pow_mul] at h
  exact h
theorem mem_gcd {i x : Nat} (h0 : 1 ≤ i) (h5 : i ≤ 4) (h : mem i x) : Nat.gcd x (gP i) = 1 :=
  unit_gcd (by have := gQ_low i h0 h5; omega) (mem_cg h0 h5 h.2.2)
end Go.Nt
