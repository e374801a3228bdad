/- Plain laws of the groups: the primes, powers of the generator. -/
import Derived.Test.YtajepigjkcaghaaGreatDoorUModPlain
set_option linter.all false
namespace Go.Nt
def gP : Nat → Nat
  | 1 => 2879
  | 2 => 71850239
  | 3 => 2444789759
  | _ => 1552518092300708935130918131258481755631334049434514313202351194902966239949102107258669453876591642442910007680288864229150803718918046342632727613031282983744380820890196288509170691316593175367469551763119843371637221007210577919
def gQ (i : Nat) : Nat := gP i / 2
def gL : Nat → Nat
  | 1 => 2
  | 2 => 4
  | 3 => 4
  | _ => 96
theorem gP_cases {p : Nat → Prop} (h1 : p 1) (h2 : p 2) (h3 : p 3) (h4 : p 4) (i : Nat) (h0 : 1 ≤ i) (h5 : i ≤ 4) : p i := by
  rcases (show i = 1 ∨ i = 2 ∨ i = 3 ∨ i = 4 by omega) with rfl | rfl | rfl | rfl
  · exact h1
  · exact h2
  · exact h3
  · exact h4
theorem gP_len (i : Nat) (h0 : 1 ≤ i) (h5 : i ≤ 4) : nd 256 (gP i) = gL i :=
  nd_uniq _ _ _ (by decide) (gP_cases (p := fun i => gP i < 256 ^ gL i) (by decide +kernel) (by decide +kernel) (by decide +kernel) (by decide +kernel) i h0 h5)
    fun _ => gP_cases (p := fun i => 256 ^ (gL i - 1) ≤ gP i) (by decide +kernel) (by decide +kernel) (by decide +kernel) (by decide +kernel) i h0 h5
theorem gP_odd (i : Nat) (h0 : 1 ≤ i) (h5 : i ≤ 4) : gP i = 2 * gQ i + 1 := gP_cases (p := fun i => gP i = 2 * gQ i + 1) (by decide +kernel) (by decide +kernel) (by decide +kernel) (by decide +kernel) i h0 h5
theorem gQ_low (i : Nat) (h0 : 1 ≤ i) (h5 : i ≤ 4) : 1439 ≤ gQ i := gP_cases (p := fun i => 1439 ≤ gQ i) (by decide +kernel) (by decide +kernel) (by decide +kernel) (by decide +kernel) i h0 h5
theorem cg_dvd {m x y g : Nat} (h : Cg m x y) (h1 : g ∣ m) (h2 : g ∣ x) : g ∣ y := by
  obtain ⟨k, e⟩ := h
  have h1' : (g : Int) ∣ m := Int.ofNat_dvd.2 h1
  have h2' : (g : Int) ∣ x := Int.ofNat_dvd.2 h2
  have h3 : (g : Int) ∣ (y : Int) := by
    rw [show (y : Int) = x - m * k by omega]
    exact Int.dvd_sub h2' (Int.dvd_mul_of_dvd_left h1')
  exact Int.ofNat_dvd.1 h3
theorem unit_gcd {m x q : Nat} (hq : 0 < q) (h : Cg m (x ^ q) 1) : Nat.gcd x m = 1 := by
  have h1 : Nat.gcd x m ∣ x ^ q := by
    obtain ⟨n, rfl⟩ : ∃ n, q = n + 1 := ⟨q - 1, by omega⟩
    rw [Nat.pow_succ]
    exact Nat.dvd_mul_left_of_dvd (Nat.gcd_dvd_left x m) _
  exact Nat.dvd_one.1 (cg_dvd h (Nat.gcd_dvd_right x m) h1)
def mem (i x : Nat) : Prop := 0 < x ∧ x < gP i ∧ x ^ gQ i % gP i = 1
theorem gP_one (i : Nat) (h0 : 1 ≤ i) (h5 : i ≤ 4) : 1 < gP i := by
  have := gP_odd i h0 h5
  have := gQ_low i h0 h5
  omega
theorem mem_cg {i x : Nat} (h0 : 1 ≤ i) (h5 : i ≤ 4) (h : x ^ gQ i % gP i = 1) : Cg (gP i) (x ^ gQ i) 1 :=
  (cg_iff _ _ _).2 (by rw [h, Nat.mod_eq_of_lt (gP_one i h0 h5)])
theorem mem_gcd {i x : Nat} (h0 : 1 ≤ i) (h5 : i ≤ 4) (h : mem i x) : Nat.gcd x (gP i) = 1 :=
  unit_gcd (by have := gQ_low i h0 h5; omega) (mem_cg h0 h5 h.2.2)
end Go.Nt
