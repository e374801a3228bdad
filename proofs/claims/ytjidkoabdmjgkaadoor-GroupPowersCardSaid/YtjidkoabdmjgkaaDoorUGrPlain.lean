/- Plain laws of the groups: the primes, powers of the generator. -/
import Derived.Test.YtjidkoabdmjgkaaDoorUModPlain
set_option linter.all false
namespace Go.Nt
def gP : Nat → Nat
  | 1 => 2879
  | 2 => 71850239
  | 3 => 2444789759
  | _ => 1552518092300708935130918131258481755631334049434514313202351194902966239949102107258669453876591642442910007680288864229150803718918046342632727613031282983744380820890196288509170691316593175367469551763119843371637221007210577919
def gQ (i : Nat) : Nat := gP i / 2
def gL : Nat → Nat
  | 1 => 2
  | 2 => 4
  | 3 => 4
  | _ => 96
theorem gP_cases {p : Nat → Prop} (h1 : p 1) (h2 : p 2) (h3 : p 3) (h4 : p 4) (i : Nat) (h0 : 1 ≤ i) (h5 : i ≤ 4) : p i := by
  rcases (show i = 1 ∨ i = 2 ∨ i = 3 ∨ i = 4 by omega) with rfl | rfl | rfl | rfl
  · exact h1
  · exact h2
  · exact h3
  · exact h4
theorem gP_len (i : Nat) (h0 : 1 ≤ i) (h5 : i ≤ 4) : nd 256 (gP i) = gL i :=
  nd_uniq _ _ _ (by decide) (gP_cases (p := fun i => gP i < 256 ^ gL i) (by decide +kernel) (by decide +kernel) (by decide +kernel) (by decide +kernel) i h0 h5)
    fun _ => gP_cases (p := fun i => 256 ^ (gL i - 1) ≤ gP i) (by decide +kernel) (by decide +kernel) (by decide +kernel) (by decide +kernel) i h0 h5
theorem gP_odd (i : Nat) (h0 : 1 ≤ i) (h5 : i ≤ 4) : gP i = 2 * gQ i + 1 := gP_cases (p := fun i => gP i = 2 * gQ i + 1) (by decide +kernel) (by decide +kernel) (by decide +kernel) (by decide +kernel) i h0 h5
theorem gQ_low (i : Nat) (h0 : 1 ≤ i) (h5 : i ≤ 4) : 1439 ≤ gQ i := gP_cases (p := fun i => 1439 ≤ gQ i) (by decide +kernel) (by decide +kernel) (by decide +kernel) (by decide +kernel) i h0 h5
theorem gP_one (i : Nat) (h0 : 1 ≤ i) (h5 : i ≤ 4) : 1 < gP i := by
  have := gP_odd i h0 h5
  have := gQ_low i h0 h5
  omega
end Go.Nt
