/- Plain laws of primes: trial division, prime factors. -/
import Derived.Test.YtkipmhcmdejcfaaDoorRModPlain
set_option linter.all false
namespace Go.Nt
def Pr (v : Nat) : Prop := 2 ≤ v ∧ ∀ d, 2 ≤ d → d * d ≤ v → v % d ≠ 0
def Cl (p r : Nat) : Prop := ∀ d, 2 ≤ d → d < p → r % d ≠ 0
def strip (p r : Nat) : Nat × Nat := if h : 2 ≤ p ∧ 0 < r ∧ r % p = 0 then ((strip p (r / p)).1 + 1, (strip p (r / p)).2) else (0, r)
termination_by r
decreasing_by all_goals exact Nat.div_lt_self h.2.1 (by omega)
theorem strip_no {p r : Nat} (h : r % p ≠ 0) : strip p r = (0, r) := by rw [strip, dif_neg (fun x => h x.2.2)]
theorem strip_yes {p r : Nat} (hp : 2 ≤ p) (hr : 0 < r) (h : r % p = 0) : strip p r = ((strip p (r / p)).1 + 1, (strip p (r / p)).2) := by
  conv => lhs; rw [strip]
  rw [dif_pos ⟨hp, hr, h⟩]
theorem div_pos_of {p r : Nat} (hp : 2 ≤ p) (hr : 0 < r) (h : r % p = 0) : 0 < r / p ∧ r / p < r ∧ r / p * p = r := by
  have h1 := Nat.div_add_mod r p
  rw [h, Nat.add_zero] at h1
  refine ⟨?_, Nat.div_lt_self hr (by omega), by rw [Nat.mul_comm]; exact h1⟩
  rcases Nat.eq_zero_or_pos (r / p) with h0 | h0
  · rw [h0, Nat.mul_zero] at h1; omega
  · exact h0
theorem strip_ok (p : Nat) (hp : 2 ≤ p) : ∀ r, 0 < r → 0 < (strip p r).2 ∧ (strip p r).2 ≤ r ∧ (strip p r).2 % p ≠ 0 ∧ ∃ c, r = (strip p r).2 * c := by
  intro r
  induction r using Nat.strongRecOn with
  | _ r ih =>
    intro hr
    by_cases h : r % p = 0
    · obtain ⟨h1, h2, h3⟩ := div_pos_of hp hr h
      rw [strip_yes hp hr h]
      obtain ⟨a, b, c, d, e⟩ := ih (r / p) h2 h1
      exact ⟨a, by omega, c, d * p, by rw [← Nat.mul_assoc, ← e]; exact h3.symm⟩
    · rw [strip_no h]
      exact ⟨hr, Nat.le_refl _, h, 1, (Nat.mul_one _).symm⟩
theorem strip_pos {p r : Nat} (hp : 2 ≤ p) (hr : 0 < r) : 0 < (strip p r).1 ↔ r % p = 0 := by
  by_cases h : r % p = 0
  · rw [strip_yes hp hr h]; exact ⟨fun _ => h, fun _ => Nat.succ_pos _⟩
  · rw [strip_no h]; exact ⟨fun x => absurd x (by omega), fun x => absurd x h⟩
theorem cl_strip {p q r : Nat} (hp : 2 ≤ p) (hr : 0 < r) (h : Cl q r) : Cl q (strip p r).2 := by
  obtain ⟨-, -, -, c, e⟩ := strip_ok p hp r hr
  intro d hd hdq h0
  refine h d hd hdq ?_
  rw [e, Nat.mul_mod, h0, Nat.zero_mul, Nat.zero_mod]
def facs (p r : Nat) : List (Nat × Nat) :=
  if h : 2 ≤ p ∧ 2 ≤ r then
    if h' : r < p * p then [(r, 1)] else (if 0 < (strip p r).1 then [(p, (strip p r).1)] else []) ++ facs (p + 1) (strip p r).2
  else []
termination_by r + 1 - p
decreasing_by
  have h1 := (strip_ok p h.1 r (by omega)).2.1
  have h2 : p * 1 ≤ p * p := Nat.mul_le_mul_left p (by omega)
  omega
theorem facs_one (p r : Nat) (h : r < 2) : facs p r = [] := by rw [facs, dif_neg (by omega)]
theorem facs_end {p r : Nat} (hp : 2 ≤ p) (hr : 2 ≤ r) (h : r < p * p) : facs p r = [(r, 1)] := by rw [facs, dif_pos ⟨hp, hr⟩, dif_pos h]
theorem facs_more {p r : Nat} (hp : 2 ≤ p) (hr : 2 ≤ r) (h : p * p ≤ r) : facs p r = (if 0 < (strip p r).1 then [(p, (strip p r).1)] else []) ++ facs (p + 1) (strip p r).2 := by
  conv => lhs; rw [facs]
  rw [dif_pos ⟨hp, hr⟩, dif_neg (by omega)]
theorem pr_of {p : Nat} (hp : 2 ≤ p) (h : ∀ d, 2 ≤ d → d < p → d * d ≤ p → p % d ≠ 0) : Pr p := ⟨hp, fun d h1 h2 => h d h1 (by
  have := Nat.mul_le_mul_right d h1
  omega) h2⟩
theorem pr_cl {p r : Nat} (hp : 2 ≤ p) (h : Cl p r) (hd : r % p = 0) : Pr p := pr_of hp fun d h1 h2 _ h3 => h d h1 h2 (by
  obtain ⟨c, hc⟩ := Nat.dvd_of_mod_eq_zero hd
  obtain ⟨e, he⟩ := Nat.dvd_of_mod_eq_zero h3
  rw [hc, he, Nat.mul_assoc]; exact Nat.mul_mod_right _ _)
theorem pr_end {p r : Nat} (hr : 2 ≤ r) (h : Cl p r) (hs : r < p * p) : Pr r := pr_of hr fun d h1 _ h3 h4 => h d h1 (by
  rcases Nat.lt_or_ge d p with h5 | h5
  · exact h5
  · have := Nat.mul_le_mul h5 h5; omega) h4
theorem cl_one (q : Nat) : Cl q 1 := fun d h1 _ h3 => by
  rw [Nat.mod_eq_of_lt (by omega)] at h3; omega
theorem cl_next {p r : Nat} (h : Cl p r) (h' : r % p ≠ 0) : Cl (p + 1) r := fun d h1 h2 => by
  rcases Nat.lt_or_ge d p with h3 | h3
  · exact h d h1 h3
  · obtain rfl : d = p := by omega
    exact h'
theorem facs_cons (q r : Nat) (hq : 2 ≤ q) (hr : 0 < r) (hc : Cl q r) (p n : Nat) (t : List (Nat × Nat)) (e : facs q r = (p, n) :: t) :
    q ≤ p ∧ 0 < n ∧ p ≤ r ∧ Pr p ∧ (strip p r).1 = n ∧ t = facs (p + 1) (strip p r).2 ∧ Cl (p + 1) (strip p r).2 ∧ 0 < (strip p r).2 := by
  by_cases h2 : 2 ≤ r
  · by_cases hs : r < q * q
    · rw [facs_end hq h2 hs] at e
      simp only [List.cons.injEq, Prod.mk.injEq] at e
      obtain ⟨⟨rfl, rfl⟩, rfl⟩ := e
      have hd : strip r r = (1, 1) := by
        rw [strip_yes h2 hr (Nat.mod_self r), Nat.div_self hr, strip_no (by rw [Nat.mod_eq_of_lt (by omega)]; omega)]
      rw [hd]
      refine ⟨?_, by omega, Nat.le_refl _, pr_end h2 hc hs, rfl, (facs_one _ _ (by omega)).symm, cl_one _, by omega⟩
      rcases Nat.lt_or_ge r q with h3 | h3
      · exact absurd (Nat.mod_self r) (hc r h2 h3)
      · exact h3
    · rw [facs_more hq h2 (by omega)] at e
      obtain ⟨s1, s2, s3, -⟩ := strip_ok q hq r hr
      by_cases h0 : 0 < (strip q r).1
      · rw [if_pos h0] at e
        simp only [List.cons_append, List.nil_append, List.cons.injEq, Prod.mk.injEq] at e
        obtain ⟨⟨rfl, rfl⟩, rfl⟩ := e
        have hql : q ≤ r := by have := Nat.mul_le_mul_left q (show 1 ≤ q by omega); omega
        exact ⟨Nat.le_refl _, h0, hql, pr_cl hq hc ((strip_pos hq hr).1 h0), rfl, rfl, cl_next (cl_strip hq hr hc) s3, s1⟩
      · rw [if_neg h0, List.nil_append] at e
        have h3 : r % q ≠ 0 := fun h => h0 ((strip_pos hq hr).2 h)
        rw [strip_no h3] at e
        obtain ⟨a, b, c⟩ := facs_cons (q + 1) r (by omega) hr (cl_next hc h3) p n t e
        exact ⟨by omega, b, c⟩
  · rw [facs_one q r (by omega)] at e; cases e
termination_by r + 1 - q
decreasing_by
  have h2 : q * 1 ≤ q * q := Nat.mul_le_mul_left q (by omega)
  omega
theorem facs_ne (q r : Nat) (hq : 2 ≤ q) (h2 : 2 ≤ r) : Cl q r → facs q r ≠ [] := by
  intro hc
  by_cases hs : r < q * q
  · rw [facs_end hq h2 hs]; exact fun h => by cases h
  · rw [facs_more hq h2 (by omega)]
    by_cases h0 : 0 < (strip q r).1
    · rw [if_pos h0]; exact fun h => by cases h
    · rw [if_neg h0, List.nil_append]
      have h3 : r % q ≠ 0 := fun h => h0 ((strip_pos hq (by omega)).2 h)
      rw [strip_no h3]
      exact facs_ne (q + 1) r (by omega) h2 (cl_next hc h3)
termination_by r + 1 - q
decreasing_by
  have h2 : q * 1 ≤ q * q := Nat.mul_le_mul_left q (by omega)
  omega
theorem cl_two (r : Nat) : Cl 2 r := fun d h1 h2 => by omega
theorem facs_pr (v p n : Nat) (t : List (Nat × Nat)) (hv : 2 ≤ v) (e : facs 2 v = (p, n) :: t) : (p = v ∧ n = 1) ↔ Pr v := by
  obtain ⟨h1, h2, h3, h4, h5, h6, h7, h8⟩ := facs_cons 2 v (Nat.le_refl _) (by omega) (cl_two v) p n t e
  constructor
  · rintro ⟨rfl, -⟩; exact h4
  · intro hp
    have h0 : v % p = 0 := (strip_pos h1 (by omega)).1 (by omega)
    have hpv : p = v := by
      have h9 := Nat.div_add_mod v p
      rw [h0, Nat.add_zero] at h9
      rcases Nat.lt_or_ge v (p * p) with h | h
      · have h11 : v / p < p := (Nat.div_lt_iff_lt_mul (by omega)).2 h
        generalize v / p = w at *
        rcases (show w = 0 ∨ w = 1 ∨ 2 ≤ w by omega) with h12 | h12 | h12
        · rw [h12, Nat.mul_zero] at h9; omega
        · rw [h12, Nat.mul_one] at h9; exact h9
        · exfalso
          refine hp.2 w h12 ?_ ?_
          · have := Nat.mul_le_mul_right w (show w ≤ p by omega)
            omega
          · rw [← h9]
            exact Nat.mul_mod_left _ _
      · exact absurd h0 (hp.2 p h1 h)
    subst hpv
    refine ⟨rfl, ?_⟩
    rw [← h5, strip_yes h1 (by omega) h0, Nat.div_self (by omega), strip_no (by rw [Nat.mod_eq_of_lt (by omega)]; omega)]
def chk (p : Nat) : Nat → Nat → Bool
  | lo, 0 => Nat.blt 0 (p % lo)
  | lo, n + 1 => chk p lo n && chk p (lo + 2 ^ n) n
theorem chk_ok (p : Nat) : ∀ n lo, chk p lo n = true → ∀ d, lo ≤ d → d < lo + 2 ^ n → p % d ≠ 0
  | 0, lo, h, d, h1, h2 => by
    rw [Nat.pow_zero] at h2
    obtain rfl : d = lo := by omega
    have := Nat.le_of_ble_eq_true (show Nat.ble 1 (p % d) = true from h)
    omega
  | n + 1, lo, h, d, h1, h2 => by
    rw [chk, Bool.and_eq_true] at h
    rw [Nat.pow_succ] at h2
    rcases Nat.lt_or_ge d (lo + 2 ^ n) with h3 | h3
    · exact chk_ok p n lo h.1 d h1 h3
    · exact chk_ok p n (lo + 2 ^ n) h.2 d h3 (by omega)
end Go.Nt
