/- Plain laws of numbers modulo a number: congruence, Euclid's algorithm, powers, Fermat's little theorem. -/
import Derived.Test.YtajepigjkcaghaaGreatDoorUNatPlain
set_option linter.all false
namespace Go.Nt
def Cg (m a b : Nat) : Prop := ∃ k : Int, (a : Int) - b = m * k
theorem cg_iff (m a b : Nat) : Cg m a b ↔ a % m = b % m := by
  constructor
  · rintro ⟨k, h⟩
    have h1 : (a : Int) % m = (b : Int) % m := by
      rw [show (a : Int) = b + m * k by omega, Int.add_mul_emod_self_left]
    have h2 : ((a % m : Nat) : Int) = ((b % m : Nat) : Int) := by rw [Int.natCast_emod, Int.natCast_emod, h1]
    exact Int.ofNat.inj h2
  · intro h
    have h1 := Nat.div_add_mod a m
    have h2 := Nat.div_add_mod b m
    refine ⟨((a / m : Nat) : Int) - ((b / m : Nat) : Int), ?_⟩
    rw [Int.mul_sub, ← Int.natCast_mul, ← Int.natCast_mul]
    omega
theorem cg_mod (m a : Nat) : Cg m (a % m) a := (cg_iff _ _ _).2 (Nat.mod_mod _ _)
theorem Cg.refl (m a : Nat) : Cg m a a := ⟨0, by omega⟩
theorem Cg.symm {m a b : Nat} : Cg m a b → Cg m b a := fun ⟨k, h⟩ => ⟨-k, by rw [Int.mul_neg]; omega⟩
theorem Cg.trans {m a b c : Nat} : Cg m a b → Cg m b c → Cg m a c := fun ⟨k, h⟩ ⟨l, h'⟩ => ⟨k + l, by rw [Int.mul_add]; omega⟩
theorem Cg.add {m a b c d : Nat} : Cg m a b → Cg m c d → Cg m (a + c) (b + d) := fun ⟨k, h⟩ ⟨l, h'⟩ => ⟨k + l, by rw [Int.mul_add]; omega⟩
theorem Cg.mul {m a b c d : Nat} : Cg m a b → Cg m c d → Cg m (a * c) (b * d) := fun ⟨k, h⟩ ⟨l, h'⟩ => ⟨k * c + b * l, by rw [Int.natCast_mul, Int.natCast_mul]; grind⟩
theorem Cg.pow {m a b : Nat} (h : Cg m a b) : ∀ n : Nat, Cg m (a ^ n) (b ^ n)
  | 0 => by rw [Nat.pow_zero, Nat.pow_zero]; exact Cg.refl _ _
  | n + 1 => by rw [Nat.pow_succ, Nat.pow_succ]; exact (Cg.pow h n).mul h
theorem Cg.mod {m a b : Nat} (h : Cg m a b) : a % m = b % m := (cg_iff _ _ _).1 h
def dm (m a b : Nat) : Nat := (a + (m - b % m)) % m
theorem dm_lt {m : Nat} (a b : Nat) (h : 0 < m) : dm m a b < m := Nat.mod_lt _ h
theorem dm_back {m : Nat} (a b : Nat) (h : 0 < m) : Cg m (dm m a b + b) a := by
  refine ((cg_mod m _).add (Cg.refl m b)).trans ?_
  have h1 := Nat.mod_lt b h
  have h2 := Nat.div_add_mod b m
  refine ⟨1 + ((b / m : Nat) : Int), ?_⟩
  rw [Int.mul_add, ← Int.natCast_mul]
  omega
def euc (m r s x y : Nat) : Nat × Nat := if h : s = 0 then (r, x) else euc m s (r % s) y (dm m x (r / s * y % m))
termination_by s
decreasing_by exact Nat.mod_lt _ (Nat.pos_of_ne_zero h)
theorem euc_zero (m r x y : Nat) : euc m r 0 x y = (r, x) := by rw [euc]; simp
theorem euc_pos (m r s x y : Nat) (h : 0 < s) : euc m r s x y = euc m s (r % s) y (dm m x (r / s * y % m)) := by
  conv => lhs; rw [euc]
  rw [dif_neg (by omega)]
theorem euc_step {m r s x y a : Nat} (hm : 0 < m) (h1 : Cg m (x * a) r) (h2 : Cg m (y * a) s) : Cg m (dm m x (r / s * y % m) * a) (r % s) := by
  have h3 := dm_back x (r / s * y % m) hm
  generalize dm m x (r / s * y % m) = z at *
  have h4 : Cg m (z + r / s * y) x := ((Cg.refl m z).add (cg_mod m _).symm).trans h3
  have h5 := Nat.div_add_mod r s
  generalize r / s = q at *
  generalize r % s = t at *
  obtain ⟨k1, e1⟩ := h1
  obtain ⟨k2, e2⟩ := h2
  obtain ⟨k4, e4⟩ := h4
  refine ⟨k4 * a + k1 - q * k2, ?_⟩
  have h5 : (r : Int) = s * q + t := by rw [← h5, Int.natCast_add, Int.natCast_mul]
  simp only [Int.natCast_add, Int.natCast_mul] at *
  grind
theorem euc_ok (m a : Nat) (hm : 0 < m) : ∀ s r x y, Cg m (x * a) r → Cg m (y * a) s → (euc m r s x y).1 = Nat.gcd r s ∧ Cg m ((euc m r s x y).2 * a) (euc m r s x y).1 := by
  intro s
  induction s using Nat.strongRecOn with
  | _ s ih =>
    intro r x y h1 h2
    rcases Nat.eq_zero_or_pos s with h0 | h0
    · subst h0
      rw [euc_zero, Nat.gcd_zero_right]
      exact ⟨rfl, h1⟩
    · rw [euc_pos m r s x y h0]
      have h := ih (r % s) (Nat.mod_lt _ h0) s y (dm m x (r / s * y % m)) h2 (euc_step hm h1 h2)
      refine ⟨?_, h.2⟩
      rw [h.1, Nat.gcd_comm r s, Nat.gcd_rec s r, Nat.gcd_comm]
theorem euc_bound (m : Nat) (hm : 0 < m) : ∀ s r x y, x < m → y < m → (euc m r s x y).2 < m := by
  intro s
  induction s using Nat.strongRecOn with
  | _ s ih =>
    intro r x y h1 h2
    rcases Nat.eq_zero_or_pos s with h0 | h0
    · subst h0; rw [euc_zero]; exact h1
    · rw [euc_pos m r s x y h0]
      exact ih (r % s) (Nat.mod_lt _ h0) s y _ h2 (dm_lt _ _ hm)
def inv (m a : Nat) : Nat × Nat := euc m m (a % m) 0 (1 % m)
theorem inv_ok (m a : Nat) (hm : 0 < m) : (inv m a).1 = Nat.gcd a m ∧ Cg m ((inv m a).2 * a) (inv m a).1 := by
  have h := euc_ok m a hm (a % m) m 0 (1 % m) (by rw [Nat.zero_mul]; exact ⟨-1, by omega⟩) (by
    refine ((cg_mod m 1).mul (Cg.refl m a)).trans ?_
    rw [Nat.one_mul]; exact (cg_mod m a).symm)
  refine ⟨?_, h.2⟩
  show (euc m m (a % m) 0 (1 % m)).1 = _
  rw [h.1, Nat.gcd_comm m (a % m), ← Nat.gcd_rec m a, Nat.gcd_comm]
theorem inv_lt (m a : Nat) (hm : 0 < m) : (inv m a).2 < m := euc_bound m hm _ _ _ _ hm (Nat.mod_lt _ hm)
end Go.Nt
