/- Plain laws of numbers modulo a number: congruence, Euclid's algorithm, powers, Fermat's little theorem. -/
import Derived.Test.YtkipmhcmdejcfaaDoorRNatPlain
set_option linter.all false
namespace Go.Nt
def Cg (m a b : Nat) : Prop := ∃ k : Int, (a : Int) - b = m * k
theorem cg_iff (m a b : Nat) : Cg m a b ↔ a % m = b % m := by
  constructor
  · rintro ⟨k, h⟩
    have h1 : (a : Int) % m = (b : Int) % m := by
      rw [show (a : Int) = b + m * k by omega, Int.add_mul_emod_self_left]
    have h2 : ((a % m : Nat) : Int) = ((b % m : Nat) : Int) := by rw [Int.natCast_emod, Int.natCast_emod, h1]
    exact Int.ofNat.inj h2
  · intro h
    have h1 := Nat.div_add_mod a m
    have h2 := Nat.div_add_mod b m
    refine ⟨((a / m : Nat) : Int) - ((b / m : Nat) : Int), ?_⟩
    rw [Int.mul_sub, ← Int.natCast_mul, ← Int.natCast_mul]
    omega
theorem cg_mod (m a : Nat) : Cg m (a % m) a := (cg_iff _ _ _).2 (Nat.mod_mod _ _)
theorem Cg.refl (m a : Nat) : Cg m a a := ⟨0, by omega⟩
theorem Cg.symm {m a b : Nat} : Cg m a b → Cg m b a := fun ⟨k, h⟩ => ⟨-k, by rw [Int.mul_neg]; omega⟩
theorem Cg.trans {m a b c : Nat} : Cg m a b → Cg m b c → Cg m a c := fun ⟨k, h⟩ ⟨l, h'⟩ => ⟨k + l, by rw [Int.mul_add]; omega⟩
theorem Cg.add {m a b c d : Nat} : Cg m a b → Cg m c d → Cg m (a + c) (b + d) := fun ⟨k, h⟩ ⟨l, h'⟩ => ⟨k + l, by rw [Int.mul_add]; omega⟩
theorem Cg.mul {m a b c d : Nat} : Cg m a b → Cg m c d → Cg m (a * c) (b * d) := fun ⟨k, h⟩ ⟨l, h'⟩ => ⟨k * c + b * l, by rw [Int.natCast_mul, Int.natCast_mul]; grind⟩
theorem Cg.pow {m a b : Nat} (h : Cg m a b) : ∀ n : Nat, Cg m (a ^ n) (b ^ n)
  | 0 => by rw [Nat.pow_zero, Nat.pow_zero]; exact Cg.refl _ _
  | n + 1 => by rw [Nat.pow_succ, Nat.pow_succ]; exact (Cg.pow h n).mul h
theorem Cg.mod {m a b : Nat} (h : Cg m a b) : a % m = b % m := (cg_iff _ _ _).1 h
def dm (m a b : Nat) : Nat := (a + (m - b % m)) % m
theorem dm_lt {m : Nat} (a b : Nat) (h : 0 < m) : dm m a b < m := Nat.mod_lt _ h
theorem dm_back {m : Nat} (a b : Nat) (h : 0 < m) : Cg m (dm m a b + b) a := by
  refine ((cg_mod m _).add (Cg.refl m b)).trans ?_
  have h1 := Nat.mod_lt b h
  have h2 := Nat.div_add_mod b m
  refine ⟨1 + ((b / m : Nat) : Int), ?_⟩
  rw [Int.mul_add, ← Int.natCast_mul]
  omega
theorem dm_of {m a b c : Nat} (h : 0 < m) (hc : c < m) (e : Cg m (c + b) a) : dm m a b = c := by
  have h1 := (dm_back a b h).trans e.symm
  obtain ⟨k, hk⟩ := h1
  have h3 : Cg m (dm m a b) c := ⟨k, by omega⟩
  have h4 := h3.mod
  rwa [Nat.mod_eq_of_lt (dm_lt a b h), Nat.mod_eq_of_lt hc] at h4
theorem dm_cg {m a b c d : Nat} (h : 0 < m) (e1 : Cg m a c) (e2 : Cg m b d) : dm m a b = dm m c d :=
  dm_of h (dm_lt _ _ h) ((Cg.add (Cg.refl _ _) e2).trans ((dm_back c d h).trans e1.symm))
def euc (m r s x y : Nat) : Nat × Nat := if h : s = 0 then (r, x) else euc m s (r % s) y (dm m x (r / s * y % m))
termination_by s
decreasing_by exact Nat.mod_lt _ (Nat.pos_of_ne_zero h)
theorem euc_zero (m r x y : Nat) : euc m r 0 x y = (r, x) := by rw [euc]; simp
theorem euc_pos (m r s x y : Nat) (h : 0 < s) : euc m r s x y = euc m s (r % s) y (dm m x (r / s * y % m)) := by
  conv => lhs; rw [euc]
  rw [dif_neg (by omega)]
def inv (m a : Nat) : Nat × Nat := euc m m (a % m) 0 (1 % m)
end Go.Nt
