/- Plain laws of numbers modulo a number: congruence, Euclid's algorithm, powers, Fermat's little theorem. -/
import Derived.Test.YtjidkoabdmjgkaaDoorUNatPlain
set_option linter.all false
namespace Go.Nt
def Cg (m a b : Nat) : Prop := ∃ k : Int, (a : Int) - b = m * k
theorem cg_iff (m a b : Nat) : Cg m a b ↔ a % m = b % m := by
  constructor
  · rintro ⟨k, h⟩
    have h1 : (a : Int) % m = (b : Int) % m := by
      rw [show (a : Int) = b + m * k by omega, Int.add_mul_emod_self_left]
    have h2 : ((a % m : Nat) : Int) = ((b % m : Nat) : Int) := by rw [Int.natCast_emod, Int.natCast_emod, h1]
    exact Int.ofNat.inj h2
  · intro h
    have h1 := Nat.div_add_mod a m
    have h2 := Nat.div_add_mod b m
    refine ⟨((a / m : Nat) : Int) - ((b / m : Nat) : Int), ?_⟩
    rw [Int.mul_sub, ← Int.natCast_mul, ← Int.natCast_mul]
    omega
theorem cg_mod (m a : Nat) : Cg m (a % m) a := (cg_iff _ _ _).2 (Nat.mod_mod _ _)
theorem Cg.refl (m a : Nat) : Cg m a a := ⟨0, by omega⟩
theorem Cg.symm {m a b : Nat} : Cg m a b → Cg m b a := fun ⟨k, h⟩ => ⟨-k, by rw [Int.mul_neg]; omega⟩
theorem Cg.trans {m a b c : Nat} : Cg m a b → Cg m b c → Cg m a c := fun ⟨k, h⟩ ⟨l, h'⟩ => ⟨k + l, by rw [Int.mul_add]; omega⟩
theorem Cg.add {m a b c d : Nat} : Cg m a b → Cg m c d → Cg m (a + c) (b + d) := fun ⟨k, h⟩ ⟨l, h'⟩ => ⟨k + l, by rw [Int.mul_add]; omega⟩
theorem Cg.mul {m a b c d : Nat} : Cg m a b → Cg m c d → Cg m (a * c) (b * d) := fun ⟨k, h⟩ ⟨l, h'⟩ => ⟨k * c + b * l, by rw [Int.natCast_mul, Int.natCast_mul]; grind⟩
theorem Cg.pow {m a b : Nat} (h : Cg m a b) : ∀ n : Nat, Cg m (a ^ n) (b ^ n)
  | 0 => by rw [Nat.pow_zero, Nat.pow_zero]; exact Cg.refl _ _
  | n + 1 => by rw [Nat.pow_succ, Nat.pow_succ]; exact (Cg.pow h n).mul h
theorem Cg.mod {m a b : Nat} (h : Cg m a b) : a % m = b % m := (cg_iff _ _ _).1 h
end Go.Nt
