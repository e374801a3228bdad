/- Words of 8, 32 and 64 bits as Go's model reckons with them, named so that the walk keeps them whole. -/
import Derived.WalkKit
set_option linter.all false
namespace Go.Wd
open Go
def n8 (x : UInt8) : Int := (x.toNat : Int)
theorem n8_nonneg (x : UInt8) : 0 ≤ n8 x := Int.natCast_nonneg _
theorem n8_lt (x : UInt8) : n8 x < 256 := by have := x.toNat_lt; unfold n8; omega
theorem n8_inj {x y : UInt8} (h : n8 x = n8 y) : x = y := by unfold n8 at h; exact UInt8.toNat_inj.1 (by exact_mod_cast h)
theorem wrap_u64 (n : Int) : IntKind.u64.wrap n = n % 18446744073709551616 := by simp [IntKind.wrap, IntKind.bits, IntKind.signed]
theorem wrap_u8_nat (n : Nat) : IntKind.u8.wrap (n : Int) = ((n % 256 : Nat) : Int) := by rw [IntKind.wrap_u8]; rfl
theorem wrap_u64_nat (n : Nat) : IntKind.u64.wrap (n : Int) = ((n % 18446744073709551616 : Nat) : Int) := by rw [wrap_u64]; rfl
theorem n8_of_nat (n : Nat) : n8 (UInt8.ofNat n) = ((n % 256 : Nat) : Int) := by unfold n8; simp
section bitops
end bitops
section arith
end arith
section shifts
end shifts
end Go.Wd
