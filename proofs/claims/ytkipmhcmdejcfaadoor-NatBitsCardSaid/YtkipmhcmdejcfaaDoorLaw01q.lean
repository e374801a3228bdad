/- What the statements about layer nat share: numbers of a string, of at most 128 bytes. -/
import Derived.Test.YtkipmhcmdejcfaaDoorLaw01
set_option linter.all false
namespace Go.Nt
open Go Go.Sy
theorem bev_small {l : List UInt8} (h : l.length ≤ 128) : bev 256 (bn l) < 18446744073709551616 ^ 16 := by
  rw [w256]
  refine Nat.lt_of_lt_of_le (bev_lt 256 (bn l) (bn_lt l)) ?_
  rw [show (bn l).length = l.length from List.length_map _]
  exact Nat.pow_le_pow_right (by decide) h
theorem k64 : 18446744073709551616 ^ 16 = 65536 ^ 64 := w_of 65536 16 64 rfl rfl
theorem nd_W {x : Nat} (h : x < 18446744073709551616 ^ 16) : nd 65536 x ≤ 64 := nd_le _ _ _ (by decide) (by rw [← k64]; exact h)
theorem nd_WW {x y : Nat} (hx : x < 18446744073709551616 ^ 16) (hy : y < 18446744073709551616 ^ 16) : nd 65536 (x * y) ≤ 128 := by
  refine nd_le _ _ _ (by decide) ?_
  rw [k64] at hx hy
  rw [show (128 : Nat) = 64 + 64 from rfl, Nat.pow_add]
  exact Nat.lt_of_le_of_lt (Nat.mul_le_mul_right y (Nat.le_of_lt hx)) (Nat.mul_lt_mul_of_pos_left hy (Nat.pow_pos (by decide)))
theorem nd_W2 {x y : Nat} (hx : x < 18446744073709551616 ^ 16) (hy : y < 18446744073709551616 ^ 16) : nd 65536 (x + y) ≤ 65 := by
  refine nd_le _ _ _ (by decide) ?_
  rw [k64] at hx hy
  rw [Nat.pow_succ]
  omega
end Go.Nt
namespace Go.Proofs.YtkipmhcmdejcfaaDoor
open Go Go.Sy Go.Nt Go.RowKit
attribute [local irreducible] Sy SyL SyX Sy.Fn callFunc natC refC iC
set_option maxRecDepth 10000
theorem wf_i64 {z : Int} (h : (Lit.int .i64 z).wf = true) : -9223372036854775808 ≤ z ∧ z < 9223372036854775808 := by
  have h1 : IntKind.i64.min = -9223372036854775808 := rfl
  have h2 : IntKind.i64.max = 9223372036854775807 := rfl
  simp only [Lit.wf, Bool.and_eq_true, decide_eq_true_eq] at h
  omega
theorem bn_len (l : List UInt8) : (bn l).length = l.length := List.length_map _
theorem bev_nd (l : List UInt8) : nd 65536 (bev 256 (bn l)) ≤ l.length :=
  nd_le 65536 _ _ (by decide) (Nat.lt_of_lt_of_le (bev_lt 256 (bn l) (bn_lt l)) (by rw [bn_len]; exact Nat.pow_le_pow_left (by decide) _))
/-- What made returns for a number that fits. -/
def MadeS (V : Nat) (v : Value) (R : List Res) : Prop := ∃ a c, v = .tuple #[natV V, .slice a (nd 65536 V) c, .bool true] ∧ R = [.row (.slice a (nd 65536 V) c) 3 1 (nd 65536 V) (refC V)]
theorem made_small (a : Option Addr) (len c : Nat) (bl : List UInt8) (w : World) (hl : bl.length = len) (hc : len ≤ c) (hb : SlA w a (bl.map v8)) (hx : len ≤ 128) :
    Sy.Fn Tryd.prog 34 [.slice a len c] w No (MadeS (bev 256 (bn bl))) := by
  refine Sy.Fn.mono (made_fn a len c bl w hl hc hb (by omega)) ?_
  rintro v R ⟨a1, c1, rfl, rfl⟩
  have hV := bev_small (l := bl) (by omega)
  rw [if_pos hV, decide_eq_true hV]
  exact ⟨a1, c1, rfl, rfl⟩
end Go.Proofs.YtkipmhcmdejcfaaDoor
