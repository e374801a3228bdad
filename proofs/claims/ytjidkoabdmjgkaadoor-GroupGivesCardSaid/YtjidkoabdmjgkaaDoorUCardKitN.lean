/- What every card of this seat shares: the listed tables out of the row's condition, a world that fits. -/
import Derived.Test.YtjidkoabdmjgkaaDoorCards
import Derived.Test.YtjidkoabdmjgkaaDoorTie
import Derived.Test.YtjidkoabdmjgkaaDoorUSyRead
import Derived.WalkKit
import Derived.ProofKit
import Derived.Deep.DeepHandedRow
import Derived.Deep.DeepWitnessRowRef
set_option linter.all false
namespace Go.Proofs.YtjidkoabdmjgkaaDoor
open Go Go.Sy Go.RowKit
theorem own : ownKnob Tryd.prog.godebug = none := by kernel_rfl
theorem kids : Kids Tryd.prog (· < Tryd.prog.types.size) := kids_rows (by kernel_rfl) (by kernel_rfl)
theorem full : ∀ t e, t < Tryd.prog.types.size → Tryd.prog.underlying t = some (.slice e) → 0 < Tryd.prog.cellsOf e := slices_full_of Tryd.prog (by kernel_rfl)
theorem undBytes : Tryd.prog.underlying 22 = some (.slice 5) := by kernel_rfl
theorem undByte : Tryd.prog.underlying 5 = some (.int .u8) := by kernel_rfl
theorem undBool : Tryd.prog.underlying 4 = some .bool := by kernel_rfl
theorem cellsByte : Tryd.prog.cellsOf 5 = 1 := by kernel_rfl
def orderChars : List Char := ([104, 97, 114, 110, 101, 115, 115, 32, 57, 97, 57, 48, 102, 48, 56, 98, 52, 49, 102, 57, 54, 55, 49, 57, 52, 50, 49, 98, 102, 53, 52, 99, 99, 57, 54, 55, 50, 48, 52, 99, 49, 98, 102, 48, 102, 101, 102, 48, 50, 52, 98, 99, 102, 98, 99, 55, 55, 56, 102, 102, 49, 54, 101, 48, 101, 56, 101, 100, 48, 52, 49, 51, 32, 99, 117, 116, 32, 97, 116, 32, 119, 97, 116, 99, 104, 119, 111, 114, 100, 47, 119, 97, 116, 99, 104, 119, 111, 114, 100, 108, 97, 119, 48, 51, 46, 71, 114, 111, 117, 112, 77, 101, 109, 98, 101, 114, 115, 32, 119, 97, 116, 99, 104, 119, 111, 114, 100, 47, 119, 97, 116, 99, 104, 119, 111, 114, 100, 108, 97, 119, 48, 51, 46, 71, 114, 111, 117, 112, 80, 111, 119, 101, 114, 115, 32, 119, 97, 116, 99, 104, 119, 111, 114, 100, 47, 119, 97, 116, 99, 104, 119, 111, 114, 100, 108, 97, 119, 48, 51, 46, 71, 114, 111, 117, 112, 71, 105, 118, 101, 115] : List Nat).map Char.ofNat
theorem order_lit : Tryd.prog.initOrder = "harness 9a90f08b41f96719421bf54cc967204c1bf0fef024bcfbc778ff16e0e8ed0413 cut at watchword/watchwordlaw03.GroupMembers watchword/watchwordlaw03.GroupPowers watchword/watchwordlaw03.GroupGives" := by kernel_rfl
theorem order_is : Tryd.prog.initOrder = String.ofList orderChars := order_lit.trans (by kernel_rfl)
theorem order_chars : Tryd.prog.initOrder.toList = orderChars := by rw [order_is]; exact String.toList_ofList
def cutW : List Char := ([99, 117, 116] : List Nat).map Char.ofNat
def restWords : List (List Char) := (behindMainWord (wordsSigns orderChars)).tail
theorem words_is : behindMainWord (wordsSigns orderChars) = cutW :: restWords := by kernel_rfl
theorem strip_is (r : List (List Char)) : stripLifts liftWords (cutW :: r) = ([], cutW :: r) := by kernel_rfl
theorem cutw_gc : (cutW == "gc".toList) = false := by decide +kernel
theorem cutw_spec : (cutW == "spec".toList) = false := by decide +kernel
theorem cutw_cut : (cutW == "cut".toList) = true := by decide +kernel
theorem cutw_carried : (cutW == "carried".toList) = false := by decide +kernel
theorem some_cut : (some cutW == some "cut".toList) = true := by decide +kernel
theorem some_carried : (some cutW == some "carried".toList) = false := by decide +kernel
section
variable (P : Program) (r : List (List Char)) (hw : behindMainWord (wordsSigns P.initOrder.toList) = cutW :: r)
include hw
theorem head_of : P.headLifts = [] := by
  unfold Program.headLifts
  simp only [hw, strip_is, List.head?_cons, some_cut, if_true]
theorem may_of (hl : P.laysLater = false) (hb : P.bearsReflect = false) (hd : P.doorFits [] = true) : P.mayEnter = true := by
  unfold Program.mayEnter
  simp only [hw, strip_is, cutw_gc, cutw_spec, cutw_carried, List.head?_cons, some_cut, hl, hb, hd, Bool.false_and, Bool.false_or, Bool.or_false, Bool.and_true, Bool.true_and, Bool.not_false, Bool.or_true]
  rfl
theorem final_of : P.liftsFinal = false := by
  unfold Program.liftsFinal
  simp only [hw, head_of P r hw, List.head?_cons, some_carried, Bool.false_and, Bool.false_or]
  rfl
theorem make_of : P.make = some .cut := by
  unfold Program.make
  simp only [hw, cutw_gc, cutw_spec, cutw_cut, Bool.or_self, Bool.false_eq_true, if_false, Bool.true_or, if_true]
end
theorem words_here : behindMainWord (wordsSigns Tryd.prog.initOrder.toList) = cutW :: restWords := by rw [order_chars]; exact words_is
theorem lays_not : Tryd.prog.laysLater = false := by kernel_rfl
theorem bears_not : Tryd.prog.bearsReflect = false := by kernel_rfl
theorem door_fits : Tryd.prog.doorFits [] = true := by kernel_rfl
theorem may_enter : Tryd.prog.mayEnter = true := may_of _ _ words_here lays_not bears_not door_fits
theorem lifts_final : Tryd.prog.liftsFinal = false := final_of _ _ words_here
theorem make_is : Tryd.prog.make = some .cut := make_of _ _ words_here
def harnW : List Char := "harness".toList
def sumW : List Char := "9a90f08b41f96719421bf54cc967204c1bf0fef024bcfbc778ff16e0e8ed0413".toList
def restWords0 : List (List Char) := (wordsSigns orderChars).tail.tail
theorem words0 : wordsSigns orderChars = harnW :: sumW :: restWords0 := by kernel_rfl
theorem sum_ok : isSumSigns sumW = true := by kernel_rfl
theorem main_of (P : Program) (r : List (List Char)) (hw : wordsSigns P.initOrder.toList = harnW :: sumW :: r) : P.mainIs = some (true, "9a90f08b41f96719421bf54cc967204c1bf0fef024bcfbc778ff16e0e8ed0413".toList) := by
  unfold Program.mainIs
  simp only [hw, sum_ok]
  rfl
theorem main_is : Tryd.prog.mainIs = some (true, "9a90f08b41f96719421bf54cc967204c1bf0fef024bcfbc778ff16e0e8ed0413".toList) := main_of _ _ (by rw [order_chars]; exact words0)
def putCells (C : List Value) : Obj → Obj
  | .cells _ t frozen => .cells C.toArray t frozen
  | o => o
def datC : Nat → DataW Unit → List Value
  | n + 1, .agg l => l.flatMap (datC n)
  | _, .lit (.int k z) => [.int k z]
  | _, _ => []
noncomputable def laidWorld (os : Os) : World :=
  { World.holding Tryd.prog os ⟨#[], #[], []⟩ with heap := ((World.holding Tryd.prog os ⟨#[], #[], []⟩).heap.modify 2 (putCells (datC 3 Rows.laid_unicode_utf8_acceptRanges))).modify 1 (putCells (datC 3 Rows.laid_unicode_utf8_first)) }
end Go.Proofs.YtjidkoabdmjgkaaDoor
