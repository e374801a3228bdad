/- What every card of this seat shares: the listed tables out of the row's condition, a world that fits. -/
import Derived.Test.YtkipmhcmdejcfaaDoorCards
import Derived.Test.YtkipmhcmdejcfaaDoorTie
import Derived.Test.YtkipmhcmdejcfaaDoorTSyRead
import Derived.WalkKit
import Derived.ProofKit
import Derived.Deep.DeepHandedRow
import Derived.Deep.DeepWitnessRowRef
set_option linter.all false
namespace Go.Proofs.YtkipmhcmdejcfaaDoor
open Go Go.Sy Go.RowKit
theorem own : ownKnob Tryd.prog.godebug = none := by kernel_rfl
theorem kids : Kids Tryd.prog (· < Tryd.prog.types.size) := kids_rows (by kernel_rfl) (by kernel_rfl)
theorem full : ∀ t e, t < Tryd.prog.types.size → Tryd.prog.underlying t = some (.slice e) → 0 < Tryd.prog.cellsOf e := slices_full_of Tryd.prog (by kernel_rfl)
theorem undBytes : Tryd.prog.underlying 22 = some (.slice 5) := by kernel_rfl
theorem undByte : Tryd.prog.underlying 5 = some (.int .u8) := by kernel_rfl
theorem undBool : Tryd.prog.underlying 4 = some .bool := by kernel_rfl
theorem cellsByte : Tryd.prog.cellsOf 5 = 1 := by kernel_rfl
def orderChars : List Char := ([104, 97, 114, 110, 101, 115, 115, 32, 49, 56, 102, 54, 50, 52, 98, 97, 50, 50, 55, 51, 51, 57, 51, 55, 50, 56, 53, 99, 56, 100, 98, 52, 52, 102, 57, 56, 56, 98, 53, 52, 53, 56, 51, 98, 49, 55, 54, 52, 48, 55, 51, 102, 102, 102, 55, 52, 57, 100, 98, 53, 55, 54, 56, 48, 56, 97, 57, 97, 51, 98, 53, 52, 32, 99, 117, 116, 32, 97, 116, 32, 119, 97, 116, 99, 104, 119, 111, 114, 100, 47, 119, 97, 116, 99, 104, 119, 111, 114, 100, 108, 97, 119, 48, 49, 46, 78, 97, 116, 82, 101, 97, 100, 115, 32, 119, 97, 116, 99, 104, 119, 111, 114, 100, 47, 119, 97, 116, 99, 104, 119, 111, 114, 100, 108, 97, 119, 48, 49, 46, 78, 97, 116, 73, 110, 116, 115, 32, 119, 97, 116, 99, 104, 119, 111, 114, 100, 47, 119, 97, 116, 99, 104, 119, 111, 114, 100, 108, 97, 119, 48, 49, 46, 78, 97, 116, 68, 105, 118, 105, 100, 101, 115, 32, 119, 97, 116, 99, 104, 119, 111, 114, 100, 47, 119, 97, 116, 99, 104, 119, 111, 114, 100, 108, 97, 119, 48, 49, 46, 78, 97, 116, 66, 105, 116, 115, 32, 119, 97, 116, 99, 104, 119, 111, 114, 100, 47, 119, 97, 116, 99, 104, 119, 111, 114, 100, 108, 97, 119, 48, 49, 46, 78, 97, 116, 83, 117, 109, 115, 32, 119, 97, 116, 99, 104, 119, 111, 114, 100, 47, 119, 97, 116, 99, 104, 119, 111, 114, 100, 108, 97, 119, 48, 49, 46, 78, 97, 116, 83, 104, 105, 102, 116, 115, 32, 119, 97, 116, 99, 104, 119, 111, 114, 100, 47, 119, 97, 116, 99, 104, 119, 111, 114, 100, 108, 97, 119, 48, 49, 46, 78, 97, 116, 80, 114, 111, 100, 117, 99, 116, 115, 32, 119, 97, 116, 99, 104, 119, 111, 114, 100, 47, 119, 97, 116, 99, 104, 119, 111, 114, 100, 108, 97, 119, 48, 49, 46, 78, 97, 116, 72, 111, 108, 100, 115, 32, 119, 97, 116, 99, 104, 119, 111, 114, 100, 47, 119, 97, 116, 99, 104, 119, 111, 114, 100, 108, 97, 119, 48, 50, 46, 77, 111, 100, 117, 108, 97, 114, 80, 114, 111, 100, 117, 99, 116, 115, 32, 119, 97, 116, 99, 104, 119, 111, 114, 100, 47, 119, 97, 116, 99, 104, 119, 111, 114, 100, 108, 97, 119, 48, 50, 46, 77, 111, 100, 117, 108, 97, 114, 80, 111, 119, 101, 114, 115, 32, 119, 97, 116, 99, 104, 119, 111, 114, 100, 47, 119, 97, 116, 99, 104, 119, 111, 114, 100, 108, 97, 119, 48, 50, 46, 77, 111, 100, 117, 108, 97, 114, 73, 110, 118, 101, 114, 115, 101, 115, 32, 119, 97, 116, 99, 104, 119, 111, 114, 100, 47, 119, 97, 116, 99, 104, 119, 111, 114, 100, 108, 97, 119, 48, 50, 46, 77, 111, 100, 117, 108, 97, 114, 80, 114, 105, 109, 101, 115, 32, 119, 97, 116, 99, 104, 119, 111, 114, 100, 47, 119, 97, 116, 99, 104, 119, 111, 114, 100, 108, 97, 119, 48, 50, 46, 77, 111, 100, 117, 108, 97, 114, 83, 117, 109, 115, 32, 119, 97, 116, 99, 104, 119, 111, 114, 100, 47, 119, 97, 116, 99, 104, 119, 111, 114, 100, 108, 97, 119, 48, 50, 46, 77, 111, 100, 117, 108, 97, 114, 72, 111, 108, 100, 115, 32, 119, 97, 116, 99, 104, 119, 111, 114, 100, 47, 119, 97, 116, 99, 104, 119, 111, 114, 100, 108, 97, 119, 48, 50, 46, 77, 111, 100, 117, 108, 97, 114, 70, 101, 114, 109, 97, 116, 32, 119, 97, 116, 99, 104, 119, 111, 114, 100, 47, 119, 97, 116, 99, 104, 119, 111, 114, 100, 108, 97, 119, 48, 51, 46, 71, 114, 111, 117, 112, 77, 101, 109, 98, 101, 114, 115, 32, 119, 97, 116, 99, 104, 119, 111, 114, 100, 47, 119, 97, 116, 99, 104, 119, 111, 114, 100, 108, 97, 119, 48, 51, 46, 71, 114, 111, 117, 112, 80, 111, 119, 101, 114, 115, 32, 119, 97, 116, 99, 104, 119, 111, 114, 100, 47, 119, 97, 116, 99, 104, 119, 111, 114, 100, 108, 97, 119, 48, 51, 46, 71, 114, 111, 117, 112, 71, 105, 118, 101, 115, 32, 119, 97, 116, 99, 104, 119, 111, 114, 100, 47, 119, 97, 116, 99, 104, 119, 111, 114, 100, 108, 97, 119, 48, 51, 46, 71, 114, 111, 117, 112, 72, 111, 108, 100, 115] : List Nat).map Char.ofNat
theorem order_lit : Tryd.prog.initOrder = "harness 18f624ba22733937285c8db44f988b54583b1764073fff749db576808a9a3b54 cut at watchword/watchwordlaw01.NatReads watchword/watchwordlaw01.NatInts watchword/watchwordlaw01.NatDivides watchword/watchwordlaw01.NatBits watchword/watchwordlaw01.NatSums watchword/watchwordlaw01.NatShifts watchword/watchwordlaw01.NatProducts watchword/watchwordlaw01.NatHolds watchword/watchwordlaw02.ModularProducts watchword/watchwordlaw02.ModularPowers watchword/watchwordlaw02.ModularInverses watchword/watchwordlaw02.ModularPrimes watchword/watchwordlaw02.ModularSums watchword/watchwordlaw02.ModularHolds watchword/watchwordlaw02.ModularFermat watchword/watchwordlaw03.GroupMembers watchword/watchwordlaw03.GroupPowers watchword/watchwordlaw03.GroupGives watchword/watchwordlaw03.GroupHolds" := by kernel_rfl
theorem order_is : Tryd.prog.initOrder = String.ofList orderChars := order_lit.trans (by kernel_rfl)
theorem order_chars : Tryd.prog.initOrder.toList = orderChars := by rw [order_is]; exact String.toList_ofList
def cutW : List Char := ([99, 117, 116] : List Nat).map Char.ofNat
def restWords : List (List Char) := (behindMainWord (wordsSigns orderChars)).tail
theorem words_is : behindMainWord (wordsSigns orderChars) = cutW :: restWords := by kernel_rfl
theorem strip_is (r : List (List Char)) : stripLifts liftWords (cutW :: r) = ([], cutW :: r) := by kernel_rfl
theorem cutw_gc : (cutW == "gc".toList) = false := by decide +kernel
theorem cutw_spec : (cutW == "spec".toList) = false := by decide +kernel
theorem cutw_cut : (cutW == "cut".toList) = true := by decide +kernel
theorem cutw_carried : (cutW == "carried".toList) = false := by decide +kernel
theorem some_cut : (some cutW == some "cut".toList) = true := by decide +kernel
theorem some_carried : (some cutW == some "carried".toList) = false := by decide +kernel
section
variable (P : Program) (r : List (List Char)) (hw : behindMainWord (wordsSigns P.initOrder.toList) = cutW :: r)
include hw
theorem head_of : P.headLifts = [] := by
  unfold Program.headLifts
  simp only [hw, strip_is, List.head?_cons, some_cut, if_true]
theorem may_of (hl : P.laysLater = false) (hb : P.bearsReflect = false) (hd : P.doorFits [] = true) : P.mayEnter = true := by
  unfold Program.mayEnter
  simp only [hw, strip_is, cutw_gc, cutw_spec, cutw_carried, List.head?_cons, some_cut, hl, hb, hd, Bool.false_and, Bool.false_or, Bool.or_false, Bool.and_true, Bool.true_and, Bool.not_false, Bool.or_true]
  rfl
theorem final_of : P.liftsFinal = false := by
  unfold Program.liftsFinal
  simp only [hw, head_of P r hw, List.head?_cons, some_carried, Bool.false_and, Bool.false_or]
  rfl
theorem make_of : P.make = some .cut := by
  unfold Program.make
  simp only [hw, cutw_gc, cutw_spec, cutw_cut, Bool.or_self, Bool.false_eq_true, if_false, Bool.true_or, if_true]
end
theorem words_here : behindMainWord (wordsSigns Tryd.prog.initOrder.toList) = cutW :: restWords := by rw [order_chars]; exact words_is
theorem lays_not : Tryd.prog.laysLater = false := by kernel_rfl
theorem bears_not : Tryd.prog.bearsReflect = false := by kernel_rfl
theorem door_fits : Tryd.prog.doorFits [] = true := by kernel_rfl
theorem may_enter : Tryd.prog.mayEnter = true := may_of _ _ words_here lays_not bears_not door_fits
theorem lifts_final : Tryd.prog.liftsFinal = false := final_of _ _ words_here
theorem make_is : Tryd.prog.make = some .cut := make_of _ _ words_here
def harnW : List Char := "harness".toList
def sumW : List Char := "18f624ba22733937285c8db44f988b54583b1764073fff749db576808a9a3b54".toList
def restWords0 : List (List Char) := (wordsSigns orderChars).tail.tail
theorem words0 : wordsSigns orderChars = harnW :: sumW :: restWords0 := by kernel_rfl
theorem sum_ok : isSumSigns sumW = true := by kernel_rfl
theorem main_of (P : Program) (r : List (List Char)) (hw : wordsSigns P.initOrder.toList = harnW :: sumW :: r) : P.mainIs = some (true, "18f624ba22733937285c8db44f988b54583b1764073fff749db576808a9a3b54".toList) := by
  unfold Program.mainIs
  simp only [hw, sum_ok]
  rfl
theorem main_is : Tryd.prog.mainIs = some (true, "18f624ba22733937285c8db44f988b54583b1764073fff749db576808a9a3b54".toList) := main_of _ _ (by rw [order_chars]; exact words0)
def putCells (C : List Value) : Obj → Obj
  | .cells _ t frozen => .cells C.toArray t frozen
  | o => o
def datC : Nat → DataW Unit → List Value
  | n + 1, .agg l => l.flatMap (datC n)
  | _, .lit (.int k z) => [.int k z]
  | _, _ => []
noncomputable def laidWorld (os : Os) : World :=
  { World.holding Tryd.prog os ⟨#[], #[], []⟩ with heap := ((World.holding Tryd.prog os ⟨#[], #[], []⟩).heap.modify 4 (putCells (datC 3 Rows.laid_unicode_utf8_acceptRanges))).modify 3 (putCells (datC 3 Rows.laid_unicode_utf8_first)) }
end Go.Proofs.YtkipmhcmdejcfaaDoor
