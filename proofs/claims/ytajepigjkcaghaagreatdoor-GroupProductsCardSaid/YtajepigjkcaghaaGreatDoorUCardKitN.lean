/- What every card of this seat shares: the listed tables out of the row's condition, a world that fits. -/
import Derived.Test.YtajepigjkcaghaaGreatDoorCards
import Derived.Test.YtajepigjkcaghaaGreatDoorTie
import Derived.Test.YtajepigjkcaghaaGreatDoorUSyRead
import Derived.WalkKit
import Derived.ProofKit
import Derived.Deep.DeepHandedRow
import Derived.Deep.DeepWitnessRowRef
set_option linter.all false
namespace Go.Proofs.YtajepigjkcaghaaGreatDoor
open Go Go.Sy Go.RowKit
theorem own : ownKnob Tryz.prog.godebug = none := by kernel_rfl
theorem kids : Kids Tryz.prog (· < Tryz.prog.types.size) := kids_rows (by kernel_rfl) (by kernel_rfl)
theorem full : ∀ t e, t < Tryz.prog.types.size → Tryz.prog.underlying t = some (.slice e) → 0 < Tryz.prog.cellsOf e := slices_full_of Tryz.prog (by kernel_rfl)
theorem undBytes : Tryz.prog.underlying 22 = some (.slice 5) := by kernel_rfl
theorem undByte : Tryz.prog.underlying 5 = some (.int .u8) := by kernel_rfl
theorem undBool : Tryz.prog.underlying 4 = some .bool := by kernel_rfl
theorem cellsByte : Tryz.prog.cellsOf 5 = 1 := by kernel_rfl
def orderChars : List Char := ([104, 97, 114, 110, 101, 115, 115, 32, 52, 48, 49, 98, 50, 53, 97, 54, 101, 100, 51, 100, 50, 98, 99, 56, 57, 101, 52, 100, 97, 57, 52, 98, 55, 97, 102, 53, 101, 56, 99, 57, 57, 49, 99, 100, 100, 56, 102, 53, 57, 49, 56, 56, 56, 99, 98, 50, 101, 55, 100, 51, 50, 101, 102, 51, 49, 99, 100, 52, 48, 102, 52, 57, 32, 99, 117, 116, 32, 97, 116, 32, 119, 97, 116, 99, 104, 119, 111, 114, 100, 47, 119, 97, 116, 99, 104, 119, 111, 114, 100, 108, 97, 119, 48, 51, 46, 71, 114, 111, 117, 112, 83, 99, 97, 108, 97, 114, 115, 32, 119, 97, 116, 99, 104, 119, 111, 114, 100, 47, 119, 97, 116, 99, 104, 119, 111, 114, 100, 108, 97, 119, 48, 51, 46, 71, 114, 111, 117, 112, 80, 114, 111, 100, 117, 99, 116, 115] : List Nat).map Char.ofNat
theorem order_lit : Tryz.prog.initOrder = "harness 401b25a6ed3d2bc89e4da94b7af5e8c991cdd8f591888cb2e7d32ef31cd40f49 cut at watchword/watchwordlaw03.GroupScalars watchword/watchwordlaw03.GroupProducts" := by kernel_rfl
theorem order_is : Tryz.prog.initOrder = String.ofList orderChars := order_lit.trans (by kernel_rfl)
theorem order_chars : Tryz.prog.initOrder.toList = orderChars := by rw [order_is]; exact String.toList_ofList
def cutW : List Char := ([99, 117, 116] : List Nat).map Char.ofNat
def restWords : List (List Char) := (behindMainWord (wordsSigns orderChars)).tail
theorem words_is : behindMainWord (wordsSigns orderChars) = cutW :: restWords := by kernel_rfl
theorem strip_is (r : List (List Char)) : stripLifts liftWords (cutW :: r) = ([], cutW :: r) := by kernel_rfl
theorem cutw_gc : (cutW == "gc".toList) = false := by decide +kernel
theorem cutw_spec : (cutW == "spec".toList) = false := by decide +kernel
theorem cutw_cut : (cutW == "cut".toList) = true := by decide +kernel
theorem cutw_carried : (cutW == "carried".toList) = false := by decide +kernel
theorem some_cut : (some cutW == some "cut".toList) = true := by decide +kernel
theorem some_carried : (some cutW == some "carried".toList) = false := by decide +kernel
section
variable (P : Program) (r : List (List Char)) (hw : behindMainWord (wordsSigns P.initOrder.toList) = cutW :: r)
include hw
theorem head_of : P.headLifts = [] := by
  unfold Program.headLifts
  simp only [hw, strip_is, List.head?_cons, some_cut, if_true]
theorem may_of (hl : P.laysLater = false) (hb : P.bearsReflect = false) (hd : P.doorFits [] = true) : P.mayEnter = true := by
  unfold Program.mayEnter
  simp only [hw, strip_is, cutw_gc, cutw_spec, cutw_carried, List.head?_cons, some_cut, hl, hb, hd, Bool.false_and, Bool.false_or, Bool.or_false, Bool.and_true, Bool.true_and, Bool.not_false, Bool.or_true]
  rfl
theorem final_of : P.liftsFinal = false := by
  unfold Program.liftsFinal
  simp only [hw, head_of P r hw, List.head?_cons, some_carried, Bool.false_and, Bool.false_or]
  rfl
theorem make_of : P.make = some .cut := by
  unfold Program.make
  simp only [hw, cutw_gc, cutw_spec, cutw_cut, Bool.or_self, Bool.false_eq_true, if_false, Bool.true_or, if_true]
end
theorem words_here : behindMainWord (wordsSigns Tryz.prog.initOrder.toList) = cutW :: restWords := by rw [order_chars]; exact words_is
theorem lays_not : Tryz.prog.laysLater = false := by kernel_rfl
theorem bears_not : Tryz.prog.bearsReflect = false := by kernel_rfl
theorem door_fits : Tryz.prog.doorFits [] = true := by kernel_rfl
theorem may_enter : Tryz.prog.mayEnter = true := may_of _ _ words_here lays_not bears_not door_fits
theorem lifts_final : Tryz.prog.liftsFinal = false := final_of _ _ words_here
theorem make_is : Tryz.prog.make = some .cut := make_of _ _ words_here
def harnW : List Char := "harness".toList
def sumW : List Char := "401b25a6ed3d2bc89e4da94b7af5e8c991cdd8f591888cb2e7d32ef31cd40f49".toList
def restWords0 : List (List Char) := (wordsSigns orderChars).tail.tail
theorem words0 : wordsSigns orderChars = harnW :: sumW :: restWords0 := by kernel_rfl
theorem sum_ok : isSumSigns sumW = true := by kernel_rfl
theorem main_of (P : Program) (r : List (List Char)) (hw : wordsSigns P.initOrder.toList = harnW :: sumW :: r) : P.mainIs = some (true, "401b25a6ed3d2bc89e4da94b7af5e8c991cdd8f591888cb2e7d32ef31cd40f49".toList) := by
  unfold Program.mainIs
  simp only [hw, sum_ok]
  rfl
theorem main_is : Tryz.prog.mainIs = some (true, "401b25a6ed3d2bc89e4da94b7af5e8c991cdd8f591888cb2e7d32ef31cd40f49".toList) := main_of _ _ (by rw [order_chars]; exact words0)
def putCells (C : List Value) : Obj → Obj
  | .cells _ t frozen => .cells C.toArray t frozen
  | o => o
def datC : Nat → DataW Unit → List Value
  | n + 1, .agg l => l.flatMap (datC n)
  | _, .lit (.int k z) => [.int k z]
  | _, _ => []
noncomputable def laidWorld (os : Os) : World :=
  { World.holding Tryz.prog os ⟨#[], #[], []⟩ with heap := ((World.holding Tryz.prog os ⟨#[], #[], []⟩).heap.modify 4 (putCells (datC 3 Rows.laid_unicode_utf8_acceptRanges))).modify 3 (putCells (datC 3 Rows.laid_unicode_utf8_first)) }
end Go.Proofs.YtajepigjkcaghaaGreatDoor
