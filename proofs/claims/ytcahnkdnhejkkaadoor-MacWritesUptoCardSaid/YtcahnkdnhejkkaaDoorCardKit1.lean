/- What every card of this seat shares: the listed tables out of the row's condition, a world that fits. -/
import Derived.Test.YtcahnkdnhejkkaaDoorCards
import Derived.Test.YtcahnkdnhejkkaaDoorTie
import Derived.Test.YtcahnkdnhejkkaaDoorShaKit
import Derived.Test.YtcahnkdnhejkkaaDoorSyRead
import Derived.WalkKit
import Derived.ProofKit
import Derived.Deep.DeepHandedRow
import Derived.Deep.DeepWitnessRowRef
set_option linter.all false
namespace Go.Proofs.YtcahnkdnhejkkaaDoor
open Go Go.Sy Go.Wd Go.Sh Go.RowKit
theorem own : ownKnob Tryd.prog.godebug = none := by kernel_rfl
theorem kids : Kids Tryd.prog (· < Tryd.prog.types.size) := kids_rows (by kernel_rfl) (by kernel_rfl)
theorem full : ∀ t e, t < Tryd.prog.types.size → Tryd.prog.underlying t = some (.slice e) → 0 < Tryd.prog.cellsOf e := slices_full_of Tryd.prog (by kernel_rfl)
theorem gStart : Tryd.prog.globalNamed "watchword/sha.start" = some 0 := by kernel_rfl
theorem gKonst : Tryd.prog.globalNamed "watchword/sha.constants" = some 1 := by kernel_rfl
theorem gRef : Tryd.prog.globalNamed "watchword/watchwordref04.constants" = some 2 := by kernel_rfl
theorem tyStart : (Tryd.prog.globals[0]?).map (·.type) = some 35 := by kernel_rfl
theorem tyKonst : (Tryd.prog.globals[1]?).map (·.type) = some 148 := by kernel_rfl
theorem tyRef : (Tryd.prog.globals[2]?).map (·.type) = some 113 := by kernel_rfl
theorem dStart : (Rows.laid_watchword_sha_start : DataW Unit) = Lib.tabData .u32 (h0.map n32) := by kernel_rfl
theorem dKonst : (Rows.laid_watchword_sha_constants : DataW Unit) = Lib.tabData .u32 (kC.map n32) := by kernel_rfl
theorem dRef : (Rows.laid_watchword_watchwordref04_constants : DataW Unit) = .slice ((kC.map n32).map fun z => .lit (.int .i64 z)) [] := by kernel_rfl
theorem undStart : Tryd.prog.underlying 35 = some (.array 8 33) := by kernel_rfl
theorem undKonst : Tryd.prog.underlying 148 = some (.array 64 33) := by kernel_rfl
theorem undU32 : Tryd.prog.underlying 33 = some (.int .u32) := by kernel_rfl
theorem undInts : Tryd.prog.underlying 113 = some (.slice 3) := by kernel_rfl
theorem undInt : Tryd.prog.underlying 3 = some (.int .i64) := by kernel_rfl
theorem undBytes : Tryd.prog.underlying 22 = some (.slice 5) := by kernel_rfl
theorem undByte : Tryd.prog.underlying 5 = some (.int .u8) := by kernel_rfl
theorem undBool : Tryd.prog.underlying 4 = some .bool := by kernel_rfl
theorem cellsU32 : Tryd.prog.cellsOf 33 = 1 := by kernel_rfl
theorem cellsInt : Tryd.prog.cellsOf 3 = 1 := by kernel_rfl
theorem cellsByte : Tryd.prog.cellsOf 5 = 1 := by kernel_rfl
theorem cellsStart : Tryd.prog.cellsOf 35 = 8 := by kernel_rfl
theorem cellsKonst : Tryd.prog.cellsOf 148 = 64 := by kernel_rfl
theorem tab_of {W : World} {l : List (String × DataW Unit)} (h : laidMet Tryd.prog l W) (h1 : ("watchword/sha.start", Rows.laid_watchword_sha_start) ∈ l) (h2 : ("watchword/sha.constants", Rows.laid_watchword_sha_constants) ∈ l) : Tab W No := by
  rw [dStart] at h1
  rw [dKonst] at h2
  have a1 := laid_tab h h1 gStart tyStart undStart undU32 cellsU32 cellsStart
  have a2 := laid_tab h h2 gKonst tyKonst undKonst undU32 cellsU32 cellsKonst
  rw [List.map_map] at a1 a2
  exact ⟨a1, a2, fun h => h, fun h => h⟩
theorem rtab_of {W : World} {l : List (String × DataW Unit)} (h : laidMet Tryd.prog l W) (h1 : ("watchword/watchwordref04.constants", Rows.laid_watchword_watchwordref04_constants) ∈ l) : ∃ kb ko kc, RTab W No kb ko kc := by
  rw [dRef] at h1
  obtain ⟨b, o, c, h2, h3⟩ := laid_slice h h1 gRef tyRef undInts undInt cellsInt (by decide)
  rw [List.map_map] at h3
  exact ⟨b, o, c, ⟨h2, h3, fun h => h, fun h => h⟩⟩
/-! ### The line of the program's roots: long; the kernel must not read it as a string -/
def orderChars : List Char := ([104, 97, 114, 110, 101, 115, 115, 32, 48, 50, 101, 101, 49, 99, 100, 52, 49, 97, 100, 101, 50, 97, 97, 102, 100, 54, 53, 57, 51, 53, 55, 101, 97, 57, 56, 53, 49, 57, 57, 99, 53, 55, 48, 101, 97, 99, 100, 51, 55, 53, 97, 55, 49, 56, 49, 99, 98, 99, 57, 51, 56, 102, 55, 56, 49, 98, 100, 52, 50, 51, 54, 49, 32, 99, 117, 116, 32, 97, 116, 32, 119, 97, 116, 99, 104, 119, 111, 114, 100, 47, 119, 97, 116, 99, 104, 119, 111, 114, 100, 108, 97, 119, 48, 52, 46, 83, 104, 97, 83, 117, 109, 115, 32, 119, 97, 116, 99, 104, 119, 111, 114, 100, 47, 119, 97, 116, 99, 104, 119, 111, 114, 100, 108, 97, 119, 48, 52, 46, 83, 104, 97, 66, 108, 111, 99, 107, 115, 32, 119, 97, 116, 99, 104, 119, 111, 114, 100, 47, 119, 97, 116, 99, 104, 119, 111, 114, 100, 108, 97, 119, 48, 52, 46, 83, 104, 97, 68, 105, 118, 105, 100, 101, 115, 32, 119, 97, 116, 99, 104, 119, 111, 114, 100, 47, 119, 97, 116, 99, 104, 119, 111, 114, 100, 108, 97, 119, 48, 52, 46, 83, 104, 97, 87, 114, 105, 116, 101, 115, 32, 119, 97, 116, 99, 104, 119, 111, 114, 100, 47, 119, 97, 116, 99, 104, 119, 111, 114, 100, 108, 97, 119, 48, 52, 46, 83, 104, 97, 78, 111, 110, 101, 32, 119, 97, 116, 99, 104, 119, 111, 114, 100, 47, 119, 97, 116, 99, 104, 119, 111, 114, 100, 108, 97, 119, 48, 53, 46, 77, 97, 99, 83, 117, 109, 115, 32, 119, 97, 116, 99, 104, 119, 111, 114, 100, 47, 119, 97, 116, 99, 104, 119, 111, 114, 100, 108, 97, 119, 48, 53, 46, 77, 97, 99, 67, 104, 101, 99, 107, 115, 32, 119, 97, 116, 99, 104, 119, 111, 114, 100, 47, 119, 97, 116, 99, 104, 119, 111, 114, 100, 108, 97, 119, 48, 53, 46, 77, 97, 99, 68, 105, 118, 105, 100, 101, 115, 32, 119, 97, 116, 99, 104, 119, 111, 114, 100, 47, 119, 97, 116, 99, 104, 119, 111, 114, 100, 108, 97, 119, 48, 53, 46, 77, 97, 99, 87, 114, 105, 116, 101, 115, 32, 119, 97, 116, 99, 104, 119, 111, 114, 100, 47, 119, 97, 116, 99, 104, 119, 111, 114, 100, 108, 97, 119, 48, 53, 46, 77, 97, 99, 78, 111, 110, 101, 32, 119, 97, 116, 99, 104, 119, 111, 114, 100, 47, 119, 97, 116, 99, 104, 119, 111, 114, 100, 108, 97, 119, 48, 56, 46, 68, 101, 114, 105, 118, 101, 75, 101, 121, 115, 32, 119, 97, 116, 99, 104, 119, 111, 114, 100, 47, 119, 97, 116, 99, 104, 119, 111, 114, 100, 108, 97, 119, 48, 56, 46, 68, 101, 114, 105, 118, 101, 80, 97, 115, 115, 119, 111, 114, 100, 115, 32, 119, 97, 116, 99, 104, 119, 111, 114, 100, 47, 119, 97, 116, 99, 104, 119, 111, 114, 100, 108, 97, 119, 48, 56, 46, 68, 101, 114, 105, 118, 101, 65, 103, 97, 105, 110, 32, 119, 97, 116, 99, 104, 119, 111, 114, 100, 47, 119, 97, 116, 99, 104, 119, 111, 114, 100, 108, 97, 119, 48, 56, 46, 68, 101, 114, 105, 118, 101, 66, 108, 111, 99, 107, 115, 32, 119, 97, 116, 99, 104, 119, 111, 114, 100, 47, 119, 97, 116, 99, 104, 119, 111, 114, 100, 108, 97, 119, 48, 56, 46, 68, 101, 114, 105, 118, 101, 80, 114, 101, 102, 105, 120, 101, 115, 32, 119, 97, 116, 99, 104, 119, 111, 114, 100, 47, 119, 97, 116, 99, 104, 119, 111, 114, 100, 108, 97, 119, 49, 48, 46, 82, 97, 110, 100, 111, 109, 78, 117, 109, 98, 101, 114, 115, 32, 119, 97, 116, 99, 104, 119, 111, 114, 100, 47, 119, 97, 116, 99, 104, 119, 111, 114, 100, 108, 97, 119, 49, 48, 46, 82, 97, 110, 100, 111, 109, 65, 103, 97, 105, 110, 32, 119, 97, 116, 99, 104, 119, 111, 114, 100, 47, 119, 97, 116, 99, 104, 119, 111, 114, 100, 108, 97, 119, 49, 48, 46, 82, 97, 110, 100, 111, 109, 70, 111, 114, 107, 115, 32, 119, 97, 116, 99, 104, 119, 111, 114, 100, 47, 119, 97, 116, 99, 104, 119, 111, 114, 100, 108, 97, 119, 49, 48, 46, 82, 97, 110, 100, 111, 109, 80, 108, 97, 121, 115, 32, 119, 97, 116, 99, 104, 119, 111, 114, 100, 47, 119, 97, 116, 99, 104, 119, 111, 114, 100, 108, 97, 119, 49, 48, 46, 82, 97, 110, 100, 111, 109, 78, 111, 110, 101] : List Nat).map Char.ofNat
theorem order_lit : Tryd.prog.initOrder = "harness 02ee1cd41ade2aafd659357ea985199c570eacd375a7181cbc938f781bd42361 cut at watchword/watchwordlaw04.ShaSums watchword/watchwordlaw04.ShaBlocks watchword/watchwordlaw04.ShaDivides watchword/watchwordlaw04.ShaWrites watchword/watchwordlaw04.ShaNone watchword/watchwordlaw05.MacSums watchword/watchwordlaw05.MacChecks watchword/watchwordlaw05.MacDivides watchword/watchwordlaw05.MacWrites watchword/watchwordlaw05.MacNone watchword/watchwordlaw08.DeriveKeys watchword/watchwordlaw08.DerivePasswords watchword/watchwordlaw08.DeriveAgain watchword/watchwordlaw08.DeriveBlocks watchword/watchwordlaw08.DerivePrefixes watchword/watchwordlaw10.RandomNumbers watchword/watchwordlaw10.RandomAgain watchword/watchwordlaw10.RandomForks watchword/watchwordlaw10.RandomPlays watchword/watchwordlaw10.RandomNone" := by kernel_rfl
theorem order_is : Tryd.prog.initOrder = String.ofList orderChars := order_lit.trans (by kernel_rfl)
theorem order_chars : Tryd.prog.initOrder.toList = orderChars := by rw [order_is]; exact String.toList_ofList
def cutW : List Char := ([99, 117, 116] : List Nat).map Char.ofNat
def restWords : List (List Char) := (behindMainWord (wordsSigns orderChars)).tail
theorem words_is : behindMainWord (wordsSigns orderChars) = cutW :: restWords := by kernel_rfl
theorem strip_is (r : List (List Char)) : stripLifts liftWords (cutW :: r) = ([], cutW :: r) := by kernel_rfl
theorem cutw_gc : (cutW == "gc".toList) = false := by decide +kernel
theorem cutw_spec : (cutW == "spec".toList) = false := by decide +kernel
theorem cutw_cut : (cutW == "cut".toList) = true := by decide +kernel
theorem cutw_cut' : cutW = "cut".toList := by decide +kernel
theorem cutw_carried : (cutW == "carried".toList) = false := by decide +kernel
theorem some_cut : (some cutW == some "cut".toList) = true := by decide +kernel
theorem some_carried : (some cutW == some "carried".toList) = false := by decide +kernel
section
variable (P : Program) (r : List (List Char)) (hw : behindMainWord (wordsSigns P.initOrder.toList) = cutW :: r)
include hw
theorem head_of : P.headLifts = [] := by
  unfold Program.headLifts
  simp only [hw, strip_is, List.head?_cons, some_cut, if_true]
theorem may_of (hl : P.laysLater = false) (hb : P.bearsReflect = false) (hd : P.doorFits [] = true) : P.mayEnter = true := by
  unfold Program.mayEnter
  simp only [hw, strip_is, cutw_gc, cutw_spec, cutw_carried, List.head?_cons, some_cut, hl, hb, hd, Bool.false_and, Bool.false_or, Bool.or_false, Bool.and_true, Bool.true_and, Bool.not_false, Bool.or_true]
  rfl
theorem final_of : P.liftsFinal = false := by
  unfold Program.liftsFinal
  simp only [hw, head_of P r hw, List.head?_cons, some_carried, Bool.false_and, Bool.false_or]
  rfl
theorem make_of : P.make = some .cut := by
  unfold Program.make
  simp only [hw, cutw_gc, cutw_spec, cutw_cut, Bool.or_self, Bool.false_eq_true, if_false, Bool.true_or, if_true]
end
theorem words_here : behindMainWord (wordsSigns Tryd.prog.initOrder.toList) = cutW :: restWords := by rw [order_chars]; exact words_is
theorem lays_not : Tryd.prog.laysLater = false := by kernel_rfl
theorem bears_not : Tryd.prog.bearsReflect = false := by kernel_rfl
theorem door_fits : Tryd.prog.doorFits [] = true := by kernel_rfl
theorem may_enter : Tryd.prog.mayEnter = true := may_of _ _ words_here lays_not bears_not door_fits
theorem lifts_final : Tryd.prog.liftsFinal = false := final_of _ _ words_here
theorem make_is : Tryd.prog.make = some .cut := make_of _ _ words_here
theorem head_lifts : Tryd.prog.headLifts = [] := head_of _ _ words_here
def harnW : List Char := "harness".toList
def sumW : List Char := "02ee1cd41ade2aafd659357ea985199c570eacd375a7181cbc938f781bd42361".toList
def restWords0 : List (List Char) := (wordsSigns orderChars).tail.tail
theorem words0 : wordsSigns orderChars = harnW :: sumW :: restWords0 := by kernel_rfl
theorem sum_ok : isSumSigns sumW = true := by kernel_rfl
theorem main_of (P : Program) (r : List (List Char)) (hw : wordsSigns P.initOrder.toList = harnW :: sumW :: r) : P.mainIs = some (true, "02ee1cd41ade2aafd659357ea985199c570eacd375a7181cbc938f781bd42361".toList) := by
  unfold Program.mainIs
  simp only [hw, sum_ok]
  rfl
theorem main_is : Tryd.prog.mainIs = some (true, "02ee1cd41ade2aafd659357ea985199c570eacd375a7181cbc938f781bd42361".toList) := main_of _ _ (by rw [order_chars]; exact words0)
def putCells (C : List Value) : Obj → Obj
  | .cells _ t frozen => .cells C.toArray t frozen
  | o => o
/-- A world that holds the listed tables. -/
noncomputable def laidWorld (os : Os) : World :=
  { World.holding Tryd.prog os ⟨#[], #[], []⟩ with heap := ((((World.holding Tryd.prog os ⟨#[], #[], []⟩).heap.modify 0 (putCells (h0.map Sy.v32))).modify 1 (putCells (kC.map Sy.v32))).modify 2 (putCells [.slice (some ⟨(World.holding Tryd.prog os ⟨#[], #[], []⟩).heap.size, 0, none⟩) 64 64])).push (.cells (kC.map Wd.vi).toArray 3) }
end Go.Proofs.YtcahnkdnhejkkaaDoor
