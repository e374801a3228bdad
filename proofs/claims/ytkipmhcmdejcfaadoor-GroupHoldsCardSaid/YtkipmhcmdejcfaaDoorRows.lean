/-
  NARROWER THAN 'FOR EVERY INPUT', by the rows' own cells (each row's printed sentence says how): NatReads: laid · NatInts: laid · NatDivides: laid · NatBits: laid · NatSums: laid · NatShifts: laid · NatProducts: laid · NatHolds: laid · ModularProducts: laid · ModularPowers: laid · ModularInverses: laid · ModularPrimes: laid · ModularSums: laid · ModularHolds: laid · ModularFermat: laid · GroupMembers: laid · GroupPowers: laid · GroupGives: laid · GroupHolds: laid.
  DERIVED. THE GIVEN ROWS OF THIS SEAT. 19 by the template 'for every input the law returns true; each argument reads behind the call as it read before'; 0 by the template 'total and deterministic' (their statements: YtkipmhcmdejcfaaDoorTotals.lean).
  GIVEN WITH THE SEED: the statements are not yours to turn. If you find one false, say at which input.
  Laid BY PROGRAM, IN A SANDBOX (cutbox-rows.mjs): the forced cells as the released guide's own fill.sh prints them over the translation 4673223e93830b6c… (all of the seat's roots in one cut). By AI agents, Wed Nov 11 2026. No macro, syntax, notation, axiom, sorry.
-/
import Derived.Test.YtkipmhcmdejcfaaDoorChecked
import GoSem.PinnedTables
import GoSem.Claim
import GoSem.ClaimJoined
import GoSem.ClaimMapViews
import Derived.JoinedTies
import Derived.KernelRfl
namespace Go.Proofs.YtkipmhcmdejcfaaDoor
/- THE CELL 'sum', in the pinned program and in every row, IS THE sha256 OF THE DUMP (.gsa) THAT YtkipmhcmdejcfaaDoorProg.lean LOADS. Nothing in Lean hashes anything: it is a label: what it is worth is what the hold of that sum in a sandbox is worth. -/
noncomputable def Tryd.pinned : Pinned := { name := "ytkipmhcmdejcfaadoor", sum := "4673223e93830b6c849e28787499486d41c1cfac1315b4ef3ae2d5586632989d", checked := Tryd.checked }
namespace Rows
def none {H : Type} : Left H := { results := [], args := [] }

/- WHAT THE LISTED PACKAGE-LEVEL VARIABLES READ AS WHEN THE CALL BEGINS. Each datum BY PROGRAM (the guide's laid-datum.mjs) off the statement by which the dump's own 'gosem.cut.vars' lays the variable. In a bare row this is a premise. The card (YtkipmhcmdejcfaaDoorCards.lean) ties it to the program's text. -/
def laid_unicode_utf8_acceptRanges {H : Type} : DataW H := .agg [.agg [.lit (.int .u8 128), .lit (.int .u8 191)], .agg [.lit (.int .u8 160), .lit (.int .u8 191)], .agg [.lit (.int .u8 128), .lit (.int .u8 159)], .agg [.lit (.int .u8 144), .lit (.int .u8 191)], .agg [.lit (.int .u8 128), .lit (.int .u8 143)], .agg [.lit (.int .u8 0), .lit (.int .u8 0)], .agg [.lit (.int .u8 0), .lit (.int .u8 0)], .agg [.lit (.int .u8 0), .lit (.int .u8 0)], .agg [.lit (.int .u8 0), .lit (.int .u8 0)], .agg [.lit (.int .u8 0), .lit (.int .u8 0)], .agg [.lit (.int .u8 0), .lit (.int .u8 0)], .agg [.lit (.int .u8 0), .lit (.int .u8 0)], .agg [.lit (.int .u8 0), .lit (.int .u8 0)], .agg [.lit (.int .u8 0), .lit (.int .u8 0)], .agg [.lit (.int .u8 0), .lit (.int .u8 0)], .agg [.lit (.int .u8 0), .lit (.int .u8 0)]]
/-- One of Go's own tables, pinned by name: the form's constant. -/
def laid_unicode_utf8_first : DataW Unit := Go.Pinned.utf8First
def laid_watchword_group_primes {H : Type} : DataW H := .agg [.lit (.string [98, 51, 102]), .lit (.string [52, 52, 56, 53, 56, 102, 102]), .lit (.string [57, 49, 98, 56, 56, 55, 102, 102]), .lit (.string [102, 102, 102, 102, 102, 102, 102, 102, 102, 102, 102, 102, 102, 102, 102, 102, 99, 57, 48, 102, 100, 97, 97, 50, 50, 49, 54, 56, 99, 50, 51, 52, 99, 52, 99, 54, 54, 50, 56, 98, 56, 48, 100, 99, 49, 99, 100, 49, 50, 57, 48, 50, 52, 101, 48, 56, 56, 97, 54, 55, 99, 99, 55, 52, 48, 50, 48, 98, 98, 101, 97, 54, 51, 98, 49, 51, 57, 98, 50, 50, 53, 49, 52, 97, 48, 56, 55, 57, 56, 101, 51, 52, 48, 52, 100, 100, 101, 102, 57, 53, 49, 57, 98, 51, 99, 100, 51, 97, 52, 51, 49, 98, 51, 48, 50, 98, 48, 97, 54, 100, 102, 50, 53, 102, 49, 52, 51, 55, 52, 102, 101, 49, 51, 53, 54, 100, 54, 100, 53, 49, 99, 50, 52, 53, 101, 52, 56, 53, 98, 53, 55, 54, 54, 50, 53, 101, 55, 101, 99, 54, 102, 52, 52, 99, 52, 50, 101, 57, 97, 54, 51, 97, 51, 54, 50, 48, 102, 102, 102, 102, 102, 102, 102, 102, 102, 102, 102, 102, 102, 102, 102, 102])]

/-- 'watchwordlaw01.NatReads': WHATEVER THE INPUT: true; the input reads as it did. -/
def natReadsSpec : ChangeSpec := { name := "natReads", fn := fun _ => fun
  | [d1, d2] => { results := [.lit (.bool true)], args := [d1, d2] }
  | _ => none }
def natReadsRow : OpenClaim := { program := "ytkipmhcmdejcfaadoor", sum := "4673223e93830b6c849e28787499486d41c1cfac1315b4ef3ae2d5586632989d", func := "watchword/watchwordlaw01.NatReads", spec := "natReads", inPlace := ["math/bits.Sub64", "math/bits.Add64"], unfollowed := true, recurses := true, named := ["unicode/utf8.first", "unicode/utf8.acceptRanges", "math/bits.divideError", "math/bits.overflowError"], apart := false, laid := [("unicode/utf8.acceptRanges", laid_unicode_utf8_acceptRanges), ("unicode/utf8.first", laid_unicode_utf8_first)] }
def NatReadsSaid : Prop := natReadsRow.holds Tryd.pinned (OpenSpec.ofChange natReadsSpec)

/-- ITS FALSE NEIGHBOUR: 'it returns false'. Refute it at one input. -/
def natReadsWrong : ChangeSpec := { name := "natReads", fn := fun _ => fun
  | [d1, d2] => { results := [.lit (.bool false)], args := [d1, d2] }
  | _ => none }
def NatReadsWrongFalsely : Prop := natReadsRow.holds Tryd.pinned (OpenSpec.ofChange natReadsWrong)

/-- 'watchwordlaw01.NatInts': WHATEVER THE INPUT: true; the input reads as it did. -/
def natIntsSpec : ChangeSpec := { name := "natInts", fn := fun _ => fun
  | [d1, d2] => { results := [.lit (.bool true)], args := [d1, d2] }
  | _ => none }
def natIntsRow : OpenClaim := { program := "ytkipmhcmdejcfaadoor", sum := "4673223e93830b6c849e28787499486d41c1cfac1315b4ef3ae2d5586632989d", func := "watchword/watchwordlaw01.NatInts", spec := "natInts", inPlace := ["math/bits.Sub64", "math/bits.Add64"], unfollowed := true, recurses := true, named := ["unicode/utf8.first", "unicode/utf8.acceptRanges", "math/bits.divideError", "math/bits.overflowError"], apart := false, laid := [("unicode/utf8.acceptRanges", laid_unicode_utf8_acceptRanges), ("unicode/utf8.first", laid_unicode_utf8_first)] }
def NatIntsSaid : Prop := natIntsRow.holds Tryd.pinned (OpenSpec.ofChange natIntsSpec)

/-- ITS FALSE NEIGHBOUR: 'it returns false'. Refute it at one input. -/
def natIntsWrong : ChangeSpec := { name := "natInts", fn := fun _ => fun
  | [d1, d2] => { results := [.lit (.bool false)], args := [d1, d2] }
  | _ => none }
def NatIntsWrongFalsely : Prop := natIntsRow.holds Tryd.pinned (OpenSpec.ofChange natIntsWrong)

/-- 'watchwordlaw01.NatDivides': WHATEVER THE INPUT: true; the input reads as it did. -/
def natDividesSpec : ChangeSpec := { name := "natDivides", fn := fun _ => fun
  | [d1, d2] => { results := [.lit (.bool true)], args := [d1, d2] }
  | _ => none }
def natDividesRow : OpenClaim := { program := "ytkipmhcmdejcfaadoor", sum := "4673223e93830b6c849e28787499486d41c1cfac1315b4ef3ae2d5586632989d", func := "watchword/watchwordlaw01.NatDivides", spec := "natDivides", inPlace := ["math/bits.Sub64", "math/bits.Add64"], unfollowed := true, recurses := true, named := ["unicode/utf8.first", "unicode/utf8.acceptRanges", "math/bits.divideError", "math/bits.overflowError"], apart := false, laid := [("unicode/utf8.acceptRanges", laid_unicode_utf8_acceptRanges), ("unicode/utf8.first", laid_unicode_utf8_first)] }
def NatDividesSaid : Prop := natDividesRow.holds Tryd.pinned (OpenSpec.ofChange natDividesSpec)

/-- ITS FALSE NEIGHBOUR: 'it returns false'. Refute it at one input. -/
def natDividesWrong : ChangeSpec := { name := "natDivides", fn := fun _ => fun
  | [d1, d2] => { results := [.lit (.bool false)], args := [d1, d2] }
  | _ => none }
def NatDividesWrongFalsely : Prop := natDividesRow.holds Tryd.pinned (OpenSpec.ofChange natDividesWrong)

/-- 'watchwordlaw01.NatBits': WHATEVER THE INPUT: true; the input reads as it did. -/
def natBitsSpec : ChangeSpec := { name := "natBits", fn := fun _ => fun
  | [d1, d2, d3] => { results := [.lit (.bool true)], args := [d1, d2, d3] }
  | _ => none }
def natBitsRow : OpenClaim := { program := "ytkipmhcmdejcfaadoor", sum := "4673223e93830b6c849e28787499486d41c1cfac1315b4ef3ae2d5586632989d", func := "watchword/watchwordlaw01.NatBits", spec := "natBits", inPlace := ["math/bits.Sub64", "math/bits.Add64"], unfollowed := true, recurses := true, named := ["unicode/utf8.first", "unicode/utf8.acceptRanges", "math/bits.divideError", "math/bits.overflowError"], apart := false, laid := [("unicode/utf8.acceptRanges", laid_unicode_utf8_acceptRanges), ("unicode/utf8.first", laid_unicode_utf8_first)] }
def NatBitsSaid : Prop := natBitsRow.holds Tryd.pinned (OpenSpec.ofChange natBitsSpec)

/-- ITS FALSE NEIGHBOUR: 'it returns false'. Refute it at one input. -/
def natBitsWrong : ChangeSpec := { name := "natBits", fn := fun _ => fun
  | [d1, d2, d3] => { results := [.lit (.bool false)], args := [d1, d2, d3] }
  | _ => none }
def NatBitsWrongFalsely : Prop := natBitsRow.holds Tryd.pinned (OpenSpec.ofChange natBitsWrong)

/-- 'watchwordlaw01.NatSums': WHATEVER THE INPUT: true; the input reads as it did. -/
def natSumsSpec : ChangeSpec := { name := "natSums", fn := fun _ => fun
  | [d1, d2] => { results := [.lit (.bool true)], args := [d1, d2] }
  | _ => none }
def natSumsRow : OpenClaim := { program := "ytkipmhcmdejcfaadoor", sum := "4673223e93830b6c849e28787499486d41c1cfac1315b4ef3ae2d5586632989d", func := "watchword/watchwordlaw01.NatSums", spec := "natSums", inPlace := ["math/bits.Sub64", "math/bits.Add64"], unfollowed := true, recurses := true, named := ["unicode/utf8.first", "unicode/utf8.acceptRanges", "math/bits.divideError", "math/bits.overflowError"], apart := false, laid := [("unicode/utf8.acceptRanges", laid_unicode_utf8_acceptRanges), ("unicode/utf8.first", laid_unicode_utf8_first)] }
def NatSumsSaid : Prop := natSumsRow.holds Tryd.pinned (OpenSpec.ofChange natSumsSpec)

/-- ITS FALSE NEIGHBOUR: 'it returns false'. Refute it at one input. -/
def natSumsWrong : ChangeSpec := { name := "natSums", fn := fun _ => fun
  | [d1, d2] => { results := [.lit (.bool false)], args := [d1, d2] }
  | _ => none }
def NatSumsWrongFalsely : Prop := natSumsRow.holds Tryd.pinned (OpenSpec.ofChange natSumsWrong)

/-- 'watchwordlaw01.NatShifts': WHATEVER THE INPUT: true; the input reads as it did. -/
def natShiftsSpec : ChangeSpec := { name := "natShifts", fn := fun _ => fun
  | [d1, d2] => { results := [.lit (.bool true)], args := [d1, d2] }
  | _ => none }
def natShiftsRow : OpenClaim := { program := "ytkipmhcmdejcfaadoor", sum := "4673223e93830b6c849e28787499486d41c1cfac1315b4ef3ae2d5586632989d", func := "watchword/watchwordlaw01.NatShifts", spec := "natShifts", inPlace := ["math/bits.Sub64", "math/bits.Add64"], unfollowed := true, recurses := true, named := ["unicode/utf8.first", "unicode/utf8.acceptRanges", "math/bits.divideError", "math/bits.overflowError"], apart := false, laid := [("unicode/utf8.acceptRanges", laid_unicode_utf8_acceptRanges), ("unicode/utf8.first", laid_unicode_utf8_first)] }
def NatShiftsSaid : Prop := natShiftsRow.holds Tryd.pinned (OpenSpec.ofChange natShiftsSpec)

/-- ITS FALSE NEIGHBOUR: 'it returns false'. Refute it at one input. -/
def natShiftsWrong : ChangeSpec := { name := "natShifts", fn := fun _ => fun
  | [d1, d2] => { results := [.lit (.bool false)], args := [d1, d2] }
  | _ => none }
def NatShiftsWrongFalsely : Prop := natShiftsRow.holds Tryd.pinned (OpenSpec.ofChange natShiftsWrong)

/-- 'watchwordlaw01.NatProducts': WHATEVER THE INPUT: true; the input reads as it did. -/
def natProductsSpec : ChangeSpec := { name := "natProducts", fn := fun _ => fun
  | [d1, d2] => { results := [.lit (.bool true)], args := [d1, d2] }
  | _ => none }
def natProductsRow : OpenClaim := { program := "ytkipmhcmdejcfaadoor", sum := "4673223e93830b6c849e28787499486d41c1cfac1315b4ef3ae2d5586632989d", func := "watchword/watchwordlaw01.NatProducts", spec := "natProducts", inPlace := ["math/bits.Sub64", "math/bits.Add64"], unfollowed := true, recurses := true, named := ["unicode/utf8.first", "unicode/utf8.acceptRanges", "math/bits.divideError", "math/bits.overflowError"], apart := false, laid := [("unicode/utf8.acceptRanges", laid_unicode_utf8_acceptRanges), ("unicode/utf8.first", laid_unicode_utf8_first)] }
def NatProductsSaid : Prop := natProductsRow.holds Tryd.pinned (OpenSpec.ofChange natProductsSpec)

/-- ITS FALSE NEIGHBOUR: 'it returns false'. Refute it at one input. -/
def natProductsWrong : ChangeSpec := { name := "natProducts", fn := fun _ => fun
  | [d1, d2] => { results := [.lit (.bool false)], args := [d1, d2] }
  | _ => none }
def NatProductsWrongFalsely : Prop := natProductsRow.holds Tryd.pinned (OpenSpec.ofChange natProductsWrong)

/-- 'watchwordlaw01.NatHolds': WHATEVER THE INPUT: true; the input reads as it did. -/
def natHoldsSpec : ChangeSpec := { name := "natHolds", fn := fun _ => fun
  | [d1, d2, d3] => { results := [.lit (.bool true)], args := [d1, d2, d3] }
  | _ => none }
def natHoldsRow : OpenClaim := { program := "ytkipmhcmdejcfaadoor", sum := "4673223e93830b6c849e28787499486d41c1cfac1315b4ef3ae2d5586632989d", func := "watchword/watchwordlaw01.NatHolds", spec := "natHolds", inPlace := ["math/bits.Sub64", "math/bits.Add64"], unfollowed := true, recurses := true, named := ["unicode/utf8.first", "unicode/utf8.acceptRanges", "math/bits.divideError", "math/bits.overflowError"], apart := false, laid := [("unicode/utf8.acceptRanges", laid_unicode_utf8_acceptRanges), ("unicode/utf8.first", laid_unicode_utf8_first)] }
def NatHoldsSaid : Prop := natHoldsRow.holds Tryd.pinned (OpenSpec.ofChange natHoldsSpec)

/-- ITS FALSE NEIGHBOUR: 'it returns false'. Refute it at one input. -/
def natHoldsWrong : ChangeSpec := { name := "natHolds", fn := fun _ => fun
  | [d1, d2, d3] => { results := [.lit (.bool false)], args := [d1, d2, d3] }
  | _ => none }
def NatHoldsWrongFalsely : Prop := natHoldsRow.holds Tryd.pinned (OpenSpec.ofChange natHoldsWrong)

/-- 'watchwordlaw02.ModularProducts': WHATEVER THE INPUT: true; the input reads as it did. -/
def modularProductsSpec : ChangeSpec := { name := "modularProducts", fn := fun _ => fun
  | [d1, d2, d3] => { results := [.lit (.bool true)], args := [d1, d2, d3] }
  | _ => none }
def modularProductsRow : OpenClaim := { program := "ytkipmhcmdejcfaadoor", sum := "4673223e93830b6c849e28787499486d41c1cfac1315b4ef3ae2d5586632989d", func := "watchword/watchwordlaw02.ModularProducts", spec := "modularProducts", inPlace := ["math/bits.Add64", "math/bits.Sub64"], unfollowed := true, recurses := true, named := ["math/bits.divideError", "math/bits.overflowError", "unicode/utf8.first", "unicode/utf8.acceptRanges"], apart := false, laid := [("unicode/utf8.acceptRanges", laid_unicode_utf8_acceptRanges), ("unicode/utf8.first", laid_unicode_utf8_first)] }
def ModularProductsSaid : Prop := modularProductsRow.holds Tryd.pinned (OpenSpec.ofChange modularProductsSpec)

/-- ITS FALSE NEIGHBOUR: 'it returns false'. Refute it at one input. -/
def modularProductsWrong : ChangeSpec := { name := "modularProducts", fn := fun _ => fun
  | [d1, d2, d3] => { results := [.lit (.bool false)], args := [d1, d2, d3] }
  | _ => none }
def ModularProductsWrongFalsely : Prop := modularProductsRow.holds Tryd.pinned (OpenSpec.ofChange modularProductsWrong)

/-- 'watchwordlaw02.ModularPowers': WHATEVER THE INPUT: true; the input reads as it did. -/
def modularPowersSpec : ChangeSpec := { name := "modularPowers", fn := fun _ => fun
  | [d1, d2, d3] => { results := [.lit (.bool true)], args := [d1, d2, d3] }
  | _ => none }
def modularPowersRow : OpenClaim := { program := "ytkipmhcmdejcfaadoor", sum := "4673223e93830b6c849e28787499486d41c1cfac1315b4ef3ae2d5586632989d", func := "watchword/watchwordlaw02.ModularPowers", spec := "modularPowers", inPlace := ["math/bits.Add64", "math/bits.Sub64"], unfollowed := true, recurses := true, named := ["math/bits.divideError", "math/bits.overflowError", "unicode/utf8.first", "unicode/utf8.acceptRanges"], apart := false, laid := [("unicode/utf8.acceptRanges", laid_unicode_utf8_acceptRanges), ("unicode/utf8.first", laid_unicode_utf8_first)] }
def ModularPowersSaid : Prop := modularPowersRow.holds Tryd.pinned (OpenSpec.ofChange modularPowersSpec)

/-- ITS FALSE NEIGHBOUR: 'it returns false'. Refute it at one input. -/
def modularPowersWrong : ChangeSpec := { name := "modularPowers", fn := fun _ => fun
  | [d1, d2, d3] => { results := [.lit (.bool false)], args := [d1, d2, d3] }
  | _ => none }
def ModularPowersWrongFalsely : Prop := modularPowersRow.holds Tryd.pinned (OpenSpec.ofChange modularPowersWrong)

/-- 'watchwordlaw02.ModularInverses': WHATEVER THE INPUT: true; the input reads as it did. -/
def modularInversesSpec : ChangeSpec := { name := "modularInverses", fn := fun _ => fun
  | [d1, d2] => { results := [.lit (.bool true)], args := [d1, d2] }
  | _ => none }
def modularInversesRow : OpenClaim := { program := "ytkipmhcmdejcfaadoor", sum := "4673223e93830b6c849e28787499486d41c1cfac1315b4ef3ae2d5586632989d", func := "watchword/watchwordlaw02.ModularInverses", spec := "modularInverses", inPlace := ["math/bits.Add64", "math/bits.Sub64"], unfollowed := true, recurses := true, named := ["math/bits.divideError", "math/bits.overflowError", "unicode/utf8.first", "unicode/utf8.acceptRanges"], apart := false, laid := [("unicode/utf8.acceptRanges", laid_unicode_utf8_acceptRanges), ("unicode/utf8.first", laid_unicode_utf8_first)] }
def ModularInversesSaid : Prop := modularInversesRow.holds Tryd.pinned (OpenSpec.ofChange modularInversesSpec)

/-- ITS FALSE NEIGHBOUR: 'it returns false'. Refute it at one input. -/
def modularInversesWrong : ChangeSpec := { name := "modularInverses", fn := fun _ => fun
  | [d1, d2] => { results := [.lit (.bool false)], args := [d1, d2] }
  | _ => none }
def ModularInversesWrongFalsely : Prop := modularInversesRow.holds Tryd.pinned (OpenSpec.ofChange modularInversesWrong)

/-- 'watchwordlaw02.ModularPrimes': WHATEVER THE INPUT: true; the input reads as it did. -/
def modularPrimesSpec : ChangeSpec := { name := "modularPrimes", fn := fun _ => fun
  | [d1, d2] => { results := [.lit (.bool true)], args := [d1, d2] }
  | _ => none }
def modularPrimesRow : OpenClaim := { program := "ytkipmhcmdejcfaadoor", sum := "4673223e93830b6c849e28787499486d41c1cfac1315b4ef3ae2d5586632989d", func := "watchword/watchwordlaw02.ModularPrimes", spec := "modularPrimes", inPlace := ["math/bits.Add64", "math/bits.Sub64"], unfollowed := true, recurses := true, named := ["math/bits.divideError", "math/bits.overflowError", "unicode/utf8.first", "unicode/utf8.acceptRanges"], apart := false, laid := [("unicode/utf8.acceptRanges", laid_unicode_utf8_acceptRanges), ("unicode/utf8.first", laid_unicode_utf8_first)] }
def ModularPrimesSaid : Prop := modularPrimesRow.holds Tryd.pinned (OpenSpec.ofChange modularPrimesSpec)

/-- ITS FALSE NEIGHBOUR: 'it returns false'. Refute it at one input. -/
def modularPrimesWrong : ChangeSpec := { name := "modularPrimes", fn := fun _ => fun
  | [d1, d2] => { results := [.lit (.bool false)], args := [d1, d2] }
  | _ => none }
def ModularPrimesWrongFalsely : Prop := modularPrimesRow.holds Tryd.pinned (OpenSpec.ofChange modularPrimesWrong)

/-- 'watchwordlaw02.ModularSums': WHATEVER THE INPUT: true; the input reads as it did. -/
def modularSumsSpec : ChangeSpec := { name := "modularSums", fn := fun _ => fun
  | [d1, d2, d3] => { results := [.lit (.bool true)], args := [d1, d2, d3] }
  | _ => none }
def modularSumsRow : OpenClaim := { program := "ytkipmhcmdejcfaadoor", sum := "4673223e93830b6c849e28787499486d41c1cfac1315b4ef3ae2d5586632989d", func := "watchword/watchwordlaw02.ModularSums", spec := "modularSums", inPlace := ["math/bits.Add64", "math/bits.Sub64"], unfollowed := true, recurses := true, named := ["math/bits.divideError", "math/bits.overflowError", "unicode/utf8.first", "unicode/utf8.acceptRanges"], apart := false, laid := [("unicode/utf8.acceptRanges", laid_unicode_utf8_acceptRanges), ("unicode/utf8.first", laid_unicode_utf8_first)] }
def ModularSumsSaid : Prop := modularSumsRow.holds Tryd.pinned (OpenSpec.ofChange modularSumsSpec)

/-- ITS FALSE NEIGHBOUR: 'it returns false'. Refute it at one input. -/
def modularSumsWrong : ChangeSpec := { name := "modularSums", fn := fun _ => fun
  | [d1, d2, d3] => { results := [.lit (.bool false)], args := [d1, d2, d3] }
  | _ => none }
def ModularSumsWrongFalsely : Prop := modularSumsRow.holds Tryd.pinned (OpenSpec.ofChange modularSumsWrong)

/-- 'watchwordlaw02.ModularHolds': WHATEVER THE INPUT: true; the input reads as it did. -/
def modularHoldsSpec : ChangeSpec := { name := "modularHolds", fn := fun _ => fun
  | [d1, d2, d3, d4, d5, d6] => { results := [.lit (.bool true)], args := [d1, d2, d3, d4, d5, d6] }
  | _ => none }
def modularHoldsRow : OpenClaim := { program := "ytkipmhcmdejcfaadoor", sum := "4673223e93830b6c849e28787499486d41c1cfac1315b4ef3ae2d5586632989d", func := "watchword/watchwordlaw02.ModularHolds", spec := "modularHolds", inPlace := ["math/bits.Add64", "math/bits.Sub64"], unfollowed := true, recurses := true, named := ["unicode/utf8.first", "unicode/utf8.acceptRanges", "math/bits.divideError", "math/bits.overflowError"], apart := false, laid := [("unicode/utf8.acceptRanges", laid_unicode_utf8_acceptRanges), ("unicode/utf8.first", laid_unicode_utf8_first)] }
def ModularHoldsSaid : Prop := modularHoldsRow.holds Tryd.pinned (OpenSpec.ofChange modularHoldsSpec)

/-- ITS FALSE NEIGHBOUR: 'it returns false'. Refute it at one input. -/
def modularHoldsWrong : ChangeSpec := { name := "modularHolds", fn := fun _ => fun
  | [d1, d2, d3, d4, d5, d6] => { results := [.lit (.bool false)], args := [d1, d2, d3, d4, d5, d6] }
  | _ => none }
def ModularHoldsWrongFalsely : Prop := modularHoldsRow.holds Tryd.pinned (OpenSpec.ofChange modularHoldsWrong)

/-- 'watchwordlaw02.ModularFermat': WHATEVER THE INPUT: true; the input reads as it did. -/
def modularFermatSpec : ChangeSpec := { name := "modularFermat", fn := fun _ => fun
  | [d1, d2, d3] => { results := [.lit (.bool true)], args := [d1, d2, d3] }
  | _ => none }
def modularFermatRow : OpenClaim := { program := "ytkipmhcmdejcfaadoor", sum := "4673223e93830b6c849e28787499486d41c1cfac1315b4ef3ae2d5586632989d", func := "watchword/watchwordlaw02.ModularFermat", spec := "modularFermat", inPlace := ["math/bits.Add64", "math/bits.Sub64"], unfollowed := true, recurses := true, named := ["math/bits.divideError", "math/bits.overflowError", "unicode/utf8.first", "unicode/utf8.acceptRanges"], apart := false, laid := [("unicode/utf8.acceptRanges", laid_unicode_utf8_acceptRanges), ("unicode/utf8.first", laid_unicode_utf8_first)] }
def ModularFermatSaid : Prop := modularFermatRow.holds Tryd.pinned (OpenSpec.ofChange modularFermatSpec)

/-- ITS FALSE NEIGHBOUR: 'it returns false'. Refute it at one input. -/
def modularFermatWrong : ChangeSpec := { name := "modularFermat", fn := fun _ => fun
  | [d1, d2, d3] => { results := [.lit (.bool false)], args := [d1, d2, d3] }
  | _ => none }
def ModularFermatWrongFalsely : Prop := modularFermatRow.holds Tryd.pinned (OpenSpec.ofChange modularFermatWrong)

/-- 'watchwordlaw03.GroupMembers': WHATEVER THE INPUT: true; the input reads as it did. -/
def groupMembersSpec : ChangeSpec := { name := "groupMembers", fn := fun _ => fun
  | [d1, d2] => { results := [.lit (.bool true)], args := [d1, d2] }
  | _ => none }
def groupMembersRow : OpenClaim := { program := "ytkipmhcmdejcfaadoor", sum := "4673223e93830b6c849e28787499486d41c1cfac1315b4ef3ae2d5586632989d", func := "watchword/watchwordlaw03.GroupMembers", spec := "groupMembers", inPlace := ["math/bits.Add64", "math/bits.Sub64"], unfollowed := true, recurses := true, named := ["watchword/group.primes", "math/bits.divideError", "math/bits.overflowError", "unicode/utf8.first", "unicode/utf8.acceptRanges"], apart := false, laid := [("unicode/utf8.acceptRanges", laid_unicode_utf8_acceptRanges), ("watchword/group.primes", laid_watchword_group_primes), ("unicode/utf8.first", laid_unicode_utf8_first)] }
def GroupMembersSaid : Prop := groupMembersRow.holds Tryd.pinned (OpenSpec.ofChange groupMembersSpec)

/-- ITS FALSE NEIGHBOUR: 'it returns false'. Refute it at one input. -/
def groupMembersWrong : ChangeSpec := { name := "groupMembers", fn := fun _ => fun
  | [d1, d2] => { results := [.lit (.bool false)], args := [d1, d2] }
  | _ => none }
def GroupMembersWrongFalsely : Prop := groupMembersRow.holds Tryd.pinned (OpenSpec.ofChange groupMembersWrong)

/-- 'watchwordlaw03.GroupPowers': WHATEVER THE INPUT: true; the input reads as it did. -/
def groupPowersSpec : ChangeSpec := { name := "groupPowers", fn := fun _ => fun
  | [d1, d2, d3] => { results := [.lit (.bool true)], args := [d1, d2, d3] }
  | _ => none }
def groupPowersRow : OpenClaim := { program := "ytkipmhcmdejcfaadoor", sum := "4673223e93830b6c849e28787499486d41c1cfac1315b4ef3ae2d5586632989d", func := "watchword/watchwordlaw03.GroupPowers", spec := "groupPowers", inPlace := ["math/bits.Add64", "math/bits.Sub64"], unfollowed := true, recurses := true, named := ["watchword/group.primes", "math/bits.divideError", "math/bits.overflowError", "unicode/utf8.first", "unicode/utf8.acceptRanges"], apart := false, laid := [("unicode/utf8.acceptRanges", laid_unicode_utf8_acceptRanges), ("watchword/group.primes", laid_watchword_group_primes), ("unicode/utf8.first", laid_unicode_utf8_first)] }
def GroupPowersSaid : Prop := groupPowersRow.holds Tryd.pinned (OpenSpec.ofChange groupPowersSpec)

/-- ITS FALSE NEIGHBOUR: 'it returns false'. Refute it at one input. -/
def groupPowersWrong : ChangeSpec := { name := "groupPowers", fn := fun _ => fun
  | [d1, d2, d3] => { results := [.lit (.bool false)], args := [d1, d2, d3] }
  | _ => none }
def GroupPowersWrongFalsely : Prop := groupPowersRow.holds Tryd.pinned (OpenSpec.ofChange groupPowersWrong)

/-- 'watchwordlaw03.GroupGives': WHATEVER THE INPUT: true; the input reads as it did. -/
def groupGivesSpec : ChangeSpec := { name := "groupGives", fn := fun _ => fun
  | [d1, d2] => { results := [.lit (.bool true)], args := [d1, d2] }
  | _ => none }
def groupGivesRow : OpenClaim := { program := "ytkipmhcmdejcfaadoor", sum := "4673223e93830b6c849e28787499486d41c1cfac1315b4ef3ae2d5586632989d", func := "watchword/watchwordlaw03.GroupGives", spec := "groupGives", inPlace := ["math/bits.Add64", "math/bits.Sub64"], unfollowed := true, recurses := true, named := ["watchword/group.primes", "math/bits.divideError", "math/bits.overflowError", "unicode/utf8.first", "unicode/utf8.acceptRanges"], apart := false, laid := [("unicode/utf8.acceptRanges", laid_unicode_utf8_acceptRanges), ("watchword/group.primes", laid_watchword_group_primes), ("unicode/utf8.first", laid_unicode_utf8_first)] }
def GroupGivesSaid : Prop := groupGivesRow.holds Tryd.pinned (OpenSpec.ofChange groupGivesSpec)

/-- ITS FALSE NEIGHBOUR: 'it returns false'. Refute it at one input. -/
def groupGivesWrong : ChangeSpec := { name := "groupGives", fn := fun _ => fun
  | [d1, d2] => { results := [.lit (.bool false)], args := [d1, d2] }
  | _ => none }
def GroupGivesWrongFalsely : Prop := groupGivesRow.holds Tryd.pinned (OpenSpec.ofChange groupGivesWrong)

/-- 'watchwordlaw03.GroupHolds': WHATEVER THE INPUT: true; the input reads as it did. -/
def groupHoldsSpec : ChangeSpec := { name := "groupHolds", fn := fun _ => fun
  | [d1, d2, d3] => { results := [.lit (.bool true)], args := [d1, d2, d3] }
  | _ => none }
def groupHoldsRow : OpenClaim := { program := "ytkipmhcmdejcfaadoor", sum := "4673223e93830b6c849e28787499486d41c1cfac1315b4ef3ae2d5586632989d", func := "watchword/watchwordlaw03.GroupHolds", spec := "groupHolds", inPlace := ["math/bits.Add64", "math/bits.Sub64"], unfollowed := true, recurses := true, named := ["watchword/group.primes", "math/bits.divideError", "math/bits.overflowError", "unicode/utf8.first", "unicode/utf8.acceptRanges"], apart := false, laid := [("unicode/utf8.acceptRanges", laid_unicode_utf8_acceptRanges), ("watchword/group.primes", laid_watchword_group_primes), ("unicode/utf8.first", laid_unicode_utf8_first)] }
def GroupHoldsSaid : Prop := groupHoldsRow.holds Tryd.pinned (OpenSpec.ofChange groupHoldsSpec)

/-- ITS FALSE NEIGHBOUR: 'it returns false'. Refute it at one input. -/
def groupHoldsWrong : ChangeSpec := { name := "groupHolds", fn := fun _ => fun
  | [d1, d2, d3] => { results := [.lit (.bool false)], args := [d1, d2, d3] }
  | _ => none }
def GroupHoldsWrongFalsely : Prop := groupHoldsRow.holds Tryd.pinned (OpenSpec.ofChange groupHoldsWrong)

/- THE SECOND FORM. 'bulk': how many values and letters a reading holds, each counted each time it is reached (what is shared counts as often as it is met; a slice's spare places count too). A statement '..UptoSaid' is the law's where the arguments, and the package variables that the reading takes, are together of bulk at most 1048576: NARROWER than '..Said'. Prove '..Said' where nothing that the law and all that it calls make is longer than what came in: it says more and counts as full. Else prove '..UptoSaid'. A law counts once. -/
mutual
def uptoBulk {H : Type} : DataW H → Nat
  | .lit (.string bytes) => bytes.length + 1
  | .lit _ => 1
  | .nil => 1
  | .ptr d => uptoBulk d + 1
  | .slice elems spare => uptoBulkAll elems + uptoBulkAll spare + 1
  | .agg parts => uptoBulkAll parts + 1
  | .iface _ d => uptoBulk d + 1
  | .map entries => uptoBulkEntries entries + 1
  | .held _ => 1
def uptoBulkAll {H : Type} : List (DataW H) → Nat
  | [] => 0
  | d :: r => uptoBulk d + uptoBulkAll r
def uptoBulkEntries {H : Type} : List (Lit × DataW H) → Nat
  | [] => 0
  | x :: r => uptoBulkEntry x + uptoBulkEntries r
def uptoBulkEntry {H : Type} : Lit × DataW H → Nat
  | (.string bytes, d) => bytes.length + uptoBulk d + 1
  | (_, d) => uptoBulk d + 1
 end
def uptoSmall : (H : Type) → List (DataW H) → Bool := fun _ ds => decide (uptoBulkAll ds ≤ 1048576)
def OpenSpec.upto (s : _root_.Go.ChangeSpec) : _root_.Go.OpenSpec := { _root_.Go.OpenSpec.ofChange s with cond := some uptoSmall }

/-- 'watchwordlaw01.NatReads', WHERE WHAT IT READS IS OF BULK AT MOST 1048576: true; the input reads as it did. -/
def natReadsUptoRow : OpenClaim := { program := "ytkipmhcmdejcfaadoor", sum := "4673223e93830b6c849e28787499486d41c1cfac1315b4ef3ae2d5586632989d", func := "watchword/watchwordlaw01.NatReads", spec := "natReads", inPlace := ["math/bits.Sub64", "math/bits.Add64"], unfollowed := true, recurses := true, named := ["unicode/utf8.first", "unicode/utf8.acceptRanges", "math/bits.divideError", "math/bits.overflowError"], apart := false, laid := [("unicode/utf8.acceptRanges", laid_unicode_utf8_acceptRanges), ("unicode/utf8.first", laid_unicode_utf8_first)], narrowed := true }
def NatReadsUptoSaid : Prop := natReadsUptoRow.holds Tryd.pinned (OpenSpec.upto natReadsSpec)

/-- 'watchwordlaw01.NatInts', WHERE WHAT IT READS IS OF BULK AT MOST 1048576: true; the input reads as it did. -/
def natIntsUptoRow : OpenClaim := { program := "ytkipmhcmdejcfaadoor", sum := "4673223e93830b6c849e28787499486d41c1cfac1315b4ef3ae2d5586632989d", func := "watchword/watchwordlaw01.NatInts", spec := "natInts", inPlace := ["math/bits.Sub64", "math/bits.Add64"], unfollowed := true, recurses := true, named := ["unicode/utf8.first", "unicode/utf8.acceptRanges", "math/bits.divideError", "math/bits.overflowError"], apart := false, laid := [("unicode/utf8.acceptRanges", laid_unicode_utf8_acceptRanges), ("unicode/utf8.first", laid_unicode_utf8_first)], narrowed := true }
def NatIntsUptoSaid : Prop := natIntsUptoRow.holds Tryd.pinned (OpenSpec.upto natIntsSpec)

/-- 'watchwordlaw01.NatDivides', WHERE WHAT IT READS IS OF BULK AT MOST 1048576: true; the input reads as it did. -/
def natDividesUptoRow : OpenClaim := { program := "ytkipmhcmdejcfaadoor", sum := "4673223e93830b6c849e28787499486d41c1cfac1315b4ef3ae2d5586632989d", func := "watchword/watchwordlaw01.NatDivides", spec := "natDivides", inPlace := ["math/bits.Sub64", "math/bits.Add64"], unfollowed := true, recurses := true, named := ["unicode/utf8.first", "unicode/utf8.acceptRanges", "math/bits.divideError", "math/bits.overflowError"], apart := false, laid := [("unicode/utf8.acceptRanges", laid_unicode_utf8_acceptRanges), ("unicode/utf8.first", laid_unicode_utf8_first)], narrowed := true }
def NatDividesUptoSaid : Prop := natDividesUptoRow.holds Tryd.pinned (OpenSpec.upto natDividesSpec)

/-- 'watchwordlaw01.NatBits', WHERE WHAT IT READS IS OF BULK AT MOST 1048576: true; the input reads as it did. -/
def natBitsUptoRow : OpenClaim := { program := "ytkipmhcmdejcfaadoor", sum := "4673223e93830b6c849e28787499486d41c1cfac1315b4ef3ae2d5586632989d", func := "watchword/watchwordlaw01.NatBits", spec := "natBits", inPlace := ["math/bits.Sub64", "math/bits.Add64"], unfollowed := true, recurses := true, named := ["unicode/utf8.first", "unicode/utf8.acceptRanges", "math/bits.divideError", "math/bits.overflowError"], apart := false, laid := [("unicode/utf8.acceptRanges", laid_unicode_utf8_acceptRanges), ("unicode/utf8.first", laid_unicode_utf8_first)], narrowed := true }
def NatBitsUptoSaid : Prop := natBitsUptoRow.holds Tryd.pinned (OpenSpec.upto natBitsSpec)

/-- 'watchwordlaw01.NatSums', WHERE WHAT IT READS IS OF BULK AT MOST 1048576: true; the input reads as it did. -/
def natSumsUptoRow : OpenClaim := { program := "ytkipmhcmdejcfaadoor", sum := "4673223e93830b6c849e28787499486d41c1cfac1315b4ef3ae2d5586632989d", func := "watchword/watchwordlaw01.NatSums", spec := "natSums", inPlace := ["math/bits.Sub64", "math/bits.Add64"], unfollowed := true, recurses := true, named := ["unicode/utf8.first", "unicode/utf8.acceptRanges", "math/bits.divideError", "math/bits.overflowError"], apart := false, laid := [("unicode/utf8.acceptRanges", laid_unicode_utf8_acceptRanges), ("unicode/utf8.first", laid_unicode_utf8_first)], narrowed := true }
def NatSumsUptoSaid : Prop := natSumsUptoRow.holds Tryd.pinned (OpenSpec.upto natSumsSpec)

/-- 'watchwordlaw01.NatShifts', WHERE WHAT IT READS IS OF BULK AT MOST 1048576: true; the input reads as it did. -/
def natShiftsUptoRow : OpenClaim := { program := "ytkipmhcmdejcfaadoor", sum := "4673223e93830b6c849e28787499486d41c1cfac1315b4ef3ae2d5586632989d", func := "watchword/watchwordlaw01.NatShifts", spec := "natShifts", inPlace := ["math/bits.Sub64", "math/bits.Add64"], unfollowed := true, recurses := true, named := ["unicode/utf8.first", "unicode/utf8.acceptRanges", "math/bits.divideError", "math/bits.overflowError"], apart := false, laid := [("unicode/utf8.acceptRanges", laid_unicode_utf8_acceptRanges), ("unicode/utf8.first", laid_unicode_utf8_first)], narrowed := true }
def NatShiftsUptoSaid : Prop := natShiftsUptoRow.holds Tryd.pinned (OpenSpec.upto natShiftsSpec)

/-- 'watchwordlaw01.NatProducts', WHERE WHAT IT READS IS OF BULK AT MOST 1048576: true; the input reads as it did. -/
def natProductsUptoRow : OpenClaim := { program := "ytkipmhcmdejcfaadoor", sum := "4673223e93830b6c849e28787499486d41c1cfac1315b4ef3ae2d5586632989d", func := "watchword/watchwordlaw01.NatProducts", spec := "natProducts", inPlace := ["math/bits.Sub64", "math/bits.Add64"], unfollowed := true, recurses := true, named := ["unicode/utf8.first", "unicode/utf8.acceptRanges", "math/bits.divideError", "math/bits.overflowError"], apart := false, laid := [("unicode/utf8.acceptRanges", laid_unicode_utf8_acceptRanges), ("unicode/utf8.first", laid_unicode_utf8_first)], narrowed := true }
def NatProductsUptoSaid : Prop := natProductsUptoRow.holds Tryd.pinned (OpenSpec.upto natProductsSpec)

/-- 'watchwordlaw01.NatHolds', WHERE WHAT IT READS IS OF BULK AT MOST 1048576: true; the input reads as it did. -/
def natHoldsUptoRow : OpenClaim := { program := "ytkipmhcmdejcfaadoor", sum := "4673223e93830b6c849e28787499486d41c1cfac1315b4ef3ae2d5586632989d", func := "watchword/watchwordlaw01.NatHolds", spec := "natHolds", inPlace := ["math/bits.Sub64", "math/bits.Add64"], unfollowed := true, recurses := true, named := ["unicode/utf8.first", "unicode/utf8.acceptRanges", "math/bits.divideError", "math/bits.overflowError"], apart := false, laid := [("unicode/utf8.acceptRanges", laid_unicode_utf8_acceptRanges), ("unicode/utf8.first", laid_unicode_utf8_first)], narrowed := true }
def NatHoldsUptoSaid : Prop := natHoldsUptoRow.holds Tryd.pinned (OpenSpec.upto natHoldsSpec)

/-- 'watchwordlaw02.ModularProducts', WHERE WHAT IT READS IS OF BULK AT MOST 1048576: true; the input reads as it did. -/
def modularProductsUptoRow : OpenClaim := { program := "ytkipmhcmdejcfaadoor", sum := "4673223e93830b6c849e28787499486d41c1cfac1315b4ef3ae2d5586632989d", func := "watchword/watchwordlaw02.ModularProducts", spec := "modularProducts", inPlace := ["math/bits.Add64", "math/bits.Sub64"], unfollowed := true, recurses := true, named := ["math/bits.divideError", "math/bits.overflowError", "unicode/utf8.first", "unicode/utf8.acceptRanges"], apart := false, laid := [("unicode/utf8.acceptRanges", laid_unicode_utf8_acceptRanges), ("unicode/utf8.first", laid_unicode_utf8_first)], narrowed := true }
def ModularProductsUptoSaid : Prop := modularProductsUptoRow.holds Tryd.pinned (OpenSpec.upto modularProductsSpec)

/-- 'watchwordlaw02.ModularPowers', WHERE WHAT IT READS IS OF BULK AT MOST 1048576: true; the input reads as it did. -/
def modularPowersUptoRow : OpenClaim := { program := "ytkipmhcmdejcfaadoor", sum := "4673223e93830b6c849e28787499486d41c1cfac1315b4ef3ae2d5586632989d", func := "watchword/watchwordlaw02.ModularPowers", spec := "modularPowers", inPlace := ["math/bits.Add64", "math/bits.Sub64"], unfollowed := true, recurses := true, named := ["math/bits.divideError", "math/bits.overflowError", "unicode/utf8.first", "unicode/utf8.acceptRanges"], apart := false, laid := [("unicode/utf8.acceptRanges", laid_unicode_utf8_acceptRanges), ("unicode/utf8.first", laid_unicode_utf8_first)], narrowed := true }
def ModularPowersUptoSaid : Prop := modularPowersUptoRow.holds Tryd.pinned (OpenSpec.upto modularPowersSpec)

/-- 'watchwordlaw02.ModularInverses', WHERE WHAT IT READS IS OF BULK AT MOST 1048576: true; the input reads as it did. -/
def modularInversesUptoRow : OpenClaim := { program := "ytkipmhcmdejcfaadoor", sum := "4673223e93830b6c849e28787499486d41c1cfac1315b4ef3ae2d5586632989d", func := "watchword/watchwordlaw02.ModularInverses", spec := "modularInverses", inPlace := ["math/bits.Add64", "math/bits.Sub64"], unfollowed := true, recurses := true, named := ["math/bits.divideError", "math/bits.overflowError", "unicode/utf8.first", "unicode/utf8.acceptRanges"], apart := false, laid := [("unicode/utf8.acceptRanges", laid_unicode_utf8_acceptRanges), ("unicode/utf8.first", laid_unicode_utf8_first)], narrowed := true }
def ModularInversesUptoSaid : Prop := modularInversesUptoRow.holds Tryd.pinned (OpenSpec.upto modularInversesSpec)

/-- 'watchwordlaw02.ModularPrimes', WHERE WHAT IT READS IS OF BULK AT MOST 1048576: true; the input reads as it did. -/
def modularPrimesUptoRow : OpenClaim := { program := "ytkipmhcmdejcfaadoor", sum := "4673223e93830b6c849e28787499486d41c1cfac1315b4ef3ae2d5586632989d", func := "watchword/watchwordlaw02.ModularPrimes", spec := "modularPrimes", inPlace := ["math/bits.Add64", "math/bits.Sub64"], unfollowed := true, recurses := true, named := ["math/bits.divideError", "math/bits.overflowError", "unicode/utf8.first", "unicode/utf8.acceptRanges"], apart := false, laid := [("unicode/utf8.acceptRanges", laid_unicode_utf8_acceptRanges), ("unicode/utf8.first", laid_unicode_utf8_first)], narrowed := true }
def ModularPrimesUptoSaid : Prop := modularPrimesUptoRow.holds Tryd.pinned (OpenSpec.upto modularPrimesSpec)

/-- 'watchwordlaw02.ModularSums', WHERE WHAT IT READS IS OF BULK AT MOST 1048576: true; the input reads as it did. -/
def modularSumsUptoRow : OpenClaim := { program := "ytkipmhcmdejcfaadoor", sum := "4673223e93830b6c849e28787499486d41c1cfac1315b4ef3ae2d5586632989d", func := "watchword/watchwordlaw02.ModularSums", spec := "modularSums", inPlace := ["math/bits.Add64", "math/bits.Sub64"], unfollowed := true, recurses := true, named := ["math/bits.divideError", "math/bits.overflowError", "unicode/utf8.first", "unicode/utf8.acceptRanges"], apart := false, laid := [("unicode/utf8.acceptRanges", laid_unicode_utf8_acceptRanges), ("unicode/utf8.first", laid_unicode_utf8_first)], narrowed := true }
def ModularSumsUptoSaid : Prop := modularSumsUptoRow.holds Tryd.pinned (OpenSpec.upto modularSumsSpec)

/-- 'watchwordlaw02.ModularHolds', WHERE WHAT IT READS IS OF BULK AT MOST 1048576: true; the input reads as it did. -/
def modularHoldsUptoRow : OpenClaim := { program := "ytkipmhcmdejcfaadoor", sum := "4673223e93830b6c849e28787499486d41c1cfac1315b4ef3ae2d5586632989d", func := "watchword/watchwordlaw02.ModularHolds", spec := "modularHolds", inPlace := ["math/bits.Add64", "math/bits.Sub64"], unfollowed := true, recurses := true, named := ["unicode/utf8.first", "unicode/utf8.acceptRanges", "math/bits.divideError", "math/bits.overflowError"], apart := false, laid := [("unicode/utf8.acceptRanges", laid_unicode_utf8_acceptRanges), ("unicode/utf8.first", laid_unicode_utf8_first)], narrowed := true }
def ModularHoldsUptoSaid : Prop := modularHoldsUptoRow.holds Tryd.pinned (OpenSpec.upto modularHoldsSpec)

/-- 'watchwordlaw02.ModularFermat', WHERE WHAT IT READS IS OF BULK AT MOST 1048576: true; the input reads as it did. -/
def modularFermatUptoRow : OpenClaim := { program := "ytkipmhcmdejcfaadoor", sum := "4673223e93830b6c849e28787499486d41c1cfac1315b4ef3ae2d5586632989d", func := "watchword/watchwordlaw02.ModularFermat", spec := "modularFermat", inPlace := ["math/bits.Add64", "math/bits.Sub64"], unfollowed := true, recurses := true, named := ["math/bits.divideError", "math/bits.overflowError", "unicode/utf8.first", "unicode/utf8.acceptRanges"], apart := false, laid := [("unicode/utf8.acceptRanges", laid_unicode_utf8_acceptRanges), ("unicode/utf8.first", laid_unicode_utf8_first)], narrowed := true }
def ModularFermatUptoSaid : Prop := modularFermatUptoRow.holds Tryd.pinned (OpenSpec.upto modularFermatSpec)

/-- 'watchwordlaw03.GroupMembers', WHERE WHAT IT READS IS OF BULK AT MOST 1048576: true; the input reads as it did. -/
def groupMembersUptoRow : OpenClaim := { program := "ytkipmhcmdejcfaadoor", sum := "4673223e93830b6c849e28787499486d41c1cfac1315b4ef3ae2d5586632989d", func := "watchword/watchwordlaw03.GroupMembers", spec := "groupMembers", inPlace := ["math/bits.Add64", "math/bits.Sub64"], unfollowed := true, recurses := true, named := ["watchword/group.primes", "math/bits.divideError", "math/bits.overflowError", "unicode/utf8.first", "unicode/utf8.acceptRanges"], apart := false, laid := [("unicode/utf8.acceptRanges", laid_unicode_utf8_acceptRanges), ("watchword/group.primes", laid_watchword_group_primes), ("unicode/utf8.first", laid_unicode_utf8_first)], narrowed := true }
def GroupMembersUptoSaid : Prop := groupMembersUptoRow.holds Tryd.pinned (OpenSpec.upto groupMembersSpec)

/-- 'watchwordlaw03.GroupPowers', WHERE WHAT IT READS IS OF BULK AT MOST 1048576: true; the input reads as it did. -/
def groupPowersUptoRow : OpenClaim := { program := "ytkipmhcmdejcfaadoor", sum := "4673223e93830b6c849e28787499486d41c1cfac1315b4ef3ae2d5586632989d", func := "watchword/watchwordlaw03.GroupPowers", spec := "groupPowers", inPlace := ["math/bits.Add64", "math/bits.Sub64"], unfollowed := true, recurses := true, named := ["watchword/group.primes", "math/bits.divideError", "math/bits.overflowError", "unicode/utf8.first", "unicode/utf8.acceptRanges"], apart := false, laid := [("unicode/utf8.acceptRanges", laid_unicode_utf8_acceptRanges), ("watchword/group.primes", laid_watchword_group_primes), ("unicode/utf8.first", laid_unicode_utf8_first)], narrowed := true }
def GroupPowersUptoSaid : Prop := groupPowersUptoRow.holds Tryd.pinned (OpenSpec.upto groupPowersSpec)

/-- 'watchwordlaw03.GroupGives', WHERE WHAT IT READS IS OF BULK AT MOST 1048576: true; the input reads as it did. -/
def groupGivesUptoRow : OpenClaim := { program := "ytkipmhcmdejcfaadoor", sum := "4673223e93830b6c849e28787499486d41c1cfac1315b4ef3ae2d5586632989d", func := "watchword/watchwordlaw03.GroupGives", spec := "groupGives", inPlace := ["math/bits.Add64", "math/bits.Sub64"], unfollowed := true, recurses := true, named := ["watchword/group.primes", "math/bits.divideError", "math/bits.overflowError", "unicode/utf8.first", "unicode/utf8.acceptRanges"], apart := false, laid := [("unicode/utf8.acceptRanges", laid_unicode_utf8_acceptRanges), ("watchword/group.primes", laid_watchword_group_primes), ("unicode/utf8.first", laid_unicode_utf8_first)], narrowed := true }
def GroupGivesUptoSaid : Prop := groupGivesUptoRow.holds Tryd.pinned (OpenSpec.upto groupGivesSpec)

/-- 'watchwordlaw03.GroupHolds', WHERE WHAT IT READS IS OF BULK AT MOST 1048576: true; the input reads as it did. -/
def groupHoldsUptoRow : OpenClaim := { program := "ytkipmhcmdejcfaadoor", sum := "4673223e93830b6c849e28787499486d41c1cfac1315b4ef3ae2d5586632989d", func := "watchword/watchwordlaw03.GroupHolds", spec := "groupHolds", inPlace := ["math/bits.Add64", "math/bits.Sub64"], unfollowed := true, recurses := true, named := ["watchword/group.primes", "math/bits.divideError", "math/bits.overflowError", "unicode/utf8.first", "unicode/utf8.acceptRanges"], apart := false, laid := [("unicode/utf8.acceptRanges", laid_unicode_utf8_acceptRanges), ("watchword/group.primes", laid_watchword_group_primes), ("unicode/utf8.first", laid_unicode_utf8_first)], narrowed := true }
def GroupHoldsUptoSaid : Prop := groupHoldsUptoRow.holds Tryd.pinned (OpenSpec.upto groupHoldsSpec)

end Rows
end Go.Proofs.YtkipmhcmdejcfaaDoor
