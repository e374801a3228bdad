/-
  DERIVED. GIVEN WITH THE SEED: THE CARDS: each row of YtkipmhcmdejcfaaDoorRows.lean that lists a variable, with what it lists TIED to the program's text (the seventh form; the later family's looks); each row that meets fmt, with fmt's text TOLD by the authors' own Lean function (tested against real Go, not proved from fmt's source: count such statements apart). THE CARD IS WHAT COUNTS. Prove the row's statement (the work); the ties are given (YtkipmhcmdejcfaaDoorTie.lean); close each card by the builder's one call (the guide's Derived/Test/ToyasCard.lean, 'card_holds'). Laid BY PROGRAM, IN A SANDBOX (cutbox-door.mjs). By AI agents, Wed Nov 11 2026. No macro, syntax, notation, axiom, sorry.
-/
import Derived.Test.YtkipmhcmdejcfaaDoorRows
import GoSem.ClaimSeven
namespace Go.Proofs.YtkipmhcmdejcfaaDoor
namespace Rows

/-- THE TIED CARD OF 'watchwordlaw01.NatReads'. -/
def natReadsCard : Claim7 := { stood := { row := natReadsRow, standIns := [], harness := (true, "18f624ba22733937285c8db44f988b54583b1764073fff749db576808a9a3b54"), looks := false }, kinds := [], alts := [], laidByText := true, laidKinds := [.data, .pinned], laidTests := true, laidLooks := .later }
def NatReadsCardSaid : Prop := Claim7.holds Tryd.pinned (.plain (OpenSpec.ofChange natReadsSpec)) natReadsCard

/-- THE TIED CARD OF 'watchwordlaw01.NatInts'. -/
def natIntsCard : Claim7 := { stood := { row := natIntsRow, standIns := [], harness := (true, "18f624ba22733937285c8db44f988b54583b1764073fff749db576808a9a3b54"), looks := false }, kinds := [], alts := [], laidByText := true, laidKinds := [.data, .pinned], laidTests := true, laidLooks := .later }
def NatIntsCardSaid : Prop := Claim7.holds Tryd.pinned (.plain (OpenSpec.ofChange natIntsSpec)) natIntsCard

/-- THE TIED CARD OF 'watchwordlaw01.NatDivides'. -/
def natDividesCard : Claim7 := { stood := { row := natDividesRow, standIns := [], harness := (true, "18f624ba22733937285c8db44f988b54583b1764073fff749db576808a9a3b54"), looks := false }, kinds := [], alts := [], laidByText := true, laidKinds := [.data, .pinned], laidTests := true, laidLooks := .later }
def NatDividesCardSaid : Prop := Claim7.holds Tryd.pinned (.plain (OpenSpec.ofChange natDividesSpec)) natDividesCard

/-- THE TIED CARD OF 'watchwordlaw01.NatBits'. -/
def natBitsCard : Claim7 := { stood := { row := natBitsRow, standIns := [], harness := (true, "18f624ba22733937285c8db44f988b54583b1764073fff749db576808a9a3b54"), looks := false }, kinds := [], alts := [], laidByText := true, laidKinds := [.data, .pinned], laidTests := true, laidLooks := .later }
def NatBitsCardSaid : Prop := Claim7.holds Tryd.pinned (.plain (OpenSpec.ofChange natBitsSpec)) natBitsCard

/-- THE TIED CARD OF 'watchwordlaw01.NatSums'. -/
def natSumsCard : Claim7 := { stood := { row := natSumsRow, standIns := [], harness := (true, "18f624ba22733937285c8db44f988b54583b1764073fff749db576808a9a3b54"), looks := false }, kinds := [], alts := [], laidByText := true, laidKinds := [.data, .pinned], laidTests := true, laidLooks := .later }
def NatSumsCardSaid : Prop := Claim7.holds Tryd.pinned (.plain (OpenSpec.ofChange natSumsSpec)) natSumsCard

/-- THE TIED CARD OF 'watchwordlaw01.NatShifts'. -/
def natShiftsCard : Claim7 := { stood := { row := natShiftsRow, standIns := [], harness := (true, "18f624ba22733937285c8db44f988b54583b1764073fff749db576808a9a3b54"), looks := false }, kinds := [], alts := [], laidByText := true, laidKinds := [.data, .pinned], laidTests := true, laidLooks := .later }
def NatShiftsCardSaid : Prop := Claim7.holds Tryd.pinned (.plain (OpenSpec.ofChange natShiftsSpec)) natShiftsCard

/-- THE TIED CARD OF 'watchwordlaw01.NatProducts'. -/
def natProductsCard : Claim7 := { stood := { row := natProductsRow, standIns := [], harness := (true, "18f624ba22733937285c8db44f988b54583b1764073fff749db576808a9a3b54"), looks := false }, kinds := [], alts := [], laidByText := true, laidKinds := [.data, .pinned], laidTests := true, laidLooks := .later }
def NatProductsCardSaid : Prop := Claim7.holds Tryd.pinned (.plain (OpenSpec.ofChange natProductsSpec)) natProductsCard

/-- THE TIED CARD OF 'watchwordlaw01.NatHolds'. -/
def natHoldsCard : Claim7 := { stood := { row := natHoldsRow, standIns := [], harness := (true, "18f624ba22733937285c8db44f988b54583b1764073fff749db576808a9a3b54"), looks := false }, kinds := [], alts := [], laidByText := true, laidKinds := [.data, .pinned], laidTests := true, laidLooks := .later }
def NatHoldsCardSaid : Prop := Claim7.holds Tryd.pinned (.plain (OpenSpec.ofChange natHoldsSpec)) natHoldsCard

/-- THE TIED CARD OF 'watchwordlaw02.ModularProducts'. -/
def modularProductsCard : Claim7 := { stood := { row := modularProductsRow, standIns := [], harness := (true, "18f624ba22733937285c8db44f988b54583b1764073fff749db576808a9a3b54"), looks := false }, kinds := [], alts := [], laidByText := true, laidKinds := [.data, .pinned], laidTests := true, laidLooks := .later }
def ModularProductsCardSaid : Prop := Claim7.holds Tryd.pinned (.plain (OpenSpec.ofChange modularProductsSpec)) modularProductsCard

/-- THE TIED CARD OF 'watchwordlaw02.ModularPowers'. -/
def modularPowersCard : Claim7 := { stood := { row := modularPowersRow, standIns := [], harness := (true, "18f624ba22733937285c8db44f988b54583b1764073fff749db576808a9a3b54"), looks := false }, kinds := [], alts := [], laidByText := true, laidKinds := [.data, .pinned], laidTests := true, laidLooks := .later }
def ModularPowersCardSaid : Prop := Claim7.holds Tryd.pinned (.plain (OpenSpec.ofChange modularPowersSpec)) modularPowersCard

/-- THE TIED CARD OF 'watchwordlaw02.ModularInverses'. -/
def modularInversesCard : Claim7 := { stood := { row := modularInversesRow, standIns := [], harness := (true, "18f624ba22733937285c8db44f988b54583b1764073fff749db576808a9a3b54"), looks := false }, kinds := [], alts := [], laidByText := true, laidKinds := [.data, .pinned], laidTests := true, laidLooks := .later }
def ModularInversesCardSaid : Prop := Claim7.holds Tryd.pinned (.plain (OpenSpec.ofChange modularInversesSpec)) modularInversesCard

/-- THE TIED CARD OF 'watchwordlaw02.ModularPrimes'. -/
def modularPrimesCard : Claim7 := { stood := { row := modularPrimesRow, standIns := [], harness := (true, "18f624ba22733937285c8db44f988b54583b1764073fff749db576808a9a3b54"), looks := false }, kinds := [], alts := [], laidByText := true, laidKinds := [.data, .pinned], laidTests := true, laidLooks := .later }
def ModularPrimesCardSaid : Prop := Claim7.holds Tryd.pinned (.plain (OpenSpec.ofChange modularPrimesSpec)) modularPrimesCard

/-- THE TIED CARD OF 'watchwordlaw02.ModularSums'. -/
def modularSumsCard : Claim7 := { stood := { row := modularSumsRow, standIns := [], harness := (true, "18f624ba22733937285c8db44f988b54583b1764073fff749db576808a9a3b54"), looks := false }, kinds := [], alts := [], laidByText := true, laidKinds := [.data, .pinned], laidTests := true, laidLooks := .later }
def ModularSumsCardSaid : Prop := Claim7.holds Tryd.pinned (.plain (OpenSpec.ofChange modularSumsSpec)) modularSumsCard

/-- THE TIED CARD OF 'watchwordlaw02.ModularHolds'. -/
def modularHoldsCard : Claim7 := { stood := { row := modularHoldsRow, standIns := [], harness := (true, "18f624ba22733937285c8db44f988b54583b1764073fff749db576808a9a3b54"), looks := false }, kinds := [], alts := [], laidByText := true, laidKinds := [.data, .pinned], laidTests := true, laidLooks := .later }
def ModularHoldsCardSaid : Prop := Claim7.holds Tryd.pinned (.plain (OpenSpec.ofChange modularHoldsSpec)) modularHoldsCard

/-- THE TIED CARD OF 'watchwordlaw02.ModularFermat'. -/
def modularFermatCard : Claim7 := { stood := { row := modularFermatRow, standIns := [], harness := (true, "18f624ba22733937285c8db44f988b54583b1764073fff749db576808a9a3b54"), looks := false }, kinds := [], alts := [], laidByText := true, laidKinds := [.data, .pinned], laidTests := true, laidLooks := .later }
def ModularFermatCardSaid : Prop := Claim7.holds Tryd.pinned (.plain (OpenSpec.ofChange modularFermatSpec)) modularFermatCard

/-- THE TIED CARD OF 'watchwordlaw03.GroupMembers'. -/
def groupMembersCard : Claim7 := { stood := { row := groupMembersRow, standIns := [], harness := (true, "18f624ba22733937285c8db44f988b54583b1764073fff749db576808a9a3b54"), looks := false }, kinds := [], alts := [], laidByText := true, laidKinds := [.data, .data, .pinned], laidTests := true, laidLooks := .later }
def GroupMembersCardSaid : Prop := Claim7.holds Tryd.pinned (.plain (OpenSpec.ofChange groupMembersSpec)) groupMembersCard

/-- THE TIED CARD OF 'watchwordlaw03.GroupPowers'. -/
def groupPowersCard : Claim7 := { stood := { row := groupPowersRow, standIns := [], harness := (true, "18f624ba22733937285c8db44f988b54583b1764073fff749db576808a9a3b54"), looks := false }, kinds := [], alts := [], laidByText := true, laidKinds := [.data, .data, .pinned], laidTests := true, laidLooks := .later }
def GroupPowersCardSaid : Prop := Claim7.holds Tryd.pinned (.plain (OpenSpec.ofChange groupPowersSpec)) groupPowersCard

/-- THE TIED CARD OF 'watchwordlaw03.GroupGives'. -/
def groupGivesCard : Claim7 := { stood := { row := groupGivesRow, standIns := [], harness := (true, "18f624ba22733937285c8db44f988b54583b1764073fff749db576808a9a3b54"), looks := false }, kinds := [], alts := [], laidByText := true, laidKinds := [.data, .data, .pinned], laidTests := true, laidLooks := .later }
def GroupGivesCardSaid : Prop := Claim7.holds Tryd.pinned (.plain (OpenSpec.ofChange groupGivesSpec)) groupGivesCard

/-- THE TIED CARD OF 'watchwordlaw03.GroupHolds'. -/
def groupHoldsCard : Claim7 := { stood := { row := groupHoldsRow, standIns := [], harness := (true, "18f624ba22733937285c8db44f988b54583b1764073fff749db576808a9a3b54"), looks := false }, kinds := [], alts := [], laidByText := true, laidKinds := [.data, .data, .pinned], laidTests := true, laidLooks := .later }
def GroupHoldsCardSaid : Prop := Claim7.holds Tryd.pinned (.plain (OpenSpec.ofChange groupHoldsSpec)) groupHoldsCard

/-- THE SECOND FORM's CARD OF 'watchwordlaw01.NatReads'. -/
def natReadsUptoCard : Claim7 := { stood := { row := natReadsUptoRow, standIns := [], harness := (true, "18f624ba22733937285c8db44f988b54583b1764073fff749db576808a9a3b54"), looks := false }, kinds := [], alts := [], laidByText := true, laidKinds := [.data, .pinned], laidTests := true, laidLooks := .later }
def NatReadsUptoCardSaid : Prop := Claim7.holds Tryd.pinned (.plain (OpenSpec.upto natReadsSpec)) natReadsUptoCard

/-- THE SECOND FORM's CARD OF 'watchwordlaw01.NatInts'. -/
def natIntsUptoCard : Claim7 := { stood := { row := natIntsUptoRow, standIns := [], harness := (true, "18f624ba22733937285c8db44f988b54583b1764073fff749db576808a9a3b54"), looks := false }, kinds := [], alts := [], laidByText := true, laidKinds := [.data, .pinned], laidTests := true, laidLooks := .later }
def NatIntsUptoCardSaid : Prop := Claim7.holds Tryd.pinned (.plain (OpenSpec.upto natIntsSpec)) natIntsUptoCard

/-- THE SECOND FORM's CARD OF 'watchwordlaw01.NatDivides'. -/
def natDividesUptoCard : Claim7 := { stood := { row := natDividesUptoRow, standIns := [], harness := (true, "18f624ba22733937285c8db44f988b54583b1764073fff749db576808a9a3b54"), looks := false }, kinds := [], alts := [], laidByText := true, laidKinds := [.data, .pinned], laidTests := true, laidLooks := .later }
def NatDividesUptoCardSaid : Prop := Claim7.holds Tryd.pinned (.plain (OpenSpec.upto natDividesSpec)) natDividesUptoCard

/-- THE SECOND FORM's CARD OF 'watchwordlaw01.NatBits'. -/
def natBitsUptoCard : Claim7 := { stood := { row := natBitsUptoRow, standIns := [], harness := (true, "18f624ba22733937285c8db44f988b54583b1764073fff749db576808a9a3b54"), looks := false }, kinds := [], alts := [], laidByText := true, laidKinds := [.data, .pinned], laidTests := true, laidLooks := .later }
def NatBitsUptoCardSaid : Prop := Claim7.holds Tryd.pinned (.plain (OpenSpec.upto natBitsSpec)) natBitsUptoCard

/-- THE SECOND FORM's CARD OF 'watchwordlaw01.NatSums'. -/
def natSumsUptoCard : Claim7 := { stood := { row := natSumsUptoRow, standIns := [], harness := (true, "18f624ba22733937285c8db44f988b54583b1764073fff749db576808a9a3b54"), looks := false }, kinds := [], alts := [], laidByText := true, laidKinds := [.data, .pinned], laidTests := true, laidLooks := .later }
def NatSumsUptoCardSaid : Prop := Claim7.holds Tryd.pinned (.plain (OpenSpec.upto natSumsSpec)) natSumsUptoCard

/-- THE SECOND FORM's CARD OF 'watchwordlaw01.NatShifts'. -/
def natShiftsUptoCard : Claim7 := { stood := { row := natShiftsUptoRow, standIns := [], harness := (true, "18f624ba22733937285c8db44f988b54583b1764073fff749db576808a9a3b54"), looks := false }, kinds := [], alts := [], laidByText := true, laidKinds := [.data, .pinned], laidTests := true, laidLooks := .later }
def NatShiftsUptoCardSaid : Prop := Claim7.holds Tryd.pinned (.plain (OpenSpec.upto natShiftsSpec)) natShiftsUptoCard

/-- THE SECOND FORM's CARD OF 'watchwordlaw01.NatProducts'. -/
def natProductsUptoCard : Claim7 := { stood := { row := natProductsUptoRow, standIns := [], harness := (true, "18f624ba22733937285c8db44f988b54583b1764073fff749db576808a9a3b54"), looks := false }, kinds := [], alts := [], laidByText := true, laidKinds := [.data, .pinned], laidTests := true, laidLooks := .later }
def NatProductsUptoCardSaid : Prop := Claim7.holds Tryd.pinned (.plain (OpenSpec.upto natProductsSpec)) natProductsUptoCard

/-- THE SECOND FORM's CARD OF 'watchwordlaw01.NatHolds'. -/
def natHoldsUptoCard : Claim7 := { stood := { row := natHoldsUptoRow, standIns := [], harness := (true, "18f624ba22733937285c8db44f988b54583b1764073fff749db576808a9a3b54"), looks := false }, kinds := [], alts := [], laidByText := true, laidKinds := [.data, .pinned], laidTests := true, laidLooks := .later }
def NatHoldsUptoCardSaid : Prop := Claim7.holds Tryd.pinned (.plain (OpenSpec.upto natHoldsSpec)) natHoldsUptoCard

/-- THE SECOND FORM's CARD OF 'watchwordlaw02.ModularProducts'. -/
def modularProductsUptoCard : Claim7 := { stood := { row := modularProductsUptoRow, standIns := [], harness := (true, "18f624ba22733937285c8db44f988b54583b1764073fff749db576808a9a3b54"), looks := false }, kinds := [], alts := [], laidByText := true, laidKinds := [.data, .pinned], laidTests := true, laidLooks := .later }
def ModularProductsUptoCardSaid : Prop := Claim7.holds Tryd.pinned (.plain (OpenSpec.upto modularProductsSpec)) modularProductsUptoCard

/-- THE SECOND FORM's CARD OF 'watchwordlaw02.ModularPowers'. -/
def modularPowersUptoCard : Claim7 := { stood := { row := modularPowersUptoRow, standIns := [], harness := (true, "18f624ba22733937285c8db44f988b54583b1764073fff749db576808a9a3b54"), looks := false }, kinds := [], alts := [], laidByText := true, laidKinds := [.data, .pinned], laidTests := true, laidLooks := .later }
def ModularPowersUptoCardSaid : Prop := Claim7.holds Tryd.pinned (.plain (OpenSpec.upto modularPowersSpec)) modularPowersUptoCard

/-- THE SECOND FORM's CARD OF 'watchwordlaw02.ModularInverses'. -/
def modularInversesUptoCard : Claim7 := { stood := { row := modularInversesUptoRow, standIns := [], harness := (true, "18f624ba22733937285c8db44f988b54583b1764073fff749db576808a9a3b54"), looks := false }, kinds := [], alts := [], laidByText := true, laidKinds := [.data, .pinned], laidTests := true, laidLooks := .later }
def ModularInversesUptoCardSaid : Prop := Claim7.holds Tryd.pinned (.plain (OpenSpec.upto modularInversesSpec)) modularInversesUptoCard

/-- THE SECOND FORM's CARD OF 'watchwordlaw02.ModularPrimes'. -/
def modularPrimesUptoCard : Claim7 := { stood := { row := modularPrimesUptoRow, standIns := [], harness := (true, "18f624ba22733937285c8db44f988b54583b1764073fff749db576808a9a3b54"), looks := false }, kinds := [], alts := [], laidByText := true, laidKinds := [.data, .pinned], laidTests := true, laidLooks := .later }
def ModularPrimesUptoCardSaid : Prop := Claim7.holds Tryd.pinned (.plain (OpenSpec.upto modularPrimesSpec)) modularPrimesUptoCard

/-- THE SECOND FORM's CARD OF 'watchwordlaw02.ModularSums'. -/
def modularSumsUptoCard : Claim7 := { stood := { row := modularSumsUptoRow, standIns := [], harness := (true, "18f624ba22733937285c8db44f988b54583b1764073fff749db576808a9a3b54"), looks := false }, kinds := [], alts := [], laidByText := true, laidKinds := [.data, .pinned], laidTests := true, laidLooks := .later }
def ModularSumsUptoCardSaid : Prop := Claim7.holds Tryd.pinned (.plain (OpenSpec.upto modularSumsSpec)) modularSumsUptoCard

/-- THE SECOND FORM's CARD OF 'watchwordlaw02.ModularHolds'. -/
def modularHoldsUptoCard : Claim7 := { stood := { row := modularHoldsUptoRow, standIns := [], harness := (true, "18f624ba22733937285c8db44f988b54583b1764073fff749db576808a9a3b54"), looks := false }, kinds := [], alts := [], laidByText := true, laidKinds := [.data, .pinned], laidTests := true, laidLooks := .later }
def ModularHoldsUptoCardSaid : Prop := Claim7.holds Tryd.pinned (.plain (OpenSpec.upto modularHoldsSpec)) modularHoldsUptoCard

/-- THE SECOND FORM's CARD OF 'watchwordlaw02.ModularFermat'. -/
def modularFermatUptoCard : Claim7 := { stood := { row := modularFermatUptoRow, standIns := [], harness := (true, "18f624ba22733937285c8db44f988b54583b1764073fff749db576808a9a3b54"), looks := false }, kinds := [], alts := [], laidByText := true, laidKinds := [.data, .pinned], laidTests := true, laidLooks := .later }
def ModularFermatUptoCardSaid : Prop := Claim7.holds Tryd.pinned (.plain (OpenSpec.upto modularFermatSpec)) modularFermatUptoCard

/-- THE SECOND FORM's CARD OF 'watchwordlaw03.GroupMembers'. -/
def groupMembersUptoCard : Claim7 := { stood := { row := groupMembersUptoRow, standIns := [], harness := (true, "18f624ba22733937285c8db44f988b54583b1764073fff749db576808a9a3b54"), looks := false }, kinds := [], alts := [], laidByText := true, laidKinds := [.data, .data, .pinned], laidTests := true, laidLooks := .later }
def GroupMembersUptoCardSaid : Prop := Claim7.holds Tryd.pinned (.plain (OpenSpec.upto groupMembersSpec)) groupMembersUptoCard

/-- THE SECOND FORM's CARD OF 'watchwordlaw03.GroupPowers'. -/
def groupPowersUptoCard : Claim7 := { stood := { row := groupPowersUptoRow, standIns := [], harness := (true, "18f624ba22733937285c8db44f988b54583b1764073fff749db576808a9a3b54"), looks := false }, kinds := [], alts := [], laidByText := true, laidKinds := [.data, .data, .pinned], laidTests := true, laidLooks := .later }
def GroupPowersUptoCardSaid : Prop := Claim7.holds Tryd.pinned (.plain (OpenSpec.upto groupPowersSpec)) groupPowersUptoCard

/-- THE SECOND FORM's CARD OF 'watchwordlaw03.GroupGives'. -/
def groupGivesUptoCard : Claim7 := { stood := { row := groupGivesUptoRow, standIns := [], harness := (true, "18f624ba22733937285c8db44f988b54583b1764073fff749db576808a9a3b54"), looks := false }, kinds := [], alts := [], laidByText := true, laidKinds := [.data, .data, .pinned], laidTests := true, laidLooks := .later }
def GroupGivesUptoCardSaid : Prop := Claim7.holds Tryd.pinned (.plain (OpenSpec.upto groupGivesSpec)) groupGivesUptoCard

/-- THE SECOND FORM's CARD OF 'watchwordlaw03.GroupHolds'. -/
def groupHoldsUptoCard : Claim7 := { stood := { row := groupHoldsUptoRow, standIns := [], harness := (true, "18f624ba22733937285c8db44f988b54583b1764073fff749db576808a9a3b54"), looks := false }, kinds := [], alts := [], laidByText := true, laidKinds := [.data, .data, .pinned], laidTests := true, laidLooks := .later }
def GroupHoldsUptoCardSaid : Prop := Claim7.holds Tryd.pinned (.plain (OpenSpec.upto groupHoldsSpec)) groupHoldsUptoCard
end Rows
end Go.Proofs.YtkipmhcmdejcfaaDoor
