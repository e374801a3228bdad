/-
  DERIVED. GIVEN WITH THE SEED: THE CARDS: each row of YtjidkoabdmjgkaaDoorRows.lean that lists a variable, with what it lists TIED to the program's text (the seventh form; the later family's looks); each row that meets fmt, with fmt's text TOLD by the authors' own Lean function (tested against real Go, not proved from fmt's source: count such statements apart). THE CARD IS WHAT COUNTS. Prove the row's statement (the work); the ties are given (YtjidkoabdmjgkaaDoorTie.lean); close each card by the builder's one call (the guide's Derived/Test/ToyasCard.lean, 'card_holds'). Laid BY PROGRAM, IN A SANDBOX (cutbox-door.mjs). By AI agents, Wed Nov 11 2026. No macro, syntax, notation, axiom, sorry.
-/
import Derived.Test.YtjidkoabdmjgkaaDoorRows
import GoSem.ClaimSeven
namespace Go.Proofs.YtjidkoabdmjgkaaDoor
namespace Rows

/-- THE TIED CARD OF 'watchwordlaw03.GroupMembers'. -/
def groupMembersCard : Claim7 := { stood := { row := groupMembersRow, standIns := [], harness := (true, "9a90f08b41f96719421bf54cc967204c1bf0fef024bcfbc778ff16e0e8ed0413"), looks := false }, kinds := [], alts := [], laidByText := true, laidKinds := [.data, .data, .pinned], laidTests := true, laidLooks := .later }
def GroupMembersCardSaid : Prop := Claim7.holds Tryd.pinned (.plain (OpenSpec.ofChange groupMembersSpec)) groupMembersCard

/-- THE TIED CARD OF 'watchwordlaw03.GroupPowers'. -/
def groupPowersCard : Claim7 := { stood := { row := groupPowersRow, standIns := [], harness := (true, "9a90f08b41f96719421bf54cc967204c1bf0fef024bcfbc778ff16e0e8ed0413"), looks := false }, kinds := [], alts := [], laidByText := true, laidKinds := [.data, .data, .pinned], laidTests := true, laidLooks := .later }
def GroupPowersCardSaid : Prop := Claim7.holds Tryd.pinned (.plain (OpenSpec.ofChange groupPowersSpec)) groupPowersCard

/-- THE TIED CARD OF 'watchwordlaw03.GroupGives'. -/
def groupGivesCard : Claim7 := { stood := { row := groupGivesRow, standIns := [], harness := (true, "9a90f08b41f96719421bf54cc967204c1bf0fef024bcfbc778ff16e0e8ed0413"), looks := false }, kinds := [], alts := [], laidByText := true, laidKinds := [.data, .data, .pinned], laidTests := true, laidLooks := .later }
def GroupGivesCardSaid : Prop := Claim7.holds Tryd.pinned (.plain (OpenSpec.ofChange groupGivesSpec)) groupGivesCard

/-- THE SECOND FORM's CARD OF 'watchwordlaw03.GroupMembers'. -/
def groupMembersUptoCard : Claim7 := { stood := { row := groupMembersUptoRow, standIns := [], harness := (true, "9a90f08b41f96719421bf54cc967204c1bf0fef024bcfbc778ff16e0e8ed0413"), looks := false }, kinds := [], alts := [], laidByText := true, laidKinds := [.data, .data, .pinned], laidTests := true, laidLooks := .later }
def GroupMembersUptoCardSaid : Prop := Claim7.holds Tryd.pinned (.plain (OpenSpec.upto groupMembersSpec)) groupMembersUptoCard

/-- THE SECOND FORM's CARD OF 'watchwordlaw03.GroupPowers'. -/
def groupPowersUptoCard : Claim7 := { stood := { row := groupPowersUptoRow, standIns := [], harness := (true, "9a90f08b41f96719421bf54cc967204c1bf0fef024bcfbc778ff16e0e8ed0413"), looks := false }, kinds := [], alts := [], laidByText := true, laidKinds := [.data, .data, .pinned], laidTests := true, laidLooks := .later }
def GroupPowersUptoCardSaid : Prop := Claim7.holds Tryd.pinned (.plain (OpenSpec.upto groupPowersSpec)) groupPowersUptoCard

/-- THE SECOND FORM's CARD OF 'watchwordlaw03.GroupGives'. -/
def groupGivesUptoCard : Claim7 := { stood := { row := groupGivesUptoRow, standIns := [], harness := (true, "9a90f08b41f96719421bf54cc967204c1bf0fef024bcfbc778ff16e0e8ed0413"), looks := false }, kinds := [], alts := [], laidByText := true, laidKinds := [.data, .data, .pinned], laidTests := true, laidLooks := .later }
def GroupGivesUptoCardSaid : Prop := Claim7.holds Tryd.pinned (.plain (OpenSpec.upto groupGivesSpec)) groupGivesUptoCard
end Rows
end Go.Proofs.YtjidkoabdmjgkaaDoor
