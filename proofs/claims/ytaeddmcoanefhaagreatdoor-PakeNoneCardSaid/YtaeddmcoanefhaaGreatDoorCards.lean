/-
  DERIVED. GIVEN WITH THE SEED: THE CARDS: each row of YtaeddmcoanefhaaGreatDoorRows.lean that lists a variable, with what it lists TIED to the program's text (the seventh form; the later family's looks); each row that meets fmt, with fmt's text TOLD by the authors' own Lean function (tested against real Go, not proved from fmt's source: count such statements apart). THE CARD IS WHAT COUNTS. Prove the row's statement (the work); the ties are given (YtaeddmcoanefhaaGreatDoorTie.lean); close each card by the builder's one call (the guide's Derived/Test/ToyasCard.lean, 'card_holds'). Laid BY PROGRAM, IN A SANDBOX (cutbox-door.mjs). By AI agents, Wed Nov 11 2026. No macro, syntax, notation, axiom, sorry.
-/
import Derived.Test.YtaeddmcoanefhaaGreatDoorRows
import GoSem.ClaimSeven
namespace Go.Proofs.YtaeddmcoanefhaaGreatDoor
namespace Rows

/-- THE TIED CARD OF 'watchwordlaw33.PakeHolds'. -/
def pakeHoldsCard : Claim7 := { stood := { row := pakeHoldsRow, standIns := [], harness := (true, "4082625e7c927a2ab55ef541e6672b88bab791b8ee16e90b6dd34f03ec96071d"), looks := false }, kinds := [], alts := [], laidByText := true, laidKinds := [.data, .data, .data, .data, .pinned], laidTests := true, laidLooks := .later }
def PakeHoldsCardSaid : Prop := Claim7.holds Tryz.pinned (.plain (OpenSpec.ofChange pakeHoldsSpec)) pakeHoldsCard

/-- THE TIED CARD OF 'watchwordlaw33.PakeNone'. -/
def pakeNoneCard : Claim7 := { stood := { row := pakeNoneRow, standIns := [], harness := (true, "4082625e7c927a2ab55ef541e6672b88bab791b8ee16e90b6dd34f03ec96071d"), looks := false }, kinds := [], alts := [], laidByText := true, laidKinds := [.data, .data, .data, .data, .pinned], laidTests := true, laidLooks := .later }
def PakeNoneCardSaid : Prop := Claim7.holds Tryz.pinned (.plain (OpenSpec.ofChange pakeNoneSpec)) pakeNoneCard

/-- THE SECOND FORM's CARD OF 'watchwordlaw33.PakeHolds'. -/
def pakeHoldsUptoCard : Claim7 := { stood := { row := pakeHoldsUptoRow, standIns := [], harness := (true, "4082625e7c927a2ab55ef541e6672b88bab791b8ee16e90b6dd34f03ec96071d"), looks := false }, kinds := [], alts := [], laidByText := true, laidKinds := [.data, .data, .data, .data, .pinned], laidTests := true, laidLooks := .later }
def PakeHoldsUptoCardSaid : Prop := Claim7.holds Tryz.pinned (.plain (OpenSpec.upto pakeHoldsSpec)) pakeHoldsUptoCard

/-- THE SECOND FORM's CARD OF 'watchwordlaw33.PakeNone'. -/
def pakeNoneUptoCard : Claim7 := { stood := { row := pakeNoneUptoRow, standIns := [], harness := (true, "4082625e7c927a2ab55ef541e6672b88bab791b8ee16e90b6dd34f03ec96071d"), looks := false }, kinds := [], alts := [], laidByText := true, laidKinds := [.data, .data, .data, .data, .pinned], laidTests := true, laidLooks := .later }
def PakeNoneUptoCardSaid : Prop := Claim7.holds Tryz.pinned (.plain (OpenSpec.upto pakeNoneSpec)) pakeNoneUptoCard
end Rows
end Go.Proofs.YtaeddmcoanefhaaGreatDoor
