/-
  DERIVED. GIVEN WITH THE SEED: THE CARDS: each row of YtajepigjkcaghaaGreatDoorRows.lean that lists a variable, with what it lists TIED to the program's text (the seventh form; the later family's looks); each row that meets fmt, with fmt's text TOLD by the authors' own Lean function (tested against real Go, not proved from fmt's source: count such statements apart). THE CARD IS WHAT COUNTS. Prove the row's statement (the work); the ties are given (YtajepigjkcaghaaGreatDoorTie.lean); close each card by the builder's one call (the guide's Derived/Test/ToyasCard.lean, 'card_holds'). Laid BY PROGRAM, IN A SANDBOX (cutbox-door.mjs). By AI agents, Wed Nov 11 2026. No macro, syntax, notation, axiom, sorry.
-/
import Derived.Test.YtajepigjkcaghaaGreatDoorRows
import GoSem.ClaimSeven
namespace Go.Proofs.YtajepigjkcaghaaGreatDoor
namespace Rows

/-- THE TIED CARD OF 'watchwordlaw03.GroupScalars'. -/
def groupScalarsCard : Claim7 := { stood := { row := groupScalarsRow, standIns := [], harness := (true, "401b25a6ed3d2bc89e4da94b7af5e8c991cdd8f591888cb2e7d32ef31cd40f49"), looks := false }, kinds := [], alts := [], laidByText := true, laidKinds := [.data, .data, .pinned], laidTests := true, laidLooks := .later }
def GroupScalarsCardSaid : Prop := Claim7.holds Tryz.pinned (.plain (OpenSpec.ofChange groupScalarsSpec)) groupScalarsCard

/-- THE TIED CARD OF 'watchwordlaw03.GroupProducts'. -/
def groupProductsCard : Claim7 := { stood := { row := groupProductsRow, standIns := [], harness := (true, "401b25a6ed3d2bc89e4da94b7af5e8c991cdd8f591888cb2e7d32ef31cd40f49"), looks := false }, kinds := [], alts := [], laidByText := true, laidKinds := [.data, .data, .pinned], laidTests := true, laidLooks := .later }
def GroupProductsCardSaid : Prop := Claim7.holds Tryz.pinned (.plain (OpenSpec.ofChange groupProductsSpec)) groupProductsCard

/-- THE SECOND FORM's CARD OF 'watchwordlaw03.GroupScalars'. -/
def groupScalarsUptoCard : Claim7 := { stood := { row := groupScalarsUptoRow, standIns := [], harness := (true, "401b25a6ed3d2bc89e4da94b7af5e8c991cdd8f591888cb2e7d32ef31cd40f49"), looks := false }, kinds := [], alts := [], laidByText := true, laidKinds := [.data, .data, .pinned], laidTests := true, laidLooks := .later }
def GroupScalarsUptoCardSaid : Prop := Claim7.holds Tryz.pinned (.plain (OpenSpec.upto groupScalarsSpec)) groupScalarsUptoCard

/-- THE SECOND FORM's CARD OF 'watchwordlaw03.GroupProducts'. -/
def groupProductsUptoCard : Claim7 := { stood := { row := groupProductsUptoRow, standIns := [], harness := (true, "401b25a6ed3d2bc89e4da94b7af5e8c991cdd8f591888cb2e7d32ef31cd40f49"), looks := false }, kinds := [], alts := [], laidByText := true, laidKinds := [.data, .data, .pinned], laidTests := true, laidLooks := .later }
def GroupProductsUptoCardSaid : Prop := Claim7.holds Tryz.pinned (.plain (OpenSpec.upto groupProductsSpec)) groupProductsUptoCard
end Rows
end Go.Proofs.YtajepigjkcaghaaGreatDoor
