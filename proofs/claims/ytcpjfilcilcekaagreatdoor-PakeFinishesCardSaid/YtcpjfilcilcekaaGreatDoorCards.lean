/-
  DERIVED. GIVEN WITH THE SEED: THE CARDS: each row of YtcpjfilcilcekaaGreatDoorRows.lean that lists a variable, with what it lists TIED to the program's text (the seventh form; the later family's looks); each row that meets fmt, with fmt's text TOLD by the authors' own Lean function (tested against real Go, not proved from fmt's source: count such statements apart). THE CARD IS WHAT COUNTS. Prove the row's statement (the work); the ties are given (YtcpjfilcilcekaaGreatDoorTie.lean); close each card by the builder's one call (the guide's Derived/Test/ToyasCard.lean, 'card_holds'). Laid BY PROGRAM, IN A SANDBOX (cutbox-door.mjs). By AI agents, Wed Nov 11 2026. No macro, syntax, notation, axiom, sorry.
-/
import Derived.Test.YtcpjfilcilcekaaGreatDoorRows
import GoSem.ClaimSeven
namespace Go.Proofs.YtcpjfilcilcekaaGreatDoor
namespace Rows

/-- THE TIED CARD OF 'watchwordlaw33.PakeStarts'. -/
def pakeStartsCard : Claim7 := { stood := { row := pakeStartsRow, standIns := [], harness := (true, "037babf92f23cf6988ca797c5ca7537e629ad8944907aef8c98b27455b615bdb"), looks := false }, kinds := [], alts := [], laidByText := true, laidKinds := [.data, .data, .data, .data, .data, .pinned], laidTests := true, laidLooks := .later }
def PakeStartsCardSaid : Prop := Claim7.holds Tryz.pinned (.plain (OpenSpec.ofChange pakeStartsSpec)) pakeStartsCard

/-- THE TIED CARD OF 'watchwordlaw33.PakeMeets'. -/
def pakeMeetsCard : Claim7 := { stood := { row := pakeMeetsRow, standIns := [], harness := (true, "037babf92f23cf6988ca797c5ca7537e629ad8944907aef8c98b27455b615bdb"), looks := false }, kinds := [], alts := [], laidByText := true, laidKinds := [.data, .data, .data, .data, .data, .pinned], laidTests := true, laidLooks := .later }
def PakeMeetsCardSaid : Prop := Claim7.holds Tryz.pinned (.plain (OpenSpec.ofChange pakeMeetsSpec)) pakeMeetsCard

/-- THE TIED CARD OF 'watchwordlaw33.PakeFinishes'. -/
def pakeFinishesCard : Claim7 := { stood := { row := pakeFinishesRow, standIns := [], harness := (true, "037babf92f23cf6988ca797c5ca7537e629ad8944907aef8c98b27455b615bdb"), looks := false }, kinds := [], alts := [], laidByText := true, laidKinds := [.data, .data, .data, .data, .data, .pinned], laidTests := true, laidLooks := .later }
def PakeFinishesCardSaid : Prop := Claim7.holds Tryz.pinned (.plain (OpenSpec.ofChange pakeFinishesSpec)) pakeFinishesCard

/-- THE TIED CARD OF 'watchwordlaw33.PakePoints'. -/
def pakePointsCard : Claim7 := { stood := { row := pakePointsRow, standIns := [], harness := (true, "037babf92f23cf6988ca797c5ca7537e629ad8944907aef8c98b27455b615bdb"), looks := false }, kinds := [], alts := [], laidByText := true, laidKinds := [.data, .data, .data, .data, .data, .pinned], laidTests := true, laidLooks := .later }
def PakePointsCardSaid : Prop := Claim7.holds Tryz.pinned (.plain (OpenSpec.ofChange pakePointsSpec)) pakePointsCard

/-- THE SECOND FORM's CARD OF 'watchwordlaw33.PakeStarts'. -/
def pakeStartsUptoCard : Claim7 := { stood := { row := pakeStartsUptoRow, standIns := [], harness := (true, "037babf92f23cf6988ca797c5ca7537e629ad8944907aef8c98b27455b615bdb"), looks := false }, kinds := [], alts := [], laidByText := true, laidKinds := [.data, .data, .data, .data, .data, .pinned], laidTests := true, laidLooks := .later }
def PakeStartsUptoCardSaid : Prop := Claim7.holds Tryz.pinned (.plain (OpenSpec.upto pakeStartsSpec)) pakeStartsUptoCard

/-- THE SECOND FORM's CARD OF 'watchwordlaw33.PakeMeets'. -/
def pakeMeetsUptoCard : Claim7 := { stood := { row := pakeMeetsUptoRow, standIns := [], harness := (true, "037babf92f23cf6988ca797c5ca7537e629ad8944907aef8c98b27455b615bdb"), looks := false }, kinds := [], alts := [], laidByText := true, laidKinds := [.data, .data, .data, .data, .data, .pinned], laidTests := true, laidLooks := .later }
def PakeMeetsUptoCardSaid : Prop := Claim7.holds Tryz.pinned (.plain (OpenSpec.upto pakeMeetsSpec)) pakeMeetsUptoCard

/-- THE SECOND FORM's CARD OF 'watchwordlaw33.PakeFinishes'. -/
def pakeFinishesUptoCard : Claim7 := { stood := { row := pakeFinishesUptoRow, standIns := [], harness := (true, "037babf92f23cf6988ca797c5ca7537e629ad8944907aef8c98b27455b615bdb"), looks := false }, kinds := [], alts := [], laidByText := true, laidKinds := [.data, .data, .data, .data, .data, .pinned], laidTests := true, laidLooks := .later }
def PakeFinishesUptoCardSaid : Prop := Claim7.holds Tryz.pinned (.plain (OpenSpec.upto pakeFinishesSpec)) pakeFinishesUptoCard

/-- THE SECOND FORM's CARD OF 'watchwordlaw33.PakePoints'. -/
def pakePointsUptoCard : Claim7 := { stood := { row := pakePointsUptoRow, standIns := [], harness := (true, "037babf92f23cf6988ca797c5ca7537e629ad8944907aef8c98b27455b615bdb"), looks := false }, kinds := [], alts := [], laidByText := true, laidKinds := [.data, .data, .data, .data, .data, .pinned], laidTests := true, laidLooks := .later }
def PakePointsUptoCardSaid : Prop := Claim7.holds Tryz.pinned (.plain (OpenSpec.upto pakePointsSpec)) pakePointsUptoCard
end Rows
end Go.Proofs.YtcpjfilcilcekaaGreatDoor
