/-
  DERIVED. GIVEN WITH THE SEED: THE CARDS: each row of YtjidkoabdmjgkaaGreatDoorRows.lean that lists a variable, with what it lists TIED to the program's text (the seventh form; the later family's looks); each row that meets fmt, with fmt's text TOLD by the authors' own Lean function (tested against real Go, not proved from fmt's source: count such statements apart). THE CARD IS WHAT COUNTS. Prove the row's statement (the work); the ties are given (YtjidkoabdmjgkaaGreatDoorTie.lean); close each card by the builder's one call (the guide's Derived/Test/ToyasCard.lean, 'card_holds'). Laid BY PROGRAM, IN A SANDBOX (cutbox-door.mjs). By AI agents, Wed Nov 11 2026. No macro, syntax, notation, axiom, sorry.
-/
import Derived.Test.YtjidkoabdmjgkaaGreatDoorRows
import GoSem.ClaimSeven
namespace Go.Proofs.YtjidkoabdmjgkaaGreatDoor
namespace Rows

/-- THE TIED CARD OF 'watchwordlaw20.SignSigns'. -/
def signSignsCard : Claim7 := { stood := { row := signSignsRow, standIns := [], harness := (true, "76aed47bc671135c5ebb036b62f1e0b80d45a57945cc475714d7667d53b19445"), looks := false }, kinds := [], alts := [], laidByText := true, laidKinds := [.data, .data, .data, .data, .data, .data, .pinned], laidTests := true, laidLooks := .later }
def SignSignsCardSaid : Prop := Claim7.holds Tryz.pinned (.plain (OpenSpec.ofChange signSignsSpec)) signSignsCard

/-- THE TIED CARD OF 'watchwordlaw20.SignVerifies'. -/
def signVerifiesCard : Claim7 := { stood := { row := signVerifiesRow, standIns := [], harness := (true, "76aed47bc671135c5ebb036b62f1e0b80d45a57945cc475714d7667d53b19445"), looks := false }, kinds := [], alts := [], laidByText := true, laidKinds := [.data, .data, .data, .data, .data, .data, .pinned], laidTests := true, laidLooks := .later }
def SignVerifiesCardSaid : Prop := Claim7.holds Tryz.pinned (.plain (OpenSpec.ofChange signVerifiesSpec)) signVerifiesCard

/-- THE TIED CARD OF 'watchwordlaw20.SignLong'. -/
def signLongCard : Claim7 := { stood := { row := signLongRow, standIns := [], harness := (true, "76aed47bc671135c5ebb036b62f1e0b80d45a57945cc475714d7667d53b19445"), looks := false }, kinds := [], alts := [], laidByText := true, laidKinds := [.data, .data, .data, .data, .data, .pinned], laidTests := true, laidLooks := .later }
def SignLongCardSaid : Prop := Claim7.holds Tryz.pinned (.plain (OpenSpec.ofChange signLongSpec)) signLongCard

/-- THE TIED CARD OF 'watchwordlaw20.SignParts'. -/
def signPartsCard : Claim7 := { stood := { row := signPartsRow, standIns := [], harness := (true, "76aed47bc671135c5ebb036b62f1e0b80d45a57945cc475714d7667d53b19445"), looks := false }, kinds := [], alts := [], laidByText := true, laidKinds := [.data, .data, .data, .data, .data, .pinned], laidTests := true, laidLooks := .later }
def SignPartsCardSaid : Prop := Claim7.holds Tryz.pinned (.plain (OpenSpec.ofChange signPartsSpec)) signPartsCard

/-- THE TIED CARD OF 'watchwordlaw20.SignKeys'. -/
def signKeysCard : Claim7 := { stood := { row := signKeysRow, standIns := [], harness := (true, "76aed47bc671135c5ebb036b62f1e0b80d45a57945cc475714d7667d53b19445"), looks := false }, kinds := [], alts := [], laidByText := true, laidKinds := [.data, .data, .data, .data, .data, .pinned], laidTests := true, laidLooks := .later }
def SignKeysCardSaid : Prop := Claim7.holds Tryz.pinned (.plain (OpenSpec.ofChange signKeysSpec)) signKeysCard

/-- THE TIED CARD OF 'watchwordlaw20.SignHolds'. -/
def signHoldsCard : Claim7 := { stood := { row := signHoldsRow, standIns := [], harness := (true, "76aed47bc671135c5ebb036b62f1e0b80d45a57945cc475714d7667d53b19445"), looks := false }, kinds := [], alts := [], laidByText := true, laidKinds := [.data, .data, .data, .data, .data, .pinned], laidTests := true, laidLooks := .later }
def SignHoldsCardSaid : Prop := Claim7.holds Tryz.pinned (.plain (OpenSpec.ofChange signHoldsSpec)) signHoldsCard

/-- THE SECOND FORM's CARD OF 'watchwordlaw20.SignSigns'. -/
def signSignsUptoCard : Claim7 := { stood := { row := signSignsUptoRow, standIns := [], harness := (true, "76aed47bc671135c5ebb036b62f1e0b80d45a57945cc475714d7667d53b19445"), looks := false }, kinds := [], alts := [], laidByText := true, laidKinds := [.data, .data, .data, .data, .data, .data, .pinned], laidTests := true, laidLooks := .later }
def SignSignsUptoCardSaid : Prop := Claim7.holds Tryz.pinned (.plain (OpenSpec.upto signSignsSpec)) signSignsUptoCard

/-- THE SECOND FORM's CARD OF 'watchwordlaw20.SignVerifies'. -/
def signVerifiesUptoCard : Claim7 := { stood := { row := signVerifiesUptoRow, standIns := [], harness := (true, "76aed47bc671135c5ebb036b62f1e0b80d45a57945cc475714d7667d53b19445"), looks := false }, kinds := [], alts := [], laidByText := true, laidKinds := [.data, .data, .data, .data, .data, .data, .pinned], laidTests := true, laidLooks := .later }
def SignVerifiesUptoCardSaid : Prop := Claim7.holds Tryz.pinned (.plain (OpenSpec.upto signVerifiesSpec)) signVerifiesUptoCard

/-- THE SECOND FORM's CARD OF 'watchwordlaw20.SignLong'. -/
def signLongUptoCard : Claim7 := { stood := { row := signLongUptoRow, standIns := [], harness := (true, "76aed47bc671135c5ebb036b62f1e0b80d45a57945cc475714d7667d53b19445"), looks := false }, kinds := [], alts := [], laidByText := true, laidKinds := [.data, .data, .data, .data, .data, .pinned], laidTests := true, laidLooks := .later }
def SignLongUptoCardSaid : Prop := Claim7.holds Tryz.pinned (.plain (OpenSpec.upto signLongSpec)) signLongUptoCard

/-- THE SECOND FORM's CARD OF 'watchwordlaw20.SignParts'. -/
def signPartsUptoCard : Claim7 := { stood := { row := signPartsUptoRow, standIns := [], harness := (true, "76aed47bc671135c5ebb036b62f1e0b80d45a57945cc475714d7667d53b19445"), looks := false }, kinds := [], alts := [], laidByText := true, laidKinds := [.data, .data, .data, .data, .data, .pinned], laidTests := true, laidLooks := .later }
def SignPartsUptoCardSaid : Prop := Claim7.holds Tryz.pinned (.plain (OpenSpec.upto signPartsSpec)) signPartsUptoCard

/-- THE SECOND FORM's CARD OF 'watchwordlaw20.SignKeys'. -/
def signKeysUptoCard : Claim7 := { stood := { row := signKeysUptoRow, standIns := [], harness := (true, "76aed47bc671135c5ebb036b62f1e0b80d45a57945cc475714d7667d53b19445"), looks := false }, kinds := [], alts := [], laidByText := true, laidKinds := [.data, .data, .data, .data, .data, .pinned], laidTests := true, laidLooks := .later }
def SignKeysUptoCardSaid : Prop := Claim7.holds Tryz.pinned (.plain (OpenSpec.upto signKeysSpec)) signKeysUptoCard

/-- THE SECOND FORM's CARD OF 'watchwordlaw20.SignHolds'. -/
def signHoldsUptoCard : Claim7 := { stood := { row := signHoldsUptoRow, standIns := [], harness := (true, "76aed47bc671135c5ebb036b62f1e0b80d45a57945cc475714d7667d53b19445"), looks := false }, kinds := [], alts := [], laidByText := true, laidKinds := [.data, .data, .data, .data, .data, .pinned], laidTests := true, laidLooks := .later }
def SignHoldsUptoCardSaid : Prop := Claim7.holds Tryz.pinned (.plain (OpenSpec.upto signHoldsSpec)) signHoldsUptoCard
end Rows
end Go.Proofs.YtjidkoabdmjgkaaGreatDoor
