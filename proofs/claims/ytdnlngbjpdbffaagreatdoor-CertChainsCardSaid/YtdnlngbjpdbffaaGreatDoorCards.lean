/-
  DERIVED. GIVEN WITH THE SEED: THE CARDS: each row of YtdnlngbjpdbffaaGreatDoorRows.lean that lists a variable, with what it lists TIED to the program's text (the seventh form; the later family's looks); each row that meets fmt, with fmt's text TOLD by the authors' own Lean function (tested against real Go, not proved from fmt's source: count such statements apart). THE CARD IS WHAT COUNTS. Prove the row's statement (the work); the ties are given (YtdnlngbjpdbffaaGreatDoorTie.lean); close each card by the builder's one call (the guide's Derived/Test/ToyasCard.lean, 'card_holds'). Laid BY PROGRAM, IN A SANDBOX (cutbox-door.mjs). By AI agents, Wed Nov 11 2026. No macro, syntax, notation, axiom, sorry.
-/
import Derived.Test.YtdnlngbjpdbffaaGreatDoorRows
import GoSem.ClaimSeven
namespace Go.Proofs.YtdnlngbjpdbffaaGreatDoor
namespace Rows

/-- THE TIED CARD OF 'watchwordlaw21.CertChains'. -/
def certChainsCard : Claim7 := { stood := { row := certChainsRow, standIns := [], harness := (true, "01056091d102d1e5d1533231b7f0c053533beecef99e489a8b805b0e8f3b0688"), looks := true }, kinds := [], alts := [], laidByText := true, laidKinds := [.data, .data, .data, .data, .data, .pinned], laidTests := true, laidLooks := .later }
def CertChainsCardSaid : Prop := Claim7.holds Tryz.pinned (.plain (OpenSpec.ofChange certChainsSpec)) certChainsCard

/-- THE TIED CARD OF 'watchwordlaw21.CertHolds'. -/
def certHoldsCard : Claim7 := { stood := { row := certHoldsRow, standIns := [], harness := (true, "01056091d102d1e5d1533231b7f0c053533beecef99e489a8b805b0e8f3b0688"), looks := true }, kinds := [], alts := [], laidByText := true, laidKinds := [.data, .data, .data, .data, .data, .pinned], laidTests := true, laidLooks := .later }
def CertHoldsCardSaid : Prop := Claim7.holds Tryz.pinned (.plain (OpenSpec.ofChange certHoldsSpec)) certHoldsCard

/-- THE TIED CARD OF 'watchwordlaw21.CertIssues'. -/
def certIssuesCard : Claim7 := { stood := { row := certIssuesRow, standIns := [], harness := (true, "01056091d102d1e5d1533231b7f0c053533beecef99e489a8b805b0e8f3b0688"), looks := true }, kinds := [], alts := [], laidByText := true, laidKinds := [.data, .data, .data, .data, .data, .data, .pinned], laidTests := true, laidLooks := .later }
def CertIssuesCardSaid : Prop := Claim7.holds Tryz.pinned (.plain (OpenSpec.ofChange certIssuesSpec)) certIssuesCard

/-- THE TIED CARD OF 'watchwordlaw21.CertVerifies'. -/
def certVerifiesCard : Claim7 := { stood := { row := certVerifiesRow, standIns := [], harness := (true, "01056091d102d1e5d1533231b7f0c053533beecef99e489a8b805b0e8f3b0688"), looks := true }, kinds := [], alts := [], laidByText := true, laidKinds := [.data, .data, .data, .data, .data, .data, .pinned], laidTests := true, laidLooks := .later }
def CertVerifiesCardSaid : Prop := Claim7.holds Tryz.pinned (.plain (OpenSpec.ofChange certVerifiesSpec)) certVerifiesCard

/-- THE TIED CARD OF 'watchwordlaw21.CertLimits'. -/
def certLimitsCard : Claim7 := { stood := { row := certLimitsRow, standIns := [], harness := (true, "01056091d102d1e5d1533231b7f0c053533beecef99e489a8b805b0e8f3b0688"), looks := true }, kinds := [], alts := [], laidByText := true, laidKinds := [.data, .data, .data, .data, .data, .pinned], laidTests := true, laidLooks := .later }
def CertLimitsCardSaid : Prop := Claim7.holds Tryz.pinned (.plain (OpenSpec.ofChange certLimitsSpec)) certLimitsCard

/-- THE TIED CARD OF 'watchwordlaw21.CertCopies'. -/
def certCopiesCard : Claim7 := { stood := { row := certCopiesRow, standIns := [], harness := (true, "01056091d102d1e5d1533231b7f0c053533beecef99e489a8b805b0e8f3b0688"), looks := true }, kinds := [], alts := [], laidByText := true, laidKinds := [.data, .data, .data, .data, .data, .pinned], laidTests := true, laidLooks := .later }
def CertCopiesCardSaid : Prop := Claim7.holds Tryz.pinned (.plain (OpenSpec.ofChange certCopiesSpec)) certCopiesCard

/-- THE TIED CARD OF 'watchwordlaw21.CertEncodes'. -/
def certEncodesCard : Claim7 := { stood := { row := certEncodesRow, standIns := [], harness := (true, "01056091d102d1e5d1533231b7f0c053533beecef99e489a8b805b0e8f3b0688"), looks := true }, kinds := [], alts := [], laidByText := true, laidKinds := [.data, .data, .data, .data, .data, .pinned], laidTests := true, laidLooks := .later }
def CertEncodesCardSaid : Prop := Claim7.holds Tryz.pinned (.plain (OpenSpec.ofChange certEncodesSpec)) certEncodesCard

/-- THE SECOND FORM's CARD OF 'watchwordlaw21.CertChains'. -/
def certChainsUptoCard : Claim7 := { stood := { row := certChainsUptoRow, standIns := [], harness := (true, "01056091d102d1e5d1533231b7f0c053533beecef99e489a8b805b0e8f3b0688"), looks := true }, kinds := [], alts := [], laidByText := true, laidKinds := [.data, .data, .data, .data, .data, .pinned], laidTests := true, laidLooks := .later }
def CertChainsUptoCardSaid : Prop := Claim7.holds Tryz.pinned (.plain (OpenSpec.upto certChainsSpec)) certChainsUptoCard

/-- THE SECOND FORM's CARD OF 'watchwordlaw21.CertHolds'. -/
def certHoldsUptoCard : Claim7 := { stood := { row := certHoldsUptoRow, standIns := [], harness := (true, "01056091d102d1e5d1533231b7f0c053533beecef99e489a8b805b0e8f3b0688"), looks := true }, kinds := [], alts := [], laidByText := true, laidKinds := [.data, .data, .data, .data, .data, .pinned], laidTests := true, laidLooks := .later }
def CertHoldsUptoCardSaid : Prop := Claim7.holds Tryz.pinned (.plain (OpenSpec.upto certHoldsSpec)) certHoldsUptoCard

/-- THE SECOND FORM's CARD OF 'watchwordlaw21.CertIssues'. -/
def certIssuesUptoCard : Claim7 := { stood := { row := certIssuesUptoRow, standIns := [], harness := (true, "01056091d102d1e5d1533231b7f0c053533beecef99e489a8b805b0e8f3b0688"), looks := true }, kinds := [], alts := [], laidByText := true, laidKinds := [.data, .data, .data, .data, .data, .data, .pinned], laidTests := true, laidLooks := .later }
def CertIssuesUptoCardSaid : Prop := Claim7.holds Tryz.pinned (.plain (OpenSpec.upto certIssuesSpec)) certIssuesUptoCard

/-- THE SECOND FORM's CARD OF 'watchwordlaw21.CertVerifies'. -/
def certVerifiesUptoCard : Claim7 := { stood := { row := certVerifiesUptoRow, standIns := [], harness := (true, "01056091d102d1e5d1533231b7f0c053533beecef99e489a8b805b0e8f3b0688"), looks := true }, kinds := [], alts := [], laidByText := true, laidKinds := [.data, .data, .data, .data, .data, .data, .pinned], laidTests := true, laidLooks := .later }
def CertVerifiesUptoCardSaid : Prop := Claim7.holds Tryz.pinned (.plain (OpenSpec.upto certVerifiesSpec)) certVerifiesUptoCard

/-- THE SECOND FORM's CARD OF 'watchwordlaw21.CertLimits'. -/
def certLimitsUptoCard : Claim7 := { stood := { row := certLimitsUptoRow, standIns := [], harness := (true, "01056091d102d1e5d1533231b7f0c053533beecef99e489a8b805b0e8f3b0688"), looks := true }, kinds := [], alts := [], laidByText := true, laidKinds := [.data, .data, .data, .data, .data, .pinned], laidTests := true, laidLooks := .later }
def CertLimitsUptoCardSaid : Prop := Claim7.holds Tryz.pinned (.plain (OpenSpec.upto certLimitsSpec)) certLimitsUptoCard

/-- THE SECOND FORM's CARD OF 'watchwordlaw21.CertCopies'. -/
def certCopiesUptoCard : Claim7 := { stood := { row := certCopiesUptoRow, standIns := [], harness := (true, "01056091d102d1e5d1533231b7f0c053533beecef99e489a8b805b0e8f3b0688"), looks := true }, kinds := [], alts := [], laidByText := true, laidKinds := [.data, .data, .data, .data, .data, .pinned], laidTests := true, laidLooks := .later }
def CertCopiesUptoCardSaid : Prop := Claim7.holds Tryz.pinned (.plain (OpenSpec.upto certCopiesSpec)) certCopiesUptoCard

/-- THE SECOND FORM's CARD OF 'watchwordlaw21.CertEncodes'. -/
def certEncodesUptoCard : Claim7 := { stood := { row := certEncodesUptoRow, standIns := [], harness := (true, "01056091d102d1e5d1533231b7f0c053533beecef99e489a8b805b0e8f3b0688"), looks := true }, kinds := [], alts := [], laidByText := true, laidKinds := [.data, .data, .data, .data, .data, .pinned], laidTests := true, laidLooks := .later }
def CertEncodesUptoCardSaid : Prop := Claim7.holds Tryz.pinned (.plain (OpenSpec.upto certEncodesSpec)) certEncodesUptoCard
end Rows
end Go.Proofs.YtdnlngbjpdbffaaGreatDoor
