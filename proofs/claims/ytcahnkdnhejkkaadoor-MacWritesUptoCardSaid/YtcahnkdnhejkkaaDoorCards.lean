/-
  DERIVED. GIVEN WITH THE SEED: THE CARDS: each row of YtcahnkdnhejkkaaDoorRows.lean that lists a variable, with what it lists TIED to the program's text (the seventh form; the later family's looks); each row that meets fmt, with fmt's text TOLD by the authors' own Lean function (tested against real Go, not proved from fmt's source: count such statements apart). THE CARD IS WHAT COUNTS. Prove the row's statement (the work); the ties are given (YtcahnkdnhejkkaaDoorTie.lean); close each card by the builder's one call (the guide's Derived/Test/ToyasCard.lean, 'card_holds'). Laid BY PROGRAM, IN A SANDBOX (cutbox-door.mjs). By AI agents, Wed Nov 11 2026. No macro, syntax, notation, axiom, sorry.
-/
import Derived.Test.YtcahnkdnhejkkaaDoorRows
import GoSem.ClaimSeven
namespace Go.Proofs.YtcahnkdnhejkkaaDoor
namespace Rows

/-- THE TIED CARD OF 'watchwordlaw04.ShaSums'. -/
def shaSumsCard : Claim7 := { stood := { row := shaSumsRow, standIns := [], harness := (true, "02ee1cd41ade2aafd659357ea985199c570eacd375a7181cbc938f781bd42361"), looks := false }, kinds := [], alts := [], laidByText := true, laidKinds := [.data, .data, .data], laidTests := true, laidLooks := .later }
def ShaSumsCardSaid : Prop := Claim7.holds Tryd.pinned (.plain (OpenSpec.ofChange shaSumsSpec)) shaSumsCard

/-- THE TIED CARD OF 'watchwordlaw04.ShaBlocks'. -/
def shaBlocksCard : Claim7 := { stood := { row := shaBlocksRow, standIns := [], harness := (true, "02ee1cd41ade2aafd659357ea985199c570eacd375a7181cbc938f781bd42361"), looks := false }, kinds := [], alts := [], laidByText := true, laidKinds := [.data, .data], laidTests := true, laidLooks := .later }
def ShaBlocksCardSaid : Prop := Claim7.holds Tryd.pinned (.plain (OpenSpec.ofChange shaBlocksSpec)) shaBlocksCard

/-- THE TIED CARD OF 'watchwordlaw04.ShaDivides'. -/
def shaDividesCard : Claim7 := { stood := { row := shaDividesRow, standIns := [], harness := (true, "02ee1cd41ade2aafd659357ea985199c570eacd375a7181cbc938f781bd42361"), looks := false }, kinds := [], alts := [], laidByText := true, laidKinds := [.data, .data], laidTests := true, laidLooks := .later }
def ShaDividesCardSaid : Prop := Claim7.holds Tryd.pinned (.plain (OpenSpec.ofChange shaDividesSpec)) shaDividesCard

/-- THE TIED CARD OF 'watchwordlaw04.ShaWrites'. -/
def shaWritesCard : Claim7 := { stood := { row := shaWritesRow, standIns := [], harness := (true, "02ee1cd41ade2aafd659357ea985199c570eacd375a7181cbc938f781bd42361"), looks := false }, kinds := [], alts := [], laidByText := true, laidKinds := [.data, .data, .data], laidTests := true, laidLooks := .later }
def ShaWritesCardSaid : Prop := Claim7.holds Tryd.pinned (.plain (OpenSpec.ofChange shaWritesSpec)) shaWritesCard

/-- THE TIED CARD OF 'watchwordlaw04.ShaNone'. -/
def shaNoneCard : Claim7 := { stood := { row := shaNoneRow, standIns := [], harness := (true, "02ee1cd41ade2aafd659357ea985199c570eacd375a7181cbc938f781bd42361"), looks := false }, kinds := [], alts := [], laidByText := true, laidKinds := [.data, .data, .data], laidTests := true, laidLooks := .later }
def ShaNoneCardSaid : Prop := Claim7.holds Tryd.pinned (.plain (OpenSpec.ofChange shaNoneSpec)) shaNoneCard

/-- THE TIED CARD OF 'watchwordlaw05.MacSums'. -/
def macSumsCard : Claim7 := { stood := { row := macSumsRow, standIns := [], harness := (true, "02ee1cd41ade2aafd659357ea985199c570eacd375a7181cbc938f781bd42361"), looks := false }, kinds := [], alts := [], laidByText := true, laidKinds := [.data, .data, .data], laidTests := true, laidLooks := .later }
def MacSumsCardSaid : Prop := Claim7.holds Tryd.pinned (.plain (OpenSpec.ofChange macSumsSpec)) macSumsCard

/-- THE TIED CARD OF 'watchwordlaw05.MacChecks'. -/
def macChecksCard : Claim7 := { stood := { row := macChecksRow, standIns := [], harness := (true, "02ee1cd41ade2aafd659357ea985199c570eacd375a7181cbc938f781bd42361"), looks := false }, kinds := [], alts := [], laidByText := true, laidKinds := [.data, .data, .data], laidTests := true, laidLooks := .later }
def MacChecksCardSaid : Prop := Claim7.holds Tryd.pinned (.plain (OpenSpec.ofChange macChecksSpec)) macChecksCard

/-- THE TIED CARD OF 'watchwordlaw05.MacDivides'. -/
def macDividesCard : Claim7 := { stood := { row := macDividesRow, standIns := [], harness := (true, "02ee1cd41ade2aafd659357ea985199c570eacd375a7181cbc938f781bd42361"), looks := false }, kinds := [], alts := [], laidByText := true, laidKinds := [.data, .data], laidTests := true, laidLooks := .later }
def MacDividesCardSaid : Prop := Claim7.holds Tryd.pinned (.plain (OpenSpec.ofChange macDividesSpec)) macDividesCard

/-- THE TIED CARD OF 'watchwordlaw05.MacWrites'. -/
def macWritesCard : Claim7 := { stood := { row := macWritesRow, standIns := [], harness := (true, "02ee1cd41ade2aafd659357ea985199c570eacd375a7181cbc938f781bd42361"), looks := false }, kinds := [], alts := [], laidByText := true, laidKinds := [.data, .data, .data], laidTests := true, laidLooks := .later }
def MacWritesCardSaid : Prop := Claim7.holds Tryd.pinned (.plain (OpenSpec.ofChange macWritesSpec)) macWritesCard

/-- THE TIED CARD OF 'watchwordlaw05.MacNone'. -/
def macNoneCard : Claim7 := { stood := { row := macNoneRow, standIns := [], harness := (true, "02ee1cd41ade2aafd659357ea985199c570eacd375a7181cbc938f781bd42361"), looks := false }, kinds := [], alts := [], laidByText := true, laidKinds := [.data, .data], laidTests := true, laidLooks := .later }
def MacNoneCardSaid : Prop := Claim7.holds Tryd.pinned (.plain (OpenSpec.ofChange macNoneSpec)) macNoneCard

/-- THE TIED CARD OF 'watchwordlaw08.DeriveKeys'. -/
def deriveKeysCard : Claim7 := { stood := { row := deriveKeysRow, standIns := [], harness := (true, "02ee1cd41ade2aafd659357ea985199c570eacd375a7181cbc938f781bd42361"), looks := false }, kinds := [], alts := [], laidByText := true, laidKinds := [.data, .data, .data], laidTests := true, laidLooks := .later }
def DeriveKeysCardSaid : Prop := Claim7.holds Tryd.pinned (.plain (OpenSpec.ofChange deriveKeysSpec)) deriveKeysCard

/-- THE TIED CARD OF 'watchwordlaw08.DerivePasswords'. -/
def derivePasswordsCard : Claim7 := { stood := { row := derivePasswordsRow, standIns := [], harness := (true, "02ee1cd41ade2aafd659357ea985199c570eacd375a7181cbc938f781bd42361"), looks := false }, kinds := [], alts := [], laidByText := true, laidKinds := [.data, .data, .data], laidTests := true, laidLooks := .later }
def DerivePasswordsCardSaid : Prop := Claim7.holds Tryd.pinned (.plain (OpenSpec.ofChange derivePasswordsSpec)) derivePasswordsCard

/-- THE TIED CARD OF 'watchwordlaw08.DeriveAgain'. -/
def deriveAgainCard : Claim7 := { stood := { row := deriveAgainRow, standIns := [], harness := (true, "02ee1cd41ade2aafd659357ea985199c570eacd375a7181cbc938f781bd42361"), looks := false }, kinds := [], alts := [], laidByText := true, laidKinds := [.data, .data], laidTests := true, laidLooks := .later }
def DeriveAgainCardSaid : Prop := Claim7.holds Tryd.pinned (.plain (OpenSpec.ofChange deriveAgainSpec)) deriveAgainCard

/-- THE TIED CARD OF 'watchwordlaw08.DeriveBlocks'. -/
def deriveBlocksCard : Claim7 := { stood := { row := deriveBlocksRow, standIns := [], harness := (true, "02ee1cd41ade2aafd659357ea985199c570eacd375a7181cbc938f781bd42361"), looks := false }, kinds := [], alts := [], laidByText := true, laidKinds := [.data, .data, .data], laidTests := true, laidLooks := .later }
def DeriveBlocksCardSaid : Prop := Claim7.holds Tryd.pinned (.plain (OpenSpec.ofChange deriveBlocksSpec)) deriveBlocksCard

/-- THE TIED CARD OF 'watchwordlaw08.DerivePrefixes'. -/
def derivePrefixesCard : Claim7 := { stood := { row := derivePrefixesRow, standIns := [], harness := (true, "02ee1cd41ade2aafd659357ea985199c570eacd375a7181cbc938f781bd42361"), looks := false }, kinds := [], alts := [], laidByText := true, laidKinds := [.data, .data], laidTests := true, laidLooks := .later }
def DerivePrefixesCardSaid : Prop := Claim7.holds Tryd.pinned (.plain (OpenSpec.ofChange derivePrefixesSpec)) derivePrefixesCard

/-- THE TIED CARD OF 'watchwordlaw10.RandomNumbers'. -/
def randomNumbersCard : Claim7 := { stood := { row := randomNumbersRow, standIns := [], harness := (true, "02ee1cd41ade2aafd659357ea985199c570eacd375a7181cbc938f781bd42361"), looks := false }, kinds := [], alts := [], laidByText := true, laidKinds := [.data, .data, .data], laidTests := true, laidLooks := .later }
def RandomNumbersCardSaid : Prop := Claim7.holds Tryd.pinned (.plain (OpenSpec.ofChange randomNumbersSpec)) randomNumbersCard

/-- THE TIED CARD OF 'watchwordlaw10.RandomAgain'. -/
def randomAgainCard : Claim7 := { stood := { row := randomAgainRow, standIns := [], harness := (true, "02ee1cd41ade2aafd659357ea985199c570eacd375a7181cbc938f781bd42361"), looks := false }, kinds := [], alts := [], laidByText := true, laidKinds := [.data, .data], laidTests := true, laidLooks := .later }
def RandomAgainCardSaid : Prop := Claim7.holds Tryd.pinned (.plain (OpenSpec.ofChange randomAgainSpec)) randomAgainCard

/-- THE TIED CARD OF 'watchwordlaw10.RandomForks'. -/
def randomForksCard : Claim7 := { stood := { row := randomForksRow, standIns := [], harness := (true, "02ee1cd41ade2aafd659357ea985199c570eacd375a7181cbc938f781bd42361"), looks := false }, kinds := [], alts := [], laidByText := true, laidKinds := [.data, .data], laidTests := true, laidLooks := .later }
def RandomForksCardSaid : Prop := Claim7.holds Tryd.pinned (.plain (OpenSpec.ofChange randomForksSpec)) randomForksCard

/-- THE TIED CARD OF 'watchwordlaw10.RandomPlays'. -/
def randomPlaysCard : Claim7 := { stood := { row := randomPlaysRow, standIns := [], harness := (true, "02ee1cd41ade2aafd659357ea985199c570eacd375a7181cbc938f781bd42361"), looks := false }, kinds := [], alts := [], laidByText := true, laidKinds := [.data, .data, .data], laidTests := true, laidLooks := .later }
def RandomPlaysCardSaid : Prop := Claim7.holds Tryd.pinned (.plain (OpenSpec.ofChange randomPlaysSpec)) randomPlaysCard

/-- THE TIED CARD OF 'watchwordlaw10.RandomNone'. -/
def randomNoneCard : Claim7 := { stood := { row := randomNoneRow, standIns := [], harness := (true, "02ee1cd41ade2aafd659357ea985199c570eacd375a7181cbc938f781bd42361"), looks := false }, kinds := [], alts := [], laidByText := true, laidKinds := [.data, .data], laidTests := true, laidLooks := .later }
def RandomNoneCardSaid : Prop := Claim7.holds Tryd.pinned (.plain (OpenSpec.ofChange randomNoneSpec)) randomNoneCard

/-- THE SECOND FORM's CARD OF 'watchwordlaw04.ShaSums'. -/
def shaSumsUptoCard : Claim7 := { stood := { row := shaSumsUptoRow, standIns := [], harness := (true, "02ee1cd41ade2aafd659357ea985199c570eacd375a7181cbc938f781bd42361"), looks := false }, kinds := [], alts := [], laidByText := true, laidKinds := [.data, .data, .data], laidTests := true, laidLooks := .later }
def ShaSumsUptoCardSaid : Prop := Claim7.holds Tryd.pinned (.plain (OpenSpec.upto shaSumsSpec)) shaSumsUptoCard

/-- THE SECOND FORM's CARD OF 'watchwordlaw04.ShaBlocks'. -/
def shaBlocksUptoCard : Claim7 := { stood := { row := shaBlocksUptoRow, standIns := [], harness := (true, "02ee1cd41ade2aafd659357ea985199c570eacd375a7181cbc938f781bd42361"), looks := false }, kinds := [], alts := [], laidByText := true, laidKinds := [.data, .data], laidTests := true, laidLooks := .later }
def ShaBlocksUptoCardSaid : Prop := Claim7.holds Tryd.pinned (.plain (OpenSpec.upto shaBlocksSpec)) shaBlocksUptoCard

/-- THE SECOND FORM's CARD OF 'watchwordlaw04.ShaDivides'. -/
def shaDividesUptoCard : Claim7 := { stood := { row := shaDividesUptoRow, standIns := [], harness := (true, "02ee1cd41ade2aafd659357ea985199c570eacd375a7181cbc938f781bd42361"), looks := false }, kinds := [], alts := [], laidByText := true, laidKinds := [.data, .data], laidTests := true, laidLooks := .later }
def ShaDividesUptoCardSaid : Prop := Claim7.holds Tryd.pinned (.plain (OpenSpec.upto shaDividesSpec)) shaDividesUptoCard

/-- THE SECOND FORM's CARD OF 'watchwordlaw04.ShaWrites'. -/
def shaWritesUptoCard : Claim7 := { stood := { row := shaWritesUptoRow, standIns := [], harness := (true, "02ee1cd41ade2aafd659357ea985199c570eacd375a7181cbc938f781bd42361"), looks := false }, kinds := [], alts := [], laidByText := true, laidKinds := [.data, .data, .data], laidTests := true, laidLooks := .later }
def ShaWritesUptoCardSaid : Prop := Claim7.holds Tryd.pinned (.plain (OpenSpec.upto shaWritesSpec)) shaWritesUptoCard

/-- THE SECOND FORM's CARD OF 'watchwordlaw04.ShaNone'. -/
def shaNoneUptoCard : Claim7 := { stood := { row := shaNoneUptoRow, standIns := [], harness := (true, "02ee1cd41ade2aafd659357ea985199c570eacd375a7181cbc938f781bd42361"), looks := false }, kinds := [], alts := [], laidByText := true, laidKinds := [.data, .data, .data], laidTests := true, laidLooks := .later }
def ShaNoneUptoCardSaid : Prop := Claim7.holds Tryd.pinned (.plain (OpenSpec.upto shaNoneSpec)) shaNoneUptoCard

/-- THE SECOND FORM's CARD OF 'watchwordlaw05.MacSums'. -/
def macSumsUptoCard : Claim7 := { stood := { row := macSumsUptoRow, standIns := [], harness := (true, "02ee1cd41ade2aafd659357ea985199c570eacd375a7181cbc938f781bd42361"), looks := false }, kinds := [], alts := [], laidByText := true, laidKinds := [.data, .data, .data], laidTests := true, laidLooks := .later }
def MacSumsUptoCardSaid : Prop := Claim7.holds Tryd.pinned (.plain (OpenSpec.upto macSumsSpec)) macSumsUptoCard

/-- THE SECOND FORM's CARD OF 'watchwordlaw05.MacChecks'. -/
def macChecksUptoCard : Claim7 := { stood := { row := macChecksUptoRow, standIns := [], harness := (true, "02ee1cd41ade2aafd659357ea985199c570eacd375a7181cbc938f781bd42361"), looks := false }, kinds := [], alts := [], laidByText := true, laidKinds := [.data, .data, .data], laidTests := true, laidLooks := .later }
def MacChecksUptoCardSaid : Prop := Claim7.holds Tryd.pinned (.plain (OpenSpec.upto macChecksSpec)) macChecksUptoCard

/-- THE SECOND FORM's CARD OF 'watchwordlaw05.MacDivides'. -/
def macDividesUptoCard : Claim7 := { stood := { row := macDividesUptoRow, standIns := [], harness := (true, "02ee1cd41ade2aafd659357ea985199c570eacd375a7181cbc938f781bd42361"), looks := false }, kinds := [], alts := [], laidByText := true, laidKinds := [.data, .data], laidTests := true, laidLooks := .later }
def MacDividesUptoCardSaid : Prop := Claim7.holds Tryd.pinned (.plain (OpenSpec.upto macDividesSpec)) macDividesUptoCard

/-- THE SECOND FORM's CARD OF 'watchwordlaw05.MacWrites'. -/
def macWritesUptoCard : Claim7 := { stood := { row := macWritesUptoRow, standIns := [], harness := (true, "02ee1cd41ade2aafd659357ea985199c570eacd375a7181cbc938f781bd42361"), looks := false }, kinds := [], alts := [], laidByText := true, laidKinds := [.data, .data, .data], laidTests := true, laidLooks := .later }
def MacWritesUptoCardSaid : Prop := Claim7.holds Tryd.pinned (.plain (OpenSpec.upto macWritesSpec)) macWritesUptoCard

/-- THE SECOND FORM's CARD OF 'watchwordlaw05.MacNone'. -/
def macNoneUptoCard : Claim7 := { stood := { row := macNoneUptoRow, standIns := [], harness := (true, "02ee1cd41ade2aafd659357ea985199c570eacd375a7181cbc938f781bd42361"), looks := false }, kinds := [], alts := [], laidByText := true, laidKinds := [.data, .data], laidTests := true, laidLooks := .later }
def MacNoneUptoCardSaid : Prop := Claim7.holds Tryd.pinned (.plain (OpenSpec.upto macNoneSpec)) macNoneUptoCard

/-- THE SECOND FORM's CARD OF 'watchwordlaw08.DeriveKeys'. -/
def deriveKeysUptoCard : Claim7 := { stood := { row := deriveKeysUptoRow, standIns := [], harness := (true, "02ee1cd41ade2aafd659357ea985199c570eacd375a7181cbc938f781bd42361"), looks := false }, kinds := [], alts := [], laidByText := true, laidKinds := [.data, .data, .data], laidTests := true, laidLooks := .later }
def DeriveKeysUptoCardSaid : Prop := Claim7.holds Tryd.pinned (.plain (OpenSpec.upto deriveKeysSpec)) deriveKeysUptoCard

/-- THE SECOND FORM's CARD OF 'watchwordlaw08.DerivePasswords'. -/
def derivePasswordsUptoCard : Claim7 := { stood := { row := derivePasswordsUptoRow, standIns := [], harness := (true, "02ee1cd41ade2aafd659357ea985199c570eacd375a7181cbc938f781bd42361"), looks := false }, kinds := [], alts := [], laidByText := true, laidKinds := [.data, .data, .data], laidTests := true, laidLooks := .later }
def DerivePasswordsUptoCardSaid : Prop := Claim7.holds Tryd.pinned (.plain (OpenSpec.upto derivePasswordsSpec)) derivePasswordsUptoCard

/-- THE SECOND FORM's CARD OF 'watchwordlaw08.DeriveAgain'. -/
def deriveAgainUptoCard : Claim7 := { stood := { row := deriveAgainUptoRow, standIns := [], harness := (true, "02ee1cd41ade2aafd659357ea985199c570eacd375a7181cbc938f781bd42361"), looks := false }, kinds := [], alts := [], laidByText := true, laidKinds := [.data, .data], laidTests := true, laidLooks := .later }
def DeriveAgainUptoCardSaid : Prop := Claim7.holds Tryd.pinned (.plain (OpenSpec.upto deriveAgainSpec)) deriveAgainUptoCard

/-- THE SECOND FORM's CARD OF 'watchwordlaw08.DeriveBlocks'. -/
def deriveBlocksUptoCard : Claim7 := { stood := { row := deriveBlocksUptoRow, standIns := [], harness := (true, "02ee1cd41ade2aafd659357ea985199c570eacd375a7181cbc938f781bd42361"), looks := false }, kinds := [], alts := [], laidByText := true, laidKinds := [.data, .data, .data], laidTests := true, laidLooks := .later }
def DeriveBlocksUptoCardSaid : Prop := Claim7.holds Tryd.pinned (.plain (OpenSpec.upto deriveBlocksSpec)) deriveBlocksUptoCard

/-- THE SECOND FORM's CARD OF 'watchwordlaw08.DerivePrefixes'. -/
def derivePrefixesUptoCard : Claim7 := { stood := { row := derivePrefixesUptoRow, standIns := [], harness := (true, "02ee1cd41ade2aafd659357ea985199c570eacd375a7181cbc938f781bd42361"), looks := false }, kinds := [], alts := [], laidByText := true, laidKinds := [.data, .data], laidTests := true, laidLooks := .later }
def DerivePrefixesUptoCardSaid : Prop := Claim7.holds Tryd.pinned (.plain (OpenSpec.upto derivePrefixesSpec)) derivePrefixesUptoCard

/-- THE SECOND FORM's CARD OF 'watchwordlaw10.RandomNumbers'. -/
def randomNumbersUptoCard : Claim7 := { stood := { row := randomNumbersUptoRow, standIns := [], harness := (true, "02ee1cd41ade2aafd659357ea985199c570eacd375a7181cbc938f781bd42361"), looks := false }, kinds := [], alts := [], laidByText := true, laidKinds := [.data, .data, .data], laidTests := true, laidLooks := .later }
def RandomNumbersUptoCardSaid : Prop := Claim7.holds Tryd.pinned (.plain (OpenSpec.upto randomNumbersSpec)) randomNumbersUptoCard

/-- THE SECOND FORM's CARD OF 'watchwordlaw10.RandomAgain'. -/
def randomAgainUptoCard : Claim7 := { stood := { row := randomAgainUptoRow, standIns := [], harness := (true, "02ee1cd41ade2aafd659357ea985199c570eacd375a7181cbc938f781bd42361"), looks := false }, kinds := [], alts := [], laidByText := true, laidKinds := [.data, .data], laidTests := true, laidLooks := .later }
def RandomAgainUptoCardSaid : Prop := Claim7.holds Tryd.pinned (.plain (OpenSpec.upto randomAgainSpec)) randomAgainUptoCard

/-- THE SECOND FORM's CARD OF 'watchwordlaw10.RandomForks'. -/
def randomForksUptoCard : Claim7 := { stood := { row := randomForksUptoRow, standIns := [], harness := (true, "02ee1cd41ade2aafd659357ea985199c570eacd375a7181cbc938f781bd42361"), looks := false }, kinds := [], alts := [], laidByText := true, laidKinds := [.data, .data], laidTests := true, laidLooks := .later }
def RandomForksUptoCardSaid : Prop := Claim7.holds Tryd.pinned (.plain (OpenSpec.upto randomForksSpec)) randomForksUptoCard

/-- THE SECOND FORM's CARD OF 'watchwordlaw10.RandomPlays'. -/
def randomPlaysUptoCard : Claim7 := { stood := { row := randomPlaysUptoRow, standIns := [], harness := (true, "02ee1cd41ade2aafd659357ea985199c570eacd375a7181cbc938f781bd42361"), looks := false }, kinds := [], alts := [], laidByText := true, laidKinds := [.data, .data, .data], laidTests := true, laidLooks := .later }
def RandomPlaysUptoCardSaid : Prop := Claim7.holds Tryd.pinned (.plain (OpenSpec.upto randomPlaysSpec)) randomPlaysUptoCard

/-- THE SECOND FORM's CARD OF 'watchwordlaw10.RandomNone'. -/
def randomNoneUptoCard : Claim7 := { stood := { row := randomNoneUptoRow, standIns := [], harness := (true, "02ee1cd41ade2aafd659357ea985199c570eacd375a7181cbc938f781bd42361"), looks := false }, kinds := [], alts := [], laidByText := true, laidKinds := [.data, .data], laidTests := true, laidLooks := .later }
def RandomNoneUptoCardSaid : Prop := Claim7.holds Tryd.pinned (.plain (OpenSpec.upto randomNoneSpec)) randomNoneUptoCard
end Rows
end Go.Proofs.YtcahnkdnhejkkaaDoor
