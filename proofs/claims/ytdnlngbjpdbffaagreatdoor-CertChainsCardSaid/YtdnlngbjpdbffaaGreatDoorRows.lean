/-
  NARROWER THAN 'FOR EVERY INPUT', by the rows' own cells (each row's printed sentence says how): CertChains: laid · CertHolds: laid · CertIssues: laid · CertVerifies: laid · CertLimits: laid · CertCopies: laid · CertEncodes: laid.
  DERIVED. THE GIVEN ROWS OF THIS SEAT. 7 by the template 'for every input the law returns true; each argument reads behind the call as it read before'; 0 by the template 'total and deterministic' (their statements: YtdnlngbjpdbffaaGreatDoorTotals.lean).
  GIVEN WITH THE SEED: the statements are not yours to turn. If you find one false, say at which input.
  Laid BY PROGRAM, IN A SANDBOX (cutbox-rows.mjs): the forced cells as the released guide's own fill.sh prints them over the translation f0d1b6c1c9218c1b… (all of the seat's roots in one cut). By AI agents, Wed Nov 11 2026. No macro, syntax, notation, axiom, sorry.
-/
import Derived.Test.YtdnlngbjpdbffaaGreatDoorChecked
import GoSem.PinnedTables
import GoSem.Claim
import GoSem.ClaimJoined
import GoSem.ClaimMapViews
import Derived.JoinedTies
import Derived.KernelRfl
namespace Go.Proofs.YtdnlngbjpdbffaaGreatDoor
/- THE CELL 'sum', in the pinned program and in every row, IS THE sha256 OF THE DUMP (.gsa) THAT YtdnlngbjpdbffaaGreatDoorProg.lean LOADS. Nothing in Lean hashes anything: it is a label: what it is worth is what the hold of that sum in a sandbox is worth. -/
noncomputable def Tryz.pinned : Pinned := { name := "ytdnlngbjpdbffaagreatdoor", sum := "f0d1b6c1c9218c1bac350b8613ec7198dc17d41d70bc6889c6fafee6ca8661d3", checked := Tryz.checked }
namespace Rows
def none {H : Type} : Left H := { results := [], args := [] }

/- WHAT THE LISTED PACKAGE-LEVEL VARIABLES READ AS WHEN THE CALL BEGINS. Each datum BY PROGRAM (the guide's laid-datum.mjs) off the statement by which the dump's own 'gosem.cut.vars' lays the variable. In a bare row this is a premise. The card (YtdnlngbjpdbffaaGreatDoorCards.lean) ties it to the program's text. -/
def laid_unicode_utf8_acceptRanges {H : Type} : DataW H := .agg [.agg [.lit (.int .u8 128), .lit (.int .u8 191)], .agg [.lit (.int .u8 160), .lit (.int .u8 191)], .agg [.lit (.int .u8 128), .lit (.int .u8 159)], .agg [.lit (.int .u8 144), .lit (.int .u8 191)], .agg [.lit (.int .u8 128), .lit (.int .u8 143)], .agg [.lit (.int .u8 0), .lit (.int .u8 0)], .agg [.lit (.int .u8 0), .lit (.int .u8 0)], .agg [.lit (.int .u8 0), .lit (.int .u8 0)], .agg [.lit (.int .u8 0), .lit (.int .u8 0)], .agg [.lit (.int .u8 0), .lit (.int .u8 0)], .agg [.lit (.int .u8 0), .lit (.int .u8 0)], .agg [.lit (.int .u8 0), .lit (.int .u8 0)], .agg [.lit (.int .u8 0), .lit (.int .u8 0)], .agg [.lit (.int .u8 0), .lit (.int .u8 0)], .agg [.lit (.int .u8 0), .lit (.int .u8 0)], .agg [.lit (.int .u8 0), .lit (.int .u8 0)]]
def laid_watchword_group_primes {H : Type} : DataW H := .agg [.lit (.string [98, 51, 102]), .lit (.string [52, 52, 56, 53, 56, 102, 102]), .lit (.string [57, 49, 98, 56, 56, 55, 102, 102]), .lit (.string [102, 102, 102, 102, 102, 102, 102, 102, 102, 102, 102, 102, 102, 102, 102, 102, 99, 57, 48, 102, 100, 97, 97, 50, 50, 49, 54, 56, 99, 50, 51, 52, 99, 52, 99, 54, 54, 50, 56, 98, 56, 48, 100, 99, 49, 99, 100, 49, 50, 57, 48, 50, 52, 101, 48, 56, 56, 97, 54, 55, 99, 99, 55, 52, 48, 50, 48, 98, 98, 101, 97, 54, 51, 98, 49, 51, 57, 98, 50, 50, 53, 49, 52, 97, 48, 56, 55, 57, 56, 101, 51, 52, 48, 52, 100, 100, 101, 102, 57, 53, 49, 57, 98, 51, 99, 100, 51, 97, 52, 51, 49, 98, 51, 48, 50, 98, 48, 97, 54, 100, 102, 50, 53, 102, 49, 52, 51, 55, 52, 102, 101, 49, 51, 53, 54, 100, 54, 100, 53, 49, 99, 50, 52, 53, 101, 52, 56, 53, 98, 53, 55, 54, 54, 50, 53, 101, 55, 101, 99, 54, 102, 52, 52, 99, 52, 50, 101, 57, 97, 54, 51, 97, 51, 54, 50, 48, 102, 102, 102, 102, 102, 102, 102, 102, 102, 102, 102, 102, 102, 102, 102, 102])]
def laid_watchword_sha_start {H : Type} : DataW H := .agg [.lit (.int .u32 1779033703), .lit (.int .u32 3144134277), .lit (.int .u32 1013904242), .lit (.int .u32 2773480762), .lit (.int .u32 1359893119), .lit (.int .u32 2600822924), .lit (.int .u32 528734635), .lit (.int .u32 1541459225)]
def laid_watchword_sha_constants {H : Type} : DataW H := .agg [.lit (.int .u32 1116352408), .lit (.int .u32 1899447441), .lit (.int .u32 3049323471), .lit (.int .u32 3921009573), .lit (.int .u32 961987163), .lit (.int .u32 1508970993), .lit (.int .u32 2453635748), .lit (.int .u32 2870763221), .lit (.int .u32 3624381080), .lit (.int .u32 310598401), .lit (.int .u32 607225278), .lit (.int .u32 1426881987), .lit (.int .u32 1925078388), .lit (.int .u32 2162078206), .lit (.int .u32 2614888103), .lit (.int .u32 3248222580), .lit (.int .u32 3835390401), .lit (.int .u32 4022224774), .lit (.int .u32 264347078), .lit (.int .u32 604807628), .lit (.int .u32 770255983), .lit (.int .u32 1249150122), .lit (.int .u32 1555081692), .lit (.int .u32 1996064986), .lit (.int .u32 2554220882), .lit (.int .u32 2821834349), .lit (.int .u32 2952996808), .lit (.int .u32 3210313671), .lit (.int .u32 3336571891), .lit (.int .u32 3584528711), .lit (.int .u32 113926993), .lit (.int .u32 338241895), .lit (.int .u32 666307205), .lit (.int .u32 773529912), .lit (.int .u32 1294757372), .lit (.int .u32 1396182291), .lit (.int .u32 1695183700), .lit (.int .u32 1986661051), .lit (.int .u32 2177026350), .lit (.int .u32 2456956037), .lit (.int .u32 2730485921), .lit (.int .u32 2820302411), .lit (.int .u32 3259730800), .lit (.int .u32 3345764771), .lit (.int .u32 3516065817), .lit (.int .u32 3600352804), .lit (.int .u32 4094571909), .lit (.int .u32 275423344), .lit (.int .u32 430227734), .lit (.int .u32 506948616), .lit (.int .u32 659060556), .lit (.int .u32 883997877), .lit (.int .u32 958139571), .lit (.int .u32 1322822218), .lit (.int .u32 1537002063), .lit (.int .u32 1747873779), .lit (.int .u32 1955562222), .lit (.int .u32 2024104815), .lit (.int .u32 2227730452), .lit (.int .u32 2361852424), .lit (.int .u32 2428436474), .lit (.int .u32 2756734187), .lit (.int .u32 3204031479), .lit (.int .u32 3329325298)]
def laid_watchword_sign_scalars {H : Type} : DataW H := .agg [.lit (.int .i64 0), .lit (.int .i64 1)]
/-- One of Go's own tables, pinned by name: the form's constant. -/
def laid_unicode_utf8_first : DataW Unit := Go.Pinned.utf8First
def laid_watchword_watchwordref04_constants {H : Type} : DataW H := .slice [.lit (.int .i64 1116352408), .lit (.int .i64 1899447441), .lit (.int .i64 3049323471), .lit (.int .i64 3921009573), .lit (.int .i64 961987163), .lit (.int .i64 1508970993), .lit (.int .i64 2453635748), .lit (.int .i64 2870763221), .lit (.int .i64 3624381080), .lit (.int .i64 310598401), .lit (.int .i64 607225278), .lit (.int .i64 1426881987), .lit (.int .i64 1925078388), .lit (.int .i64 2162078206), .lit (.int .i64 2614888103), .lit (.int .i64 3248222580), .lit (.int .i64 3835390401), .lit (.int .i64 4022224774), .lit (.int .i64 264347078), .lit (.int .i64 604807628), .lit (.int .i64 770255983), .lit (.int .i64 1249150122), .lit (.int .i64 1555081692), .lit (.int .i64 1996064986), .lit (.int .i64 2554220882), .lit (.int .i64 2821834349), .lit (.int .i64 2952996808), .lit (.int .i64 3210313671), .lit (.int .i64 3336571891), .lit (.int .i64 3584528711), .lit (.int .i64 113926993), .lit (.int .i64 338241895), .lit (.int .i64 666307205), .lit (.int .i64 773529912), .lit (.int .i64 1294757372), .lit (.int .i64 1396182291), .lit (.int .i64 1695183700), .lit (.int .i64 1986661051), .lit (.int .i64 2177026350), .lit (.int .i64 2456956037), .lit (.int .i64 2730485921), .lit (.int .i64 2820302411), .lit (.int .i64 3259730800), .lit (.int .i64 3345764771), .lit (.int .i64 3516065817), .lit (.int .i64 3600352804), .lit (.int .i64 4094571909), .lit (.int .i64 275423344), .lit (.int .i64 430227734), .lit (.int .i64 506948616), .lit (.int .i64 659060556), .lit (.int .i64 883997877), .lit (.int .i64 958139571), .lit (.int .i64 1322822218), .lit (.int .i64 1537002063), .lit (.int .i64 1747873779), .lit (.int .i64 1955562222), .lit (.int .i64 2024104815), .lit (.int .i64 2227730452), .lit (.int .i64 2361852424), .lit (.int .i64 2428436474), .lit (.int .i64 2756734187), .lit (.int .i64 3204031479), .lit (.int .i64 3329325298)] []

/-- 'watchwordlaw21.CertChains': WHATEVER THE INPUT: true; the input reads as it did. -/
def certChainsSpec : ChangeSpec := { name := "certChains", fn := fun _ => fun
  | [d1, d2] => { results := [.lit (.bool true)], args := [d1, d2] }
  | _ => none }
def certChainsRow : OpenClaim := { program := "ytdnlngbjpdbffaagreatdoor", sum := "f0d1b6c1c9218c1bac350b8613ec7198dc17d41d70bc6889c6fafee6ca8661d3", func := "watchword/watchwordlaw21.CertChains", spec := "certChains", inPlace := ["internal/bytealg.IndexByteString", "internal/bytealg.IndexString", "math/bits.Add64", "math/bits.Sub64", "internal/bytealg.MakeNoZero"], unfollowed := true, recurses := true, named := ["unicode/utf8.first", "unicode/utf8.acceptRanges", "internal/bytealg.MaxLen", "watchword/group.primes", "math/bits.divideError", "math/bits.overflowError", "watchword/sha.start", "watchword/sha.constants", "watchword/sign.scalars"], apart := false, laid := [("unicode/utf8.acceptRanges", laid_unicode_utf8_acceptRanges), ("watchword/group.primes", laid_watchword_group_primes), ("watchword/sha.start", laid_watchword_sha_start), ("watchword/sha.constants", laid_watchword_sha_constants), ("watchword/sign.scalars", laid_watchword_sign_scalars), ("unicode/utf8.first", laid_unicode_utf8_first)] }
def CertChainsSaid : Prop := certChainsRow.holds Tryz.pinned (OpenSpec.ofChange certChainsSpec)

/-- ITS FALSE NEIGHBOUR: 'it returns false'. Refute it at one input. -/
def certChainsWrong : ChangeSpec := { name := "certChains", fn := fun _ => fun
  | [d1, d2] => { results := [.lit (.bool false)], args := [d1, d2] }
  | _ => none }
def CertChainsWrongFalsely : Prop := certChainsRow.holds Tryz.pinned (OpenSpec.ofChange certChainsWrong)

/-- 'watchwordlaw21.CertHolds': WHATEVER THE INPUT: true; the input reads as it did. -/
def certHoldsSpec : ChangeSpec := { name := "certHolds", fn := fun _ => fun
  | [d1, d2, d3, d4, d5, d6, d7] => { results := [.lit (.bool true)], args := [d1, d2, d3, d4, d5, d6, d7] }
  | _ => none }
def certHoldsRow : OpenClaim := { program := "ytdnlngbjpdbffaagreatdoor", sum := "f0d1b6c1c9218c1bac350b8613ec7198dc17d41d70bc6889c6fafee6ca8661d3", func := "watchword/watchwordlaw21.CertHolds", spec := "certHolds", inPlace := ["internal/bytealg.IndexByteString", "internal/bytealg.IndexString", "math/bits.Add64", "math/bits.Sub64", "internal/bytealg.MakeNoZero"], unfollowed := true, recurses := true, named := ["unicode/utf8.first", "unicode/utf8.acceptRanges", "internal/bytealg.MaxLen", "watchword/group.primes", "math/bits.divideError", "math/bits.overflowError", "watchword/sha.start", "watchword/sha.constants", "watchword/sign.scalars"], apart := false, laid := [("unicode/utf8.acceptRanges", laid_unicode_utf8_acceptRanges), ("watchword/group.primes", laid_watchword_group_primes), ("watchword/sha.start", laid_watchword_sha_start), ("watchword/sha.constants", laid_watchword_sha_constants), ("watchword/sign.scalars", laid_watchword_sign_scalars), ("unicode/utf8.first", laid_unicode_utf8_first)] }
def CertHoldsSaid : Prop := certHoldsRow.holds Tryz.pinned (OpenSpec.ofChange certHoldsSpec)

/-- ITS FALSE NEIGHBOUR: 'it returns false'. Refute it at one input. -/
def certHoldsWrong : ChangeSpec := { name := "certHolds", fn := fun _ => fun
  | [d1, d2, d3, d4, d5, d6, d7] => { results := [.lit (.bool false)], args := [d1, d2, d3, d4, d5, d6, d7] }
  | _ => none }
def CertHoldsWrongFalsely : Prop := certHoldsRow.holds Tryz.pinned (OpenSpec.ofChange certHoldsWrong)

/-- 'watchwordlaw21.CertIssues': WHATEVER THE INPUT: true; the input reads as it did. -/
def certIssuesSpec : ChangeSpec := { name := "certIssues", fn := fun _ => fun
  | [d1, d2, d3, d4, d5] => { results := [.lit (.bool true)], args := [d1, d2, d3, d4, d5] }
  | _ => none }
def certIssuesRow : OpenClaim := { program := "ytdnlngbjpdbffaagreatdoor", sum := "f0d1b6c1c9218c1bac350b8613ec7198dc17d41d70bc6889c6fafee6ca8661d3", func := "watchword/watchwordlaw21.CertIssues", spec := "certIssues", inPlace := ["internal/bytealg.IndexByteString", "internal/bytealg.IndexString", "math/bits.Add64", "math/bits.Sub64", "internal/bytealg.MakeNoZero"], unfollowed := true, recurses := true, named := ["unicode/utf8.first", "unicode/utf8.acceptRanges", "internal/bytealg.MaxLen", "watchword/group.primes", "math/bits.divideError", "math/bits.overflowError", "watchword/sha.start", "watchword/sha.constants", "watchword/sign.scalars", "watchword/watchwordref04.constants"], apart := false, laid := [("unicode/utf8.acceptRanges", laid_unicode_utf8_acceptRanges), ("watchword/watchwordref04.constants", laid_watchword_watchwordref04_constants), ("watchword/group.primes", laid_watchword_group_primes), ("watchword/sha.start", laid_watchword_sha_start), ("watchword/sha.constants", laid_watchword_sha_constants), ("watchword/sign.scalars", laid_watchword_sign_scalars), ("unicode/utf8.first", laid_unicode_utf8_first)] }
def CertIssuesSaid : Prop := certIssuesRow.holds Tryz.pinned (OpenSpec.ofChange certIssuesSpec)

/-- ITS FALSE NEIGHBOUR: 'it returns false'. Refute it at one input. -/
def certIssuesWrong : ChangeSpec := { name := "certIssues", fn := fun _ => fun
  | [d1, d2, d3, d4, d5] => { results := [.lit (.bool false)], args := [d1, d2, d3, d4, d5] }
  | _ => none }
def CertIssuesWrongFalsely : Prop := certIssuesRow.holds Tryz.pinned (OpenSpec.ofChange certIssuesWrong)

/-- 'watchwordlaw21.CertVerifies': WHATEVER THE INPUT: true; the input reads as it did. -/
def certVerifiesSpec : ChangeSpec := { name := "certVerifies", fn := fun _ => fun
  | [d1, d2, d3, d4] => { results := [.lit (.bool true)], args := [d1, d2, d3, d4] }
  | _ => none }
def certVerifiesRow : OpenClaim := { program := "ytdnlngbjpdbffaagreatdoor", sum := "f0d1b6c1c9218c1bac350b8613ec7198dc17d41d70bc6889c6fafee6ca8661d3", func := "watchword/watchwordlaw21.CertVerifies", spec := "certVerifies", inPlace := ["internal/bytealg.IndexByteString", "internal/bytealg.IndexString", "math/bits.Add64", "math/bits.Sub64", "internal/bytealg.MakeNoZero"], unfollowed := true, recurses := true, named := ["unicode/utf8.first", "unicode/utf8.acceptRanges", "internal/bytealg.MaxLen", "watchword/group.primes", "math/bits.divideError", "math/bits.overflowError", "watchword/sha.start", "watchword/sha.constants", "watchword/sign.scalars", "watchword/watchwordref04.constants"], apart := false, laid := [("unicode/utf8.acceptRanges", laid_unicode_utf8_acceptRanges), ("watchword/watchwordref04.constants", laid_watchword_watchwordref04_constants), ("watchword/group.primes", laid_watchword_group_primes), ("watchword/sha.start", laid_watchword_sha_start), ("watchword/sha.constants", laid_watchword_sha_constants), ("watchword/sign.scalars", laid_watchword_sign_scalars), ("unicode/utf8.first", laid_unicode_utf8_first)] }
def CertVerifiesSaid : Prop := certVerifiesRow.holds Tryz.pinned (OpenSpec.ofChange certVerifiesSpec)

/-- ITS FALSE NEIGHBOUR: 'it returns false'. Refute it at one input. -/
def certVerifiesWrong : ChangeSpec := { name := "certVerifies", fn := fun _ => fun
  | [d1, d2, d3, d4] => { results := [.lit (.bool false)], args := [d1, d2, d3, d4] }
  | _ => none }
def CertVerifiesWrongFalsely : Prop := certVerifiesRow.holds Tryz.pinned (OpenSpec.ofChange certVerifiesWrong)

/-- 'watchwordlaw21.CertLimits': WHATEVER THE INPUT: true; the input reads as it did. -/
def certLimitsSpec : ChangeSpec := { name := "certLimits", fn := fun _ => fun
  | [d1, d2] => { results := [.lit (.bool true)], args := [d1, d2] }
  | _ => none }
def certLimitsRow : OpenClaim := { program := "ytdnlngbjpdbffaagreatdoor", sum := "f0d1b6c1c9218c1bac350b8613ec7198dc17d41d70bc6889c6fafee6ca8661d3", func := "watchword/watchwordlaw21.CertLimits", spec := "certLimits", inPlace := ["internal/bytealg.IndexByteString", "internal/bytealg.IndexString", "math/bits.Add64", "math/bits.Sub64", "internal/bytealg.MakeNoZero"], unfollowed := true, recurses := true, named := ["unicode/utf8.first", "unicode/utf8.acceptRanges", "internal/bytealg.MaxLen", "watchword/group.primes", "math/bits.divideError", "math/bits.overflowError", "watchword/sha.start", "watchword/sha.constants", "watchword/sign.scalars"], apart := false, laid := [("unicode/utf8.acceptRanges", laid_unicode_utf8_acceptRanges), ("watchword/group.primes", laid_watchword_group_primes), ("watchword/sha.start", laid_watchword_sha_start), ("watchword/sha.constants", laid_watchword_sha_constants), ("watchword/sign.scalars", laid_watchword_sign_scalars), ("unicode/utf8.first", laid_unicode_utf8_first)] }
def CertLimitsSaid : Prop := certLimitsRow.holds Tryz.pinned (OpenSpec.ofChange certLimitsSpec)

/-- ITS FALSE NEIGHBOUR: 'it returns false'. Refute it at one input. -/
def certLimitsWrong : ChangeSpec := { name := "certLimits", fn := fun _ => fun
  | [d1, d2] => { results := [.lit (.bool false)], args := [d1, d2] }
  | _ => none }
def CertLimitsWrongFalsely : Prop := certLimitsRow.holds Tryz.pinned (OpenSpec.ofChange certLimitsWrong)

/-- 'watchwordlaw21.CertCopies': WHATEVER THE INPUT: true; the input reads as it did. -/
def certCopiesSpec : ChangeSpec := { name := "certCopies", fn := fun _ => fun
  | [d1, d2] => { results := [.lit (.bool true)], args := [d1, d2] }
  | _ => none }
def certCopiesRow : OpenClaim := { program := "ytdnlngbjpdbffaagreatdoor", sum := "f0d1b6c1c9218c1bac350b8613ec7198dc17d41d70bc6889c6fafee6ca8661d3", func := "watchword/watchwordlaw21.CertCopies", spec := "certCopies", inPlace := ["internal/bytealg.IndexByteString", "internal/bytealg.IndexString", "math/bits.Add64", "math/bits.Sub64", "internal/bytealg.MakeNoZero"], unfollowed := true, recurses := true, named := ["unicode/utf8.first", "unicode/utf8.acceptRanges", "internal/bytealg.MaxLen", "watchword/group.primes", "math/bits.divideError", "math/bits.overflowError", "watchword/sha.start", "watchword/sha.constants", "watchword/sign.scalars"], apart := false, laid := [("unicode/utf8.acceptRanges", laid_unicode_utf8_acceptRanges), ("watchword/group.primes", laid_watchword_group_primes), ("watchword/sha.start", laid_watchword_sha_start), ("watchword/sha.constants", laid_watchword_sha_constants), ("watchword/sign.scalars", laid_watchword_sign_scalars), ("unicode/utf8.first", laid_unicode_utf8_first)] }
def CertCopiesSaid : Prop := certCopiesRow.holds Tryz.pinned (OpenSpec.ofChange certCopiesSpec)

/-- ITS FALSE NEIGHBOUR: 'it returns false'. Refute it at one input. -/
def certCopiesWrong : ChangeSpec := { name := "certCopies", fn := fun _ => fun
  | [d1, d2] => { results := [.lit (.bool false)], args := [d1, d2] }
  | _ => none }
def CertCopiesWrongFalsely : Prop := certCopiesRow.holds Tryz.pinned (OpenSpec.ofChange certCopiesWrong)

/-- 'watchwordlaw21.CertEncodes': WHATEVER THE INPUT: true; the input reads as it did. -/
def certEncodesSpec : ChangeSpec := { name := "certEncodes", fn := fun _ => fun
  | [d1, d2] => { results := [.lit (.bool true)], args := [d1, d2] }
  | _ => none }
def certEncodesRow : OpenClaim := { program := "ytdnlngbjpdbffaagreatdoor", sum := "f0d1b6c1c9218c1bac350b8613ec7198dc17d41d70bc6889c6fafee6ca8661d3", func := "watchword/watchwordlaw21.CertEncodes", spec := "certEncodes", inPlace := ["internal/bytealg.IndexByteString", "internal/bytealg.IndexString", "math/bits.Add64", "math/bits.Sub64", "internal/bytealg.MakeNoZero"], unfollowed := true, recurses := true, named := ["unicode/utf8.first", "unicode/utf8.acceptRanges", "internal/bytealg.MaxLen", "watchword/group.primes", "math/bits.divideError", "math/bits.overflowError", "watchword/sha.start", "watchword/sha.constants", "watchword/sign.scalars"], apart := false, laid := [("unicode/utf8.acceptRanges", laid_unicode_utf8_acceptRanges), ("watchword/group.primes", laid_watchword_group_primes), ("watchword/sha.start", laid_watchword_sha_start), ("watchword/sha.constants", laid_watchword_sha_constants), ("watchword/sign.scalars", laid_watchword_sign_scalars), ("unicode/utf8.first", laid_unicode_utf8_first)] }
def CertEncodesSaid : Prop := certEncodesRow.holds Tryz.pinned (OpenSpec.ofChange certEncodesSpec)

/-- ITS FALSE NEIGHBOUR: 'it returns false'. Refute it at one input. -/
def certEncodesWrong : ChangeSpec := { name := "certEncodes", fn := fun _ => fun
  | [d1, d2] => { results := [.lit (.bool false)], args := [d1, d2] }
  | _ => none }
def CertEncodesWrongFalsely : Prop := certEncodesRow.holds Tryz.pinned (OpenSpec.ofChange certEncodesWrong)

/- THE SECOND FORM. 'bulk': how many values and letters a reading holds, each counted each time it is reached (what is shared counts as often as it is met; a slice's spare places count too). A statement '..UptoSaid' is the law's where the arguments, and the package variables that the reading takes, are together of bulk at most 1048576: NARROWER than '..Said'. Prove '..Said' where nothing that the law and all that it calls make is longer than what came in: it says more and counts as full. Else prove '..UptoSaid'. A law counts once. -/
mutual
def uptoBulk {H : Type} : DataW H → Nat
  | .lit (.string bytes) => bytes.length + 1
  | .lit _ => 1
  | .nil => 1
  | .ptr d => uptoBulk d + 1
  | .slice elems spare => uptoBulkAll elems + uptoBulkAll spare + 1
  | .agg parts => uptoBulkAll parts + 1
  | .iface _ d => uptoBulk d + 1
  | .map entries => uptoBulkEntries entries + 1
  | .held _ => 1
def uptoBulkAll {H : Type} : List (DataW H) → Nat
  | [] => 0
  | d :: r => uptoBulk d + uptoBulkAll r
def uptoBulkEntries {H : Type} : List (Lit × DataW H) → Nat
  | [] => 0
  | x :: r => uptoBulkEntry x + uptoBulkEntries r
def uptoBulkEntry {H : Type} : Lit × DataW H → Nat
  | (.string bytes, d) => bytes.length + uptoBulk d + 1
  | (_, d) => uptoBulk d + 1
 end
def uptoSmall : (H : Type) → List (DataW H) → Bool := fun _ ds => decide (uptoBulkAll ds ≤ 1048576)
def OpenSpec.upto (s : _root_.Go.ChangeSpec) : _root_.Go.OpenSpec := { _root_.Go.OpenSpec.ofChange s with cond := some uptoSmall }

/-- 'watchwordlaw21.CertChains', WHERE WHAT IT READS IS OF BULK AT MOST 1048576: true; the input reads as it did. -/
def certChainsUptoRow : OpenClaim := { program := "ytdnlngbjpdbffaagreatdoor", sum := "f0d1b6c1c9218c1bac350b8613ec7198dc17d41d70bc6889c6fafee6ca8661d3", func := "watchword/watchwordlaw21.CertChains", spec := "certChains", inPlace := ["internal/bytealg.IndexByteString", "internal/bytealg.IndexString", "math/bits.Add64", "math/bits.Sub64", "internal/bytealg.MakeNoZero"], unfollowed := true, recurses := true, named := ["unicode/utf8.first", "unicode/utf8.acceptRanges", "internal/bytealg.MaxLen", "watchword/group.primes", "math/bits.divideError", "math/bits.overflowError", "watchword/sha.start", "watchword/sha.constants", "watchword/sign.scalars"], apart := false, laid := [("unicode/utf8.acceptRanges", laid_unicode_utf8_acceptRanges), ("watchword/group.primes", laid_watchword_group_primes), ("watchword/sha.start", laid_watchword_sha_start), ("watchword/sha.constants", laid_watchword_sha_constants), ("watchword/sign.scalars", laid_watchword_sign_scalars), ("unicode/utf8.first", laid_unicode_utf8_first)], narrowed := true }
def CertChainsUptoSaid : Prop := certChainsUptoRow.holds Tryz.pinned (OpenSpec.upto certChainsSpec)

/-- 'watchwordlaw21.CertHolds', WHERE WHAT IT READS IS OF BULK AT MOST 1048576: true; the input reads as it did. -/
def certHoldsUptoRow : OpenClaim := { program := "ytdnlngbjpdbffaagreatdoor", sum := "f0d1b6c1c9218c1bac350b8613ec7198dc17d41d70bc6889c6fafee6ca8661d3", func := "watchword/watchwordlaw21.CertHolds", spec := "certHolds", inPlace := ["internal/bytealg.IndexByteString", "internal/bytealg.IndexString", "math/bits.Add64", "math/bits.Sub64", "internal/bytealg.MakeNoZero"], unfollowed := true, recurses := true, named := ["unicode/utf8.first", "unicode/utf8.acceptRanges", "internal/bytealg.MaxLen", "watchword/group.primes", "math/bits.divideError", "math/bits.overflowError", "watchword/sha.start", "watchword/sha.constants", "watchword/sign.scalars"], apart := false, laid := [("unicode/utf8.acceptRanges", laid_unicode_utf8_acceptRanges), ("watchword/group.primes", laid_watchword_group_primes), ("watchword/sha.start", laid_watchword_sha_start), ("watchword/sha.constants", laid_watchword_sha_constants), ("watchword/sign.scalars", laid_watchword_sign_scalars), ("unicode/utf8.first", laid_unicode_utf8_first)], narrowed := true }
def CertHoldsUptoSaid : Prop := certHoldsUptoRow.holds Tryz.pinned (OpenSpec.upto certHoldsSpec)

/-- 'watchwordlaw21.CertIssues', WHERE WHAT IT READS IS OF BULK AT MOST 1048576: true; the input reads as it did. -/
def certIssuesUptoRow : OpenClaim := { program := "ytdnlngbjpdbffaagreatdoor", sum := "f0d1b6c1c9218c1bac350b8613ec7198dc17d41d70bc6889c6fafee6ca8661d3", func := "watchword/watchwordlaw21.CertIssues", spec := "certIssues", inPlace := ["internal/bytealg.IndexByteString", "internal/bytealg.IndexString", "math/bits.Add64", "math/bits.Sub64", "internal/bytealg.MakeNoZero"], unfollowed := true, recurses := true, named := ["unicode/utf8.first", "unicode/utf8.acceptRanges", "internal/bytealg.MaxLen", "watchword/group.primes", "math/bits.divideError", "math/bits.overflowError", "watchword/sha.start", "watchword/sha.constants", "watchword/sign.scalars", "watchword/watchwordref04.constants"], apart := false, laid := [("unicode/utf8.acceptRanges", laid_unicode_utf8_acceptRanges), ("watchword/watchwordref04.constants", laid_watchword_watchwordref04_constants), ("watchword/group.primes", laid_watchword_group_primes), ("watchword/sha.start", laid_watchword_sha_start), ("watchword/sha.constants", laid_watchword_sha_constants), ("watchword/sign.scalars", laid_watchword_sign_scalars), ("unicode/utf8.first", laid_unicode_utf8_first)], narrowed := true }
def CertIssuesUptoSaid : Prop := certIssuesUptoRow.holds Tryz.pinned (OpenSpec.upto certIssuesSpec)

/-- 'watchwordlaw21.CertVerifies', WHERE WHAT IT READS IS OF BULK AT MOST 1048576: true; the input reads as it did. -/
def certVerifiesUptoRow : OpenClaim := { program := "ytdnlngbjpdbffaagreatdoor", sum := "f0d1b6c1c9218c1bac350b8613ec7198dc17d41d70bc6889c6fafee6ca8661d3", func := "watchword/watchwordlaw21.CertVerifies", spec := "certVerifies", inPlace := ["internal/bytealg.IndexByteString", "internal/bytealg.IndexString", "math/bits.Add64", "math/bits.Sub64", "internal/bytealg.MakeNoZero"], unfollowed := true, recurses := true, named := ["unicode/utf8.first", "unicode/utf8.acceptRanges", "internal/bytealg.MaxLen", "watchword/group.primes", "math/bits.divideError", "math/bits.overflowError", "watchword/sha.start", "watchword/sha.constants", "watchword/sign.scalars", "watchword/watchwordref04.constants"], apart := false, laid := [("unicode/utf8.acceptRanges", laid_unicode_utf8_acceptRanges), ("watchword/watchwordref04.constants", laid_watchword_watchwordref04_constants), ("watchword/group.primes", laid_watchword_group_primes), ("watchword/sha.start", laid_watchword_sha_start), ("watchword/sha.constants", laid_watchword_sha_constants), ("watchword/sign.scalars", laid_watchword_sign_scalars), ("unicode/utf8.first", laid_unicode_utf8_first)], narrowed := true }
def CertVerifiesUptoSaid : Prop := certVerifiesUptoRow.holds Tryz.pinned (OpenSpec.upto certVerifiesSpec)

/-- 'watchwordlaw21.CertLimits', WHERE WHAT IT READS IS OF BULK AT MOST 1048576: true; the input reads as it did. -/
def certLimitsUptoRow : OpenClaim := { program := "ytdnlngbjpdbffaagreatdoor", sum := "f0d1b6c1c9218c1bac350b8613ec7198dc17d41d70bc6889c6fafee6ca8661d3", func := "watchword/watchwordlaw21.CertLimits", spec := "certLimits", inPlace := ["internal/bytealg.IndexByteString", "internal/bytealg.IndexString", "math/bits.Add64", "math/bits.Sub64", "internal/bytealg.MakeNoZero"], unfollowed := true, recurses := true, named := ["unicode/utf8.first", "unicode/utf8.acceptRanges", "internal/bytealg.MaxLen", "watchword/group.primes", "math/bits.divideError", "math/bits.overflowError", "watchword/sha.start", "watchword/sha.constants", "watchword/sign.scalars"], apart := false, laid := [("unicode/utf8.acceptRanges", laid_unicode_utf8_acceptRanges), ("watchword/group.primes", laid_watchword_group_primes), ("watchword/sha.start", laid_watchword_sha_start), ("watchword/sha.constants", laid_watchword_sha_constants), ("watchword/sign.scalars", laid_watchword_sign_scalars), ("unicode/utf8.first", laid_unicode_utf8_first)], narrowed := true }
def CertLimitsUptoSaid : Prop := certLimitsUptoRow.holds Tryz.pinned (OpenSpec.upto certLimitsSpec)

/-- 'watchwordlaw21.CertCopies', WHERE WHAT IT READS IS OF BULK AT MOST 1048576: true; the input reads as it did. -/
def certCopiesUptoRow : OpenClaim := { program := "ytdnlngbjpdbffaagreatdoor", sum := "f0d1b6c1c9218c1bac350b8613ec7198dc17d41d70bc6889c6fafee6ca8661d3", func := "watchword/watchwordlaw21.CertCopies", spec := "certCopies", inPlace := ["internal/bytealg.IndexByteString", "internal/bytealg.IndexString", "math/bits.Add64", "math/bits.Sub64", "internal/bytealg.MakeNoZero"], unfollowed := true, recurses := true, named := ["unicode/utf8.first", "unicode/utf8.acceptRanges", "internal/bytealg.MaxLen", "watchword/group.primes", "math/bits.divideError", "math/bits.overflowError", "watchword/sha.start", "watchword/sha.constants", "watchword/sign.scalars"], apart := false, laid := [("unicode/utf8.acceptRanges", laid_unicode_utf8_acceptRanges), ("watchword/group.primes", laid_watchword_group_primes), ("watchword/sha.start", laid_watchword_sha_start), ("watchword/sha.constants", laid_watchword_sha_constants), ("watchword/sign.scalars", laid_watchword_sign_scalars), ("unicode/utf8.first", laid_unicode_utf8_first)], narrowed := true }
def CertCopiesUptoSaid : Prop := certCopiesUptoRow.holds Tryz.pinned (OpenSpec.upto certCopiesSpec)

/-- 'watchwordlaw21.CertEncodes', WHERE WHAT IT READS IS OF BULK AT MOST 1048576: true; the input reads as it did. -/
def certEncodesUptoRow : OpenClaim := { program := "ytdnlngbjpdbffaagreatdoor", sum := "f0d1b6c1c9218c1bac350b8613ec7198dc17d41d70bc6889c6fafee6ca8661d3", func := "watchword/watchwordlaw21.CertEncodes", spec := "certEncodes", inPlace := ["internal/bytealg.IndexByteString", "internal/bytealg.IndexString", "math/bits.Add64", "math/bits.Sub64", "internal/bytealg.MakeNoZero"], unfollowed := true, recurses := true, named := ["unicode/utf8.first", "unicode/utf8.acceptRanges", "internal/bytealg.MaxLen", "watchword/group.primes", "math/bits.divideError", "math/bits.overflowError", "watchword/sha.start", "watchword/sha.constants", "watchword/sign.scalars"], apart := false, laid := [("unicode/utf8.acceptRanges", laid_unicode_utf8_acceptRanges), ("watchword/group.primes", laid_watchword_group_primes), ("watchword/sha.start", laid_watchword_sha_start), ("watchword/sha.constants", laid_watchword_sha_constants), ("watchword/sign.scalars", laid_watchword_sign_scalars), ("unicode/utf8.first", laid_unicode_utf8_first)], narrowed := true }
def CertEncodesUptoSaid : Prop := certEncodesUptoRow.holds Tryz.pinned (OpenSpec.upto certEncodesSpec)

end Rows
end Go.Proofs.YtdnlngbjpdbffaaGreatDoor
