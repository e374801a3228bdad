/-
  NARROWER THAN 'FOR EVERY INPUT', by the rows' own cells (each row's printed sentence says how): ShaSums: laid · ShaBlocks: laid · ShaDivides: laid · ShaWrites: laid · ShaNone: laid · MacSums: laid · MacChecks: laid · MacDivides: laid · MacWrites: laid · MacNone: laid · DeriveKeys: laid · DerivePasswords: laid · DeriveAgain: laid · DeriveBlocks: laid · DerivePrefixes: laid · RandomNumbers: laid · RandomAgain: laid · RandomForks: laid · RandomPlays: laid · RandomNone: laid.
  DERIVED. THE GIVEN ROWS OF THIS SEAT. 20 by the template 'for every input the law returns true; each argument reads behind the call as it read before'; 0 by the template 'total and deterministic' (their statements: YtcahnkdnhejkkaaDoorTotals.lean).
  GIVEN WITH THE SEED: the statements are not yours to turn. If you find one false, say at which input.
  Laid BY PROGRAM, IN A SANDBOX (cutbox-rows.mjs): the forced cells as the released guide's own fill.sh prints them over the translation f6be294f7983346c… (all of the seat's roots in one cut). By AI agents, Wed Nov 11 2026. No macro, syntax, notation, axiom, sorry.
-/
import Derived.Test.YtcahnkdnhejkkaaDoorChecked
import GoSem.Claim
import GoSem.ClaimJoined
import GoSem.ClaimMapViews
import Derived.JoinedTies
import Derived.KernelRfl
namespace Go.Proofs.YtcahnkdnhejkkaaDoor
/- THE CELL 'sum', in the pinned program and in every row, IS THE sha256 OF THE DUMP (.gsa) THAT YtcahnkdnhejkkaaDoorProg.lean LOADS. Nothing in Lean hashes anything: it is a label: what it is worth is what the hold of that sum in a sandbox is worth. -/
noncomputable def Tryd.pinned : Pinned := { name := "ytcahnkdnhejkkaadoor", sum := "f6be294f7983346c71e15f0c2341a9a109b9802bea1a9dedc0ca523e420ba244", checked := Tryd.checked }
namespace Rows
def none {H : Type} : Left H := { results := [], args := [] }

/- WHAT THE LISTED PACKAGE-LEVEL VARIABLES READ AS WHEN THE CALL BEGINS. Each datum BY PROGRAM (the guide's laid-datum.mjs) off the statement by which the dump's own 'gosem.cut.vars' lays the variable. In a bare row this is a premise. The card (YtcahnkdnhejkkaaDoorCards.lean) ties it to the program's text. -/
def laid_watchword_watchwordref04_constants {H : Type} : DataW H := .slice [.lit (.int .i64 1116352408), .lit (.int .i64 1899447441), .lit (.int .i64 3049323471), .lit (.int .i64 3921009573), .lit (.int .i64 961987163), .lit (.int .i64 1508970993), .lit (.int .i64 2453635748), .lit (.int .i64 2870763221), .lit (.int .i64 3624381080), .lit (.int .i64 310598401), .lit (.int .i64 607225278), .lit (.int .i64 1426881987), .lit (.int .i64 1925078388), .lit (.int .i64 2162078206), .lit (.int .i64 2614888103), .lit (.int .i64 3248222580), .lit (.int .i64 3835390401), .lit (.int .i64 4022224774), .lit (.int .i64 264347078), .lit (.int .i64 604807628), .lit (.int .i64 770255983), .lit (.int .i64 1249150122), .lit (.int .i64 1555081692), .lit (.int .i64 1996064986), .lit (.int .i64 2554220882), .lit (.int .i64 2821834349), .lit (.int .i64 2952996808), .lit (.int .i64 3210313671), .lit (.int .i64 3336571891), .lit (.int .i64 3584528711), .lit (.int .i64 113926993), .lit (.int .i64 338241895), .lit (.int .i64 666307205), .lit (.int .i64 773529912), .lit (.int .i64 1294757372), .lit (.int .i64 1396182291), .lit (.int .i64 1695183700), .lit (.int .i64 1986661051), .lit (.int .i64 2177026350), .lit (.int .i64 2456956037), .lit (.int .i64 2730485921), .lit (.int .i64 2820302411), .lit (.int .i64 3259730800), .lit (.int .i64 3345764771), .lit (.int .i64 3516065817), .lit (.int .i64 3600352804), .lit (.int .i64 4094571909), .lit (.int .i64 275423344), .lit (.int .i64 430227734), .lit (.int .i64 506948616), .lit (.int .i64 659060556), .lit (.int .i64 883997877), .lit (.int .i64 958139571), .lit (.int .i64 1322822218), .lit (.int .i64 1537002063), .lit (.int .i64 1747873779), .lit (.int .i64 1955562222), .lit (.int .i64 2024104815), .lit (.int .i64 2227730452), .lit (.int .i64 2361852424), .lit (.int .i64 2428436474), .lit (.int .i64 2756734187), .lit (.int .i64 3204031479), .lit (.int .i64 3329325298)] []
def laid_watchword_sha_start {H : Type} : DataW H := .agg [.lit (.int .u32 1779033703), .lit (.int .u32 3144134277), .lit (.int .u32 1013904242), .lit (.int .u32 2773480762), .lit (.int .u32 1359893119), .lit (.int .u32 2600822924), .lit (.int .u32 528734635), .lit (.int .u32 1541459225)]
def laid_watchword_sha_constants {H : Type} : DataW H := .agg [.lit (.int .u32 1116352408), .lit (.int .u32 1899447441), .lit (.int .u32 3049323471), .lit (.int .u32 3921009573), .lit (.int .u32 961987163), .lit (.int .u32 1508970993), .lit (.int .u32 2453635748), .lit (.int .u32 2870763221), .lit (.int .u32 3624381080), .lit (.int .u32 310598401), .lit (.int .u32 607225278), .lit (.int .u32 1426881987), .lit (.int .u32 1925078388), .lit (.int .u32 2162078206), .lit (.int .u32 2614888103), .lit (.int .u32 3248222580), .lit (.int .u32 3835390401), .lit (.int .u32 4022224774), .lit (.int .u32 264347078), .lit (.int .u32 604807628), .lit (.int .u32 770255983), .lit (.int .u32 1249150122), .lit (.int .u32 1555081692), .lit (.int .u32 1996064986), .lit (.int .u32 2554220882), .lit (.int .u32 2821834349), .lit (.int .u32 2952996808), .lit (.int .u32 3210313671), .lit (.int .u32 3336571891), .lit (.int .u32 3584528711), .lit (.int .u32 113926993), .lit (.int .u32 338241895), .lit (.int .u32 666307205), .lit (.int .u32 773529912), .lit (.int .u32 1294757372), .lit (.int .u32 1396182291), .lit (.int .u32 1695183700), .lit (.int .u32 1986661051), .lit (.int .u32 2177026350), .lit (.int .u32 2456956037), .lit (.int .u32 2730485921), .lit (.int .u32 2820302411), .lit (.int .u32 3259730800), .lit (.int .u32 3345764771), .lit (.int .u32 3516065817), .lit (.int .u32 3600352804), .lit (.int .u32 4094571909), .lit (.int .u32 275423344), .lit (.int .u32 430227734), .lit (.int .u32 506948616), .lit (.int .u32 659060556), .lit (.int .u32 883997877), .lit (.int .u32 958139571), .lit (.int .u32 1322822218), .lit (.int .u32 1537002063), .lit (.int .u32 1747873779), .lit (.int .u32 1955562222), .lit (.int .u32 2024104815), .lit (.int .u32 2227730452), .lit (.int .u32 2361852424), .lit (.int .u32 2428436474), .lit (.int .u32 2756734187), .lit (.int .u32 3204031479), .lit (.int .u32 3329325298)]

/-- 'watchwordlaw04.ShaSums': WHATEVER THE INPUT: true; the input reads as it did. -/
def shaSumsSpec : ChangeSpec := { name := "shaSums", fn := fun _ => fun
  | [d] => { results := [.lit (.bool true)], args := [d] }
  | _ => none }
def shaSumsRow : OpenClaim := { program := "ytcahnkdnhejkkaadoor", sum := "f6be294f7983346c71e15f0c2341a9a109b9802bea1a9dedc0ca523e420ba244", func := "watchword/watchwordlaw04.ShaSums", spec := "shaSums", unfollowed := true, recurses := true, named := ["watchword/sha.start", "watchword/sha.constants", "watchword/watchwordref04.constants"], apart := false, laid := [("watchword/watchwordref04.constants", laid_watchword_watchwordref04_constants), ("watchword/sha.start", laid_watchword_sha_start), ("watchword/sha.constants", laid_watchword_sha_constants)] }
def ShaSumsSaid : Prop := shaSumsRow.holds Tryd.pinned (OpenSpec.ofChange shaSumsSpec)

/-- ITS FALSE NEIGHBOUR: 'it returns false'. Refute it at one input. -/
def shaSumsWrong : ChangeSpec := { name := "shaSums", fn := fun _ => fun
  | [d] => { results := [.lit (.bool false)], args := [d] }
  | _ => none }
def ShaSumsWrongFalsely : Prop := shaSumsRow.holds Tryd.pinned (OpenSpec.ofChange shaSumsWrong)

/-- 'watchwordlaw04.ShaBlocks': WHATEVER THE INPUT: true; the input reads as it did. -/
def shaBlocksSpec : ChangeSpec := { name := "shaBlocks", fn := fun _ => fun
  | [d1, d2] => { results := [.lit (.bool true)], args := [d1, d2] }
  | _ => none }
def shaBlocksRow : OpenClaim := { program := "ytcahnkdnhejkkaadoor", sum := "f6be294f7983346c71e15f0c2341a9a109b9802bea1a9dedc0ca523e420ba244", func := "watchword/watchwordlaw04.ShaBlocks", spec := "shaBlocks", unfollowed := true, recurses := true, named := ["watchword/sha.start", "watchword/sha.constants"], apart := false, laid := [("watchword/sha.start", laid_watchword_sha_start), ("watchword/sha.constants", laid_watchword_sha_constants)] }
def ShaBlocksSaid : Prop := shaBlocksRow.holds Tryd.pinned (OpenSpec.ofChange shaBlocksSpec)

/-- ITS FALSE NEIGHBOUR: 'it returns false'. Refute it at one input. -/
def shaBlocksWrong : ChangeSpec := { name := "shaBlocks", fn := fun _ => fun
  | [d1, d2] => { results := [.lit (.bool false)], args := [d1, d2] }
  | _ => none }
def ShaBlocksWrongFalsely : Prop := shaBlocksRow.holds Tryd.pinned (OpenSpec.ofChange shaBlocksWrong)

/-- 'watchwordlaw04.ShaDivides': WHATEVER THE INPUT: true; the input reads as it did. -/
def shaDividesSpec : ChangeSpec := { name := "shaDivides", fn := fun _ => fun
  | [d1, d2] => { results := [.lit (.bool true)], args := [d1, d2] }
  | _ => none }
def shaDividesRow : OpenClaim := { program := "ytcahnkdnhejkkaadoor", sum := "f6be294f7983346c71e15f0c2341a9a109b9802bea1a9dedc0ca523e420ba244", func := "watchword/watchwordlaw04.ShaDivides", spec := "shaDivides", unfollowed := true, recurses := true, named := ["watchword/sha.start", "watchword/sha.constants"], apart := false, laid := [("watchword/sha.start", laid_watchword_sha_start), ("watchword/sha.constants", laid_watchword_sha_constants)] }
def ShaDividesSaid : Prop := shaDividesRow.holds Tryd.pinned (OpenSpec.ofChange shaDividesSpec)

/-- ITS FALSE NEIGHBOUR: 'it returns false'. Refute it at one input. -/
def shaDividesWrong : ChangeSpec := { name := "shaDivides", fn := fun _ => fun
  | [d1, d2] => { results := [.lit (.bool false)], args := [d1, d2] }
  | _ => none }
def ShaDividesWrongFalsely : Prop := shaDividesRow.holds Tryd.pinned (OpenSpec.ofChange shaDividesWrong)

/-- 'watchwordlaw04.ShaWrites': WHATEVER THE INPUT: true; the input reads as it did. -/
def shaWritesSpec : ChangeSpec := { name := "shaWrites", fn := fun _ => fun
  | [d1, d2] => { results := [.lit (.bool true)], args := [d1, d2] }
  | _ => none }
def shaWritesRow : OpenClaim := { program := "ytcahnkdnhejkkaadoor", sum := "f6be294f7983346c71e15f0c2341a9a109b9802bea1a9dedc0ca523e420ba244", func := "watchword/watchwordlaw04.ShaWrites", spec := "shaWrites", unfollowed := true, recurses := true, named := ["watchword/sha.start", "watchword/sha.constants", "watchword/watchwordref04.constants"], apart := false, laid := [("watchword/watchwordref04.constants", laid_watchword_watchwordref04_constants), ("watchword/sha.start", laid_watchword_sha_start), ("watchword/sha.constants", laid_watchword_sha_constants)] }
def ShaWritesSaid : Prop := shaWritesRow.holds Tryd.pinned (OpenSpec.ofChange shaWritesSpec)

/-- ITS FALSE NEIGHBOUR: 'it returns false'. Refute it at one input. -/
def shaWritesWrong : ChangeSpec := { name := "shaWrites", fn := fun _ => fun
  | [d1, d2] => { results := [.lit (.bool false)], args := [d1, d2] }
  | _ => none }
def ShaWritesWrongFalsely : Prop := shaWritesRow.holds Tryd.pinned (OpenSpec.ofChange shaWritesWrong)

/-- 'watchwordlaw04.ShaNone': WHATEVER THE INPUT: true; the input reads as it did. -/
def shaNoneSpec : ChangeSpec := { name := "shaNone", fn := fun _ => fun
  | [d] => { results := [.lit (.bool true)], args := [d] }
  | _ => none }
def shaNoneRow : OpenClaim := { program := "ytcahnkdnhejkkaadoor", sum := "f6be294f7983346c71e15f0c2341a9a109b9802bea1a9dedc0ca523e420ba244", func := "watchword/watchwordlaw04.ShaNone", spec := "shaNone", unfollowed := true, recurses := true, named := ["watchword/sha.start", "watchword/sha.constants", "watchword/watchwordref04.constants"], apart := false, laid := [("watchword/watchwordref04.constants", laid_watchword_watchwordref04_constants), ("watchword/sha.start", laid_watchword_sha_start), ("watchword/sha.constants", laid_watchword_sha_constants)] }
def ShaNoneSaid : Prop := shaNoneRow.holds Tryd.pinned (OpenSpec.ofChange shaNoneSpec)

/-- ITS FALSE NEIGHBOUR: 'it returns false'. Refute it at one input. -/
def shaNoneWrong : ChangeSpec := { name := "shaNone", fn := fun _ => fun
  | [d] => { results := [.lit (.bool false)], args := [d] }
  | _ => none }
def ShaNoneWrongFalsely : Prop := shaNoneRow.holds Tryd.pinned (OpenSpec.ofChange shaNoneWrong)

/-- 'watchwordlaw05.MacSums': WHATEVER THE INPUT: true; the input reads as it did. -/
def macSumsSpec : ChangeSpec := { name := "macSums", fn := fun _ => fun
  | [d1, d2, d3] => { results := [.lit (.bool true)], args := [d1, d2, d3] }
  | _ => none }
def macSumsRow : OpenClaim := { program := "ytcahnkdnhejkkaadoor", sum := "f6be294f7983346c71e15f0c2341a9a109b9802bea1a9dedc0ca523e420ba244", func := "watchword/watchwordlaw05.MacSums", spec := "macSums", unfollowed := true, recurses := true, named := ["watchword/sha.start", "watchword/sha.constants", "watchword/watchwordref04.constants"], apart := false, laid := [("watchword/watchwordref04.constants", laid_watchword_watchwordref04_constants), ("watchword/sha.start", laid_watchword_sha_start), ("watchword/sha.constants", laid_watchword_sha_constants)] }
def MacSumsSaid : Prop := macSumsRow.holds Tryd.pinned (OpenSpec.ofChange macSumsSpec)

/-- ITS FALSE NEIGHBOUR: 'it returns false'. Refute it at one input. -/
def macSumsWrong : ChangeSpec := { name := "macSums", fn := fun _ => fun
  | [d1, d2, d3] => { results := [.lit (.bool false)], args := [d1, d2, d3] }
  | _ => none }
def MacSumsWrongFalsely : Prop := macSumsRow.holds Tryd.pinned (OpenSpec.ofChange macSumsWrong)

/-- 'watchwordlaw05.MacChecks': WHATEVER THE INPUT: true; the input reads as it did. -/
def macChecksSpec : ChangeSpec := { name := "macChecks", fn := fun _ => fun
  | [d1, d2, d3, d4, d5] => { results := [.lit (.bool true)], args := [d1, d2, d3, d4, d5] }
  | _ => none }
def macChecksRow : OpenClaim := { program := "ytcahnkdnhejkkaadoor", sum := "f6be294f7983346c71e15f0c2341a9a109b9802bea1a9dedc0ca523e420ba244", func := "watchword/watchwordlaw05.MacChecks", spec := "macChecks", unfollowed := true, recurses := true, named := ["watchword/sha.start", "watchword/sha.constants", "watchword/watchwordref04.constants"], apart := false, laid := [("watchword/watchwordref04.constants", laid_watchword_watchwordref04_constants), ("watchword/sha.start", laid_watchword_sha_start), ("watchword/sha.constants", laid_watchword_sha_constants)] }
def MacChecksSaid : Prop := macChecksRow.holds Tryd.pinned (OpenSpec.ofChange macChecksSpec)

/-- ITS FALSE NEIGHBOUR: 'it returns false'. Refute it at one input. -/
def macChecksWrong : ChangeSpec := { name := "macChecks", fn := fun _ => fun
  | [d1, d2, d3, d4, d5] => { results := [.lit (.bool false)], args := [d1, d2, d3, d4, d5] }
  | _ => none }
def MacChecksWrongFalsely : Prop := macChecksRow.holds Tryd.pinned (OpenSpec.ofChange macChecksWrong)

/-- 'watchwordlaw05.MacDivides': WHATEVER THE INPUT: true; the input reads as it did. -/
def macDividesSpec : ChangeSpec := { name := "macDivides", fn := fun _ => fun
  | [d1, d2, d3] => { results := [.lit (.bool true)], args := [d1, d2, d3] }
  | _ => none }
def macDividesRow : OpenClaim := { program := "ytcahnkdnhejkkaadoor", sum := "f6be294f7983346c71e15f0c2341a9a109b9802bea1a9dedc0ca523e420ba244", func := "watchword/watchwordlaw05.MacDivides", spec := "macDivides", unfollowed := true, recurses := true, named := ["watchword/sha.start", "watchword/sha.constants"], apart := false, laid := [("watchword/sha.start", laid_watchword_sha_start), ("watchword/sha.constants", laid_watchword_sha_constants)] }
def MacDividesSaid : Prop := macDividesRow.holds Tryd.pinned (OpenSpec.ofChange macDividesSpec)

/-- ITS FALSE NEIGHBOUR: 'it returns false'. Refute it at one input. -/
def macDividesWrong : ChangeSpec := { name := "macDivides", fn := fun _ => fun
  | [d1, d2, d3] => { results := [.lit (.bool false)], args := [d1, d2, d3] }
  | _ => none }
def MacDividesWrongFalsely : Prop := macDividesRow.holds Tryd.pinned (OpenSpec.ofChange macDividesWrong)

/-- 'watchwordlaw05.MacWrites': WHATEVER THE INPUT: true; the input reads as it did. -/
def macWritesSpec : ChangeSpec := { name := "macWrites", fn := fun _ => fun
  | [d1, d2, d3] => { results := [.lit (.bool true)], args := [d1, d2, d3] }
  | _ => none }
def macWritesRow : OpenClaim := { program := "ytcahnkdnhejkkaadoor", sum := "f6be294f7983346c71e15f0c2341a9a109b9802bea1a9dedc0ca523e420ba244", func := "watchword/watchwordlaw05.MacWrites", spec := "macWrites", unfollowed := true, recurses := true, named := ["watchword/sha.start", "watchword/sha.constants", "watchword/watchwordref04.constants"], apart := false, laid := [("watchword/watchwordref04.constants", laid_watchword_watchwordref04_constants), ("watchword/sha.start", laid_watchword_sha_start), ("watchword/sha.constants", laid_watchword_sha_constants)] }
def MacWritesSaid : Prop := macWritesRow.holds Tryd.pinned (OpenSpec.ofChange macWritesSpec)

/-- ITS FALSE NEIGHBOUR: 'it returns false'. Refute it at one input. -/
def macWritesWrong : ChangeSpec := { name := "macWrites", fn := fun _ => fun
  | [d1, d2, d3] => { results := [.lit (.bool false)], args := [d1, d2, d3] }
  | _ => none }
def MacWritesWrongFalsely : Prop := macWritesRow.holds Tryd.pinned (OpenSpec.ofChange macWritesWrong)

/-- 'watchwordlaw05.MacNone': WHATEVER THE INPUT: true; the input reads as it did. -/
def macNoneSpec : ChangeSpec := { name := "macNone", fn := fun _ => fun
  | [d] => { results := [.lit (.bool true)], args := [d] }
  | _ => none }
def macNoneRow : OpenClaim := { program := "ytcahnkdnhejkkaadoor", sum := "f6be294f7983346c71e15f0c2341a9a109b9802bea1a9dedc0ca523e420ba244", func := "watchword/watchwordlaw05.MacNone", spec := "macNone", unfollowed := true, recurses := true, named := ["watchword/sha.start", "watchword/sha.constants"], apart := false, laid := [("watchword/sha.start", laid_watchword_sha_start), ("watchword/sha.constants", laid_watchword_sha_constants)] }
def MacNoneSaid : Prop := macNoneRow.holds Tryd.pinned (OpenSpec.ofChange macNoneSpec)

/-- ITS FALSE NEIGHBOUR: 'it returns false'. Refute it at one input. -/
def macNoneWrong : ChangeSpec := { name := "macNone", fn := fun _ => fun
  | [d] => { results := [.lit (.bool false)], args := [d] }
  | _ => none }
def MacNoneWrongFalsely : Prop := macNoneRow.holds Tryd.pinned (OpenSpec.ofChange macNoneWrong)

/-- 'watchwordlaw08.DeriveKeys': WHATEVER THE INPUT: true; the input reads as it did. -/
def deriveKeysSpec : ChangeSpec := { name := "deriveKeys", fn := fun _ => fun
  | [d1, d2, d3, d4] => { results := [.lit (.bool true)], args := [d1, d2, d3, d4] }
  | _ => none }
def deriveKeysRow : OpenClaim := { program := "ytcahnkdnhejkkaadoor", sum := "f6be294f7983346c71e15f0c2341a9a109b9802bea1a9dedc0ca523e420ba244", func := "watchword/watchwordlaw08.DeriveKeys", spec := "deriveKeys", unfollowed := true, recurses := true, named := ["watchword/sha.start", "watchword/sha.constants", "watchword/watchwordref04.constants"], apart := false, laid := [("watchword/watchwordref04.constants", laid_watchword_watchwordref04_constants), ("watchword/sha.start", laid_watchword_sha_start), ("watchword/sha.constants", laid_watchword_sha_constants)] }
def DeriveKeysSaid : Prop := deriveKeysRow.holds Tryd.pinned (OpenSpec.ofChange deriveKeysSpec)

/-- ITS FALSE NEIGHBOUR: 'it returns false'. Refute it at one input. -/
def deriveKeysWrong : ChangeSpec := { name := "deriveKeys", fn := fun _ => fun
  | [d1, d2, d3, d4] => { results := [.lit (.bool false)], args := [d1, d2, d3, d4] }
  | _ => none }
def DeriveKeysWrongFalsely : Prop := deriveKeysRow.holds Tryd.pinned (OpenSpec.ofChange deriveKeysWrong)

/-- 'watchwordlaw08.DerivePasswords': WHATEVER THE INPUT: true; the input reads as it did. -/
def derivePasswordsSpec : ChangeSpec := { name := "derivePasswords", fn := fun _ => fun
  | [d1, d2, d3, d4] => { results := [.lit (.bool true)], args := [d1, d2, d3, d4] }
  | _ => none }
def derivePasswordsRow : OpenClaim := { program := "ytcahnkdnhejkkaadoor", sum := "f6be294f7983346c71e15f0c2341a9a109b9802bea1a9dedc0ca523e420ba244", func := "watchword/watchwordlaw08.DerivePasswords", spec := "derivePasswords", unfollowed := true, recurses := true, named := ["watchword/sha.start", "watchword/sha.constants", "watchword/watchwordref04.constants"], apart := false, laid := [("watchword/watchwordref04.constants", laid_watchword_watchwordref04_constants), ("watchword/sha.start", laid_watchword_sha_start), ("watchword/sha.constants", laid_watchword_sha_constants)] }
def DerivePasswordsSaid : Prop := derivePasswordsRow.holds Tryd.pinned (OpenSpec.ofChange derivePasswordsSpec)

/-- ITS FALSE NEIGHBOUR: 'it returns false'. Refute it at one input. -/
def derivePasswordsWrong : ChangeSpec := { name := "derivePasswords", fn := fun _ => fun
  | [d1, d2, d3, d4] => { results := [.lit (.bool false)], args := [d1, d2, d3, d4] }
  | _ => none }
def DerivePasswordsWrongFalsely : Prop := derivePasswordsRow.holds Tryd.pinned (OpenSpec.ofChange derivePasswordsWrong)

/-- 'watchwordlaw08.DeriveAgain': WHATEVER THE INPUT: true; the input reads as it did. -/
def deriveAgainSpec : ChangeSpec := { name := "deriveAgain", fn := fun _ => fun
  | [d1, d2, d3] => { results := [.lit (.bool true)], args := [d1, d2, d3] }
  | _ => none }
def deriveAgainRow : OpenClaim := { program := "ytcahnkdnhejkkaadoor", sum := "f6be294f7983346c71e15f0c2341a9a109b9802bea1a9dedc0ca523e420ba244", func := "watchword/watchwordlaw08.DeriveAgain", spec := "deriveAgain", unfollowed := true, recurses := true, named := ["watchword/sha.start", "watchword/sha.constants"], apart := false, laid := [("watchword/sha.start", laid_watchword_sha_start), ("watchword/sha.constants", laid_watchword_sha_constants)] }
def DeriveAgainSaid : Prop := deriveAgainRow.holds Tryd.pinned (OpenSpec.ofChange deriveAgainSpec)

/-- ITS FALSE NEIGHBOUR: 'it returns false'. Refute it at one input. -/
def deriveAgainWrong : ChangeSpec := { name := "deriveAgain", fn := fun _ => fun
  | [d1, d2, d3] => { results := [.lit (.bool false)], args := [d1, d2, d3] }
  | _ => none }
def DeriveAgainWrongFalsely : Prop := deriveAgainRow.holds Tryd.pinned (OpenSpec.ofChange deriveAgainWrong)

/-- 'watchwordlaw08.DeriveBlocks': WHATEVER THE INPUT: true; the input reads as it did. -/
def deriveBlocksSpec : ChangeSpec := { name := "deriveBlocks", fn := fun _ => fun
  | [d1, d2, d3, d4, d5] => { results := [.lit (.bool true)], args := [d1, d2, d3, d4, d5] }
  | _ => none }
def deriveBlocksRow : OpenClaim := { program := "ytcahnkdnhejkkaadoor", sum := "f6be294f7983346c71e15f0c2341a9a109b9802bea1a9dedc0ca523e420ba244", func := "watchword/watchwordlaw08.DeriveBlocks", spec := "deriveBlocks", unfollowed := true, recurses := true, named := ["watchword/sha.start", "watchword/sha.constants", "watchword/watchwordref04.constants"], apart := false, laid := [("watchword/watchwordref04.constants", laid_watchword_watchwordref04_constants), ("watchword/sha.start", laid_watchword_sha_start), ("watchword/sha.constants", laid_watchword_sha_constants)] }
def DeriveBlocksSaid : Prop := deriveBlocksRow.holds Tryd.pinned (OpenSpec.ofChange deriveBlocksSpec)

/-- ITS FALSE NEIGHBOUR: 'it returns false'. Refute it at one input. -/
def deriveBlocksWrong : ChangeSpec := { name := "deriveBlocks", fn := fun _ => fun
  | [d1, d2, d3, d4, d5] => { results := [.lit (.bool false)], args := [d1, d2, d3, d4, d5] }
  | _ => none }
def DeriveBlocksWrongFalsely : Prop := deriveBlocksRow.holds Tryd.pinned (OpenSpec.ofChange deriveBlocksWrong)

/-- 'watchwordlaw08.DerivePrefixes': WHATEVER THE INPUT: true; the input reads as it did. -/
def derivePrefixesSpec : ChangeSpec := { name := "derivePrefixes", fn := fun _ => fun
  | [d1, d2, d3, d4, d5] => { results := [.lit (.bool true)], args := [d1, d2, d3, d4, d5] }
  | _ => none }
def derivePrefixesRow : OpenClaim := { program := "ytcahnkdnhejkkaadoor", sum := "f6be294f7983346c71e15f0c2341a9a109b9802bea1a9dedc0ca523e420ba244", func := "watchword/watchwordlaw08.DerivePrefixes", spec := "derivePrefixes", unfollowed := true, recurses := true, named := ["watchword/sha.start", "watchword/sha.constants"], apart := false, laid := [("watchword/sha.start", laid_watchword_sha_start), ("watchword/sha.constants", laid_watchword_sha_constants)] }
def DerivePrefixesSaid : Prop := derivePrefixesRow.holds Tryd.pinned (OpenSpec.ofChange derivePrefixesSpec)

/-- ITS FALSE NEIGHBOUR: 'it returns false'. Refute it at one input. -/
def derivePrefixesWrong : ChangeSpec := { name := "derivePrefixes", fn := fun _ => fun
  | [d1, d2, d3, d4, d5] => { results := [.lit (.bool false)], args := [d1, d2, d3, d4, d5] }
  | _ => none }
def DerivePrefixesWrongFalsely : Prop := derivePrefixesRow.holds Tryd.pinned (OpenSpec.ofChange derivePrefixesWrong)

/-- 'watchwordlaw10.RandomNumbers': WHATEVER THE INPUT: true; the input reads as it did. -/
def randomNumbersSpec : ChangeSpec := { name := "randomNumbers", fn := fun _ => fun
  | [d1, d2] => { results := [.lit (.bool true)], args := [d1, d2] }
  | _ => none }
def randomNumbersRow : OpenClaim := { program := "ytcahnkdnhejkkaadoor", sum := "f6be294f7983346c71e15f0c2341a9a109b9802bea1a9dedc0ca523e420ba244", func := "watchword/watchwordlaw10.RandomNumbers", spec := "randomNumbers", unfollowed := true, recurses := true, named := ["watchword/sha.start", "watchword/sha.constants", "watchword/watchwordref04.constants"], apart := false, laid := [("watchword/watchwordref04.constants", laid_watchword_watchwordref04_constants), ("watchword/sha.start", laid_watchword_sha_start), ("watchword/sha.constants", laid_watchword_sha_constants)] }
def RandomNumbersSaid : Prop := randomNumbersRow.holds Tryd.pinned (OpenSpec.ofChange randomNumbersSpec)

/-- ITS FALSE NEIGHBOUR: 'it returns false'. Refute it at one input. -/
def randomNumbersWrong : ChangeSpec := { name := "randomNumbers", fn := fun _ => fun
  | [d1, d2] => { results := [.lit (.bool false)], args := [d1, d2] }
  | _ => none }
def RandomNumbersWrongFalsely : Prop := randomNumbersRow.holds Tryd.pinned (OpenSpec.ofChange randomNumbersWrong)

/-- 'watchwordlaw10.RandomAgain': WHATEVER THE INPUT: true; the input reads as it did. -/
def randomAgainSpec : ChangeSpec := { name := "randomAgain", fn := fun _ => fun
  | [d1, d2, d3, d4] => { results := [.lit (.bool true)], args := [d1, d2, d3, d4] }
  | _ => none }
def randomAgainRow : OpenClaim := { program := "ytcahnkdnhejkkaadoor", sum := "f6be294f7983346c71e15f0c2341a9a109b9802bea1a9dedc0ca523e420ba244", func := "watchword/watchwordlaw10.RandomAgain", spec := "randomAgain", unfollowed := true, recurses := true, named := ["watchword/sha.start", "watchword/sha.constants"], apart := false, laid := [("watchword/sha.start", laid_watchword_sha_start), ("watchword/sha.constants", laid_watchword_sha_constants)] }
def RandomAgainSaid : Prop := randomAgainRow.holds Tryd.pinned (OpenSpec.ofChange randomAgainSpec)

/-- ITS FALSE NEIGHBOUR: 'it returns false'. Refute it at one input. -/
def randomAgainWrong : ChangeSpec := { name := "randomAgain", fn := fun _ => fun
  | [d1, d2, d3, d4] => { results := [.lit (.bool false)], args := [d1, d2, d3, d4] }
  | _ => none }
def RandomAgainWrongFalsely : Prop := randomAgainRow.holds Tryd.pinned (OpenSpec.ofChange randomAgainWrong)

/-- 'watchwordlaw10.RandomForks': WHATEVER THE INPUT: true; the input reads as it did. -/
def randomForksSpec : ChangeSpec := { name := "randomForks", fn := fun _ => fun
  | [d1, d2, d3] => { results := [.lit (.bool true)], args := [d1, d2, d3] }
  | _ => none }
def randomForksRow : OpenClaim := { program := "ytcahnkdnhejkkaadoor", sum := "f6be294f7983346c71e15f0c2341a9a109b9802bea1a9dedc0ca523e420ba244", func := "watchword/watchwordlaw10.RandomForks", spec := "randomForks", unfollowed := true, recurses := true, named := ["watchword/sha.start", "watchword/sha.constants"], apart := false, laid := [("watchword/sha.start", laid_watchword_sha_start), ("watchword/sha.constants", laid_watchword_sha_constants)] }
def RandomForksSaid : Prop := randomForksRow.holds Tryd.pinned (OpenSpec.ofChange randomForksSpec)

/-- ITS FALSE NEIGHBOUR: 'it returns false'. Refute it at one input. -/
def randomForksWrong : ChangeSpec := { name := "randomForks", fn := fun _ => fun
  | [d1, d2, d3] => { results := [.lit (.bool false)], args := [d1, d2, d3] }
  | _ => none }
def RandomForksWrongFalsely : Prop := randomForksRow.holds Tryd.pinned (OpenSpec.ofChange randomForksWrong)

/-- 'watchwordlaw10.RandomPlays': WHATEVER THE INPUT: true; the input reads as it did. -/
def randomPlaysSpec : ChangeSpec := { name := "randomPlays", fn := fun _ => fun
  | [d1, d2] => { results := [.lit (.bool true)], args := [d1, d2] }
  | _ => none }
def randomPlaysRow : OpenClaim := { program := "ytcahnkdnhejkkaadoor", sum := "f6be294f7983346c71e15f0c2341a9a109b9802bea1a9dedc0ca523e420ba244", func := "watchword/watchwordlaw10.RandomPlays", spec := "randomPlays", unfollowed := true, recurses := true, named := ["watchword/sha.start", "watchword/sha.constants", "watchword/watchwordref04.constants"], apart := false, laid := [("watchword/watchwordref04.constants", laid_watchword_watchwordref04_constants), ("watchword/sha.start", laid_watchword_sha_start), ("watchword/sha.constants", laid_watchword_sha_constants)] }
def RandomPlaysSaid : Prop := randomPlaysRow.holds Tryd.pinned (OpenSpec.ofChange randomPlaysSpec)

/-- ITS FALSE NEIGHBOUR: 'it returns false'. Refute it at one input. -/
def randomPlaysWrong : ChangeSpec := { name := "randomPlays", fn := fun _ => fun
  | [d1, d2] => { results := [.lit (.bool false)], args := [d1, d2] }
  | _ => none }
def RandomPlaysWrongFalsely : Prop := randomPlaysRow.holds Tryd.pinned (OpenSpec.ofChange randomPlaysWrong)

/-- 'watchwordlaw10.RandomNone': WHATEVER THE INPUT: true; the input reads as it did. -/
def randomNoneSpec : ChangeSpec := { name := "randomNone", fn := fun _ => fun
  | [d1, d2] => { results := [.lit (.bool true)], args := [d1, d2] }
  | _ => none }
def randomNoneRow : OpenClaim := { program := "ytcahnkdnhejkkaadoor", sum := "f6be294f7983346c71e15f0c2341a9a109b9802bea1a9dedc0ca523e420ba244", func := "watchword/watchwordlaw10.RandomNone", spec := "randomNone", unfollowed := true, recurses := true, named := ["watchword/sha.start", "watchword/sha.constants"], apart := false, laid := [("watchword/sha.start", laid_watchword_sha_start), ("watchword/sha.constants", laid_watchword_sha_constants)] }
def RandomNoneSaid : Prop := randomNoneRow.holds Tryd.pinned (OpenSpec.ofChange randomNoneSpec)

/-- ITS FALSE NEIGHBOUR: 'it returns false'. Refute it at one input. -/
def randomNoneWrong : ChangeSpec := { name := "randomNone", fn := fun _ => fun
  | [d1, d2] => { results := [.lit (.bool false)], args := [d1, d2] }
  | _ => none }
def RandomNoneWrongFalsely : Prop := randomNoneRow.holds Tryd.pinned (OpenSpec.ofChange randomNoneWrong)

/- THE SECOND FORM. 'bulk': how many values and letters a reading holds, each counted each time it is reached (what is shared counts as often as it is met; a slice's spare places count too). A statement '..UptoSaid' is the law's where the arguments, and the package variables that the reading takes, are together of bulk at most 1048576: NARROWER than '..Said'. Prove '..Said' where nothing that the law and all that it calls make is longer than what came in: it says more and counts as full. Else prove '..UptoSaid'. A law counts once. -/
mutual
def uptoBulk {H : Type} : DataW H → Nat
  | .lit (.string bytes) => bytes.length + 1
  | .lit _ => 1
  | .nil => 1
  | .ptr d => uptoBulk d + 1
  | .slice elems spare => uptoBulkAll elems + uptoBulkAll spare + 1
  | .agg parts => uptoBulkAll parts + 1
  | .iface _ d => uptoBulk d + 1
  | .map entries => uptoBulkEntries entries + 1
  | .held _ => 1
def uptoBulkAll {H : Type} : List (DataW H) → Nat
  | [] => 0
  | d :: r => uptoBulk d + uptoBulkAll r
def uptoBulkEntries {H : Type} : List (Lit × DataW H) → Nat
  | [] => 0
  | x :: r => uptoBulkEntry x + uptoBulkEntries r
def uptoBulkEntry {H : Type} : Lit × DataW H → Nat
  | (.string bytes, d) => bytes.length + uptoBulk d + 1
  | (_, d) => uptoBulk d + 1
 end
def uptoSmall : (H : Type) → List (DataW H) → Bool := fun _ ds => decide (uptoBulkAll ds ≤ 1048576)
def OpenSpec.upto (s : _root_.Go.ChangeSpec) : _root_.Go.OpenSpec := { _root_.Go.OpenSpec.ofChange s with cond := some uptoSmall }

/-- 'watchwordlaw04.ShaSums', WHERE WHAT IT READS IS OF BULK AT MOST 1048576: true; the input reads as it did. -/
def shaSumsUptoRow : OpenClaim := { program := "ytcahnkdnhejkkaadoor", sum := "f6be294f7983346c71e15f0c2341a9a109b9802bea1a9dedc0ca523e420ba244", func := "watchword/watchwordlaw04.ShaSums", spec := "shaSums", unfollowed := true, recurses := true, named := ["watchword/sha.start", "watchword/sha.constants", "watchword/watchwordref04.constants"], apart := false, laid := [("watchword/watchwordref04.constants", laid_watchword_watchwordref04_constants), ("watchword/sha.start", laid_watchword_sha_start), ("watchword/sha.constants", laid_watchword_sha_constants)], narrowed := true }
def ShaSumsUptoSaid : Prop := shaSumsUptoRow.holds Tryd.pinned (OpenSpec.upto shaSumsSpec)

/-- 'watchwordlaw04.ShaBlocks', WHERE WHAT IT READS IS OF BULK AT MOST 1048576: true; the input reads as it did. -/
def shaBlocksUptoRow : OpenClaim := { program := "ytcahnkdnhejkkaadoor", sum := "f6be294f7983346c71e15f0c2341a9a109b9802bea1a9dedc0ca523e420ba244", func := "watchword/watchwordlaw04.ShaBlocks", spec := "shaBlocks", unfollowed := true, recurses := true, named := ["watchword/sha.start", "watchword/sha.constants"], apart := false, laid := [("watchword/sha.start", laid_watchword_sha_start), ("watchword/sha.constants", laid_watchword_sha_constants)], narrowed := true }
def ShaBlocksUptoSaid : Prop := shaBlocksUptoRow.holds Tryd.pinned (OpenSpec.upto shaBlocksSpec)

/-- 'watchwordlaw04.ShaDivides', WHERE WHAT IT READS IS OF BULK AT MOST 1048576: true; the input reads as it did. -/
def shaDividesUptoRow : OpenClaim := { program := "ytcahnkdnhejkkaadoor", sum := "f6be294f7983346c71e15f0c2341a9a109b9802bea1a9dedc0ca523e420ba244", func := "watchword/watchwordlaw04.ShaDivides", spec := "shaDivides", unfollowed := true, recurses := true, named := ["watchword/sha.start", "watchword/sha.constants"], apart := false, laid := [("watchword/sha.start", laid_watchword_sha_start), ("watchword/sha.constants", laid_watchword_sha_constants)], narrowed := true }
def ShaDividesUptoSaid : Prop := shaDividesUptoRow.holds Tryd.pinned (OpenSpec.upto shaDividesSpec)

/-- 'watchwordlaw04.ShaWrites', WHERE WHAT IT READS IS OF BULK AT MOST 1048576: true; the input reads as it did. -/
def shaWritesUptoRow : OpenClaim := { program := "ytcahnkdnhejkkaadoor", sum := "f6be294f7983346c71e15f0c2341a9a109b9802bea1a9dedc0ca523e420ba244", func := "watchword/watchwordlaw04.ShaWrites", spec := "shaWrites", unfollowed := true, recurses := true, named := ["watchword/sha.start", "watchword/sha.constants", "watchword/watchwordref04.constants"], apart := false, laid := [("watchword/watchwordref04.constants", laid_watchword_watchwordref04_constants), ("watchword/sha.start", laid_watchword_sha_start), ("watchword/sha.constants", laid_watchword_sha_constants)], narrowed := true }
def ShaWritesUptoSaid : Prop := shaWritesUptoRow.holds Tryd.pinned (OpenSpec.upto shaWritesSpec)

/-- 'watchwordlaw04.ShaNone', WHERE WHAT IT READS IS OF BULK AT MOST 1048576: true; the input reads as it did. -/
def shaNoneUptoRow : OpenClaim := { program := "ytcahnkdnhejkkaadoor", sum := "f6be294f7983346c71e15f0c2341a9a109b9802bea1a9dedc0ca523e420ba244", func := "watchword/watchwordlaw04.ShaNone", spec := "shaNone", unfollowed := true, recurses := true, named := ["watchword/sha.start", "watchword/sha.constants", "watchword/watchwordref04.constants"], apart := false, laid := [("watchword/watchwordref04.constants", laid_watchword_watchwordref04_constants), ("watchword/sha.start", laid_watchword_sha_start), ("watchword/sha.constants", laid_watchword_sha_constants)], narrowed := true }
def ShaNoneUptoSaid : Prop := shaNoneUptoRow.holds Tryd.pinned (OpenSpec.upto shaNoneSpec)

/-- 'watchwordlaw05.MacSums', WHERE WHAT IT READS IS OF BULK AT MOST 1048576: true; the input reads as it did. -/
def macSumsUptoRow : OpenClaim := { program := "ytcahnkdnhejkkaadoor", sum := "f6be294f7983346c71e15f0c2341a9a109b9802bea1a9dedc0ca523e420ba244", func := "watchword/watchwordlaw05.MacSums", spec := "macSums", unfollowed := true, recurses := true, named := ["watchword/sha.start", "watchword/sha.constants", "watchword/watchwordref04.constants"], apart := false, laid := [("watchword/watchwordref04.constants", laid_watchword_watchwordref04_constants), ("watchword/sha.start", laid_watchword_sha_start), ("watchword/sha.constants", laid_watchword_sha_constants)], narrowed := true }
def MacSumsUptoSaid : Prop := macSumsUptoRow.holds Tryd.pinned (OpenSpec.upto macSumsSpec)

/-- 'watchwordlaw05.MacChecks', WHERE WHAT IT READS IS OF BULK AT MOST 1048576: true; the input reads as it did. -/
def macChecksUptoRow : OpenClaim := { program := "ytcahnkdnhejkkaadoor", sum := "f6be294f7983346c71e15f0c2341a9a109b9802bea1a9dedc0ca523e420ba244", func := "watchword/watchwordlaw05.MacChecks", spec := "macChecks", unfollowed := true, recurses := true, named := ["watchword/sha.start", "watchword/sha.constants", "watchword/watchwordref04.constants"], apart := false, laid := [("watchword/watchwordref04.constants", laid_watchword_watchwordref04_constants), ("watchword/sha.start", laid_watchword_sha_start), ("watchword/sha.constants", laid_watchword_sha_constants)], narrowed := true }
def MacChecksUptoSaid : Prop := macChecksUptoRow.holds Tryd.pinned (OpenSpec.upto macChecksSpec)

/-- 'watchwordlaw05.MacDivides', WHERE WHAT IT READS IS OF BULK AT MOST 1048576: true; the input reads as it did. -/
def macDividesUptoRow : OpenClaim := { program := "ytcahnkdnhejkkaadoor", sum := "f6be294f7983346c71e15f0c2341a9a109b9802bea1a9dedc0ca523e420ba244", func := "watchword/watchwordlaw05.MacDivides", spec := "macDivides", unfollowed := true, recurses := true, named := ["watchword/sha.start", "watchword/sha.constants"], apart := false, laid := [("watchword/sha.start", laid_watchword_sha_start), ("watchword/sha.constants", laid_watchword_sha_constants)], narrowed := true }
def MacDividesUptoSaid : Prop := macDividesUptoRow.holds Tryd.pinned (OpenSpec.upto macDividesSpec)

/-- 'watchwordlaw05.MacWrites', WHERE WHAT IT READS IS OF BULK AT MOST 1048576: true; the input reads as it did. -/
def macWritesUptoRow : OpenClaim := { program := "ytcahnkdnhejkkaadoor", sum := "f6be294f7983346c71e15f0c2341a9a109b9802bea1a9dedc0ca523e420ba244", func := "watchword/watchwordlaw05.MacWrites", spec := "macWrites", unfollowed := true, recurses := true, named := ["watchword/sha.start", "watchword/sha.constants", "watchword/watchwordref04.constants"], apart := false, laid := [("watchword/watchwordref04.constants", laid_watchword_watchwordref04_constants), ("watchword/sha.start", laid_watchword_sha_start), ("watchword/sha.constants", laid_watchword_sha_constants)], narrowed := true }
def MacWritesUptoSaid : Prop := macWritesUptoRow.holds Tryd.pinned (OpenSpec.upto macWritesSpec)

/-- 'watchwordlaw05.MacNone', WHERE WHAT IT READS IS OF BULK AT MOST 1048576: true; the input reads as it did. -/
def macNoneUptoRow : OpenClaim := { program := "ytcahnkdnhejkkaadoor", sum := "f6be294f7983346c71e15f0c2341a9a109b9802bea1a9dedc0ca523e420ba244", func := "watchword/watchwordlaw05.MacNone", spec := "macNone", unfollowed := true, recurses := true, named := ["watchword/sha.start", "watchword/sha.constants"], apart := false, laid := [("watchword/sha.start", laid_watchword_sha_start), ("watchword/sha.constants", laid_watchword_sha_constants)], narrowed := true }
def MacNoneUptoSaid : Prop := macNoneUptoRow.holds Tryd.pinned (OpenSpec.upto macNoneSpec)

/-- 'watchwordlaw08.DeriveKeys', WHERE WHAT IT READS IS OF BULK AT MOST 1048576: true; the input reads as it did. -/
def deriveKeysUptoRow : OpenClaim := { program := "ytcahnkdnhejkkaadoor", sum := "f6be294f7983346c71e15f0c2341a9a109b9802bea1a9dedc0ca523e420ba244", func := "watchword/watchwordlaw08.DeriveKeys", spec := "deriveKeys", unfollowed := true, recurses := true, named := ["watchword/sha.start", "watchword/sha.constants", "watchword/watchwordref04.constants"], apart := false, laid := [("watchword/watchwordref04.constants", laid_watchword_watchwordref04_constants), ("watchword/sha.start", laid_watchword_sha_start), ("watchword/sha.constants", laid_watchword_sha_constants)], narrowed := true }
def DeriveKeysUptoSaid : Prop := deriveKeysUptoRow.holds Tryd.pinned (OpenSpec.upto deriveKeysSpec)

/-- 'watchwordlaw08.DerivePasswords', WHERE WHAT IT READS IS OF BULK AT MOST 1048576: true; the input reads as it did. -/
def derivePasswordsUptoRow : OpenClaim := { program := "ytcahnkdnhejkkaadoor", sum := "f6be294f7983346c71e15f0c2341a9a109b9802bea1a9dedc0ca523e420ba244", func := "watchword/watchwordlaw08.DerivePasswords", spec := "derivePasswords", unfollowed := true, recurses := true, named := ["watchword/sha.start", "watchword/sha.constants", "watchword/watchwordref04.constants"], apart := false, laid := [("watchword/watchwordref04.constants", laid_watchword_watchwordref04_constants), ("watchword/sha.start", laid_watchword_sha_start), ("watchword/sha.constants", laid_watchword_sha_constants)], narrowed := true }
def DerivePasswordsUptoSaid : Prop := derivePasswordsUptoRow.holds Tryd.pinned (OpenSpec.upto derivePasswordsSpec)

/-- 'watchwordlaw08.DeriveAgain', WHERE WHAT IT READS IS OF BULK AT MOST 1048576: true; the input reads as it did. -/
def deriveAgainUptoRow : OpenClaim := { program := "ytcahnkdnhejkkaadoor", sum := "f6be294f7983346c71e15f0c2341a9a109b9802bea1a9dedc0ca523e420ba244", func := "watchword/watchwordlaw08.DeriveAgain", spec := "deriveAgain", unfollowed := true, recurses := true, named := ["watchword/sha.start", "watchword/sha.constants"], apart := false, laid := [("watchword/sha.start", laid_watchword_sha_start), ("watchword/sha.constants", laid_watchword_sha_constants)], narrowed := true }
def DeriveAgainUptoSaid : Prop := deriveAgainUptoRow.holds Tryd.pinned (OpenSpec.upto deriveAgainSpec)

/-- 'watchwordlaw08.DeriveBlocks', WHERE WHAT IT READS IS OF BULK AT MOST 1048576: true; the input reads as it did. -/
def deriveBlocksUptoRow : OpenClaim := { program := "ytcahnkdnhejkkaadoor", sum := "f6be294f7983346c71e15f0c2341a9a109b9802bea1a9dedc0ca523e420ba244", func := "watchword/watchwordlaw08.DeriveBlocks", spec := "deriveBlocks", unfollowed := true, recurses := true, named := ["watchword/sha.start", "watchword/sha.constants", "watchword/watchwordref04.constants"], apart := false, laid := [("watchword/watchwordref04.constants", laid_watchword_watchwordref04_constants), ("watchword/sha.start", laid_watchword_sha_start), ("watchword/sha.constants", laid_watchword_sha_constants)], narrowed := true }
def DeriveBlocksUptoSaid : Prop := deriveBlocksUptoRow.holds Tryd.pinned (OpenSpec.upto deriveBlocksSpec)

/-- 'watchwordlaw08.DerivePrefixes', WHERE WHAT IT READS IS OF BULK AT MOST 1048576: true; the input reads as it did. -/
def derivePrefixesUptoRow : OpenClaim := { program := "ytcahnkdnhejkkaadoor", sum := "f6be294f7983346c71e15f0c2341a9a109b9802bea1a9dedc0ca523e420ba244", func := "watchword/watchwordlaw08.DerivePrefixes", spec := "derivePrefixes", unfollowed := true, recurses := true, named := ["watchword/sha.start", "watchword/sha.constants"], apart := false, laid := [("watchword/sha.start", laid_watchword_sha_start), ("watchword/sha.constants", laid_watchword_sha_constants)], narrowed := true }
def DerivePrefixesUptoSaid : Prop := derivePrefixesUptoRow.holds Tryd.pinned (OpenSpec.upto derivePrefixesSpec)

/-- 'watchwordlaw10.RandomNumbers', WHERE WHAT IT READS IS OF BULK AT MOST 1048576: true; the input reads as it did. -/
def randomNumbersUptoRow : OpenClaim := { program := "ytcahnkdnhejkkaadoor", sum := "f6be294f7983346c71e15f0c2341a9a109b9802bea1a9dedc0ca523e420ba244", func := "watchword/watchwordlaw10.RandomNumbers", spec := "randomNumbers", unfollowed := true, recurses := true, named := ["watchword/sha.start", "watchword/sha.constants", "watchword/watchwordref04.constants"], apart := false, laid := [("watchword/watchwordref04.constants", laid_watchword_watchwordref04_constants), ("watchword/sha.start", laid_watchword_sha_start), ("watchword/sha.constants", laid_watchword_sha_constants)], narrowed := true }
def RandomNumbersUptoSaid : Prop := randomNumbersUptoRow.holds Tryd.pinned (OpenSpec.upto randomNumbersSpec)

/-- 'watchwordlaw10.RandomAgain', WHERE WHAT IT READS IS OF BULK AT MOST 1048576: true; the input reads as it did. -/
def randomAgainUptoRow : OpenClaim := { program := "ytcahnkdnhejkkaadoor", sum := "f6be294f7983346c71e15f0c2341a9a109b9802bea1a9dedc0ca523e420ba244", func := "watchword/watchwordlaw10.RandomAgain", spec := "randomAgain", unfollowed := true, recurses := true, named := ["watchword/sha.start", "watchword/sha.constants"], apart := false, laid := [("watchword/sha.start", laid_watchword_sha_start), ("watchword/sha.constants", laid_watchword_sha_constants)], narrowed := true }
def RandomAgainUptoSaid : Prop := randomAgainUptoRow.holds Tryd.pinned (OpenSpec.upto randomAgainSpec)

/-- 'watchwordlaw10.RandomForks', WHERE WHAT IT READS IS OF BULK AT MOST 1048576: true; the input reads as it did. -/
def randomForksUptoRow : OpenClaim := { program := "ytcahnkdnhejkkaadoor", sum := "f6be294f7983346c71e15f0c2341a9a109b9802bea1a9dedc0ca523e420ba244", func := "watchword/watchwordlaw10.RandomForks", spec := "randomForks", unfollowed := true, recurses := true, named := ["watchword/sha.start", "watchword/sha.constants"], apart := false, laid := [("watchword/sha.start", laid_watchword_sha_start), ("watchword/sha.constants", laid_watchword_sha_constants)], narrowed := true }
def RandomForksUptoSaid : Prop := randomForksUptoRow.holds Tryd.pinned (OpenSpec.upto randomForksSpec)

/-- 'watchwordlaw10.RandomPlays', WHERE WHAT IT READS IS OF BULK AT MOST 1048576: true; the input reads as it did. -/
def randomPlaysUptoRow : OpenClaim := { program := "ytcahnkdnhejkkaadoor", sum := "f6be294f7983346c71e15f0c2341a9a109b9802bea1a9dedc0ca523e420ba244", func := "watchword/watchwordlaw10.RandomPlays", spec := "randomPlays", unfollowed := true, recurses := true, named := ["watchword/sha.start", "watchword/sha.constants", "watchword/watchwordref04.constants"], apart := false, laid := [("watchword/watchwordref04.constants", laid_watchword_watchwordref04_constants), ("watchword/sha.start", laid_watchword_sha_start), ("watchword/sha.constants", laid_watchword_sha_constants)], narrowed := true }
def RandomPlaysUptoSaid : Prop := randomPlaysUptoRow.holds Tryd.pinned (OpenSpec.upto randomPlaysSpec)

/-- 'watchwordlaw10.RandomNone', WHERE WHAT IT READS IS OF BULK AT MOST 1048576: true; the input reads as it did. -/
def randomNoneUptoRow : OpenClaim := { program := "ytcahnkdnhejkkaadoor", sum := "f6be294f7983346c71e15f0c2341a9a109b9802bea1a9dedc0ca523e420ba244", func := "watchword/watchwordlaw10.RandomNone", spec := "randomNone", unfollowed := true, recurses := true, named := ["watchword/sha.start", "watchword/sha.constants"], apart := false, laid := [("watchword/sha.start", laid_watchword_sha_start), ("watchword/sha.constants", laid_watchword_sha_constants)], narrowed := true }
def RandomNoneUptoSaid : Prop := randomNoneUptoRow.holds Tryd.pinned (OpenSpec.upto randomNoneSpec)

end Rows
end Go.Proofs.YtcahnkdnhejkkaaDoor
