/-
  NARROWER THAN 'FOR EVERY INPUT', by the rows' own cells (each row's printed sentence says how): GroupMembers: laid · GroupPowers: laid · GroupGives: laid.
  DERIVED. THE GIVEN ROWS OF THIS SEAT. 3 by the template 'for every input the law returns true; each argument reads behind the call as it read before'; 0 by the template 'total and deterministic' (their statements: YtjidkoabdmjgkaaDoorTotals.lean).
  GIVEN WITH THE SEED: the statements are not yours to turn. If you find one false, say at which input.
  Laid BY PROGRAM, IN A SANDBOX (cutbox-rows.mjs): the forced cells as the released guide's own fill.sh prints them over the translation a73f4c17df4969de… (all of the seat's roots in one cut). By AI agents, Wed Nov 11 2026. No macro, syntax, notation, axiom, sorry.
-/
import Derived.Test.YtjidkoabdmjgkaaDoorChecked
import GoSem.PinnedTables
import GoSem.Claim
import GoSem.ClaimJoined
import GoSem.ClaimMapViews
import Derived.JoinedTies
import Derived.KernelRfl
namespace Go.Proofs.YtjidkoabdmjgkaaDoor
/- THE CELL 'sum', in the pinned program and in every row, IS THE sha256 OF THE DUMP (.gsa) THAT YtjidkoabdmjgkaaDoorProg.lean LOADS. Nothing in Lean hashes anything: it is a label: what it is worth is what the hold of that sum in a sandbox is worth. -/
noncomputable def Tryd.pinned : Pinned := { name := "ytjidkoabdmjgkaadoor", sum := "a73f4c17df4969de8845768f2f96dd87cc0fe83a011154be6c9fda96f9c0a5fa", checked := Tryd.checked }
namespace Rows
def none {H : Type} : Left H := { results := [], args := [] }

/- WHAT THE LISTED PACKAGE-LEVEL VARIABLES READ AS WHEN THE CALL BEGINS. Each datum BY PROGRAM (the guide's laid-datum.mjs) off the statement by which the dump's own 'gosem.cut.vars' lays the variable. In a bare row this is a premise. The card (YtjidkoabdmjgkaaDoorCards.lean) ties it to the program's text. -/
def laid_unicode_utf8_acceptRanges {H : Type} : DataW H := .agg [.agg [.lit (.int .u8 128), .lit (.int .u8 191)], .agg [.lit (.int .u8 160), .lit (.int .u8 191)], .agg [.lit (.int .u8 128), .lit (.int .u8 159)], .agg [.lit (.int .u8 144), .lit (.int .u8 191)], .agg [.lit (.int .u8 128), .lit (.int .u8 143)], .agg [.lit (.int .u8 0), .lit (.int .u8 0)], .agg [.lit (.int .u8 0), .lit (.int .u8 0)], .agg [.lit (.int .u8 0), .lit (.int .u8 0)], .agg [.lit (.int .u8 0), .lit (.int .u8 0)], .agg [.lit (.int .u8 0), .lit (.int .u8 0)], .agg [.lit (.int .u8 0), .lit (.int .u8 0)], .agg [.lit (.int .u8 0), .lit (.int .u8 0)], .agg [.lit (.int .u8 0), .lit (.int .u8 0)], .agg [.lit (.int .u8 0), .lit (.int .u8 0)], .agg [.lit (.int .u8 0), .lit (.int .u8 0)], .agg [.lit (.int .u8 0), .lit (.int .u8 0)]]
def laid_watchword_group_primes {H : Type} : DataW H := .agg [.lit (.string [98, 51, 102]), .lit (.string [52, 52, 56, 53, 56, 102, 102]), .lit (.string [57, 49, 98, 56, 56, 55, 102, 102]), .lit (.string [102, 102, 102, 102, 102, 102, 102, 102, 102, 102, 102, 102, 102, 102, 102, 102, 99, 57, 48, 102, 100, 97, 97, 50, 50, 49, 54, 56, 99, 50, 51, 52, 99, 52, 99, 54, 54, 50, 56, 98, 56, 48, 100, 99, 49, 99, 100, 49, 50, 57, 48, 50, 52, 101, 48, 56, 56, 97, 54, 55, 99, 99, 55, 52, 48, 50, 48, 98, 98, 101, 97, 54, 51, 98, 49, 51, 57, 98, 50, 50, 53, 49, 52, 97, 48, 56, 55, 57, 56, 101, 51, 52, 48, 52, 100, 100, 101, 102, 57, 53, 49, 57, 98, 51, 99, 100, 51, 97, 52, 51, 49, 98, 51, 48, 50, 98, 48, 97, 54, 100, 102, 50, 53, 102, 49, 52, 51, 55, 52, 102, 101, 49, 51, 53, 54, 100, 54, 100, 53, 49, 99, 50, 52, 53, 101, 52, 56, 53, 98, 53, 55, 54, 54, 50, 53, 101, 55, 101, 99, 54, 102, 52, 52, 99, 52, 50, 101, 57, 97, 54, 51, 97, 51, 54, 50, 48, 102, 102, 102, 102, 102, 102, 102, 102, 102, 102, 102, 102, 102, 102, 102, 102])]
/-- One of Go's own tables, pinned by name: the form's constant. -/
def laid_unicode_utf8_first : DataW Unit := Go.Pinned.utf8First

/-- 'watchwordlaw03.GroupMembers': WHATEVER THE INPUT: true; the input reads as it did. -/
def groupMembersSpec : ChangeSpec := { name := "groupMembers", fn := fun _ => fun
  | [d1, d2] => { results := [.lit (.bool true)], args := [d1, d2] }
  | _ => none }
def groupMembersRow : OpenClaim := { program := "ytjidkoabdmjgkaadoor", sum := "a73f4c17df4969de8845768f2f96dd87cc0fe83a011154be6c9fda96f9c0a5fa", func := "watchword/watchwordlaw03.GroupMembers", spec := "groupMembers", inPlace := ["math/bits.Add64", "math/bits.Sub64"], unfollowed := true, recurses := true, named := ["watchword/group.primes", "math/bits.divideError", "math/bits.overflowError", "unicode/utf8.first", "unicode/utf8.acceptRanges"], apart := false, laid := [("unicode/utf8.acceptRanges", laid_unicode_utf8_acceptRanges), ("watchword/group.primes", laid_watchword_group_primes), ("unicode/utf8.first", laid_unicode_utf8_first)] }
def GroupMembersSaid : Prop := groupMembersRow.holds Tryd.pinned (OpenSpec.ofChange groupMembersSpec)

/-- ITS FALSE NEIGHBOUR: 'it returns false'. Refute it at one input. -/
def groupMembersWrong : ChangeSpec := { name := "groupMembers", fn := fun _ => fun
  | [d1, d2] => { results := [.lit (.bool false)], args := [d1, d2] }
  | _ => none }
def GroupMembersWrongFalsely : Prop := groupMembersRow.holds Tryd.pinned (OpenSpec.ofChange groupMembersWrong)

/-- 'watchwordlaw03.GroupPowers': WHATEVER THE INPUT: true; the input reads as it did. -/
def groupPowersSpec : ChangeSpec := { name := "groupPowers", fn := fun _ => fun
  | [d1, d2, d3] => { results := [.lit (.bool true)], args := [d1, d2, d3] }
  | _ => none }
def groupPowersRow : OpenClaim := { program := "ytjidkoabdmjgkaadoor", sum := "a73f4c17df4969de8845768f2f96dd87cc0fe83a011154be6c9fda96f9c0a5fa", func := "watchword/watchwordlaw03.GroupPowers", spec := "groupPowers", inPlace := ["math/bits.Add64", "math/bits.Sub64"], unfollowed := true, recurses := true, named := ["watchword/group.primes", "math/bits.divideError", "math/bits.overflowError", "unicode/utf8.first", "unicode/utf8.acceptRanges"], apart := false, laid := [("unicode/utf8.acceptRanges", laid_unicode_utf8_acceptRanges), ("watchword/group.primes", laid_watchword_group_primes), ("unicode/utf8.first", laid_unicode_utf8_first)] }
def GroupPowersSaid : Prop := groupPowersRow.holds Tryd.pinned (OpenSpec.ofChange groupPowersSpec)

/-- ITS FALSE NEIGHBOUR: 'it returns false'. Refute it at one input. -/
def groupPowersWrong : ChangeSpec := { name := "groupPowers", fn := fun _ => fun
  | [d1, d2, d3] => { results := [.lit (.bool false)], args := [d1, d2, d3] }
  | _ => none }
def GroupPowersWrongFalsely : Prop := groupPowersRow.holds Tryd.pinned (OpenSpec.ofChange groupPowersWrong)

/-- 'watchwordlaw03.GroupGives': WHATEVER THE INPUT: true; the input reads as it did. -/
def groupGivesSpec : ChangeSpec := { name := "groupGives", fn := fun _ => fun
  | [d1, d2] => { results := [.lit (.bool true)], args := [d1, d2] }
  | _ => none }
def groupGivesRow : OpenClaim := { program := "ytjidkoabdmjgkaadoor", sum := "a73f4c17df4969de8845768f2f96dd87cc0fe83a011154be6c9fda96f9c0a5fa", func := "watchword/watchwordlaw03.GroupGives", spec := "groupGives", inPlace := ["math/bits.Add64", "math/bits.Sub64"], unfollowed := true, recurses := true, named := ["watchword/group.primes", "math/bits.divideError", "math/bits.overflowError", "unicode/utf8.first", "unicode/utf8.acceptRanges"], apart := false, laid := [("unicode/utf8.acceptRanges", laid_unicode_utf8_acceptRanges), ("watchword/group.primes", laid_watchword_group_primes), ("unicode/utf8.first", laid_unicode_utf8_first)] }
def GroupGivesSaid : Prop := groupGivesRow.holds Tryd.pinned (OpenSpec.ofChange groupGivesSpec)

/-- ITS FALSE NEIGHBOUR: 'it returns false'. Refute it at one input. -/
def groupGivesWrong : ChangeSpec := { name := "groupGives", fn := fun _ => fun
  | [d1, d2] => { results := [.lit (.bool false)], args := [d1, d2] }
  | _ => none }
def GroupGivesWrongFalsely : Prop := groupGivesRow.holds Tryd.pinned (OpenSpec.ofChange groupGivesWrong)

/- THE SECOND FORM. 'bulk': how many values and letters a reading holds, each counted each time it is reached (what is shared counts as often as it is met; a slice's spare places count too). A statement '..UptoSaid' is the law's where the arguments, and the package variables that the reading takes, are together of bulk at most 1048576: NARROWER than '..Said'. Prove '..Said' where nothing that the law and all that it calls make is longer than what came in: it says more and counts as full. Else prove '..UptoSaid'. A law counts once. -/
mutual
def uptoBulk {H : Type} : DataW H → Nat
  | .lit (.string bytes) => bytes.length + 1
  | .lit _ => 1
  | .nil => 1
  | .ptr d => uptoBulk d + 1
  | .slice elems spare => uptoBulkAll elems + uptoBulkAll spare + 1
  | .agg parts => uptoBulkAll parts + 1
  | .iface _ d => uptoBulk d + 1
  | .map entries => uptoBulkEntries entries + 1
  | .held _ => 1
def uptoBulkAll {H : Type} : List (DataW H) → Nat
  | [] => 0
  | d :: r => uptoBulk d + uptoBulkAll r
def uptoBulkEntries {H : Type} : List (Lit × DataW H) → Nat
  | [] => 0
  | x :: r => uptoBulkEntry x + uptoBulkEntries r
def uptoBulkEntry {H : Type} : Lit × DataW H → Nat
  | (.string bytes, d) => bytes.length + uptoBulk d + 1
  | (_, d) => uptoBulk d + 1
 end
def uptoSmall : (H : Type) → List (DataW H) → Bool := fun _ ds => decide (uptoBulkAll ds ≤ 1048576)
def OpenSpec.upto (s : _root_.Go.ChangeSpec) : _root_.Go.OpenSpec := { _root_.Go.OpenSpec.ofChange s with cond := some uptoSmall }

/-- 'watchwordlaw03.GroupMembers', WHERE WHAT IT READS IS OF BULK AT MOST 1048576: true; the input reads as it did. -/
def groupMembersUptoRow : OpenClaim := { program := "ytjidkoabdmjgkaadoor", sum := "a73f4c17df4969de8845768f2f96dd87cc0fe83a011154be6c9fda96f9c0a5fa", func := "watchword/watchwordlaw03.GroupMembers", spec := "groupMembers", inPlace := ["math/bits.Add64", "math/bits.Sub64"], unfollowed := true, recurses := true, named := ["watchword/group.primes", "math/bits.divideError", "math/bits.overflowError", "unicode/utf8.first", "unicode/utf8.acceptRanges"], apart := false, laid := [("unicode/utf8.acceptRanges", laid_unicode_utf8_acceptRanges), ("watchword/group.primes", laid_watchword_group_primes), ("unicode/utf8.first", laid_unicode_utf8_first)], narrowed := true }
def GroupMembersUptoSaid : Prop := groupMembersUptoRow.holds Tryd.pinned (OpenSpec.upto groupMembersSpec)

/-- 'watchwordlaw03.GroupPowers', WHERE WHAT IT READS IS OF BULK AT MOST 1048576: true; the input reads as it did. -/
def groupPowersUptoRow : OpenClaim := { program := "ytjidkoabdmjgkaadoor", sum := "a73f4c17df4969de8845768f2f96dd87cc0fe83a011154be6c9fda96f9c0a5fa", func := "watchword/watchwordlaw03.GroupPowers", spec := "groupPowers", inPlace := ["math/bits.Add64", "math/bits.Sub64"], unfollowed := true, recurses := true, named := ["watchword/group.primes", "math/bits.divideError", "math/bits.overflowError", "unicode/utf8.first", "unicode/utf8.acceptRanges"], apart := false, laid := [("unicode/utf8.acceptRanges", laid_unicode_utf8_acceptRanges), ("watchword/group.primes", laid_watchword_group_primes), ("unicode/utf8.first", laid_unicode_utf8_first)], narrowed := true }
def GroupPowersUptoSaid : Prop := groupPowersUptoRow.holds Tryd.pinned (OpenSpec.upto groupPowersSpec)

/-- 'watchwordlaw03.GroupGives', WHERE WHAT IT READS IS OF BULK AT MOST 1048576: true; the input reads as it did. -/
def groupGivesUptoRow : OpenClaim := { program := "ytjidkoabdmjgkaadoor", sum := "a73f4c17df4969de8845768f2f96dd87cc0fe83a011154be6c9fda96f9c0a5fa", func := "watchword/watchwordlaw03.GroupGives", spec := "groupGives", inPlace := ["math/bits.Add64", "math/bits.Sub64"], unfollowed := true, recurses := true, named := ["watchword/group.primes", "math/bits.divideError", "math/bits.overflowError", "unicode/utf8.first", "unicode/utf8.acceptRanges"], apart := false, laid := [("unicode/utf8.acceptRanges", laid_unicode_utf8_acceptRanges), ("watchword/group.primes", laid_watchword_group_primes), ("unicode/utf8.first", laid_unicode_utf8_first)], narrowed := true }
def GroupGivesUptoSaid : Prop := groupGivesUptoRow.holds Tryd.pinned (OpenSpec.upto groupGivesSpec)

end Rows
end Go.Proofs.YtjidkoabdmjgkaaDoor
