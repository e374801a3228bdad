/- The logic of walks: a cell that is read where a fact tells, not a resource. -/
import Derived.Test.YtjidkoabdmjgkaaDoorUSyY2
set_option linter.all false
namespace Go.Sy
open Go Go.Wd
section
variable {P : Program} {ro : Option Nat} {N : Nat} {w0 : World} {M : Nat → Prop} {ds : List Deferred} {g : Nat → Option Value} {L : List Res} {o : Oper}
end
end Go.Sy
