/- The inverse of a number. -/
import Derived.Test.YtjidkoabdmjgkaaDoorUMod4
import Derived.Test.YtjidkoabdmjgkaaDoorUSyReb
set_option linter.all false
namespace Go.Sy
open Go
end Go.Sy
namespace Go.Proofs.YtjidkoabdmjgkaaDoor
open Go Go.Sy Go.Nt Go.RowKit
attribute [local irreducible] Sy SyL SyX Sy.Fn callFunc natC rowN
set_option maxRecDepth 10000
end Go.Proofs.YtjidkoabdmjgkaaDoor
