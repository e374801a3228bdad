/- The specification's numbers: division. -/
import Derived.Test.YtkipmhcmdejcfaaDoorTRef5
import Derived.Test.YtkipmhcmdejcfaaDoorTNat22
set_option linter.all false
namespace Go.Nt
open Go Go.Sy
end Go.Nt
namespace Go.Proofs.YtkipmhcmdejcfaaDoor
open Go Go.Sy Go.Nt Go.RowKit
attribute [local irreducible] Sy SyL SyX Sy.Fn callFunc natC
set_option maxRecDepth 10000
end Go.Proofs.YtkipmhcmdejcfaaDoor
