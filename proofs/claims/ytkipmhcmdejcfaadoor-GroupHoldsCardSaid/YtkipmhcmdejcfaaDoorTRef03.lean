/- The specification of layer group, walked. -/
import Derived.Test.YtkipmhcmdejcfaaDoorTRefM
import Derived.Test.YtkipmhcmdejcfaaDoorTRef8
import Derived.Test.YtkipmhcmdejcfaaDoorTGrp2
set_option linter.all false
namespace Go.Sy
open Go
end Go.Sy
namespace Go.Nt
open Go Go.Sy
end Go.Nt
namespace Go.Proofs.YtkipmhcmdejcfaaDoor
open Go Go.Sy Go.Nt Go.RowKit
attribute [local irreducible] Sy SyL SyX Sy.Fn callFunc natC gP gQ gL memB
set_option maxRecDepth 10000
end Go.Proofs.YtkipmhcmdejcfaaDoor
