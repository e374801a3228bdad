/- The specification of layer modular, walked. -/
import Derived.Test.YtkipmhcmdejcfaaDoorTRef3
import Derived.Test.YtkipmhcmdejcfaaDoorTRef5
import Derived.Test.YtkipmhcmdejcfaaDoorTRef6
import Derived.Test.YtkipmhcmdejcfaaDoorTModPlain
set_option linter.all false
namespace Go.Nt
end Go.Nt
namespace Go.Proofs.YtkipmhcmdejcfaaDoor
open Go Go.Sy Go.Nt Go.RowKit
attribute [local irreducible] Sy SyL SyX Sy.Fn callFunc natC
set_option maxRecDepth 10000
end Go.Proofs.YtkipmhcmdejcfaaDoor
