/- The specification's numbers: order, sum, difference, numbers moved. -/
import Derived.Test.YtkipmhcmdejcfaaDoorTRef3
import Derived.Laws.Small
set_option linter.all false
namespace Go.Sy
open Go
section
variable {P : Program} {ro : Option Nat} {N : Nat} {w0 : World} {M : Nat → Prop} {ds : List Deferred} {g : Nat → Option Value} {L : List Res} {o : Oper}
end
end Go.Sy
namespace Go.Nt
open Go Go.Sy
end Go.Nt
namespace Go.Proofs.YtkipmhcmdejcfaaDoor
open Go Go.Sy Go.Nt Go.RowKit
attribute [local irreducible] Sy SyL SyX Sy.Fn callFunc natC
set_option maxRecDepth 10000
end Go.Proofs.YtkipmhcmdejcfaaDoor
namespace Go.Nt
end Go.Nt
namespace Go.Proofs.YtkipmhcmdejcfaaDoor
open Go Go.Sy Go.Nt Go.RowKit
attribute [local irreducible] Sy SyL SyX Sy.Fn callFunc natC
set_option maxRecDepth 10000
end Go.Proofs.YtkipmhcmdejcfaaDoor
