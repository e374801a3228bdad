/- The specification's numbers: digits, bits, ints. -/
import Derived.Test.YtkipmhcmdejcfaaDoorTNatPlain
import Derived.Test.YtkipmhcmdejcfaaDoorTNat14
import Derived.Test.YtkipmhcmdejcfaaDoorTSyReb
set_option linter.all false
namespace Go.Sy
open Go
end Go.Sy
namespace Go.Nt
open Go Go.Sy
end Go.Nt
namespace Go.Proofs.YtkipmhcmdejcfaaDoor
open Go Go.Sy Go.Nt Go.RowKit
attribute [local irreducible] Sy SyL SyX Sy.Fn callFunc natC
set_option maxRecDepth 10000
end Go.Proofs.YtkipmhcmdejcfaaDoor
namespace Go.Nt
open Go Go.Sy
section
variable {N : Nat} {w0 : World} {M : Nat → Prop} {ds : List Deferred} {L L1 : List Res}
end
theorem row_sla {B0 : Nat} {w : World} {M : Nat → Prop} {E n m c : Nat} {a : Option Addr} {xs : List Value} {L : List Res} (hh : Holds B0 M L w) (hL : Has L (.row (.slice a m c) E 1 n xs)) : SlA w a xs := (SlF.row (Mi := No) hh hL (fun _ h => h.elim)).sla
end Go.Nt
namespace Go.Proofs.YtkipmhcmdejcfaaDoor
open Go Go.Sy Go.Nt Go.RowKit
attribute [local irreducible] Sy SyL SyX Sy.Fn callFunc natC
set_option maxRecDepth 10000
end Go.Proofs.YtkipmhcmdejcfaaDoor
namespace Go.Nt
open Go Go.Sy
section
variable {P : Program} {ro : Option Nat} {N : Nat} {w0 : World} {M : Nat → Prop} {ds : List Deferred} {g : Nat → Option Value} {L : List Res} {o : Oper}
end
end Go.Nt
namespace Go.Proofs.YtkipmhcmdejcfaaDoor
open Go Go.Sy Go.Nt Go.RowKit
attribute [local irreducible] Sy SyL SyX Sy.Fn callFunc natC
set_option maxRecDepth 10000
end Go.Proofs.YtkipmhcmdejcfaaDoor
