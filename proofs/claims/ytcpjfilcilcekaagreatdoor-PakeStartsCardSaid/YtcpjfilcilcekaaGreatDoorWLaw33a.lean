/- The laws of layer pake: copies, and whether an exchange agrees with the specification's. -/
import Derived.Test.YtcpjfilcilcekaaGreatDoorWJ36
import Derived.Test.YtcpjfilcilcekaaGreatDoorWPkR3
set_option linter.all false
namespace Go.Sy
open Go
end Go.Sy
namespace Go.Proofs.YtcpjfilcilcekaaGreatDoor
open Go Go.Sy Go.Sh Go.Nt Go.RowKit
attribute [local irreducible] Sy SyL SyX Sy.Fn callFunc natC rowN refC iC gP gQ gL memB safeC fixB Sh.sum HashIs pkPt pkH pkQ firstN dblock hmac pkW pkX pkOwn pkDer pkSh pkD pkC pkName pkKey
set_option maxRecDepth 10000
theorem zqm {E n:Nat}{xs:List Value}{v:Value}{R:List Res}(h: ∃a k,v= .slice a n k/\R= [.row (.slice a n k) E 1 n xs]):RowOf E n xs v R:=by
  obtain ⟨a,k,rfl,rfl⟩:=h;exact ⟨a,k,rfl,rfl⟩
end Go.Proofs.YtcpjfilcilcekaaGreatDoor
