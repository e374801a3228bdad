/- Layer pake, the specification walked: Derived, Finish. -/
import Derived.Test.YtcpjfilcilcekaaGreatDoorWPkR2
set_option linter.all false
namespace Go.Proofs.YtcpjfilcilcekaaGreatDoor
open Go Go.Sy Go.Sh Go.Nt Go.RowKit
attribute [local irreducible] Sy SyL SyX Sy.Fn callFunc natC rowN refC iC gP gQ gL memB safeC fixB Sh.sum HashIs pkPt pkH pkQ firstN dblock hmac pkW pkX pkOwn pkDer pkSh pkD
set_option maxRecDepth 10000
theorem zq9 (v z:Int) (a b c d e:Option Addr) (n1 n2 n3 n4 n5 m1 m2 m3 m4 m5:Nat):(rxV v z (.slice a n1 m1) (.slice b n2 m2) (.slice c n3 m3) (.slice d n4 m4) (.slice e n5 m5)).all (·.oneCell')=true:=rfl
end Go.Proofs.YtcpjfilcilcekaaGreatDoor
