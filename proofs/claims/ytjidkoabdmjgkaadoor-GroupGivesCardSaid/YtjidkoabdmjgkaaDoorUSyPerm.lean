/- The logic of walks: lists of resources, turned about. -/
import Derived.Test.YtjidkoabdmjgkaaDoorUSyStr
set_option linter.all false
namespace Go.Sy
theorem permr {L L' R : List Res} {r : Res} (h : Rem L r L') (k : L'.Perm R) : L.Perm (r :: R) := h.perm.trans (List.Perm.cons _ k)
end Go.Sy
