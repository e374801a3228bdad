/- What the cards share: lists of byte strings. -/
import Derived.Test.YtcahnkdnhejkkaaDoorCardKit1
import Derived.Test.YtcahnkdnhejkkaaDoorSyRead
set_option linter.all false
namespace Go.Proofs.YtcahnkdnhejkkaaDoor
open Go Go.Sy Go.RowKit
theorem undLists : Tryd.prog.underlying 44 = some (.slice 22) := by kernel_rfl
theorem cellsBytes : Tryd.prog.cellsOf 22 = 1 := by kernel_rfl
end Go.Proofs.YtcahnkdnhejkkaaDoor
