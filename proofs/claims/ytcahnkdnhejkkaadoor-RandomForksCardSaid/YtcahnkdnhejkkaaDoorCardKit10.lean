/- Cards whose laws take strings. -/
import Derived.Test.YtcahnkdnhejkkaaDoorCardKit1
import Derived.ChangeMaps5
set_option linter.all false
