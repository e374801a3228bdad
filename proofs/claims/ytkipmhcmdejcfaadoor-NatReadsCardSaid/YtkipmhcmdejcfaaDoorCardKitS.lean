/- Cards of this seat whose laws take strings. -/
import Derived.Test.YtkipmhcmdejcfaaDoorCardKitN
import Derived.ChangeMaps5
set_option linter.all false
