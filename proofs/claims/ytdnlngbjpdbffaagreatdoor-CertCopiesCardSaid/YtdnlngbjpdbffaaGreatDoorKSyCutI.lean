/- Lemmas of this proof. -/
import Derived.Test.YtdnlngbjpdbffaaGreatDoorKJ04
set_option linter.all false
namespace Go.Sy
open Go
variable {P:Program}{ro:Option Nat}{N:Nat}{w0:World}{M:Nat->Prop}{ds:List Deferred}{fr:Fr}{L:List Res}
theorem ziM{γ:Type}{Q:Exit->Act->World->Prop}(f:γ->Fr)(R:γ->List Res)(I:γ->Prop){x y z:Code}(h:Sy P ro N w0 M ds x (Exit.then (CK P ro y (Exit.then (zk5 N w0 M ds f R I) Q)) (Exit.then (zk5 N w0 M ds f R I) Q)) fr L)
  (h2:∀g,I g->Sy P ro N w0 M ds z Q (f g) (R g)):Sy P ro N w0 M ds x (Exit.then (CK P ro y (Exit.then (CK P ro z Q) Q)) (Exit.then (CK P ro z Q) Q)) fr L:=by
 have key:∀(e:Exit) (a:Act) (w:World),Exit.then (zk5 N w0 M ds f R I) Q e a w->Exit.then (CK P ro z Q) Q e a w:=λe q r j=>by
  cases e with
  |normal=>obtain⟨g,t,m⟩:=j;exact h2 g t q r m
  |exit id=>exact j
  |goto l=>exact j
  |ret=>exact j
  |panic c=>exact j
  |outgrown=>exact j
 exact λa w A=>wpIn_mono (h a w A) (λe q r j=>by
  cases e with
  |normal=>exact wpIn_mono j (key)
  |exit id=>exact j
  |goto l=>exact j
  |ret=>exact j
  |panic c=>exact j
  |outgrown=>exact j)
end Go.Sy
