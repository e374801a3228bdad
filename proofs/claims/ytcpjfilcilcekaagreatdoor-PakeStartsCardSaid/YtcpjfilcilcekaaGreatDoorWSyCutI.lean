/- The logic of walks: a cut behind two pieces of code that stand together. -/
import Derived.Test.YtcpjfilcilcekaaGreatDoorWJ03
set_option linter.all false
namespace Go.Sy
open Go
section
variable {P:Program}{ro:Option Nat}{N:Nat}{w0:World}{M:Nat->Prop}{ds:List Deferred}{fr:Fr}{L:List Res}
theorem zph {γ:Type}{Q:Exit->Act->World->Prop}(f:γ->Fr) (R:γ->List Res) (I:γ->Prop) {x y z:Code}(h:Sy P ro N w0 M ds x (Exit.then (CK P ro y (Exit.then (CutK N w0 M ds f R I) Q)) (Exit.then (CutK N w0 M ds f R I) Q)) fr L)
    (h2: ∀g,I g->Sy P ro N w0 M ds z Q (f g) (R g)):Sy P ro N w0 M ds x (Exit.then (CK P ro y (Exit.then (CK P ro z Q) Q)) (Exit.then (CK P ro z Q) Q)) fr L:=by
  have key: ∀(e:Exit) (a:Act) (w:World),Exit.then (CutK N w0 M ds f R I) Q e a w->Exit.then (CK P ro z Q) Q e a w:=λe a' w' hq=>by
    cases e with
    |normal=>obtain ⟨g,hI,hst⟩:=hq;exact h2 g hI a' w' hst
    |exit id=>exact hq
    |goto l=>exact hq
    |ret=>exact hq
    |panic c=>exact hq
    |outgrown=>exact hq
  exact λa w hs=>wpIn_mono (h a w hs) (λe a' w' hq=>by
    cases e with
    |normal=>exact wpIn_mono hq (key)
    |exit id=>exact hq
    |goto l=>exact hq
    |ret=>exact hq
    |panic c=>exact hq
    |outgrown=>exact hq)
end
end Go.Sy
