/- The logic of walks: a part of the program seen from its own beginning; stores that change nothing, where the order is open. -/
import Derived.Test.YtjidkoabdmjgkaaGreatDoorXJ05
set_option linter.all false
section
namespace Go.Sy
open Go
section
variable {P : Program} {ro : Option Nat} {N : Nat} {w0 : World} {M : Nat → Prop} {ds : List Deferred} {ops : Array Oper} {Q : Exit → Act → World → Prop} {C : List (List Nat)} {L0 : List Res} {k i n : Nat} {o : Oper} {rest : List Oper} {F : Env → Fr} {rs : List (Nat × (Env → Value → List Res → Prop))}
theorem dcn (hg : ∀ ρ, relOf (cl C i) rs ρ → OpT P ro N w0 M ds o (only (o.looksAt ops) (get (F ρ))) (resOf (cl C i) rs ρ L0) (Det undef (resOf (cl C i) rs ρ L0))) (hw : ∀ ρ, wants ops o (only (o.looksAt ops) (get (F ρ))) = some true := by exact fun _ => rfl) (hd : o.dst = none := by exact rfl)
    (k : DH P ro N w0 M ds ops Q C L0 n (i + 1) rest F rs) : DH P ro N w0 M ds ops Q C L0 (n + 1) i (o :: rest) F rs :=
  .inl ⟨fun _ => undef, fun _ _ _ => rfl, fun ρ hρ => .inl ⟨hw ρ, hg ρ hρ⟩, by rw [hd]; exact k⟩
end
section
variable {P : Program} {ro : Option Nat} {N : Nat} {w0 : World} {M : Nat → Prop} {ds : List Deferred} {Q : Exit → Act → World → Prop} {fr : Fr}
end
end Go.Sy
end
