/- The logic of walks: a part of the program seen from its own beginning; stores that change nothing, where the order is open. -/
import Derived.Test.YtaeddmcoanefhaaGreatDoorVJ05
set_option linter.all false
section
namespace Go.Sy
open Go
section
variable {P : Program} {ro : Option Nat} {N : Nat} {w0 : World} {M : Nat → Prop} {ds : List Deferred} {ops : Array Oper} {Q : Exit → Act → World → Prop} {C : List (List Nat)} {L0 : List Res} {k i n : Nat} {o : Oper} {rest : List Oper} {F : Env → Fr} {rs : List (Nat × (Env → Value → List Res → Prop))}
theorem dcn (hg : ∀ ρ, relOf (cl C i) rs ρ → OpT P ro N w0 M ds o (only (o.looksAt ops) (get (F ρ))) (resOf (cl C i) rs ρ L0) (Det undef (resOf (cl C i) rs ρ L0))) (hw : ∀ ρ, wants ops o (only (o.looksAt ops) (get (F ρ))) = some true := by exact fun _ => rfl) (hd : o.dst = none := by exact rfl)
    (k : DH P ro N w0 M ds ops Q C L0 n (i + 1) rest F rs) : DH P ro N w0 M ds ops Q C L0 (n + 1) i (o :: rest) F rs :=
  .inl ⟨fun _ => undef, fun _ _ _ => rfl, fun ρ hρ => .inl ⟨hw ρ, hg ρ hρ⟩, by rw [hd]; exact k⟩
end
section
variable {P : Program} {ro : Option Nat} {N : Nat} {w0 : World} {M : Nat → Prop} {ds : List Deferred} {Q : Exit → Act → World → Prop} {fr : Fr}
theorem sy_apart {γ : Type} (f : γ → Fr) (R0 : γ → List Res) (I : γ → Prop) (L0 F : List Res) {c : Code}
    (h : ∀ w1 ds1, Keep M w0 w1 → Holds w0.heap.size M (L0 ++ F) w1 → Sy P ro N w1 (OwnOf L0) ds1 c (Exit.then (CutK N w1 (OwnOf L0) ds1 f R0 I) NoQ) fr L0)
    (hk : ∀ g, I g → SyX N w0 M ds (Q .normal) (f g) (R0 g ++ F)) :
    Sy P ro N w0 M ds c Q fr (L0 ++ F) := by
  rintro a w ⟨Ds, hds, hs⟩
  have hh : Holds w0.heap.size M (L0 ++ (F ++ Ds.map dob)) w := by rw [← List.append_assoc]; exact hs.hold
  have hF : Holds w0.heap.size M (L0 ++ F) w := hs.hold.sublist (List.sublist_append_left _ _)
  obtain ⟨h1, -, h3, -⟩ := Holds.app.1 hh
  have h0 : Holds w.heap.size (OwnOf L0) (L0 ++ ([] : List Nat).map dob) w := by
    refine ⟨?_, ?_, ?_⟩
    · intro r hr; exact h1.1 r (by simpa using hr)
    · simpa using h1.2
    · intro r hr b hb; exact .inr ⟨r, by simpa using hr, hb⟩
  have hst : StD N w (OwnOf L0) (Ds.map col ++ ds) (get fr) L0 a w := ⟨[], by simpa using hds, hs.size, hs.agr, Keep.refl _ _, h0⟩
  refine wpIn_mono (h w (Ds.map col ++ ds) hs.keep hF a w hst) ?_
  intro e a' w' hq
  cases e with
  | normal =>
    obtain ⟨g, hI, Ds2, hds2, hs2⟩ := hq
    refine hk g hI a' w' ⟨Ds2 ++ Ds, ?_, hs2.size, hs2.agr, hs.keep.trans hs2.keep h3, ?_⟩
    · rw [hds2, List.map_append, List.append_assoc]
    · have := Holds.call hh hs.keep.size (fun b hb => hb) hs2.keep hs2.hold
      refine this.perm ?_
      rw [List.map_append, List.append_assoc, List.append_assoc]
      refine List.Perm.append_left _ ?_
      rw [← List.append_assoc, ← List.append_assoc]
      exact List.Perm.append_right _ List.perm_append_comm
  | exit id => exact hq.elim
  | goto l => exact hq.elim
  | ret => exact hq.elim
  | _ => exact hq.elim
theorem Holds.out {B b T : Nat} {C : List Value} {L0 F : List Res} {w : World} (hh : Holds B M (L0 ++ F) w) (hF : Has F (.blk b T C)) : (Res.blk b T C).holds w ∧ ¬ OwnOf L0 b := by
  refine ⟨hh.all _ (List.mem_append_right _ hF), fun h => ?_⟩
  exact (Holds.app.1 hh).2.2.2 b h ⟨_, hF, rfl⟩
end
end Go.Sy
end
