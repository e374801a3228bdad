/- The logic of walks: lists of resources, turned about. -/
import Derived.Test.YtkipmhcmdejcfaaDoorSyStr
set_option linter.all false
namespace Go.Sy
theorem permr {L L' R : List Res} {r : Res} (h : Rem L r L') (k : L'.Perm R) : L.Perm (r :: R) := h.perm.trans (List.Perm.cons _ k)
theorem notOwn {L1 : List Res} {r : Res} {Mi : Nat → Prop} (h : Has L1 r) (hm1 : ∀ b, Mi b → ¬ OwnOf L1 b) : ∀ b, Mi b → ¬ OwnOf [r] b := fun b hb ⟨r', hr, ho⟩ => by
  obtain rfl := List.mem_singleton.1 hr
  exact hm1 b hb ⟨_, h, ho⟩
theorem SubR.end {A B R : List Res} (h : SubR A B) : SubR (A ++ R) (R ++ B) := by
  obtain ⟨X, hx⟩ := h
  refine ⟨X, ?_⟩
  refine (List.perm_append_comm (l₁ := R) (l₂ := B)).trans ((hx.append_right R).trans ?_)
  rw [List.append_assoc, List.append_assoc]
  exact List.Perm.append_left _ List.perm_append_comm
theorem SubR.end1 {A B R : List Res} {r : Res} (h : SubR A (r :: B)) : SubR (A ++ R) (r :: (R ++ B)) := by
  obtain ⟨X, hx⟩ := h.end (R := R)
  exact ⟨X, (List.perm_middle.symm).trans hx⟩
theorem SubR.skip {A B : List Res} {r : Res} (h : SubR A B) : SubR A (r :: B) := by
  obtain ⟨X, hx⟩ := h
  exact ⟨r :: X, (List.Perm.cons r hx).trans List.perm_middle.symm⟩
end Go.Sy
