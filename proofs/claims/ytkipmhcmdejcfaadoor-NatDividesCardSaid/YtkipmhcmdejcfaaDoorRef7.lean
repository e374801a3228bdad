/- The specification's numbers: the greatest common divisor. -/
import Derived.Test.YtkipmhcmdejcfaaDoorRef6
set_option linter.all false
namespace Go.Proofs.YtkipmhcmdejcfaaDoor
open Go Go.Sy Go.Nt Go.RowKit
attribute [local irreducible] Sy SyL SyX Sy.Fn callFunc natC refC iC
set_option maxRecDepth 10000
/-- Where a number's digits lie: in one of both arguments, or in memory of its own. -/
def SrcG (a1 : Option Addr) (ca x : Nat) (b1 : Option Addr) (cb y : Nat) (u : Nat) (a : Option Addr) (c : Nat) (R : List Res) : Prop :=
  (R = [] ∧ ((a = a1 ∧ c = ca ∧ u = x) ∨ (a = b1 ∧ c = cb ∧ u = y))) ∨ R = [.row (.slice a (nd 65536 u) c) 3 1 (nd 65536 u) (refC u)]
theorem SrcG.sla {a1 : Option Addr} {ca x : Nat} {b1 : Option Addr} {cb y u : Nat} {a : Option Addr} {c : Nat} {R L : List Res} {w w' : World} {B : Nat} (h : SrcG a1 ca x b1 cb y u a c R) (ha : SlA w' a1 (refC x)) (hb : SlA w' b1 (refC y)) (hh : Holds B No L w') (hR : ∀ r, Has R r → Has L r) : SlA w' a (refC u) := by
  rcases h with ⟨rfl, ⟨rfl, rfl, rfl⟩ | ⟨rfl, rfl, rfl⟩⟩ | rfl
  · exact ha
  · exact hb
  · exact row_sla hh (hR _ Has.here)
theorem rgcd_fn (a1 b1 : Option Addr) (ca cb x y : Nat) (w : World) (ha : SlA w a1 (refC x)) (hb : SlA w b1 (refC y)) (hx : nd 65536 x < 100000) (hy : nd 65536 y < 100000) :
    Sy.Fn Tryd.prog 38 [.slice a1 (nd 65536 x) ca, .slice b1 (nd 65536 y) cb] w No (fun v R => ∃ a c, v = .slice a (nd 65536 (Nat.gcd x y)) c ∧ SrcG a1 ca x b1 cb y (Nat.gcd x y) a c R) := by
  refine fn_enter Tryd.func38 rfl Tryd.ntmps38 (by simp) Holds.nil ?_
  repeat' (first | refine sy_seqC ?_ | refine syl_nil ?_ | refine sy_if_t rfl ?_ | refine sy_if_f rfl ?_ | refine sy_block ?_ | refine sy_skip ?_ | refine sy_ret ?_ | refine sy_exit ?_ | refine sy_label ?_ | refine syx_then ?_ | refine syx_go ?_ | refine syx_then_ret ?_ | refine syx_then_exit ?_ | refine syx_in ?_ | refine syx_in_ret ?_ | refine syx_in_here ?_ | refine syx_in_past rfl ?_ | (apply syx_begin; (focus ((repeat (first | exact Rem.here | apply Rem.there)); done)); assumption) | (refine sy_region (id := 0) ?_; try refine y_assign ?_) | (refine syl_id ?_; first | refine y_assign ?_ | fail) | refine sy_region ?_ | fail)
  refine sy_loop (γ := (Nat × Nat) × (Option Addr × Nat) × (Option Addr × Nat) × List Res × List Res) (fun g => [(0, .slice g.2.1.1 (nd 65536 g.1.1) g.2.1.2), (1, .slice g.2.2.1.1 (nd 65536 g.1.2) g.2.2.1.2)]) (fun g => g.2.2.2.1 ++ g.2.2.2.2)
    (fun g => SrcG a1 ca x b1 cb y g.1.1 g.2.1.1 g.2.1.2 g.2.2.2.1 ∧ SrcG a1 ca x b1 cb y g.1.2 g.2.2.1.1 g.2.2.1.2 g.2.2.2.2 ∧ Nat.gcd g.1.1 g.1.2 = Nat.gcd x y ∧ nd 65536 g.1.1 < 100000 ∧ nd 65536 g.1.2 < 100000) (fun g => g.1.2) ((x, y), (a1, ca), (b1, cb), [], []) ⟨.inl ⟨rfl, .inl ⟨rfl, rfl, rfl⟩⟩, .inl ⟨rfl, .inr ⟨rfl, rfl, rfl⟩⟩, rfl, hx, hy⟩ ?_ ?_ ?_
  · (repeat' (first | exact Sub.nil | refine Sub.cons rfl ?_ ?_ | rfl))
  · exact SubR.nil
  rintro ⟨⟨u, v⟩, ⟨a, c⟩, ⟨b, d⟩, Ra, Rb⟩ ⟨hSa, hSb, hg, hu, hv⟩
  dsimp only at hSa hSb hg hu hv ⊢
  rcases Nat.eq_zero_or_pos v with h0 | h0
  · subst h0
    rw [Nat.gcd_zero_right] at hg
    have hz : decide ((0 : Int) < ((nd 65536 0 : Nat) : Int)) = false := decide_eq_false (by rw [nd_zero]; omega)
    rw [← hg]
    repeat' (first | refine sy_seqC ?_ | refine syl_nil ?_ | refine sy_if_t rfl ?_ | refine sy_if_f rfl ?_ | refine sy_block ?_ | refine sy_skip ?_ | refine sy_ret ?_ | refine sy_exit ?_ | refine sy_label ?_ | refine syx_then ?_ | refine syx_go ?_ | refine syx_then_ret ?_ | refine syx_then_exit ?_ | refine syx_in ?_ | refine syx_in_ret ?_ | refine syx_in_here ?_ | refine syx_in_past rfl ?_ | (apply syx_begin; (focus ((repeat (first | exact Rem.here | apply Rem.there)); done)); assumption) | (refine sy_region (id := 1) ?_; try refine y_move ?_; try refine y_len ?_; try (first | refine yv (op_gtr (hr := hz)) (k := ?_) | refine y_gtr ?_ | fail)) | (refine sy_region (id := 4) ?_; try refine y_move ?_; try refine y_assign ?_) | (refine syl_id ?_; first | refine yv (op_gtr (hr := hz)) (k := ?_) | refine y_assign ?_ | refine y_gtr ?_ | refine y_len ?_ | refine y_move ?_ | fail) | refine sy_region ?_ | fail)
    exact ret1 rfl (resTmp rfl) ⟨Rb, List.Perm.refl _⟩ ⟨a, c, rfl, hSa⟩
  · have hnz : 0 < nd 65536 v := by
      have := (nd_eq_zero 65536 v (by decide)).1
      omega
    have hz : decide ((0 : Int) < ((nd 65536 v : Nat) : Int)) = true := decide_eq_true (by omega)
    have hrv := Nat.mod_lt u h0
    have hgr : Nat.gcd v (u % v) = Nat.gcd x y := by rw [← hg, Nat.gcd_comm u v, Nat.gcd_rec v u, Nat.gcd_comm]
    have hnr : nd 65536 (u % v) < 100000 := by
      have := nd_le 65536 (u % v) (nd 65536 v) (by decide) (Nat.lt_trans hrv (nd_lt 65536 v (by decide)))
      omega
    have hdv := fun w' (h : SlA w' a (refC u)) (h' : SlA w' b (refC v)) => rdivide_fn a b c d u v w' h h' hu hv h0
    generalize u / v = q at *
    generalize u % v = r at *
    repeat' (first | refine sy_seqC ?_ | refine syl_nil ?_ | refine sy_if_t rfl ?_ | refine sy_if_f rfl ?_ | refine sy_block ?_ | refine sy_skip ?_ | refine sy_ret ?_ | refine sy_exit ?_ | refine sy_label ?_ | refine syx_then ?_ | refine syx_go ?_ | refine syx_then_ret ?_ | refine syx_then_exit ?_ | refine syx_in ?_ | refine syx_in_ret ?_ | refine syx_in_here ?_ | refine syx_in_past rfl ?_ | (apply syx_begin; (focus ((repeat (first | exact Rem.here | apply Rem.there)); done)); assumption) | (refine sy_region (id := 1) ?_; try refine y_move ?_; try refine y_len ?_; try (first | refine yv (op_gtr (hr := hz)) (k := ?_) | refine y_gtr ?_ | fail)) | (refine sy_region (id := 2) ?_; try refine y_move ?_; try refine y_move ?_; try refine y_move ?_; try refine y_extract ?_; try refine y_extract ?_; try refine y_assign ?_; try refine y_assign ?_) | (refine syl_id ?_; first | refine yv (op_gtr (hr := hz)) (k := ?_) | refine y_assign ?_ | refine y_gtr ?_ | refine y_len ?_ | refine y_extract ?_ | refine y_move ?_ | fail) | fail)
    refine ys (op_call0 (hc := fun w' X hk hh => hdv w' (hSa.sla (w := w) (ha.to hk (fun _ h => .inr h)).sla (hb.to hk (fun _ h => .inr h)).sla hh (fun r hr => by
      have : r ∈ Ra := hr
      exact List.mem_append_left _ (List.mem_append_left _ this))) (hSb.sla (w := w) (ha.to hk (fun _ h => .inr h)).sla (hb.to hk (fun _ h => .inr h)).sla hh (fun r hr => by
      have : r ∈ Rb := hr
      exact List.mem_append_left _ (List.mem_append_right _ this))))) (k := ?_)
    rintro _ _ ⟨R, rfl, a5, c5, a6, c6, rfl, rfl⟩
    repeat' (first | refine sy_seqC ?_ | refine syl_nil ?_ | refine sy_if_t rfl ?_ | refine sy_if_f rfl ?_ | refine sy_block ?_ | refine sy_skip ?_ | refine sy_ret ?_ | refine sy_exit ?_ | refine sy_label ?_ | refine syx_then ?_ | refine syx_go ?_ | refine syx_then_ret ?_ | refine syx_then_exit ?_ | refine syx_in ?_ | refine syx_in_ret ?_ | refine syx_in_here ?_ | refine syx_in_past rfl ?_ | (apply syx_begin; (focus ((repeat (first | exact Rem.here | apply Rem.there)); done)); assumption) | (refine sy_region (id := 2) ?_; try refine y_move ?_; try refine y_move ?_; try refine y_move ?_; try refine y_extract ?_; try refine y_extract ?_; try refine y_assign ?_; try refine y_assign ?_) | (refine sy_region (id := 3) ?_; try refine y_move ?_; try refine y_move ?_; try refine y_assign ?_; try refine y_assign ?_) | (refine syl_id ?_; first | refine y_assign ?_ | refine y_extract ?_ | refine y_move ?_ | fail) | refine sy_region ?_ | fail)
    refine syx_back ((v, r), (b, d), (a6, c6), Rb, [.row (.slice a6 (nd 65536 r) c6) 3 1 (nd 65536 r) (refC r)]) ⟨hSb, .inr rfl, hgr, hv, hnr⟩ ?_ ?_ ?_
    · show r < v; exact hrv
    · (repeat' (first | exact Sub.nil | refine Sub.cons rfl ?_ ?_ | rfl))
    · refine ⟨.row (.slice a5 (nd 65536 q) c5) 3 1 (nd 65536 q) (refC q) :: Ra, ?_⟩
      refine List.Perm.trans (l₂ := Rb ++ (.row (.slice a5 (nd 65536 q) c5) 3 1 (nd 65536 q) (refC q) :: .row (.slice a6 (nd 65536 r) c6) 3 1 (nd 65536 r) (refC r) :: Ra)) ?_ ?_
      · have := List.perm_append_comm (l₁ := .row (.slice a5 (nd 65536 q) c5) 3 1 (nd 65536 q) (refC q) :: .row (.slice a6 (nd 65536 r) c6) 3 1 (nd 65536 r) (refC r) :: Ra) (l₂ := Rb)
        simpa using this
      · have := List.Perm.append_left Rb (List.Perm.swap (.row (.slice a6 (nd 65536 r) c6) 3 1 (nd 65536 r) (refC r)) (.row (.slice a5 (nd 65536 q) c5) 3 1 (nd 65536 q) (refC q)) Ra)
        simpa using this
end Go.Proofs.YtkipmhcmdejcfaaDoor
