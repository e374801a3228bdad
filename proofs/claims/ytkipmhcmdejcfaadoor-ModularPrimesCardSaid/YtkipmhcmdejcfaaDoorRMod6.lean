/- Prime factors and primes. -/
import Derived.Test.YtkipmhcmdejcfaaDoorRPrPlain
import Derived.Test.YtkipmhcmdejcfaaDoorRSyScope
import Derived.Test.YtkipmhcmdejcfaaDoorRSyReb
import Derived.Test.YtkipmhcmdejcfaaDoorRTy
import Derived.Test.YtkipmhcmdejcfaaDoorRNat10
import Derived.Test.YtkipmhcmdejcfaaDoorRNat12
import Derived.Test.YtkipmhcmdejcfaaDoorRSyPerm
set_option linter.all false
namespace Go.Proofs.YtkipmhcmdejcfaaDoor
open Go Go.Sy Go.Nt Go.RowKit
def ArgP (_ : Nat → Prop) (x : Nat × Nat) (vs : List Value) (RA : List Res) (_ : World) : Prop := vs = [.int .i64 ((x.1 : Nat) : Int), .int .i64 ((x.2 : Nat) : Int)] ∧ RA = []
def facsI (v : Int) : List (Nat × Nat) := if 2 ≤ v ∧ v < 4294967296 then facs 2 v.toNat else []
attribute [local irreducible] Sy SyL SyX Sy.Fn callFunc facsI
set_option maxRecDepth 10000
theorem factors_fn (v : Int) (w : World) :
    Sy.Fn Tryd.prog 67 [.int .i64 v] w No (fun r R => ∃ b, r = .func (.func 130) #[] #[.pointer (some ⟨b, 0, none⟩)] ∧ R = [.blk b 3 [.int .i64 v]]) := by
  refine fn_enter Tryd.func67 rfl Tryd.ntmps67 (by simp) Holds.nil ?_
  repeat' (first | refine sy_seqC ?_ | refine syl_nil ?_ | refine sy_if_t rfl ?_ | refine sy_if_f rfl ?_ | refine sy_block ?_ | refine sy_skip ?_ | refine sy_ret ?_ | refine sy_exit ?_ | refine sy_label ?_ | refine syx_then ?_ | refine syx_go ?_ | refine syx_then_ret ?_ | refine syx_then_exit ?_ | refine syx_in ?_ | refine syx_in_ret ?_ | refine syx_in_here ?_ | refine syx_in_past rfl ?_ | (apply syx_begin; (focus ((repeat (first | exact Rem.here | apply Rem.there)); done)); assumption) | (refine sy_region (id := 0) ?_; try (refine y_new ?_; intro _); try refine y_assign ?_) | (refine sy_region (id := 1) ?_; try refine y_makeFunc ?_; try refine y_assign ?_) | refine sy_region ?_ | fail)
  rename_i b
  exact ret1 rfl (resTmp rfl) (by (repeat' (first | exact SubR.nil | (apply SubR.same; with_reducible (focus ((repeat (first | exact Rem.here | apply Rem.there)); done))) | (apply SubR.blk; (focus ((repeat (first | exact Rem.here | apply Rem.there)); done))) | (apply SubR.pick; (focus ((repeat (first | exact Rem.here | apply Rem.there)); done))) | rfl))) ⟨b, rfl, rfl⟩
theorem drop_get {α : Type} {l : List α} {k : Nat} {x : α} {t : List α} (h : l.drop k = x :: t) : ∃ hk : k < l.length, l[k] = x ∧ l.drop (k + 1) = t := by
  have hk : k < l.length := by
    rcases Nat.lt_or_ge k l.length with h1 | h1
    · exact h1
    · rw [List.drop_eq_nil_of_le h1] at h; cases h
  rw [List.drop_eq_getElem_cons hk, List.cons.injEq] at h
  exact ⟨hk, h.1, h.2⟩
set_option maxHeartbeats 2000000 in
theorem factors1_it (b1 : Nat) (v : Int) (w : World) (M : Nat → Prop) :
    IterC Tryd.prog 130 [.pointer (some ⟨b1, 0, none⟩)] (facsI v) ArgP w M [.blk b1 3 [.int .i64 v]] := by
  intro l J Jx j0 hJ0 hh hY
  refine fn_enter Tryd.func130 rfl Tryd.ntmps130 (by simp) hh ?_
  by_cases hv2 : v < 2
  · have h1 : decide (v < 2) = true := decide_eq_true hv2
    have he : facsI v = [] := by unfold facsI; rw [if_neg (by omega)]
    rw [he] at hY ⊢
    repeat' (first | refine sy_seqC ?_ | refine syl_nil ?_ | refine sy_if_t rfl ?_ | refine sy_if_f rfl ?_ | refine sy_block ?_ | refine sy_skip ?_ | refine sy_ret ?_ | refine sy_exit ?_ | refine sy_label ?_ | refine syx_then ?_ | refine syx_go ?_ | refine syx_then_ret ?_ | refine syx_then_exit ?_ | refine syx_in ?_ | refine syx_in_ret ?_ | refine syx_in_here ?_ | refine syx_in_past rfl ?_ | (apply syx_begin; (focus ((repeat (first | exact Rem.here | apply Rem.there)); done)); assumption) | refine sy_scope ?_ | refine syx_ng_n ?_ | refine syx_ng_r ?_ | refine syx_ng_x ?_ | (refine sy_region (id := 0) ?_; try refine y_load ?_; try refine yv (op_lss (hr := h1)) (k := ?_); try refine y_move ?_; try refine syl_skip rfl rfl rfl ?_; try refine syl_skip rfl rfl rfl ?_; try refine y_pick ?_) | refine sy_region ?_ | fail)
    exact ret0 rfl (by (repeat' (first | exact SubR.nil | (apply SubR.same; with_reducible (focus ((repeat (first | exact Rem.here | apply Rem.there)); done))) | (apply SubR.blk; (focus ((repeat (first | exact Rem.here | apply Rem.there)); done))) | (apply SubR.pick; (focus ((repeat (first | exact Rem.here | apply Rem.there)); done))) | rfl))) ⟨j0, rfl, .inl hJ0⟩
  by_cases hvb : 4294967296 ≤ v
  · have h1 : decide (v < 2) = false := decide_eq_false hv2
    have h2 : decide (v ≥ 4294967296) = true := decide_eq_true hvb
    have he : facsI v = [] := by unfold facsI; rw [if_neg (by omega)]
    rw [he] at hY ⊢
    repeat' (first | refine sy_seqC ?_ | refine syl_nil ?_ | refine sy_if_t rfl ?_ | refine sy_if_f rfl ?_ | refine sy_block ?_ | refine sy_skip ?_ | refine sy_ret ?_ | refine sy_exit ?_ | refine sy_label ?_ | refine syx_then ?_ | refine syx_go ?_ | refine syx_then_ret ?_ | refine syx_then_exit ?_ | refine syx_in ?_ | refine syx_in_ret ?_ | refine syx_in_here ?_ | refine syx_in_past rfl ?_ | (apply syx_begin; (focus ((repeat (first | exact Rem.here | apply Rem.there)); done)); assumption) | refine sy_scope ?_ | refine syx_ng_n ?_ | refine syx_ng_r ?_ | refine syx_ng_x ?_ | (refine sy_region (id := 0) ?_; try refine y_load ?_; try refine yv (op_lss (hr := h1)) (k := ?_); try refine y_move ?_; try refine y_load ?_; try refine yv (op_geq (hr := h2)) (k := ?_); try refine y_pick ?_) | refine sy_region ?_ | fail)
    exact ret0 rfl (by (repeat' (first | exact SubR.nil | (apply SubR.same; with_reducible (focus ((repeat (first | exact Rem.here | apply Rem.there)); done))) | (apply SubR.blk; (focus ((repeat (first | exact Rem.here | apply Rem.there)); done))) | (apply SubR.pick; (focus ((repeat (first | exact Rem.here | apply Rem.there)); done))) | rfl))) ⟨j0, rfl, .inl hJ0⟩
  have h1 : decide (v < 2) = false := decide_eq_false hv2
  have h2 : decide (v ≥ 4294967296) = false := decide_eq_false hvb
  obtain ⟨v, rfl⟩ : ∃ n : Nat, v = (n : Int) := ⟨v.toNat, by omega⟩
  have he : facsI (v : Int) = facs 2 v := by unfold facsI; rw [if_pos (by omega), Int.toNat_natCast]
  rw [he] at hY ⊢
  repeat' (first | refine sy_seqC ?_ | refine syl_nil ?_ | refine sy_if_t rfl ?_ | refine sy_if_f rfl ?_ | refine sy_block ?_ | refine sy_skip ?_ | refine sy_ret ?_ | refine sy_exit ?_ | refine sy_label ?_ | refine syx_then ?_ | refine syx_go ?_ | refine syx_then_ret ?_ | refine syx_then_exit ?_ | refine syx_in ?_ | refine syx_in_ret ?_ | refine syx_in_here ?_ | refine syx_in_past rfl ?_ | (apply syx_begin; (focus ((repeat (first | exact Rem.here | apply Rem.there)); done)); assumption) | refine sy_scope ?_ | refine syx_ng_n ?_ | refine syx_ng_r ?_ | refine syx_ng_x ?_ | (refine sy_region (id := 0) ?_; try refine y_load ?_; try refine yv (op_lss (hr := h1)) (k := ?_); try refine y_move ?_; try refine y_load ?_; try refine yv (op_geq (hr := h2)) (k := ?_); try refine y_pick ?_) | (refine sy_region (id := 1) ?_; try refine y_load ?_; try refine y_assign ?_) | (refine sy_region (id := 2) ?_; try refine y_assign ?_) | refine sy_region ?_ | fail)
  refine sy_loop (γ := (Nat × Nat) × Nat × Res) (fun g => [(0, .func (.yield l) #[] #[]), (1, .pointer (some ⟨b1, 0, none⟩)), (3, .int .i64 g.1.2), (4, .int .i64 g.1.1)])
    (fun g => [g.2.2, .blk b1 3 [.int .i64 (v : Int)]])
    (fun g => 2 ≤ g.1.1 ∧ g.1.1 ≤ 65536 ∧ 1 ≤ g.1.2 ∧ g.1.2 < 4294967296 ∧ g.2.1 ≤ (facs 2 v).length ∧ (facs 2 v).drop g.2.1 = facs g.1.1 g.1.2 ∧ J g.2.1 g.2.2)
    (fun g => g.1.2 + 1 - g.1.1) ((2, v), 0, j0) ⟨Nat.le_refl 2, (by decide : 2 ≤ 65536), by show 1 ≤ v; omega, by show v < _; omega, Nat.zero_le _, rfl, hJ0⟩ ?_ ?_ ?_
  · (repeat' (first | exact Sub.nil | refine Sub.cons rfl ?_ ?_ | rfl))
  · (repeat' (first | exact SubR.nil | (apply SubR.same; with_reducible (focus ((repeat (first | exact Rem.here | apply Rem.there)); done))) | (apply SubR.blk; (focus ((repeat (first | exact Rem.here | apply Rem.there)); done))) | (apply SubR.pick; (focus ((repeat (first | exact Rem.here | apply Rem.there)); done))) | rfl))
  clear h1 h2
  rintro ⟨⟨p, r⟩, k, j⟩ ⟨hp, hpb, hr, hrb, hk, hd, hJ⟩
  dsimp only at hp hpb hr hrb hk hd hJ ⊢
  rcases Nat.lt_or_ge r 2 with h2 | h2
  · have hgt : decide ((r : Int) > 1) = false := decide_eq_false (by omega)
    rw [facs_one p r h2] at hd
    have hke : k = (facs 2 v).length := by
      have := List.drop_eq_nil_iff.1 hd; omega
    subst hke
    repeat' (first | refine sy_seqC ?_ | refine syl_nil ?_ | refine sy_if_t rfl ?_ | refine sy_if_f rfl ?_ | refine sy_block ?_ | refine sy_skip ?_ | refine sy_ret ?_ | refine sy_exit ?_ | refine sy_label ?_ | refine syx_then ?_ | refine syx_go ?_ | refine syx_then_ret ?_ | refine syx_then_exit ?_ | refine syx_in ?_ | refine syx_in_ret ?_ | refine syx_in_here ?_ | refine syx_in_past rfl ?_ | (apply syx_begin; (focus ((repeat (first | exact Rem.here | apply Rem.there)); done)); assumption) | refine sy_scope ?_ | refine syx_ng_n ?_ | refine syx_ng_r ?_ | refine syx_ng_x ?_ | (refine sy_region (id := 3) ?_; try refine y_move ?_; try refine yv (op_gtr (hr := hgt)) (k := ?_)) | refine sy_region ?_ | fail)
    exact end0 rfl (by (repeat' (first | exact SubR.nil | (apply SubR.same; with_reducible (focus ((repeat (first | exact Rem.here | apply Rem.there)); done))) | (apply SubR.blk; (focus ((repeat (first | exact Rem.here | apply Rem.there)); done))) | (apply SubR.pick; (focus ((repeat (first | exact Rem.here | apply Rem.there)); done))) | rfl))) ⟨j, rfl, .inl hJ⟩
  have hgt : decide ((r : Int) > 1) = true := decide_eq_true (by omega)
  have hpp : p * p ≤ 65536 * 65536 := Nat.mul_le_mul hpb hpb
  have hmul : IntKind.i64.wrap ((p : Int) * (p : Int)) = ((p * p : Nat) : Int) := by
    rw [← Int.natCast_mul, IntWalk.i64_in _ (by omega)]
  by_cases hs : r < p * p
  · have hg2 : decide (((p * p : Nat) : Int) > (r : Int)) = true := decide_eq_true (by omega)
    rw [facs_end hp h2 hs] at hd
    obtain ⟨hkx, hxk, hd'⟩ := drop_get hd
    have hke : k + 1 = (facs 2 v).length := by
      have := List.drop_eq_nil_iff.1 hd'; omega
    repeat' (first | refine sy_seqC ?_ | refine syl_nil ?_ | refine sy_if_t rfl ?_ | refine sy_if_f rfl ?_ | refine sy_block ?_ | refine sy_skip ?_ | refine sy_ret ?_ | refine sy_exit ?_ | refine sy_label ?_ | refine syx_then ?_ | refine syx_go ?_ | refine syx_then_ret ?_ | refine syx_then_exit ?_ | refine syx_in ?_ | refine syx_in_ret ?_ | refine syx_in_here ?_ | refine syx_in_past rfl ?_ | (apply syx_begin; (focus ((repeat (first | exact Rem.here | apply Rem.there)); done)); assumption) | refine sy_scope ?_ | refine syx_ng_n ?_ | refine syx_ng_r ?_ | refine syx_ng_x ?_ | (refine sy_region (id := 3) ?_; try refine y_move ?_; try refine yv (op_gtr (hr := hgt)) (k := ?_)) | (refine sy_region (id := 5) ?_; try refine y_move ?_; try refine y_move ?_; try refine yv (op_mul (hr := hmul)) (k := ?_); try refine y_move ?_; try refine yv (op_gtr (hr := hg2)) (k := ?_)) | (refine sy_region (id := 6) ?_; try refine y_move ?_; try refine y_move ?_; try (refine ys (op_yield hY hkx hJ (hL := RemL.cons (by exact Rem.here) rfl RemL.nil) (harg := fun w' X hk hh' => ⟨by rw [hxk]; rfl, rfl⟩)) (k := ?_); rintro _ _ ⟨y, j', rfl, rfl, hy⟩)) | refine sy_region ?_ | fail)
    cases y with
    | false => exact end0 rfl (by (repeat' (first | exact SubR.nil | (apply SubR.same; with_reducible (focus ((repeat (first | exact Rem.here | apply Rem.there)); done))) | (apply SubR.blk; (focus ((repeat (first | exact Rem.here | apply Rem.there)); done))) | (apply SubR.pick; (focus ((repeat (first | exact Rem.here | apply Rem.there)); done))) | rfl))) ⟨j', rfl, .inr ⟨k + 1, by omega, hy⟩⟩
    | true => exact end0 rfl (by (repeat' (first | exact SubR.nil | (apply SubR.same; with_reducible (focus ((repeat (first | exact Rem.here | apply Rem.there)); done))) | (apply SubR.blk; (focus ((repeat (first | exact Rem.here | apply Rem.there)); done))) | (apply SubR.pick; (focus ((repeat (first | exact Rem.here | apply Rem.there)); done))) | rfl))) ⟨j', rfl, .inl (hke ▸ hy)⟩
  · have hg2 : decide (((p * p : Nat) : Int) > (r : Int)) = false := decide_eq_false (by omega)
    rw [facs_more hp h2 (by omega)] at hd
    have hpr : p ≤ r := by
      have := Nat.mul_le_mul_left p (show 1 ≤ p by omega)
      omega
    have hp65 : p < 65536 := by
      rcases Nat.lt_or_ge p 65536 with h | h
      · exact h
      · have := Nat.mul_le_mul h h; omega
    have hadd : IntKind.i64.wrap ((p : Int) + 1) = ((p + 1 : Nat) : Int) := by rw [IntWalk.i64_in _ (by omega)]; omega
    repeat' (first | refine sy_seqC ?_ | refine syl_nil ?_ | refine sy_if_t rfl ?_ | refine sy_if_f rfl ?_ | refine sy_block ?_ | refine sy_skip ?_ | refine sy_ret ?_ | refine sy_exit ?_ | refine sy_label ?_ | refine syx_then ?_ | refine syx_go ?_ | refine syx_then_ret ?_ | refine syx_then_exit ?_ | refine syx_in ?_ | refine syx_in_ret ?_ | refine syx_in_here ?_ | refine syx_in_past rfl ?_ | (apply syx_begin; (focus ((repeat (first | exact Rem.here | apply Rem.there)); done)); assumption) | refine sy_scope ?_ | refine syx_ng_n ?_ | refine syx_ng_r ?_ | refine syx_ng_x ?_ | (refine sy_region (id := 3) ?_; try refine y_move ?_; try refine yv (op_gtr (hr := hgt)) (k := ?_)) | (refine sy_region (id := 5) ?_; try refine y_move ?_; try refine y_move ?_; try refine yv (op_mul (hr := hmul)) (k := ?_); try refine y_move ?_; try refine yv (op_gtr (hr := hg2)) (k := ?_)) | (refine sy_region (id := 7) ?_; try refine y_assign ?_) | fail)
    refine sy_loop (γ := Nat × Nat) (fun g => [(0, .func (.yield l) #[] #[]), (1, .pointer (some ⟨b1, 0, none⟩)), (3, .int .i64 g.1), (4, .int .i64 p), (5, .int .i64 g.2)])
      (fun _ => [j, .blk b1 3 [.int .i64 (v : Int)]])
      (fun g => 1 ≤ g.1 ∧ g.1 ≤ r ∧ g.2 + g.1 ≤ r ∧ strip p r = (g.2 + (strip p g.1).1, (strip p g.1).2)) (fun g => g.1) (r, 0) ⟨hr, Nat.le_refl _, by show 0 + r ≤ r; omega, by dsimp only; rw [Nat.zero_add]⟩ ?_ ?_ ?_
    · (repeat' (first | exact Sub.nil | refine Sub.cons rfl ?_ ?_ | rfl))
    · (repeat' (first | exact SubR.nil | (apply SubR.same; with_reducible (focus ((repeat (first | exact Rem.here | apply Rem.there)); done))) | (apply SubR.blk; (focus ((repeat (first | exact Rem.here | apply Rem.there)); done))) | (apply SubR.pick; (focus ((repeat (first | exact Rem.here | apply Rem.there)); done))) | rfl))
    rintro ⟨r', n⟩ ⟨hr1, hr2, hnr, hst⟩
    dsimp only at hr1 hr2 hnr hst ⊢
    have hrem : (r' : Int).tmod (p : Int) = ((r' % p : Nat) : Int) := remI r' p
    by_cases hm : r' % p = 0
    · have heq : decide (((r' % p : Nat) : Int) = 0) = true := decide_eq_true (by omega)
      have hquo : IntKind.i64.wrap ((r' : Int).tdiv (p : Int)) = ((r' / p : Nat) : Int) := quoI (by omega)
      have hadd2 : IntKind.i64.wrap ((n : Int) + 1) = ((n + 1 : Nat) : Int) := by rw [IntWalk.i64_in _ (by omega)]; omega
      obtain ⟨d1, d2, d3⟩ := div_pos_of hp hr1 hm
      rw [strip_yes hp hr1 hm] at hst
      generalize r' / p = q at *
      generalize r' % p = t at *
      repeat' (first | refine sy_seqC ?_ | refine syl_nil ?_ | refine sy_if_t rfl ?_ | refine sy_if_f rfl ?_ | refine sy_block ?_ | refine sy_skip ?_ | refine sy_ret ?_ | refine sy_exit ?_ | refine sy_label ?_ | refine syx_then ?_ | refine syx_go ?_ | refine syx_then_ret ?_ | refine syx_then_exit ?_ | refine syx_in ?_ | refine syx_in_ret ?_ | refine syx_in_here ?_ | refine syx_in_past rfl ?_ | (apply syx_begin; (focus ((repeat (first | exact Rem.here | apply Rem.there)); done)); assumption) | refine sy_scope ?_ | refine syx_ng_n ?_ | refine syx_ng_r ?_ | refine syx_ng_x ?_ | (refine sy_region (id := 8) ?_; try refine y_move ?_; try refine y_move ?_; try refine yv (op_rem (hr := hrem)) (k := ?_); try refine yv (op_eql (hr := heq)) (k := ?_)) | (refine sy_region (id := 9) ?_; try refine y_move ?_; try refine y_move ?_; try refine yv (op_quo (hr := hquo)) (k := ?_); try refine y_assign ?_) | (refine sy_region (id := 10) ?_; try refine y_move ?_; try refine yv (op_add (hr := hadd2)) (k := ?_); try refine y_assign ?_) | refine sy_region ?_ | fail)
      refine syx_back (q, n + 1) ⟨d1, by show q ≤ r; omega, by show n + 1 + q ≤ r; omega, by rw [hst]; dsimp only; rw [Nat.add_assoc, Nat.add_comm 1]⟩ ?_ ?_ ?_
      · show q < r'; exact d2
      · (repeat' (first | exact Sub.nil | refine Sub.cons rfl ?_ ?_ | rfl))
      · (repeat' (first | exact SubR.nil | (apply SubR.same; with_reducible (focus ((repeat (first | exact Rem.here | apply Rem.there)); done))) | (apply SubR.blk; (focus ((repeat (first | exact Rem.here | apply Rem.there)); done))) | (apply SubR.pick; (focus ((repeat (first | exact Rem.here | apply Rem.there)); done))) | rfl))
    · have heq : decide (((r' % p : Nat) : Int) = 0) = false := decide_eq_false (by omega)
      rw [strip_no hm, Nat.add_zero] at hst
      rw [hst] at hd
      dsimp only at hd
      generalize r' % p = t at *
      rcases Nat.eq_zero_or_pos n with hn | hn
      · subst hn
        rw [if_neg (by omega), List.nil_append] at hd
        have hg3 : decide (((0 : Nat) : Int) > 0) = false := rfl
        repeat' (first | refine sy_seqC ?_ | refine syl_nil ?_ | refine sy_if_t rfl ?_ | refine sy_if_f rfl ?_ | refine sy_block ?_ | refine sy_skip ?_ | refine sy_ret ?_ | refine sy_exit ?_ | refine sy_label ?_ | refine syx_then ?_ | refine syx_go ?_ | refine syx_then_ret ?_ | refine syx_then_exit ?_ | refine syx_in ?_ | refine syx_in_ret ?_ | refine syx_in_here ?_ | refine syx_in_past rfl ?_ | (apply syx_begin; (focus ((repeat (first | exact Rem.here | apply Rem.there)); done)); assumption) | refine sy_scope ?_ | refine syx_ng_n ?_ | refine syx_ng_r ?_ | refine syx_ng_x ?_ | (refine sy_region (id := 8) ?_; try refine y_move ?_; try refine y_move ?_; try refine yv (op_rem (hr := hrem)) (k := ?_); try refine yv (op_eql (hr := heq)) (k := ?_)) | (refine sy_region (id := 11) ?_; try refine y_move ?_; try refine yv (op_gtr (hr := hg3)) (k := ?_); try refine y_move ?_; try refine syl_skip rfl rfl rfl ?_; try refine syl_skip rfl rfl rfl ?_; try refine syl_skip rfl rfl rfl ?_; try refine syl_skip rfl rfl rfl ?_; try refine syl_skip rfl rfl rfl ?_; try refine y_pick ?_) | (refine sy_region (id := 4) ?_; try refine y_move ?_; try refine yv (op_add (hr := hadd)) (k := ?_); try refine y_assign ?_) | refine sy_region ?_ | fail)
        refine syx_back ((p + 1, r'), k, j) ⟨by show 2 ≤ p + 1; omega, by show p + 1 ≤ 65536; omega, hr1, by show r' < _; omega, hk, hd, hJ⟩ ?_ ?_ ?_
        · show r' + 1 - (p + 1) < r + 1 - p; omega
        · (repeat' (first | exact Sub.nil | refine Sub.cons rfl ?_ ?_ | rfl))
        · (repeat' (first | exact SubR.nil | (apply SubR.same; with_reducible (focus ((repeat (first | exact Rem.here | apply Rem.there)); done))) | (apply SubR.blk; (focus ((repeat (first | exact Rem.here | apply Rem.there)); done))) | (apply SubR.pick; (focus ((repeat (first | exact Rem.here | apply Rem.there)); done))) | rfl))
      · rw [if_pos hn, List.cons_append, List.nil_append] at hd
        obtain ⟨hkx, hxk, hd'⟩ := drop_get hd
        have hg3 : decide ((n : Int) > 0) = true := decide_eq_true (by omega)
        repeat' (first | refine sy_seqC ?_ | refine syl_nil ?_ | refine sy_if_t rfl ?_ | refine sy_if_f rfl ?_ | refine sy_block ?_ | refine sy_skip ?_ | refine sy_ret ?_ | refine sy_exit ?_ | refine sy_label ?_ | refine syx_then ?_ | refine syx_go ?_ | refine syx_then_ret ?_ | refine syx_then_exit ?_ | refine syx_in ?_ | refine syx_in_ret ?_ | refine syx_in_here ?_ | refine syx_in_past rfl ?_ | (apply syx_begin; (focus ((repeat (first | exact Rem.here | apply Rem.there)); done)); assumption) | refine sy_scope ?_ | refine syx_ng_n ?_ | refine syx_ng_r ?_ | refine syx_ng_x ?_ | (refine sy_region (id := 8) ?_; try refine y_move ?_; try refine y_move ?_; try refine yv (op_rem (hr := hrem)) (k := ?_); try refine yv (op_eql (hr := heq)) (k := ?_)) | (refine sy_region (id := 11) ?_; try refine y_move ?_; try refine yv (op_gtr (hr := hg3)) (k := ?_); try refine y_move ?_; try refine y_move ?_; try refine y_move ?_; try refine y_move ?_; try (refine ys (op_yield hY hkx hJ (hL := RemL.cons (by exact Rem.here) rfl RemL.nil) (harg := fun w' X hk hh' => ⟨by rw [hxk], rfl⟩)) (k := ?_); rintro _ _ ⟨y, j', rfl, rfl, hy⟩); try refine y_unOp ?_; try refine y_pick ?_) | fail)
        cases y with
        | false =>
          repeat' (first | refine sy_seqC ?_ | refine syl_nil ?_ | refine sy_if_t rfl ?_ | refine sy_if_f rfl ?_ | refine sy_block ?_ | refine sy_skip ?_ | refine sy_ret ?_ | refine sy_exit ?_ | refine sy_label ?_ | refine syx_then ?_ | refine syx_go ?_ | refine syx_then_ret ?_ | refine syx_then_exit ?_ | refine syx_in ?_ | refine syx_in_ret ?_ | refine syx_in_here ?_ | refine syx_in_past rfl ?_ | (apply syx_begin; (focus ((repeat (first | exact Rem.here | apply Rem.there)); done)); assumption) | refine sy_scope ?_ | refine syx_ng_n ?_ | refine syx_ng_r ?_ | refine syx_ng_x ?_ | (refine sy_region (id := 11) ?_) | refine sy_region ?_ | fail)
          exact end0 rfl (by (repeat' (first | exact SubR.nil | (apply SubR.same; with_reducible (focus ((repeat (first | exact Rem.here | apply Rem.there)); done))) | (apply SubR.blk; (focus ((repeat (first | exact Rem.here | apply Rem.there)); done))) | (apply SubR.pick; (focus ((repeat (first | exact Rem.here | apply Rem.there)); done))) | rfl))) ⟨j', rfl, .inr ⟨k + 1, by omega, hy⟩⟩
        | true =>
          repeat' (first | refine sy_seqC ?_ | refine syl_nil ?_ | refine sy_if_t rfl ?_ | refine sy_if_f rfl ?_ | refine sy_block ?_ | refine sy_skip ?_ | refine sy_ret ?_ | refine sy_exit ?_ | refine sy_label ?_ | refine syx_then ?_ | refine syx_go ?_ | refine syx_then_ret ?_ | refine syx_then_exit ?_ | refine syx_in ?_ | refine syx_in_ret ?_ | refine syx_in_here ?_ | refine syx_in_past rfl ?_ | (apply syx_begin; (focus ((repeat (first | exact Rem.here | apply Rem.there)); done)); assumption) | refine sy_scope ?_ | refine syx_ng_n ?_ | refine syx_ng_r ?_ | refine syx_ng_x ?_ | (refine sy_region (id := 11) ?_) | (refine sy_region (id := 4) ?_; try refine y_move ?_; try refine yv (op_add (hr := hadd)) (k := ?_); try refine y_assign ?_) | refine sy_region ?_ | fail)
          refine syx_back ((p + 1, r'), k + 1, j') ⟨by show 2 ≤ p + 1; omega, by show p + 1 ≤ 65536; omega, hr1, by show r' < _; omega, by show k + 1 ≤ _; omega, hd', hy⟩ ?_ ?_ ?_
          · show r' + 1 - (p + 1) < r + 1 - p; omega
          · (repeat' (first | exact Sub.nil | refine Sub.cons rfl ?_ ?_ | rfl))
          · (repeat' (first | exact SubR.nil | (apply SubR.same; with_reducible (focus ((repeat (first | exact Rem.here | apply Rem.there)); done))) | (apply SubR.blk; (focus ((repeat (first | exact Rem.here | apply Rem.there)); done))) | (apply SubR.pick; (focus ((repeat (first | exact Rem.here | apply Rem.there)); done))) | rfl))
theorem prime_neg (v : Int) (w : World) (hv : v < 0) : Sy.Fn Tryd.prog 66 [.int .i64 v] w No (Gives (.tuple #[.bool false, .int .i64 2])) := by
  refine fn_enter Tryd.func66 rfl Tryd.ntmps66 (by simp) Holds.nil ?_
  have h1 : decide (v < 0) = true := decide_eq_true hv
  repeat' (first | refine sy_seqC ?_ | refine syl_nil ?_ | refine sy_if_t rfl ?_ | refine sy_if_f rfl ?_ | refine sy_block ?_ | refine sy_skip ?_ | refine sy_ret ?_ | refine sy_exit ?_ | refine sy_label ?_ | refine syx_then ?_ | refine syx_go ?_ | refine syx_then_ret ?_ | refine syx_then_exit ?_ | refine syx_in ?_ | refine syx_in_ret ?_ | refine syx_in_here ?_ | refine syx_in_past rfl ?_ | (apply syx_begin; (focus ((repeat (first | exact Rem.here | apply Rem.there)); done)); assumption) | (refine sy_region (id := 0) ?_; try (refine y_new ?_; intro _); try (refine y_new ?_; intro _); try (refine y_new ?_; intro _)) | (refine sy_region (id := 1) ?_; try refine y_load ?_; try refine yv (op_lss (hr := h1)) (k := ?_)) | (refine sy_region (id := 2) ?_; try refine y_store ?_; try refine y_store ?_) | refine sy_region ?_ | fail)
  exact ret2 rfl (resCell rfl (ty rfl) rfl (by repeat (first | exact Has.here | apply Has.there)) rfl) (resCell rfl (ty rfl) rfl (by repeat (first | exact Has.here | apply Has.there)) rfl) SubR.nil ⟨rfl, rfl⟩
theorem prime_big (v : Int) (w : World) (hv : 4294967296 ≤ v) : Sy.Fn Tryd.prog 66 [.int .i64 v] w No (Gives (.tuple #[.bool false, .int .i64 3])) := by
  refine fn_enter Tryd.func66 rfl Tryd.ntmps66 (by simp) Holds.nil ?_
  have h1 : decide (v < 0) = false := decide_eq_false (by omega)
  have h2 : decide (v ≥ 4294967296) = true := decide_eq_true hv
  repeat' (first | refine sy_seqC ?_ | refine syl_nil ?_ | refine sy_if_t rfl ?_ | refine sy_if_f rfl ?_ | refine sy_block ?_ | refine sy_skip ?_ | refine sy_ret ?_ | refine sy_exit ?_ | refine sy_label ?_ | refine syx_then ?_ | refine syx_go ?_ | refine syx_then_ret ?_ | refine syx_then_exit ?_ | refine syx_in ?_ | refine syx_in_ret ?_ | refine syx_in_here ?_ | refine syx_in_past rfl ?_ | (apply syx_begin; (focus ((repeat (first | exact Rem.here | apply Rem.there)); done)); assumption) | (refine sy_region (id := 0) ?_; try (refine y_new ?_; intro _); try (refine y_new ?_; intro _); try (refine y_new ?_; intro _)) | (refine sy_region (id := 1) ?_; try refine y_load ?_; try refine yv (op_lss (hr := h1)) (k := ?_)) | (refine sy_region (id := 3) ?_; try refine y_load ?_; try refine yv (op_geq (hr := h2)) (k := ?_)) | (refine sy_region (id := 4) ?_; try refine y_store ?_; try refine y_store ?_) | refine sy_region ?_ | fail)
  exact ret2 rfl (resCell rfl (ty rfl) rfl (by repeat (first | exact Has.here | apply Has.there)) rfl) (resCell rfl (ty rfl) rfl (by repeat (first | exact Has.here | apply Has.there)) rfl) SubR.nil ⟨rfl, rfl⟩
set_option maxHeartbeats 1000000 in
theorem prime_fn (v : Nat) (b : Bool) (w : World) (hv : v < 4294967296) (hb : b = true ↔ Pr v) : Sy.Fn Tryd.prog 66 [.int .i64 (v : Int)] w No (Gives (.tuple #[.bool b, .int .i64 0])) := by
  refine fn_enter Tryd.func66 rfl Tryd.ntmps66 (by simp) Holds.nil ?_
  have h1 : decide ((v : Int) < 0) = false := decide_eq_false (by omega)
  have h2 : decide ((v : Int) ≥ 4294967296) = false := decide_eq_false (by omega)
  have he : facsI (v : Int) = if 2 ≤ v then facs 2 v else [] := by
    unfold facsI; rw [Int.toNat_natCast]
    by_cases h : 2 ≤ v
    · rw [if_pos (by omega), if_pos h]
    · rw [if_neg (by omega), if_neg h]
  repeat' (first | refine sy_seqC ?_ | refine syl_nil ?_ | refine sy_if_t rfl ?_ | refine sy_if_f rfl ?_ | refine sy_block ?_ | refine sy_skip ?_ | refine sy_ret ?_ | refine sy_exit ?_ | refine sy_label ?_ | refine syx_then ?_ | refine syx_go ?_ | refine syx_then_ret ?_ | refine syx_then_exit ?_ | refine syx_in ?_ | refine syx_in_ret ?_ | refine syx_in_here ?_ | refine syx_in_past rfl ?_ | (apply syx_begin; (focus ((repeat (first | exact Rem.here | apply Rem.there)); done)); assumption) | (refine sy_region (id := 0) ?_; try (refine y_new ?_; intro _); try (refine y_new ?_; intro _); try (refine y_new ?_; intro _)) | (refine sy_region (id := 1) ?_; try refine y_load ?_; try refine yv (op_lss (hr := h1)) (k := ?_)) | (refine sy_region (id := 3) ?_; try refine y_load ?_; try refine yv (op_geq (hr := h2)) (k := ?_)) | (refine sy_region (id := 5) ?_; try refine y_load ?_) | fail)
  rename_i b1 b2 b3
  refine ys (op_call0 (hc := fun w' X hk hh => factors_fn (v : Int) w')) (k := ?_)
  rintro _ _ ⟨R, rfl, bI, rfl, rfl⟩
  repeat' (first | refine sy_seqC ?_ | refine syl_nil ?_ | refine sy_if_t rfl ?_ | refine sy_if_f rfl ?_ | refine sy_block ?_ | refine sy_skip ?_ | refine sy_ret ?_ | refine sy_exit ?_ | refine sy_label ?_ | refine syx_then ?_ | refine syx_go ?_ | refine syx_then_ret ?_ | refine syx_then_exit ?_ | refine syx_in ?_ | refine syx_in_ret ?_ | refine syx_in_here ?_ | refine syx_in_past rfl ?_ | (apply syx_begin; (focus ((repeat (first | exact Rem.here | apply Rem.there)); done)); assumption) | (refine sy_region (id := 5) ?_) | fail)
  refine sy_range (γ := Bool) (xs := facsI (v : Int)) (Arg := ArgP) entered_outer rfl (en rfl) rfl (fun k s => k = 0 ∧ s = false) (fun c _ s => c = .ret ∧ s = b)
    (fun s => [.blk b2 4 [.bool s], .blk b3 29 [.int .i64 0], .blk b1 3 [.int .i64 (v : Int)]])
    [.blk bI 3 [.int .i64 (v : Int)]] [] false ⟨rfl, rfl⟩ ?_ ?_ ?_ ?_ ?_ ?_
  · ((try simp only [List.cons_append, List.nil_append, List.append_nil]); (repeat' (first | exact List.Perm.nil | exact List.Perm.refl _ | (apply permr; with_reducible (focus ((repeat (first | exact Rem.here | apply Rem.there)); done))) | (apply permr; (focus ((repeat (first | exact Rem.here | apply Rem.there)); done))))))
  · exact fun w' Mi X hk hm _ _ => factors1_it bI (v : Int) w' Mi
  · rintro O x vs RA w' ⟨rfl, _⟩; rfl
  · rintro lp k hk s vs RA W rec hrec ⟨rfl, rfl⟩ ⟨rfl, rfl⟩ hkW hmine
    clear hmine
    rw [he] at hk
    simp only [he]
    have hv2 : 2 ≤ v := by
      rcases Nat.lt_or_ge v 2 with h | h
      · rw [if_neg (by omega)] at hk; exact absurd hk (by decide)
      · exact h
    simp only [if_pos hv2] at hk ⊢
    obtain ⟨p, n, t, ef⟩ : ∃ p n t, facs 2 v = (p, n) :: t := by
      match facs 2 v, hk with
      | (p, n) :: t, _ => exact ⟨p, n, t, rfl⟩
    have hpr := facs_pr v p n t hv2 ef
    have e0 : (facs 2 v)[0] = (p, n) := by simp only [ef]; rfl
    simp only [e0]
    by_cases hp : p = v
    · have q1 : decide ((p : Int) = (v : Int)) = true := decide_eq_true (by omega)
      have q2 : decide ((n : Int) = 1) = b := by
        rw [show b = decide (n = 1) by
          by_cases hn : n = 1
          · rw [hb.2 (hpr.1 ⟨hp, hn⟩), decide_eq_true hn]
          · rw [decide_eq_false hn]
            cases b with
            | false => rfl
            | true => exact absurd (hpr.2 (hb.1 rfl)).2 hn]
        exact decide_eq_decide.2 (by omega)
      repeat' (first | refine sy_seqC ?_ | refine syl_nil ?_ | refine sy_if_t rfl ?_ | refine sy_if_f rfl ?_ | refine sy_block ?_ | refine sy_skip ?_ | refine sy_ret ?_ | refine sy_exit ?_ | refine sy_label ?_ | refine syx_then ?_ | refine syx_go ?_ | refine syx_then_ret ?_ | refine syx_then_exit ?_ | refine syx_in ?_ | refine syx_in_ret ?_ | refine syx_in_here ?_ | refine syx_in_past rfl ?_ | (apply syx_begin; (focus ((repeat (first | exact Rem.here | apply Rem.there)); done)); assumption) | (refine sy_region (id := 6) ?_; try refine y_assign ?_) | (refine sy_region (id := 7) ?_; try refine y_assign ?_) | (refine sy_region (id := 8) ?_; try refine y_move ?_; try refine y_load ?_; try refine yv (op_eql (hr := q1)) (k := ?_); try refine y_move ?_; try refine y_move ?_; try refine yv (op_eql (hr := q2)) (k := ?_); try refine y_pick ?_; try refine y_store ?_; try refine y_store ?_) | refine sy_region ?_ | fail)
      refine syx_rnd_ret b ⟨rfl, rfl⟩ ?_
      (repeat' (first | exact SubR.nil | (apply SubR.same; with_reducible (focus ((repeat (first | exact Rem.here | apply Rem.there)); done))) | (apply SubR.blk; (focus ((repeat (first | exact Rem.here | apply Rem.there)); done))) | (apply SubR.same; (focus ((repeat (first | exact Rem.here | apply Rem.there)); done))) | (apply SubR.pick; (focus ((repeat (first | exact Rem.here | apply Rem.there)); done))) | rfl))
    · have q1 : decide ((p : Int) = (v : Int)) = false := decide_eq_false (by omega)
      have hbf : b = false := by
        cases b with
        | false => rfl
        | true => exact absurd (hpr.2 (hb.1 rfl)).1 hp
      subst hbf
      repeat' (first | refine sy_seqC ?_ | refine syl_nil ?_ | refine sy_if_t rfl ?_ | refine sy_if_f rfl ?_ | refine sy_block ?_ | refine sy_skip ?_ | refine sy_ret ?_ | refine sy_exit ?_ | refine sy_label ?_ | refine syx_then ?_ | refine syx_go ?_ | refine syx_then_ret ?_ | refine syx_then_exit ?_ | refine syx_in ?_ | refine syx_in_ret ?_ | refine syx_in_here ?_ | refine syx_in_past rfl ?_ | (apply syx_begin; (focus ((repeat (first | exact Rem.here | apply Rem.there)); done)); assumption) | (refine sy_region (id := 6) ?_; try refine y_assign ?_) | (refine sy_region (id := 7) ?_; try refine y_assign ?_) | (refine sy_region (id := 8) ?_; try refine y_move ?_; try refine y_load ?_; try refine yv (op_eql (hr := q1)) (k := ?_); try refine y_move ?_; try refine syl_skip rfl rfl rfl ?_; try refine syl_skip rfl rfl rfl ?_; try refine y_pick ?_; try refine y_store ?_; try refine y_store ?_) | refine sy_region ?_ | fail)
      refine syx_rnd_ret false ⟨rfl, rfl⟩ ?_
      (repeat' (first | exact SubR.nil | (apply SubR.same; with_reducible (focus ((repeat (first | exact Rem.here | apply Rem.there)); done))) | (apply SubR.blk; (focus ((repeat (first | exact Rem.here | apply Rem.there)); done))) | (apply SubR.same; (focus ((repeat (first | exact Rem.here | apply Rem.there)); done))) | (apply SubR.pick; (focus ((repeat (first | exact Rem.here | apply Rem.there)); done))) | rfl))
  · rintro s ⟨hl, rfl⟩
    have hbf : b = false := by
      cases b with
      | false => rfl
      | true =>
        have hp := hb.1 rfl
        rw [he, if_pos hp.1] at hl
        exact absurd (List.eq_nil_of_length_eq_zero hl) (facs_ne 2 v (Nat.le_refl _) hp.1 (cl_two v))
    subst hbf
    repeat' (first | refine sy_seqC ?_ | refine syl_nil ?_ | refine sy_if_t rfl ?_ | refine sy_if_f rfl ?_ | refine sy_block ?_ | refine sy_skip ?_ | refine sy_ret ?_ | refine sy_exit ?_ | refine sy_label ?_ | refine syx_then ?_ | refine syx_go ?_ | refine syx_then_ret ?_ | refine syx_then_exit ?_ | refine syx_in ?_ | refine syx_in_ret ?_ | refine syx_in_here ?_ | refine syx_in_past rfl ?_ | (apply syx_begin; (focus ((repeat (first | exact Rem.here | apply Rem.there)); done)); assumption) | (refine sy_region (id := 9) ?_; try refine y_store ?_; try refine y_store ?_) | refine sy_region ?_ | fail)
    exact ret2 rfl (resCell rfl (ty rfl) rfl (by repeat (first | exact Has.here | apply Has.there)) rfl) (resCell rfl (ty rfl) rfl (by repeat (first | exact Has.here | apply Has.there)) rfl) SubR.nil ⟨rfl, rfl⟩
  · rintro _ k s hk ⟨rfl, rfl⟩
    repeat' (first | refine sy_seqC ?_ | refine syl_nil ?_ | refine sy_if_t rfl ?_ | refine sy_if_f rfl ?_ | refine sy_block ?_ | refine sy_skip ?_ | refine sy_ret ?_ | refine sy_exit ?_ | refine sy_label ?_ | refine syx_then ?_ | refine syx_go ?_ | refine syx_then_ret ?_ | refine syx_then_exit ?_ | refine syx_in ?_ | refine syx_in_ret ?_ | refine syx_in_here ?_ | refine syx_in_past rfl ?_ | (apply syx_begin; (focus ((repeat (first | exact Rem.here | apply Rem.there)); done)); assumption) | (refine sy_region (id := 9) ?_) | refine sy_region ?_ | fail)
    exact ret2 rfl (resCell rfl (ty rfl) rfl (by repeat (first | exact Has.here | apply Has.there)) rfl) (resCell rfl (ty rfl) rfl (by repeat (first | exact Has.here | apply Has.there)) rfl) SubR.nil ⟨rfl, rfl⟩
end Go.Proofs.YtkipmhcmdejcfaaDoor
