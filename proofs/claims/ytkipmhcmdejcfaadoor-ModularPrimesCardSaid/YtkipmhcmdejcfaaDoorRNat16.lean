/- The iterator over the bits that are 1. -/
import Derived.Test.YtkipmhcmdejcfaaDoorRNat10
import Derived.Test.YtkipmhcmdejcfaaDoorRNatPlain
import Derived.Test.YtkipmhcmdejcfaaDoorRNat12
import Derived.Test.YtkipmhcmdejcfaaDoorRSyPerm
set_option linter.all false
namespace Go.Nt
open Go Go.Sy
def ArgN (_ : Nat → Prop) (x : Nat) (vs : List Value) (RA : List Res) (_ : World) : Prop := vs = [.int .i64 ((x : Nat) : Int)] ∧ RA = []
theorem nd_high (r i low : Nat) (hr : 0 < r) (hl : low < 18446744073709551616 ^ i) : nd 2 (r * 18446744073709551616 ^ i + low) = 64 * i + nd 2 r := by
  rw [wpow] at hl ⊢
  have hp : 0 < 2 ^ (64 * i) := Nat.pow_pos (by decide)
  have h1 : 2 ^ (64 * i) ≤ r * 2 ^ (64 * i) := Nat.le_mul_of_pos_left _ hr
  have h2 := nd_div 2 (r * 2 ^ (64 * i) + low) (64 * i) (by decide) (by omega)
  rw [h2, Nat.mul_comm r, Nat.mul_add_div hp, Nat.div_eq_of_lt hl, Nat.add_zero]
end Go.Nt
namespace Go.Proofs.YtkipmhcmdejcfaaDoor
open Go Go.Sy Go.Nt Go.RowKit
attribute [local irreducible] Sy SyL SyX Sy.Fn callFunc natC
set_option maxRecDepth 10000
theorem ones_fn (x : Nat) (w : World) :
    Sy.Fn Tryd.prog 45 [natV x] w No (fun v R => ∃ b, v = .func (.func 114) #[] #[.pointer (some ⟨b, 0, none⟩)] ∧ R = [.blk b 28 (natC x)]) := by
  refine fn_enter Tryd.func45 rfl Tryd.ntmps45 (by simp) Holds.nil ?_
  have hlx := natC_len x
  repeat' (first | refine sy_seqC ?_ | refine syl_nil ?_ | refine sy_if_t rfl ?_ | refine sy_if_f rfl ?_ | refine sy_block ?_ | refine sy_skip ?_ | refine sy_ret ?_ | refine sy_exit ?_ | refine sy_label ?_ | refine syx_then ?_ | refine syx_go ?_ | refine syx_then_ret ?_ | refine syx_then_exit ?_ | refine syx_in ?_ | refine syx_in_ret ?_ | refine syx_in_here ?_ | refine syx_in_past rfl ?_ | (apply syx_begin; (focus ((repeat (first | exact Rem.here | apply Rem.there)); done)); assumption) | (refine sy_region (id := 0) ?_; try (refine y_new ?_; intro _); try refine y_assign ?_) | (refine sy_region (id := 1) ?_; try refine y_makeFunc ?_; try refine y_assign ?_) | refine sy_region ?_ | fail)
  rename_i b
  exact ret1 rfl (resTmp rfl) (by (repeat' (first | exact SubR.nil | (apply SubR.same; with_reducible (focus ((repeat (first | exact Rem.here | apply Rem.there)); done))) | (apply SubR.blk; (focus ((repeat (first | exact Rem.here | apply Rem.there)); done))) | (apply SubR.pick; (focus ((repeat (first | exact Rem.here | apply Rem.there)); done))) | rfl))) ⟨b, rfl, rfl⟩
set_option maxHeartbeats 1000000 in
theorem ones1_it (b1 x : Nat) (w : World) (M : Nat → Prop) (hx : x < 18446744073709551616 ^ 16) :
    IterC Tryd.prog 114 [.pointer (some ⟨b1, 0, none⟩)] (ones x) ArgN w M [.blk b1 28 (natC x)] := by
  intro l J Jx j0 hJ0 hh hY
  refine fn_enter Tryd.func114 rfl Tryd.ntmps114 (by simp) hh ?_
  have hlx := natC_len x
  have hgx := natC_get x
  repeat' (first | refine sy_seqC ?_ | refine syl_nil ?_ | refine sy_if_t rfl ?_ | refine sy_if_f rfl ?_ | refine sy_block ?_ | refine sy_skip ?_ | refine sy_ret ?_ | refine sy_exit ?_ | refine sy_label ?_ | refine syx_then ?_ | refine syx_go ?_ | refine syx_then_ret ?_ | refine syx_then_exit ?_ | refine syx_in ?_ | refine syx_in_ret ?_ | refine syx_in_here ?_ | refine syx_in_past rfl ?_ | (apply syx_begin; (focus ((repeat (first | exact Rem.here | apply Rem.there)); done)); assumption) | (refine sy_region (id := 0) ?_; try refine y_assign ?_) | refine sy_region ?_ | fail)
  refine sy_loop (γ := Nat × Nat × Res) (fun g => [(0, .func (.yield l) #[] #[]), (1, .pointer (some ⟨b1, 0, none⟩)), (3, .int .i64 ((g.1 : Int) - 1))])
    (fun g => [g.2.2, .blk b1 28 (natC x)])
    (fun g => g.1 ≤ 16 ∧ g.2.1 ≤ (ones x).length ∧ left g.2.1 x = x % 18446744073709551616 ^ g.1 ∧ J g.2.1 g.2.2)
    (fun g => g.1) (16, 0, j0) ⟨Nat.le_refl _, Nat.zero_le _, (Nat.mod_eq_of_lt hx).symm, hJ0⟩ ?_ ?_ ?_
  · (repeat' (first | exact Sub.nil | refine Sub.cons rfl ?_ ?_ | rfl))
  · (repeat' (first | exact SubR.nil | (apply SubR.same; with_reducible (focus ((repeat (first | exact Rem.here | apply Rem.there)); done))) | (apply SubR.blk; (focus ((repeat (first | exact Rem.here | apply Rem.there)); done))) | (apply SubR.pick; (focus ((repeat (first | exact Rem.here | apply Rem.there)); done))) | rfl))
  rintro ⟨i, k, j⟩ ⟨hi, hk, hlf, hJ⟩
  dsimp only at hi hk hlf hJ ⊢
  rcases Nat.eq_zero_or_pos i with h0 | h0
  · subst h0
    rw [Nat.pow_zero, Nat.mod_one] at hlf
    have hke : k = (ones x).length := by
      rcases Nat.lt_or_ge k (ones x).length with h | h
      · have := (left_get h).1; omega
      · omega
    subst hke
    repeat' (first | refine sy_seqC ?_ | refine syl_nil ?_ | refine sy_if_t rfl ?_ | refine sy_if_f rfl ?_ | refine sy_block ?_ | refine sy_skip ?_ | refine sy_ret ?_ | refine sy_exit ?_ | refine sy_label ?_ | refine syx_then ?_ | refine syx_go ?_ | refine syx_then_ret ?_ | refine syx_then_exit ?_ | refine syx_in ?_ | refine syx_in_ret ?_ | refine syx_in_here ?_ | refine syx_in_past rfl ?_ | (apply syx_begin; (focus ((repeat (first | exact Rem.here | apply Rem.there)); done)); assumption) | (refine sy_region (id := 1) ?_; try refine y_move ?_; try refine y_geq ?_) | refine sy_region ?_ | fail)
    exact end0 rfl (by (repeat' (first | exact SubR.nil | (apply SubR.same; with_reducible (focus ((repeat (first | exact Rem.here | apply Rem.there)); done))) | (apply SubR.blk; (focus ((repeat (first | exact Rem.here | apply Rem.there)); done))) | (apply SubR.pick; (focus ((repeat (first | exact Rem.here | apply Rem.there)); done))) | rfl))) ⟨j, rfl, .inl hJ⟩
  obtain ⟨i, rfl⟩ : ∃ i', i = i' + 1 := ⟨i - 1, by omega⟩
  have hij : (((i + 1 : Nat) : Int) - 1) = ((i : Nat) : Int) := by omega
  have hs1 : IntKind.i64.wrap ((i : Int) - 1) = (i : Int) - 1 := IntWalk.i64_in _ (by omega)
  rw [hij]
  have hd := hgx i (by omega)
  rw [mod_succ] at hlf
  have hdl : x / 18446744073709551616 ^ i % 18446744073709551616 < 18446744073709551616 := Nat.mod_lt _ (by decide)
  have hlow : x % 18446744073709551616 ^ i < 18446744073709551616 ^ i := Nat.mod_lt _ (Nat.pow_pos (by decide))
  generalize x / 18446744073709551616 ^ i % 18446744073709551616 = d at *
  repeat' (first | refine sy_seqC ?_ | refine syl_nil ?_ | refine sy_if_t rfl ?_ | refine sy_if_f rfl ?_ | refine sy_block ?_ | refine sy_skip ?_ | refine sy_ret ?_ | refine sy_exit ?_ | refine sy_label ?_ | refine syx_then ?_ | refine syx_go ?_ | refine syx_then_ret ?_ | refine syx_then_exit ?_ | refine syx_in ?_ | refine syx_in_ret ?_ | refine syx_in_here ?_ | refine syx_in_past rfl ?_ | (apply syx_begin; (focus ((repeat (first | exact Rem.here | apply Rem.there)); done)); assumption) | (refine sy_region (id := 1) ?_; try refine y_move ?_; try refine y_geq ?_) | (refine sy_region (id := 3) ?_; try refine y_move ?_; try refine y_fieldAddr ?_; try refine y_indexAddr ?_; try refine yv (op_load (hv := hd)) (k := ?_); try refine y_assign ?_) | refine sy_region ?_ | fail)
  refine sy_loop (γ := Nat × Nat × Res) (fun g => [(0, .func (.yield l) #[] #[]), (1, .pointer (some ⟨b1, 0, none⟩)), (3, .int .i64 i), (4, nv g.1)])
    (fun g => [g.2.2, .blk b1 28 (natC x)])
    (fun g => g.1 < 18446744073709551616 ∧ g.2.1 ≤ (ones x).length ∧ left g.2.1 x = x % 18446744073709551616 ^ i + g.1 * 18446744073709551616 ^ i ∧ J g.2.1 g.2.2)
    (fun g => g.1) (d, k, j) ⟨hdl, hk, hlf, hJ⟩ ?_ ?_ ?_
  · (repeat' (first | exact Sub.nil | refine Sub.cons rfl ?_ ?_ | rfl))
  · (repeat' (first | exact SubR.nil | (apply SubR.same; with_reducible (focus ((repeat (first | exact Rem.here | apply Rem.there)); done))) | (apply SubR.blk; (focus ((repeat (first | exact Rem.here | apply Rem.there)); done))) | (apply SubR.pick; (focus ((repeat (first | exact Rem.here | apply Rem.there)); done))) | rfl))
  clear hlf hJ hk hd hdl
  rintro ⟨r, k, j⟩ ⟨hr, hk, hlf, hJ⟩
  dsimp only at hr hk hlf hJ ⊢
  rcases Nat.eq_zero_or_pos r with h0 | h0
  · subst h0
    rw [Nat.zero_mul, Nat.add_zero] at hlf
    repeat' (first | refine sy_seqC ?_ | refine syl_nil ?_ | refine sy_if_t rfl ?_ | refine sy_if_f rfl ?_ | refine sy_block ?_ | refine sy_skip ?_ | refine sy_ret ?_ | refine sy_exit ?_ | refine sy_label ?_ | refine syx_then ?_ | refine syx_go ?_ | refine syx_then_ret ?_ | refine syx_then_exit ?_ | refine syx_in ?_ | refine syx_in_ret ?_ | refine syx_in_here ?_ | refine syx_in_past rfl ?_ | (apply syx_begin; (focus ((repeat (first | exact Rem.here | apply Rem.there)); done)); assumption) | (refine sy_region (id := 4) ?_; try refine y_move ?_; try refine y_neq ?_) | (refine sy_region (id := 2) ?_; try refine y_move ?_; try refine yv (op_sub (hr := hs1)) (k := ?_); try refine y_assign ?_) | refine sy_region ?_ | fail)
    refine syx_back (i, k, j) ⟨by show i ≤ 16; omega, hk, hlf, hJ⟩ ?_ ?_ ?_
    · show i < i + 1; omega
    · (repeat' (first | exact Sub.nil | refine Sub.cons rfl ?_ ?_ | rfl))
    · (repeat' (first | exact SubR.nil | (apply SubR.same; with_reducible (focus ((repeat (first | exact Rem.here | apply Rem.there)); done))) | (apply SubR.blk; (focus ((repeat (first | exact Rem.here | apply Rem.there)); done))) | (apply SubR.pick; (focus ((repeat (first | exact Rem.here | apply Rem.there)); done))) | rfl))
  obtain ⟨hn0, hn1, hn2⟩ := top_le r h0
  have hn64 := nd_le 2 r 64 (by decide) hr
  have hnd := nd_high r i _ h0 hlow
  rw [Nat.add_comm, ← hlf] at hnd
  have hlen := fun w => len64_fn r w hr
  have hpos : 0 < left k x := by
    have : 18446744073709551616 ^ i ≤ r * 18446744073709551616 ^ i := Nat.le_mul_of_pos_left _ h0
    have : 0 < 18446744073709551616 ^ i := Nat.pow_pos (by decide)
    omega
  have hkx := left_more hk hpos
  have hxk := (left_get hkx).2
  have hls := left_succ k x
  rw [hnd] at hxk hls
  generalize nd 2 r = m at *
  obtain ⟨q, rfl⟩ : ∃ q, m = q + 1 := ⟨m - 1, by omega⟩
  obtain ⟨r', rfl⟩ : ∃ r', r = 2 ^ q + r' := ⟨r - 2 ^ q, by rw [Nat.add_sub_cancel] at hn1; omega⟩
  have hr' : r' < 2 ^ q := by rw [Nat.pow_succ] at hn2; omega
  have hxk : (ones x)[k] = 64 * i + q := by rw [hxk]; omega
  have hls : left (k + 1) x = x % 18446744073709551616 ^ i + r' * 18446744073709551616 ^ i := by
    rw [hls, hlf, show 64 * i + (q + 1) - 1 = 64 * i + q by omega, Nat.pow_add, ← wpow, Nat.add_mul, Nat.mul_comm (2 ^ q)]
    omega
  have hs2 : IntKind.i64.wrap (((q + 1 : Nat) : Int) - 1) = ((q : Nat) : Int) := by rw [IntWalk.i64_in _ (by omega)]; omega
  have hm1 : IntKind.i64.wrap (64 * (i : Int)) = ((64 * i : Nat) : Int) := by rw [IntWalk.i64_in _ (by omega)]; omega
  have ha1 : IntKind.i64.wrap (((64 * i : Nat) : Int) + (q : Int)) = ((64 * i + q : Nat) : Int) := by rw [IntWalk.i64_in _ (by omega)]; omega
  have hnz : decide (((2 ^ q + r' : Nat) : Int) ≠ 0) = true := decide_eq_true (by
    have : 0 < 2 ^ q := Nat.pow_pos (by decide)
    omega)
  have hp0 : 0 < 2 ^ q := Nat.pow_pos (by decide)
  repeat' (first | refine sy_seqC ?_ | refine syl_nil ?_ | refine sy_if_t rfl ?_ | refine sy_if_f rfl ?_ | refine sy_block ?_ | refine sy_skip ?_ | refine sy_ret ?_ | refine sy_exit ?_ | refine sy_label ?_ | refine syx_then ?_ | refine syx_go ?_ | refine syx_then_ret ?_ | refine syx_then_exit ?_ | refine syx_in ?_ | refine syx_in_ret ?_ | refine syx_in_here ?_ | refine syx_in_past rfl ?_ | (apply syx_begin; (focus ((repeat (first | exact Rem.here | apply Rem.there)); done)); assumption) | (refine sy_region (id := 4) ?_; try refine y_move ?_; try refine yv (op_neq (hr := hnz)) (k := ?_)) | (refine sy_region (id := 5) ?_; try refine y_move ?_; try refine yv (op_callV (hc := fun _ _ _ _ => (hlen _))) (k := ?_); try refine yv (op_sub (hr := hs2)) (k := ?_); try refine y_assign ?_) | (refine sy_region (id := 6) ?_; try refine y_move ?_; try refine y_move ?_; try refine yv (op_mul (hr := hm1)) (k := ?_); try refine y_move ?_; try refine yv (op_add (hr := ha1)) (k := ?_); try (refine ys (op_yield hY hkx hJ (hL := RemL.cons (by exact Rem.here) rfl RemL.nil) (harg := fun w' X hk hh' => ⟨by rw [hxk], rfl⟩)) (k := ?_); rintro _ _ ⟨y, j', rfl, rfl, hy⟩); try refine y_unOp ?_) | refine sy_region ?_ | fail)
  cases y with
  | false =>
    repeat' (first | refine sy_seqC ?_ | refine syl_nil ?_ | refine sy_if_t rfl ?_ | refine sy_if_f rfl ?_ | refine sy_block ?_ | refine sy_skip ?_ | refine sy_ret ?_ | refine sy_exit ?_ | refine sy_label ?_ | refine syx_then ?_ | refine syx_go ?_ | refine syx_then_ret ?_ | refine syx_then_exit ?_ | refine syx_in ?_ | refine syx_in_ret ?_ | refine syx_in_here ?_ | refine syx_in_past rfl ?_ | (apply syx_begin; (focus ((repeat (first | exact Rem.here | apply Rem.there)); done)); assumption) | (refine sy_region (id := 7) ?_) | refine sy_region ?_ | fail)
    exact ret0 rfl (by (repeat' (first | exact SubR.nil | (apply SubR.same; with_reducible (focus ((repeat (first | exact Rem.here | apply Rem.there)); done))) | (apply SubR.blk; (focus ((repeat (first | exact Rem.here | apply Rem.there)); done))) | (apply SubR.pick; (focus ((repeat (first | exact Rem.here | apply Rem.there)); done))) | rfl))) ⟨j', rfl, .inr ⟨k + 1, by omega, hy⟩⟩
  | true =>
    repeat' (first | refine sy_seqC ?_ | refine syl_nil ?_ | refine sy_if_t rfl ?_ | refine sy_if_f rfl ?_ | refine sy_block ?_ | refine sy_skip ?_ | refine sy_ret ?_ | refine sy_exit ?_ | refine sy_label ?_ | refine syx_then ?_ | refine syx_go ?_ | refine syx_then_ret ?_ | refine syx_then_exit ?_ | refine syx_in ?_ | refine syx_in_ret ?_ | refine syx_in_here ?_ | refine syx_in_past rfl ?_ | (apply syx_begin; (focus ((repeat (first | exact Rem.here | apply Rem.there)); done)); assumption) | (refine sy_region (id := 7) ?_; try refine y_move ?_; try refine y_move ?_; try refine yv (op_bitN (n := q) (by omega)) (k := ?_); try refine yv (op_clearN (r := r') (k := q) (by omega) hr') (k := ?_); try refine y_assign ?_) | refine sy_region ?_ | fail)
    refine syx_back (r', k + 1, j') ⟨by show r' < _; omega, by show k + 1 ≤ _; omega, hls, hy⟩ ?_ ?_ ?_
    · show r' < 2 ^ q + r'; omega
    · (repeat' (first | exact Sub.nil | refine Sub.cons rfl ?_ ?_ | rfl))
    · (repeat' (first | exact SubR.nil | (apply SubR.same; with_reducible (focus ((repeat (first | exact Rem.here | apply Rem.there)); done))) | (apply SubR.blk; (focus ((repeat (first | exact Rem.here | apply Rem.there)); done))) | (apply SubR.pick; (focus ((repeat (first | exact Rem.here | apply Rem.there)); done))) | rfl))
end Go.Proofs.YtkipmhcmdejcfaaDoor
namespace Go.Nt
open Go Go.Sy
end Go.Nt
namespace Go.Proofs.YtkipmhcmdejcfaaDoor
open Go Go.Sy Go.Nt Go.RowKit
attribute [local irreducible] Sy SyL SyX Sy.Fn callFunc natC
set_option maxRecDepth 10000
end Go.Proofs.YtkipmhcmdejcfaaDoor
