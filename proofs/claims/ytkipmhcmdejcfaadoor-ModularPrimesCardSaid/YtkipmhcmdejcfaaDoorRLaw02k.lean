/- The chapter's examples of layer modular. -/
import Derived.Test.YtkipmhcmdejcfaaDoorRLaw02
set_option linter.all false
namespace Go.Nt
theorem inv_7_3 : inv 7 3 = (1, 5) := by
  show euc 7 7 3 0 1 = _
  rw [euc_pos _ _ _ _ _ (by decide)]
  show euc 7 3 1 1 5 = _
  rw [euc_pos _ _ _ _ _ (by decide)]
  exact euc_zero _ _ _ _
theorem inv_4_2 : inv 4 2 = (2, 1) := by
  show euc 4 4 2 0 1 = _
  rw [euc_pos _ _ _ _ _ (by decide)]
  exact euc_zero _ _ _ _
theorem inv_1_0 : inv 1 0 = (1, 0) := euc_zero _ _ _ _
theorem pr_1 : false = true ↔ Pr 1 := ⟨fun h => (by cases h), fun h => absurd h.1 (by decide)⟩
theorem pr_2 : true = true ↔ Pr 2 := ⟨fun _ => ⟨by decide, fun d h1 h2 => by have := Nat.mul_le_mul h1 h1; omega⟩, fun _ => rfl⟩
theorem pr_2879 : true = true ↔ Pr 2879 := ⟨fun _ => ⟨by decide, fun d h1 h2 => chk_ok 2879 6 2 (by decide +kernel) d h1 (by
  rcases Nat.lt_or_ge d (2 + 2 ^ 6) with h | h
  · exact h
  · have := Nat.mul_le_mul h h; omega)⟩, fun _ => rfl⟩
theorem facs_12 : facs 2 12 = [(2, 2), (3, 1)] := by
  have h : strip 2 12 = (2, 3) := by
    rw [strip_yes (by decide) (by decide) (by decide), strip_yes (by decide) (by decide) (by decide), strip_no (by decide)]
  rw [facs_more (by decide) (by decide) (by decide), h, if_pos (by decide), facs_end (by decide) (by decide) (by decide)]
  rfl
end Go.Nt
namespace Go.Proofs.YtkipmhcmdejcfaaDoor
open Go Go.Sy Go.Nt Go.RowKit
theorem facsI_12 : facsI 12 = [(2, 2), (3, 1)] := by
  unfold facsI; rw [if_pos (by decide)]; exact facs_12
attribute [local irreducible] Sy SyL SyX Sy.Fn callFunc natC rowN facsI
set_option maxRecDepth 10000
set_option maxHeartbeats 4000000 in
theorem known2_fn (w : World) : Sy.Fn Tryd.prog 57 [] w No (Gives (.bool true)) := by
  refine fn_enter Tryd.func57 rfl Tryd.ntmps57 (by simp) Holds.nil ?_
  have hW : ∀ n, n < 18446744073709551616 → n < 18446744073709551616 ^ 16 := fun n h => Nat.lt_of_lt_of_le h (Nat.le_self_pow (by decide) _)
  have l0 := natC_len 0
  have l1 := natC_len 1
  have l2 := natC_len 2
  have l4 := natC_len 4
  have l5 := natC_len 5
  have l6 := natC_len 6
  have n1 := fun w' => number_fn 1 w' (by decide)
  have n2 := fun w' => number_fn 2 w' (by decide)
  have n3 := fun w' => number_fn 3 w' (by decide)
  have n4 := fun w' => number_fn 4 w' (by decide)
  have n5 := fun w' => number_fn 5 w' (by decide)
  have n6 := fun w' => number_fn 6 w' (by decide)
  have n7 := fun w' => number_fn 7 w' (by decide)
  have f1 := fun w' => madd_fn 5 6 7 w' (hW _ (by decide)) (hW _ (by decide)) (hW _ (by decide))
  rw [show modR 7 ((5 + 6) % 7) = .tuple #[natV 4, .int .i64 0] from rfl] at f1
  have f2 := fun w' => msub_fn 5 6 7 w' (hW _ (by decide)) (hW _ (by decide)) (hW _ (by decide))
  rw [show modR 7 (dm 7 5 6) = .tuple #[natV 6, .int .i64 0] from rfl] at f2
  have f3 := fun w' => mmul_fn 5 6 7 w' (hW _ (by decide)) (hW _ (by decide)) (hW _ (by decide))
  rw [show modR 7 (5 * 6 % 7) = .tuple #[natV 2, .int .i64 0] from rfl] at f3
  have f4 := fun w' => exp_fn 3 4 7 w' (hW _ (by decide)) (hW _ (by decide)) (hW _ (by decide))
  rw [show modR 7 (3 ^ 4 % 7) = .tuple #[natV 4, .int .i64 0] from rfl] at f4
  have f5 := fun w' => exp_fn 3 0 1 w' (hW _ (by decide)) (hW _ (by decide)) (hW _ (by decide))
  rw [show modR 1 (3 ^ 0 % 1) = .tuple #[natV 0, .int .i64 0] from rfl] at f5
  have g4 := fun w' => result_fn 4 w' (by decide)
  have g6 := fun w' => result_fn 6 w' (by decide)
  have g2 := fun w' => result_fn 2 w' (by decide)
  have g0 := fun w' => result_fn 0 w' (by decide)
  have g5 := fun w' => result_fn 5 w' (by decide)
  repeat' (first | refine sy_seqC ?_ | refine syl_nil ?_ | refine sy_if_t rfl ?_ | refine sy_if_f rfl ?_ | refine sy_block ?_ | refine sy_skip ?_ | refine sy_ret ?_ | refine sy_exit ?_ | refine sy_label ?_ | refine syx_then ?_ | refine syx_go ?_ | refine syx_then_ret ?_ | refine syx_then_exit ?_ | refine syx_in ?_ | refine syx_in_ret ?_ | refine syx_in_here ?_ | refine syx_in_past rfl ?_ | (apply syx_begin; (focus ((repeat (first | exact Rem.here | apply Rem.there)); done)); assumption) | (refine sy_region (id := 0) ?_; try refine y_assign ?_) | (refine sy_region (id := 1) ?_; try refine yv (op_callV (hc := fun _ _ _ _ => (n5 _))) (k := ?_); try refine yv (op_callV (hc := fun _ _ _ _ => (n6 _))) (k := ?_); try refine yv (op_callV (hc := fun _ _ _ _ => (n7 _))) (k := ?_); try refine yv (op_callV (hc := fun _ _ _ _ => (f1 _))) (k := ?_); try refine y_move ?_; try refine y_extract ?_; try refine y_extract ?_; try (refine y_new ?_; intro _); try refine yn (op_storeNat (n := 4)) (k := ?_); try refine y_assign ?_) | (refine sy_region (id := 2) ?_; try refine yv (op_callV (hc := fun _ _ _ _ => (n5 _))) (k := ?_); try refine yv (op_callV (hc := fun _ _ _ _ => (n6 _))) (k := ?_); try refine yv (op_callV (hc := fun _ _ _ _ => (n7 _))) (k := ?_); try refine yv (op_callV (hc := fun _ _ _ _ => (f2 _))) (k := ?_); try refine y_move ?_; try refine y_extract ?_; try refine y_extract ?_; try (refine y_new ?_; intro _); try refine yn (op_storeNat (n := 6)) (k := ?_); try refine y_assign ?_) | (refine sy_region (id := 3) ?_; try refine yv (op_callV (hc := fun _ _ _ _ => (n5 _))) (k := ?_); try refine yv (op_callV (hc := fun _ _ _ _ => (n6 _))) (k := ?_); try refine yv (op_callV (hc := fun _ _ _ _ => (n7 _))) (k := ?_); try refine yv (op_callV (hc := fun _ _ _ _ => (f3 _))) (k := ?_); try refine y_move ?_; try refine y_extract ?_; try refine y_extract ?_; try (refine y_new ?_; intro _); try refine yn (op_storeNat (n := 2)) (k := ?_); try refine y_assign ?_) | (refine sy_region (id := 4) ?_; try refine yv (op_callV (hc := fun _ _ _ _ => (n3 _))) (k := ?_); try refine yv (op_callV (hc := fun _ _ _ _ => (n4 _))) (k := ?_); try refine yv (op_callV (hc := fun _ _ _ _ => (n7 _))) (k := ?_); try refine yv (op_callV (hc := fun _ _ _ _ => (f4 _))) (k := ?_); try refine y_move ?_; try refine y_extract ?_; try refine y_extract ?_; try (refine y_new ?_; intro _); try refine yn (op_storeNat (n := 4)) (k := ?_); try refine y_assign ?_) | (refine sy_region (id := 5) ?_; try refine yv (op_callV (hc := fun _ _ _ _ => (n3 _))) (k := ?_); try refine yv op_zeroN (k := ?_); try refine yv (op_callV (hc := fun _ _ _ _ => (n1 _))) (k := ?_); try refine yv (op_callV (hc := fun _ _ _ _ => (f5 _))) (k := ?_); try refine y_move ?_; try refine y_extract ?_; try refine y_extract ?_; try (refine y_new ?_; intro _); try refine yn (op_storeNat (n := 0)) (k := ?_); try refine y_assign ?_) | (refine sy_region (id := 6) ?_; try refine yv (op_loads (B := natC 4)) (k := ?_); try refine y_move ?_; try refine yv (op_callV (hc := fun _ _ _ _ => (g4 _))) (k := ?_); try refine y_unOp ?_; try refine y_move ?_; try refine yv (op_loads (B := natC 6)) (k := ?_); try refine y_move ?_; try refine yv (op_callV (hc := fun _ _ _ _ => (g6 _))) (k := ?_); try refine y_unOp ?_; try refine y_pick ?_; try refine y_move ?_; try refine yv (op_loads (B := natC 2)) (k := ?_); try refine y_move ?_; try refine yv (op_callV (hc := fun _ _ _ _ => (g2 _))) (k := ?_); try refine y_unOp ?_; try refine y_pick ?_; try refine y_move ?_; try refine yv (op_loads (B := natC 4)) (k := ?_); try refine y_move ?_; try refine yv (op_callV (hc := fun _ _ _ _ => (g4 _))) (k := ?_); try refine y_unOp ?_; try refine y_pick ?_; try refine y_move ?_; try refine yv (op_loads (B := natC 0)) (k := ?_); try refine y_move ?_; try refine yv (op_callV (hc := fun _ _ _ _ => (g0 _))) (k := ?_); try refine y_unOp ?_; try refine y_pick ?_) | fail)
  refine Sy.weaken (fr' := []) (L' := []) ?_ Sub.nil SubR.nil
  have f6 := fun w' => inverse_fn 3 7 w' (hW _ (by decide)) (hW _ (by decide))
  rw [show invR 7 3 = .tuple #[natV 5, .int .i64 0] by unfold invR; rw [inv_7_3]; rfl] at f6
  have f7 := fun w' => inverse_fn 2 4 w' (hW _ (by decide)) (hW _ (by decide))
  rw [show invR 4 2 = .tuple #[natV 0, .int .i64 9] by unfold invR; rw [inv_4_2]; rfl] at f7
  have f8 := fun w' => inverse_fn 0 1 w' (hW _ (by decide)) (hW _ (by decide))
  rw [show invR 1 0 = .tuple #[natV 0, .int .i64 0] by unfold invR; rw [inv_1_0]; rfl] at f8
  have f9 := fun w' => inverse_fn 5 0 w' (hW _ (by decide)) (hW _ (by decide))
  rw [show invR 0 5 = .tuple #[natV 0, .int .i64 2] by unfold invR; rfl] at f9
  clear f1 f2 f3 f4 f5 g4 g6 g2
  repeat' (first | refine sy_seqC ?_ | refine syl_nil ?_ | refine sy_if_t rfl ?_ | refine sy_if_f rfl ?_ | refine sy_block ?_ | refine sy_skip ?_ | refine sy_ret ?_ | refine sy_exit ?_ | refine sy_label ?_ | refine syx_then ?_ | refine syx_go ?_ | refine syx_then_ret ?_ | refine syx_then_exit ?_ | refine syx_in ?_ | refine syx_in_ret ?_ | refine syx_in_here ?_ | refine syx_in_past rfl ?_ | (apply syx_begin; (focus ((repeat (first | exact Rem.here | apply Rem.there)); done)); assumption) | (refine sy_region (id := 8) ?_; try refine yv (op_callV (hc := fun _ _ _ _ => (n3 _))) (k := ?_); try refine yv (op_callV (hc := fun _ _ _ _ => (n7 _))) (k := ?_); try refine yv (op_callV (hc := fun _ _ _ _ => (f6 _))) (k := ?_); try refine y_move ?_; try refine y_extract ?_; try refine y_extract ?_; try (refine y_new ?_; intro _); try refine yn (op_storeNat (n := 5)) (k := ?_); try refine y_assign ?_) | (refine sy_region (id := 9) ?_; try refine yv (op_callV (hc := fun _ _ _ _ => (n2 _))) (k := ?_); try refine yv (op_callV (hc := fun _ _ _ _ => (n4 _))) (k := ?_); try refine yv (op_callV (hc := fun _ _ _ _ => (f7 _))) (k := ?_); try refine y_move ?_; try refine y_extract ?_; try refine y_extract ?_; try (refine y_new ?_; intro _); try refine yn (op_storeNat (n := 0)) (k := ?_); try refine y_assign ?_) | (refine sy_region (id := 10) ?_; try refine yv op_zeroN (k := ?_); try refine yv (op_callV (hc := fun _ _ _ _ => (n1 _))) (k := ?_); try refine yv (op_callV (hc := fun _ _ _ _ => (f8 _))) (k := ?_); try refine y_move ?_; try refine y_extract ?_; try refine y_extract ?_; try (refine y_new ?_; intro _); try refine yn (op_storeNat (n := 0)) (k := ?_); try refine y_assign ?_) | (refine sy_region (id := 11) ?_; try refine yv (op_callV (hc := fun _ _ _ _ => (n5 _))) (k := ?_); try refine yv op_zeroN (k := ?_); try refine yv (op_callV (hc := fun _ _ _ _ => (f9 _))) (k := ?_); try refine y_move ?_; try refine y_extract ?_; try refine y_extract ?_; try (refine y_new ?_; intro _); try refine yn (op_storeNat (n := 0)) (k := ?_); try refine y_assign ?_) | (refine sy_region (id := 12) ?_; try refine yv (op_loads (B := natC 5)) (k := ?_); try refine y_move ?_; try refine yv (op_callV (hc := fun _ _ _ _ => (g5 _))) (k := ?_); try refine y_unOp ?_; try refine y_move ?_; try refine y_move ?_; try refine y_neq ?_; try refine y_pick ?_; try refine y_move ?_; try refine yv (op_loads (B := natC 0)) (k := ?_); try refine y_move ?_; try refine yv (op_callV (hc := fun _ _ _ _ => (g0 _))) (k := ?_); try refine y_unOp ?_; try refine y_pick ?_; try refine y_move ?_; try refine y_move ?_; try refine y_neq ?_; try refine y_pick ?_) | fail)
  refine Sy.weaken (fr' := []) (L' := []) ?_ Sub.nil SubR.nil
  have p1 := fun w' => prime_fn 1 false w' (by decide) pr_1
  have p2 := fun w' => prime_fn 2 true w' (by decide) pr_2
  have p3 := fun w' => prime_fn 2879 true w' (by decide) pr_2879
  have p4 := fun w' => prime_neg (-1) w' (by decide)
  clear f6 f7 f8 f9 g5 g0
  repeat' (first | refine sy_seqC ?_ | refine syl_nil ?_ | refine sy_if_t rfl ?_ | refine sy_if_f rfl ?_ | refine sy_block ?_ | refine sy_skip ?_ | refine sy_ret ?_ | refine sy_exit ?_ | refine sy_label ?_ | refine syx_then ?_ | refine syx_go ?_ | refine syx_then_ret ?_ | refine syx_then_exit ?_ | refine syx_in ?_ | refine syx_in_ret ?_ | refine syx_in_here ?_ | refine syx_in_past rfl ?_ | (apply syx_begin; (focus ((repeat (first | exact Rem.here | apply Rem.there)); done)); assumption) | (refine sy_region (id := 14) ?_; try refine yv (op_callV (hc := fun _ _ _ _ => (p1 _))) (k := ?_); try refine y_move ?_; try refine y_extract ?_; try refine y_extract ?_; try refine y_assign ?_; try refine y_assign ?_) | (refine sy_region (id := 15) ?_; try refine yv (op_callV (hc := fun _ _ _ _ => (p2 _))) (k := ?_); try refine y_move ?_; try refine y_extract ?_; try refine y_extract ?_; try refine y_assign ?_; try refine y_assign ?_) | (refine sy_region (id := 16) ?_; try refine yv (op_callV (hc := fun _ _ _ _ => (p3 _))) (k := ?_); try refine y_move ?_; try refine y_extract ?_; try refine y_extract ?_; try refine y_assign ?_; try refine y_assign ?_) | (refine sy_region (id := 17) ?_; try refine yv (op_callV (hc := fun _ _ _ _ => (p4 _))) (k := ?_); try refine y_move ?_; try refine y_extract ?_; try refine y_extract ?_; try refine y_assign ?_; try refine y_assign ?_) | (refine sy_region (id := 18) ?_; try (refine ys (op_call0 (f := 67) (hc := fun w' X hk hh => factors_fn 12 w')) (k := ?_); rintro _ _ ⟨R, rfl, bI, rfl, rfl⟩); try refine y_assign ?_) | (refine sy_region (id := 19) ?_; try refine y_move ?_; try refine y_move ?_; try refine y_move ?_; try refine y_unOp ?_; try refine y_pick ?_; try refine y_move ?_; try refine y_move ?_; try refine y_unOp ?_; try refine y_pick ?_; try refine y_move ?_; try refine y_move ?_; try refine y_neq ?_; try refine y_pick ?_; try refine y_move ?_; try refine y_move ?_; try refine y_neq ?_; try refine y_pick ?_; try refine y_move ?_; try refine y_move ?_; try refine y_neq ?_; try refine y_pick ?_; try refine y_move ?_; try refine y_move ?_; try refine y_neq ?_; try refine y_pick ?_; try refine y_move ?_; try refine y_move ?_; try refine y_eql ?_; try refine y_pick ?_) | (refine sy_region (id := 21) ?_; try (refine y_new ?_; intro _); try refine y_store ?_) | (refine sy_region (id := 22) ?_; try refine y_move ?_) | fail)
  rename_i b28
  refine sy_range (γ := Int) (xs := facsI 12) (Arg := ArgP) entered_outer rfl (en rfl) rfl (fun k s => (k = 0 ∧ s = 0) ∨ (k = 1 ∧ s = 22) ∨ (k = 2 ∧ s = 2231)) (fun _ _ _ => False)
    (fun s => [.blk b28 3 [.int .i64 s]]) [.blk bI 3 [.int .i64 12]] [] 0 (.inl ⟨rfl, rfl⟩) ?_ ?_ ?_ ?_ ?_ ?_
  · ((try simp only [List.cons_append, List.nil_append, List.append_nil]); (repeat' (first | exact List.Perm.nil | exact List.Perm.refl _ | (apply permr; with_reducible (focus ((repeat (first | exact Rem.here | apply Rem.there)); done))) | (apply permr; (focus ((repeat (first | exact Rem.here | apply Rem.there)); done))))))
  · exact fun w' Mi X hk hm _ _ => factors1_it bI 12 w' Mi
  · rintro O x vs RA w' ⟨rfl, _⟩; rfl
  · rintro lp k hk s vs RA W rec hrec hI ⟨rfl, rfl⟩ hkW hmine
    clear hmine
    simp only [facsI_12] at hk ⊢
    rcases hI with ⟨rfl, rfl⟩ | ⟨rfl, rfl⟩ | ⟨rfl, rfl⟩
    · simp only [List.getElem_cons_zero]
      repeat' (first | refine sy_seqC ?_ | refine syl_nil ?_ | refine sy_if_t rfl ?_ | refine sy_if_f rfl ?_ | refine sy_block ?_ | refine sy_skip ?_ | refine sy_ret ?_ | refine sy_exit ?_ | refine sy_label ?_ | refine syx_then ?_ | refine syx_go ?_ | refine syx_then_ret ?_ | refine syx_then_exit ?_ | refine syx_in ?_ | refine syx_in_ret ?_ | refine syx_in_here ?_ | refine syx_in_past rfl ?_ | (apply syx_begin; (focus ((repeat (first | exact Rem.here | apply Rem.there)); done)); assumption) | (refine sy_region (id := 23) ?_; try refine y_assign ?_) | (refine sy_region (id := 24) ?_; try refine y_assign ?_) | (refine sy_region (id := 25) ?_; try refine y_load ?_; try refine y_mul ?_; try refine y_move ?_; try refine y_mul ?_; try refine y_add ?_; try refine y_move ?_; try refine y_add ?_; try refine y_store ?_) | refine sy_region ?_ | fail)
      refine syx_rnd 22 (.inr (.inl ⟨rfl, rfl⟩)) ?_
      (repeat' (first | exact SubR.nil | (apply SubR.same; with_reducible (focus ((repeat (first | exact Rem.here | apply Rem.there)); done))) | (apply SubR.blk; (focus ((repeat (first | exact Rem.here | apply Rem.there)); done))) | (apply SubR.same; (focus ((repeat (first | exact Rem.here | apply Rem.there)); done))) | (apply SubR.pick; (focus ((repeat (first | exact Rem.here | apply Rem.there)); done))) | rfl))
    · simp only [List.getElem_cons_succ, List.getElem_cons_zero]
      repeat' (first | refine sy_seqC ?_ | refine syl_nil ?_ | refine sy_if_t rfl ?_ | refine sy_if_f rfl ?_ | refine sy_block ?_ | refine sy_skip ?_ | refine sy_ret ?_ | refine sy_exit ?_ | refine sy_label ?_ | refine syx_then ?_ | refine syx_go ?_ | refine syx_then_ret ?_ | refine syx_then_exit ?_ | refine syx_in ?_ | refine syx_in_ret ?_ | refine syx_in_here ?_ | refine syx_in_past rfl ?_ | (apply syx_begin; (focus ((repeat (first | exact Rem.here | apply Rem.there)); done)); assumption) | (refine sy_region (id := 23) ?_; try refine y_assign ?_) | (refine sy_region (id := 24) ?_; try refine y_assign ?_) | (refine sy_region (id := 25) ?_; try refine y_load ?_; try refine y_mul ?_; try refine y_move ?_; try refine y_mul ?_; try refine y_add ?_; try refine y_move ?_; try refine y_add ?_; try refine y_store ?_) | refine sy_region ?_ | fail)
      refine syx_rnd 2231 (.inr (.inr ⟨rfl, rfl⟩)) ?_
      (repeat' (first | exact SubR.nil | (apply SubR.same; with_reducible (focus ((repeat (first | exact Rem.here | apply Rem.there)); done))) | (apply SubR.blk; (focus ((repeat (first | exact Rem.here | apply Rem.there)); done))) | (apply SubR.same; (focus ((repeat (first | exact Rem.here | apply Rem.there)); done))) | (apply SubR.pick; (focus ((repeat (first | exact Rem.here | apply Rem.there)); done))) | rfl))
    · exact absurd hk (by decide)
  · rintro s hI
    rw [facsI_12] at hI
    rcases hI with ⟨h, -⟩ | ⟨h, -⟩ | ⟨-, rfl⟩
    · cases h
    · cases h
    repeat' (first | refine sy_seqC ?_ | refine syl_nil ?_ | refine sy_if_t rfl ?_ | refine sy_if_f rfl ?_ | refine sy_block ?_ | refine sy_skip ?_ | refine sy_ret ?_ | refine sy_exit ?_ | refine sy_label ?_ | refine syx_then ?_ | refine syx_go ?_ | refine syx_then_ret ?_ | refine syx_then_exit ?_ | refine syx_in ?_ | refine syx_in_ret ?_ | refine syx_in_here ?_ | refine syx_in_past rfl ?_ | (apply syx_begin; (focus ((repeat (first | exact Rem.here | apply Rem.there)); done)); assumption) | (refine sy_region (id := 26) ?_; try refine y_load ?_; try refine y_eql ?_; try refine y_assign ?_) | refine sy_region ?_ | fail)
    exact ret1 rfl (resTmp rfl) SubR.nil ⟨rfl, rfl⟩
  · rintro _ k s hk h
    exact h.elim
end Go.Proofs.YtkipmhcmdejcfaaDoor
