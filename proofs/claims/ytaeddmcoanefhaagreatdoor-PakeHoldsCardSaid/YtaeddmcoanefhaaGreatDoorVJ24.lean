/- The inverse of a number. -/
import Derived.Test.YtaeddmcoanefhaaGreatDoorVJ23
import Derived.Test.YtaeddmcoanefhaaGreatDoorVJ15
set_option linter.all false
section
namespace Go.Sy
open Go
theorem conv_perm {N : Nat} {w0 : World} {M : Nat → Prop} {ds : List Deferred} {L L' : List Res} (hp : L.Perm L') : Conv N w0 M ds L L' := fun _ _ _ X hs => hs.perm (hp.append_right X)
end Go.Sy
namespace Go.Proofs.YtaeddmcoanefhaaGreatDoor
open Go Go.Sy Go.Nt Go.RowKit
attribute [local irreducible] Sy SyL SyX Sy.Fn callFunc natC rowN
set_option maxRecDepth 10000
def invR (m a : Nat) : Value := if m = 0 then .tuple #[natV 0, .int .i64 2] else if (inv m a).1 = 1 then .tuple #[natV (inv m a).2, .int .i64 0] else .tuple #[natV 0, .int .i64 9]
theorem inverse_zero (a : Nat) (w : World) (ha : a < 18446744073709551616 ^ 16) :
    Sy.Fn Tryz.prog 82 [natV a, natV 0] w No (Gives (invR 0 a)) := by
  refine fn_enter Tryz.func82 rfl Tryz.ntmps82 (by simp) Holds.nil ?_
  have hla := natC_len a
  have hl0 := natC_len 0
  have hz := fun w' => isZero_fn 0 w' (by decide)
  unfold invR
  rw [if_pos rfl]
  repeat' (first | refine sy_seqC ?_ | refine syl_nil ?_ | refine sy_if_t rfl ?_ | refine sy_ret ?_ | refine syx_then ?_ | refine syx_go ?_ | refine syx_then_ret ?_ | (refine sy_region (id := 0) ?_; (refine y_new ?_; intro _); (refine y_new ?_; intro _); (refine y_new ?_; intro _); refine y_assign ?_) | (refine sy_region (id := 1) ?_; refine yv (op_loads (B := natC 0)) (k := ?_); refine yv (op_callV (hc := fun _ _ _ _ => (hz _))) (k := ?_)) | (refine sy_region (id := 2) ?_; refine yv op_zeroN (k := ?_); refine yn (op_storeNat (n := 0)) (k := ?_); refine y_assign ?_) | fail)
  exact ret2 rfl (resCells (B := natC 0) rfl (ty rfl) rfl Has.go Seg.all (natC_len _).symm) (resTmp rfl) SubR.nil ⟨rfl, rfl⟩
set_option maxHeartbeats 2000000 in
theorem inverse_pos (a m : Nat) (w : World) (ha : a < 18446744073709551616 ^ 16) (hm : m < 18446744073709551616 ^ 16) (h : 0 < m) :
    Sy.Fn Tryz.prog 82 [natV a, natV m] w No (Gives (invR m a)) := by
  refine fn_enter Tryz.func82 rfl Tryz.ntmps82 (by simp) Holds.nil ?_
  have hla := natC_len a
  have hlm := natC_len m
  have hl0 := natC_len 0
  have hz := fun w' => isZero_fn m w' hm
  simp only [decide_eq_false (show ¬ m = 0 by omega)] at hz
  unfold invR
  rw [if_neg (by omega)]
  have hr := fun w' b' (h' : w'.rangeAt b' 0 (rowN [a])) => residues1_fn m a b' w' hm h ha h'
  have h1 := fun w' => one_fn m w' hm h
  have l1 := Nat.mod_lt a h
  have l2 := Nat.mod_lt 1 h
  have hlr := natC_len (a % m)
  have hlu := natC_len (1 % m)
  have hinv : inv m a = euc m m (a % m) 0 (1 % m) := rfl
  generalize inv m a = I at *
  generalize a % m = r at *
  generalize 1 % m = u at *
  repeat' (first | refine sy_seqC ?_ | refine syl_nil ?_ | refine sy_if_f rfl ?_ | refine sy_skip ?_ | refine syx_then ?_ | refine syx_go ?_ | (refine sy_region (id := 0) ?_; (refine y_new ?_; intro _); (refine y_new ?_; intro _); (refine y_new ?_; intro _); refine y_assign ?_) | (refine sy_region (id := 1) ?_; refine yv (op_loads (B := natC m)) (k := ?_); refine yv (op_callV (hc := fun _ _ _ _ => (hz _))) (k := ?_)) | (refine sy_region (id := 3) ?_; refine yv (op_loads (B := natC m)) (k := ?_); refine yv (op_buildMod (n := m)) (k := ?_); (refine y_new ?_; intro _); refine yn (op_storesAll (B := natC m) (hv := natC_one m) (h1 := (natC_len m).symm)) (k := ?_)) | fail)
  rename_i b2 b3 b4 b6
  refine sy_drawA (id := 4) mixed ?_
  (refine sye_part 10 10 [[], [], [], [2], [1, 2, 3], [1, 2, 3, 4], [1, 2, 3, 4, 5], [], [], [0, 1, 2, 3, 4, 7, 8], [0, 1, 2, 3, 4, 5, 6, 7, 8, 9]] [[], [], [], [], [], [], [], [], [], [7], []] none rfl ?_ ?_ ?_; kernel_rfl; kernel_rfl; refine dcE (fun _ _ => op_loads (B := natC m)) (k := ?_); refine dcE (fun _ _ => op_loads (B := natC m)) (k := ?_); refine dcE (fun _ _ => op_loads (B := natC a)) (k := ?_); try refine dh_0nE (h := ?_))
  refine dh_rE (R := fun _ => SlOf 44 1 (rowN [a])) (fun _ _ _ => rfl) (fun ρ hρ => OpT.mono (op_buildN1 (x := a)) fun v L' h => ?_) (h := ?_)
  · obtain ⟨b, rfl, rfl⟩ := h
    exact ⟨[_], rfl, b, rfl, rfl⟩
  refine dh_rE (R := fun _ => SlOf 44 1 (natC r)) (fun _ _ _ => rfl) (fun ρ hρ => ?_) (h := ?_)
  · obtain ⟨⟨bx, e1, e2⟩, -⟩ := hρ
    refine OpT.mono (op_call0 (vs := [natV m, .slice (some ⟨bx, 0, none⟩) 1 1]) (ha := by show some [_, (ρ 3).1] = _; rw [e1]; rfl) (hc := fun w' X hk hh => hr w' bx ((Reads.blk (T := 44) (by show Has ((ρ 3).2 ++ _) _; rw [e2]; exact Has.here) Seg.all) w' X hk hh))) fun v L' h => ?_
    obtain ⟨R, rfl, bc, rfl, rfl⟩ := h
    exact ⟨_, rfl, bc, rfl, rfl⟩
  refine dh_vE (u := fun ρ => ptrOf (ρ 4).1) (fun ρ hρ => ?_) (fun _ => rfl) rfl (fun ρ ρ' h => by rw [h 4 (by decide)]) (h := ?_)
  · obtain ⟨⟨bx, e1, e2⟩, -⟩ := hρ
    refine OpT.mono (op_indexN (b := bx) (off := 0) (n := 1) (c := 1) (j := 0) (hx := by show some (ρ 4).1 = _; rw [e1])) fun v L' h => ?_
    obtain ⟨rfl, rfl⟩ := h
    exact ⟨by rw [e1]; rfl, rfl⟩
  refine dcE (u := natV r) (fun ρ hρ => ?_) (k := ?_)
  · obtain ⟨⟨bx, e1, e2⟩, -⟩ := hρ
    exact op_loads (B := natC r) (b := bx) (off := 0) (T := 44) (hx := by show some (ptrOf (ρ 4).1) = _; rw [e1]; rfl) (hL := by show Has ((ρ 4).2 ++ _) _; rw [e2]; exact Has.here) (hv := Seg.all) (hz := hlr.symm)
  refine dh_rE (R := fun _ => PtrOf 44 (List.replicate 16 (.int .u64 0))) (fun _ _ _ => rfl) (fun ρ hρ => OpT.mono op_alloc fun v L' h => ?_) (h := ?_)
  · obtain ⟨b, rfl, rfl⟩ := h
    exact ⟨[_], rfl, b, rfl, rfl⟩
  refine dh_rE (R := fun _ => PtrOf 44 (List.replicate 16 (.int .u64 0))) (fun _ _ _ => rfl) (fun ρ hρ => OpT.mono op_alloc fun v L' h => ?_) (h := ?_)
  · obtain ⟨b, rfl, rfl⟩ := h
    exact ⟨[_], rfl, b, rfl, rfl⟩
  refine dh_rnE (R := fun ρ _ Nw => ∃ b, (ρ 7).1 = .pointer (some ⟨b, 0, none⟩) ∧ Nw = [.blk b 44 (natC m)]) (fun ρ ρ' h => by rw [h 7 (by decide)]) (fun ρ hρ => ?_) (h := ?_)
  · obtain ⟨-, ⟨b, f1, f2⟩, -⟩ := hρ
    refine OpT.mono (OpT.conv (conv_perm (L' := .blk b 44 (List.replicate 16 (.int .u64 0)) :: ((ρ 8).2 ++ ((ρ 4).2 ++ ((ρ 3).2 ++ _)))) (by show List.Perm ((ρ 8).2 ++ ((ρ 7).2 ++ _)) _; rw [f2]; exact List.perm_middle)) (op_storeNat (n := m) (b := b) (C := List.replicate 16 (.int .u64 0)) (hx := by show some (ρ 7).1 = _; rw [f1]) (hL := Upd.here))) fun v L' h => ?_
    obtain ⟨rfl, rfl⟩ := h
    exact ⟨[_], rfl, b, f1, rfl⟩
  refine dh_0E (h := ?_)
  rintro ρ ⟨⟨b7, g3, g4⟩, ⟨b8, g1, g2⟩, -, ⟨bx, e1, e2⟩, ⟨bz, e3, e4⟩, -⟩
  (refine sya_list [[], [], [], [2], [1, 2, 3], [1, 2, 3, 4], [1, 2, 3, 4, 5], [], [], [0, 1, 2, 3, 4, 7, 8], [0, 1, 2, 3, 4, 5, 6, 7, 8, 9]] ?_ ?_; kernel_rfl)
  refine SyL.weaken (fr' := [(22, natV m), (28, natV r), (7, .pointer (some ⟨b7, 0, none⟩)), (8, .pointer (some ⟨b8, 0, none⟩)), (4, .pointer (some ⟨b4, 0, none⟩)), (6, .pointer (some ⟨b6, 0, none⟩)), (5, .int .i64 0)])
    (L' := [.blk b8 44 (List.replicate 16 (.int .u64 0)), .blk b7 44 (natC m), .blk b4 44 (List.replicate 16 (.int .u64 0)), .blk b6 149 (natC m)]) ?_ ?_ ?_
  rotate_left
  · (repeat' (first | exact Sub.nil | refine Sub.cons rfl ?_ ?_ | rfl))
    · exact g3
    · exact g1
  · show SubR _ ((ρ 9).2 ++ ((ρ 8).2 ++ ((ρ 4).2 ++ ((ρ 3).2 ++ _))))
    rw [g2, g4, e2, e4]
    exact SubR.go2
  repeat' (first | refine sy_seqC ?_ | refine syl_nil ?_ | refine sy_block ?_ | refine syx_then ?_ | refine syx_go ?_ | (refine sy_region (id := 5) ?_; refine yv op_zeroN (k := ?_); refine yv (op_loads (B := natC m)) (k := ?_); refine yv (op_callV (hc := fun _ _ _ _ => (h1 _))) (k := ?_); (refine y_new ?_; intro _); (refine y_new ?_; intro _); refine yn (op_storeNat (n := 0)) (k := ?_); refine yn (op_storeNat (n := u)) (k := ?_)) | (refine syl_id ?_; first | refine yn (op_storeNat (n := r)) (k := ?_) | fail) | fail)
  rename_i b9 b10
  clear hr h1 hz hla hlr hlu
  refine sy_loop (γ := Nat × Nat × Nat × Nat) (fun _ => [(4, .pointer (some ⟨b4, 0, none⟩)), (5, .int .i64 0), (6, .pointer (some ⟨b6, 0, none⟩)), (7, .pointer (some ⟨b7, 0, none⟩)), (8, .pointer (some ⟨b8, 0, none⟩)), (9, .pointer (some ⟨b9, 0, none⟩)), (10, .pointer (some ⟨b10, 0, none⟩))])
    (fun g => [.blk b7 44 (natC g.1), .blk b8 44 (natC g.2.1), .blk b9 44 (natC g.2.2.1), .blk b10 44 (natC g.2.2.2), .blk b6 149 (natC m), .blk b4 44 (List.replicate 16 (Value.int IntKind.u64 0))])
    (fun g => euc m g.1 g.2.1 g.2.2.1 g.2.2.2 = I ∧ g.1 ≤ m ∧ g.2.1 ≤ m ∧ g.2.2.1 < m ∧ g.2.2.2 < m) (fun g => g.2.1) (m, r, 0, u) ⟨hinv.symm, Nat.le_refl _, Nat.le_of_lt l1, h, l2⟩ ?_ ?_ ?_
  · exact Sub.go
  · dsimp only
    exact SubR.go2
  clear hinv l1 l2
  rintro ⟨r, s, x, y⟩ ⟨hI, hr, hs, hx, hy⟩
  dsimp only at hI hr hs hx hy ⊢
  have hrW := Nat.lt_of_le_of_lt hr hm
  have hsW := Nat.lt_of_le_of_lt hs hm
  have hz := fun w' => isZero_fn s w' hsW
  have hlr := natC_len r
  have hls := natC_len s
  have hlx := natC_len x
  have hly := natC_len y
  have hl1 := natC_len 1
  rcases Nat.eq_zero_or_pos s with h0 | h0
  · subst h0
    rw [euc_zero] at hI
    subst hI
    dsimp only
    have hf1 := fun w' => fromInt_fn 1 w' (by decide)
    by_cases h1 : r = 1
    · rw [if_pos h1]
      have hne : decide (r ≠ 1) = false := decide_eq_false (fun h => h h1)
      repeat' (first | refine sy_seqC ?_ | refine syl_nil ?_ | refine sy_if_f rfl ?_ | refine sy_skip ?_ | refine sy_ret ?_ | refine sy_exit ?_ | refine syx_then ?_ | refine syx_go ?_ | (refine sy_region (id := 6) ?_; refine yv (op_loads (B := natC 0)) (k := ?_); refine yv (op_callV (hc := fun _ _ _ _ => (hz _))) (k := ?_); refine y_unOp ?_) | (refine sy_region (id := 11) ?_; refine yv (op_callV (hc := fun _ _ _ _ => (hf1 _))) (k := ?_); refine y_move ?_; refine y_extract ?_; refine y_extract ?_; (refine y_new ?_; intro _); refine yn (op_storeNat (n := 1)) (k := ?_); refine y_assign ?_) | (refine sy_region (id := 12) ?_; refine yv (op_loads (B := natC r)) (k := ?_); refine yv (op_loads (B := natC 1)) (k := ?_); refine yv (op_neNat (a := r) (b := 1) (r := false) natTy hrW (by decide) hne) (k := ?_)) | (refine sy_region (id := 14) ?_; refine yv (op_loads (B := natC x)) (k := ?_); refine yn (op_storeNat (n := x)) (k := ?_); refine y_assign ?_) | fail)
      exact ret2 rfl (resCells (B := natC x) rfl (ty rfl) rfl Has.go Seg.all (natC_len _).symm) (resTmp rfl) SubR.nil ⟨rfl, rfl⟩
    · rw [if_neg h1]
      have hne : decide (r ≠ 1) = true := decide_eq_true h1
      repeat' (first | refine sy_seqC ?_ | refine syl_nil ?_ | refine sy_if_t rfl ?_ | refine sy_if_f rfl ?_ | refine sy_ret ?_ | refine sy_exit ?_ | refine syx_then ?_ | refine syx_go ?_ | refine syx_then_ret ?_ | (refine sy_region (id := 6) ?_; refine yv (op_loads (B := natC 0)) (k := ?_); refine yv (op_callV (hc := fun _ _ _ _ => (hz _))) (k := ?_); refine y_unOp ?_) | (refine sy_region (id := 11) ?_; refine yv (op_callV (hc := fun _ _ _ _ => (hf1 _))) (k := ?_); refine y_move ?_; refine y_extract ?_; refine y_extract ?_; (refine y_new ?_; intro _); refine yn (op_storeNat (n := 1)) (k := ?_); refine y_assign ?_) | (refine sy_region (id := 12) ?_; refine yv (op_loads (B := natC r)) (k := ?_); refine yv (op_loads (B := natC 1)) (k := ?_); refine yv (op_neNat (a := r) (b := 1) (r := true) natTy hrW (by decide) hne) (k := ?_)) | (refine sy_region (id := 13) ?_; refine yv op_zeroN (k := ?_); refine yn (op_storeNat (n := 0)) (k := ?_); refine y_assign ?_) | fail)
      exact ret2 rfl (resCells (B := natC 0) rfl (ty rfl) rfl Has.go Seg.all (natC_len _).symm) (resTmp rfl) SubR.nil ⟨rfl, rfl⟩
  · simp only [decide_eq_false (show ¬ s = 0 by omega)] at hz
    rw [euc_pos m r s x y h0] at hI
    have hrs := Nat.mod_lt r h0
    have hdv := fun w' => divide_fn r s w' hrW hsW h0
    have hqW : r / s < 18446744073709551616 ^ 16 := Nat.lt_of_le_of_lt (Nat.div_le_self _ _) hrW
    have hres := fun w' b' (h' : w'.rangeAt b' 0 (rowN [r / s])) => residues1_fn m (r / s) b' w' hm h hqW h'
    have hpr := fun w' => product_fn m (r / s % m) y w' hm (Nat.mod_lt _ h) hy
    have hd2 := dm_lt x (r / s * y % m) h
    have hdf := fun w' => difference_fn m x (r / s * y % m) w' hm hx (Nat.mod_lt _ h)
    have e1 : r / s % m * y % m = r / s * y % m := Nat.mod_mul_mod ..
    rw [e1] at hpr
    have lq := natC_len (r / s)
    have lt := natC_len (r % s)
    have lqm := natC_len (r / s % m)
    have lp := natC_len (r / s * y % m)
    have lz := natC_len (dm m x (r / s * y % m))
    clear e1
    generalize dm m x (r / s * y % m) = z at *
    generalize r / s * y % m = p at *
    generalize r / s % m = qm at *
    generalize r / s = q at *
    generalize r % s = t at *
    repeat' (first | refine sy_seqC ?_ | refine syl_nil ?_ | refine sy_if_t rfl ?_ | refine sy_block ?_ | refine sy_skip ?_ | refine syx_then ?_ | refine syx_go ?_ | (refine sy_region (id := 6) ?_; refine yv (op_loads (B := natC s)) (k := ?_); refine yv (op_callV (hc := fun _ _ _ _ => (hz _))) (k := ?_); refine y_unOp ?_) | (refine sy_region (id := 7) ?_; refine yv (op_loads (B := natC r)) (k := ?_); refine yv (op_loads (B := natC s)) (k := ?_); refine yv (op_callV (hc := fun _ _ _ _ => (hdv _))) (k := ?_); refine y_move ?_; refine y_extract ?_; refine y_extract ?_; refine y_extract ?_; (refine y_new ?_; intro _); (refine y_new ?_; intro _); refine yn (op_storeNat (n := q)) (k := ?_); refine yn (op_storeNat (n := t)) (k := ?_); refine y_assign ?_) | fail)
    rename_i b11 b12
    refine Sy.weaken (fr' := [(4, .pointer (some ⟨b4, 0, none⟩)), (5, .int .i64 0), (6, .pointer (some ⟨b6, 0, none⟩)), (7, .pointer (some ⟨b7, 0, none⟩)), (8, .pointer (some ⟨b8, 0, none⟩)), (9, .pointer (some ⟨b9, 0, none⟩)), (10, .pointer (some ⟨b10, 0, none⟩)), (11, .pointer (some ⟨b11, 0, none⟩)), (12, .pointer (some ⟨b12, 0, none⟩))])
      (L' := [.blk b7 44 (natC r), .blk b8 44 (natC s)] ++ [.blk b12 44 (natC t), .blk b11 44 (natC q), .blk b9 44 (natC x), .blk b10 44 (natC y), .blk b6 149 (natC m), .blk b4 44 (List.replicate 16 (Value.int IntKind.u64 0))]) ?_ (by exact Sub.go) ?_
    rotate_left
    · show SubR [.blk b7 44 (natC r), .blk b8 44 (natC s), .blk b12 44 (natC t), .blk b11 44 (natC q), .blk b9 44 (natC x), .blk b10 44 (natC y), .blk b6 149 (natC m), .blk b4 44 (List.replicate 16 (Value.int IntKind.u64 0))] _
      exact SubR.go2
    refine sy_apart (γ := Unit) (fun _ => [(4, .pointer (some ⟨b4, 0, none⟩)), (5, .int .i64 0), (6, .pointer (some ⟨b6, 0, none⟩)), (7, .pointer (some ⟨b7, 0, none⟩)), (8, .pointer (some ⟨b8, 0, none⟩)), (9, .pointer (some ⟨b9, 0, none⟩)), (10, .pointer (some ⟨b10, 0, none⟩)), (11, .pointer (some ⟨b11, 0, none⟩)), (12, .pointer (some ⟨b12, 0, none⟩))]) (fun _ => [.blk b7 44 (natC s), .blk b8 44 (natC t)]) (fun _ => True) _ _ (fun w1 ds1 hk1 hh1 => ?_) (fun _ _ => ?_)
    · obtain ⟨hb6, hn6⟩ := hh1.out (b := b12) (T := 44) (C := natC t) (by exact Has.here)
      have hr6 : w1.rangeAt b12 0 (natC t) := blk_range hb6 Seg.all
      refine sy_drawA (id := 8) mixed ?_
      (refine sye_part 3 3 [[], [], [0], [0, 1, 2]] [[], [], [], []] (some 2) rfl ?_ ?_ ?_; kernel_rfl; kernel_rfl; refine dcE (fun _ _ => op_loads (B := natC s)) (k := ?_); refine dcE (fun _ _ => op_loads_old (B := natC t) (hv := hr6) (hn := hn6)) (k := ?_); try refine dh_0nE (h := ?_))
      refine dh_rnE (R := fun _ _ Nw => Nw = [.blk b7 44 (natC s), .blk b8 44 (natC s)]) (fun _ _ _ => rfl)
        (fun ρ hρ => OpT.mono (op_storeNat (n := s) (C := natC r) (L' := [.blk b7 44 (natC s), .blk b8 44 (natC s)])) fun v L' h => ?_) (h := ?_)
      · obtain ⟨rfl, rfl⟩ := h
        exact ⟨_, (List.append_nil _).symm, rfl⟩
      refine dh_0E (h := ?_)
      rintro ρ ⟨f', -⟩
      (refine sya_list [[], [], [0], [0, 1, 2]] ?_ ?_; kernel_rfl)
      have f' : (ρ 2).2 = [.blk b7 44 (natC s), .blk b8 44 (natC s)] := f'
      refine SyL.weaken (fr' := (43, .agg (natC t).toArray) :: [(4, .pointer (some ⟨b4, 0, none⟩)), (5, .int .i64 0), (6, .pointer (some ⟨b6, 0, none⟩)), (7, .pointer (some ⟨b7, 0, none⟩)), (8, .pointer (some ⟨b8, 0, none⟩)), (9, .pointer (some ⟨b9, 0, none⟩)), (10, .pointer (some ⟨b10, 0, none⟩)), (11, .pointer (some ⟨b11, 0, none⟩)), (12, .pointer (some ⟨b12, 0, none⟩))])
        (L' := [.blk b7 44 (natC s), .blk b8 44 (natC s)]) ?_ ?_ ?_
      · repeat' (first | refine syl_nil ?_ | refine syx_then ?_ | (refine syl_id ?_; first | refine yn (op_storeNat (n := t)) (k := ?_) | fail) | fail)
        exact syx_cut () trivial (by exact Sub.go) (by exact SubR.go)
      · exact Sub.go
      · show SubR _ ((ρ 2).2 ++ [])
        rw [f']
        exact SubR.go2
    · repeat' (first | refine sy_seqC ?_ | refine syx_then ?_ | refine syx_go ?_ | fail)
      refine sy_drawA (id := 9) mixed ?_
      (refine sye_part 10 10 [[], [], [], [2], [1, 2, 3], [1, 2, 3, 4], [1, 2, 3, 4, 5], [], [0, 1, 2, 3, 4, 5, 6, 7], [], [0, 1, 2, 3, 4, 5, 6, 7, 8, 9]] [[], [], [], [], [], [], [], [], [], [], []] none rfl ?_ ?_ ?_; kernel_rfl; kernel_rfl; refine dcE (fun _ _ => op_loads (B := natC m)) (k := ?_); refine dcE (fun _ _ => op_loads (B := natC m)) (k := ?_); refine dcE (fun _ _ => op_loads (B := natC q)) (k := ?_); try refine dh_0nE (h := ?_))
      refine dh_rE (R := fun _ => SlOf 44 1 (rowN [q])) (fun _ _ _ => rfl) (fun ρ hρ => OpT.mono (op_buildN1 (x := q)) fun v L' h => ?_) (h := ?_)
      · obtain ⟨b, rfl, rfl⟩ := h
        exact ⟨[_], rfl, b, rfl, rfl⟩
      refine dh_rE (R := fun _ => SlOf 44 1 (natC qm)) (fun _ _ _ => rfl) (fun ρ hρ => ?_) (h := ?_)
      · obtain ⟨⟨bx, e1, e2⟩, -⟩ := hρ
        refine OpT.mono (op_call0 (vs := [natV m, .slice (some ⟨bx, 0, none⟩) 1 1]) (ha := by show some [_, (ρ 3).1] = _; rw [e1]; rfl) (hc := fun w' X hk hh => hres w' bx ((Reads.blk (T := 44) (by show Has ((ρ 3).2 ++ _) _; rw [e2]; exact Has.here) Seg.all) w' X hk hh))) fun v L' h => ?_
        obtain ⟨R, rfl, bc, rfl, rfl⟩ := h
        exact ⟨_, rfl, bc, rfl, rfl⟩
      refine dh_vE (u := fun ρ => ptrOf (ρ 4).1) (fun ρ hρ => ?_) (fun _ => rfl) rfl (fun ρ ρ' h => by rw [h 4 (by decide)]) (h := ?_)
      · obtain ⟨⟨bx, e1, e2⟩, -⟩ := hρ
        refine OpT.mono (op_indexN (b := bx) (off := 0) (n := 1) (c := 1) (j := 0) (hx := by show some (ρ 4).1 = _; rw [e1])) fun v L' h => ?_
        obtain ⟨rfl, rfl⟩ := h
        exact ⟨by rw [e1]; rfl, rfl⟩
      refine dcE (u := natV qm) (fun ρ hρ => ?_) (k := ?_)
      · obtain ⟨⟨bx, e1, e2⟩, -⟩ := hρ
        exact op_loads (B := natC qm) (b := bx) (off := 0) (T := 44) (hx := by show some (ptrOf (ρ 4).1) = _; rw [e1]; rfl) (hL := by show Has ((ρ 4).2 ++ _) _; rw [e2]; exact Has.here) (hv := Seg.all) (hz := lqm.symm)
      (skip; refine dcE (fun _ _ => op_loads (B := natC y)) (k := ?_); refine dcE (fun _ _ => op_callV (hc := fun _ _ _ _ => (hpr _))) (k := ?_); try refine dh_0nE (h := ?_))
      refine dh_rE (R := fun _ => PtrOf 44 (List.replicate 16 (.int .u64 0))) (fun _ _ _ => rfl) (fun ρ hρ => OpT.mono op_alloc fun v L' h => ?_) (h := ?_)
      · obtain ⟨b, rfl, rfl⟩ := h
        exact ⟨[_], rfl, b, rfl, rfl⟩
      refine dh_0E (h := ?_)
      rintro ρ ⟨⟨b14, g1, g2⟩, ⟨bx, e1, e2⟩, ⟨bz, e3, e4⟩, -⟩
      (refine sya_list [[], [], [], [2], [1, 2, 3], [1, 2, 3, 4], [1, 2, 3, 4, 5], [], [0, 1, 2, 3, 4, 5, 6, 7], [], [0, 1, 2, 3, 4, 5, 6, 7, 8, 9]] ?_ ?_; kernel_rfl)
      refine SyL.weaken (fr' := (52, natV p) :: (14, .pointer (some ⟨b14, 0, none⟩)) :: [(4, .pointer (some ⟨b4, 0, none⟩)), (5, .int .i64 0), (6, .pointer (some ⟨b6, 0, none⟩)), (7, .pointer (some ⟨b7, 0, none⟩)), (8, .pointer (some ⟨b8, 0, none⟩)), (9, .pointer (some ⟨b9, 0, none⟩)), (10, .pointer (some ⟨b10, 0, none⟩)), (11, .pointer (some ⟨b11, 0, none⟩)), (12, .pointer (some ⟨b12, 0, none⟩))])
        (L' := [.blk b14 44 (List.replicate 16 (.int .u64 0)), .blk b7 44 (natC s), .blk b8 44 (natC t), .blk b9 44 (natC x), .blk b10 44 (natC y), .blk b6 149 (natC m), .blk b4 44 (List.replicate 16 (Value.int IntKind.u64 0))]) ?_ ?_ ?_
      rotate_left
      · (repeat' (first | exact Sub.nil | refine Sub.cons rfl ?_ ?_ | rfl))
        · exact g1
      · show SubR _ ((ρ 9).2 ++ ((ρ 4).2 ++ ((ρ 3).2 ++ _)))
        rw [g2, e2, e4]
        exact SubR.go2
      repeat' (first | refine syl_nil ?_ | refine syx_then ?_ | refine syx_go ?_ | refine syx_in ?_ | (refine sy_draw (id := 10) 5 [[], [], [], [], [1, 2, 3], [0, 1, 2, 3, 4], [0, 1, 2, 3, 4, 5]] mixed ?_ ?_; kernel_rfl; refine dc (fun _ _ => op_loads (B := natC y)) (k := ?_); refine dc (fun _ _ => op_loads (B := natC m)) (k := ?_); refine dc (fun _ _ => op_loads (B := natC x)) (k := ?_); refine dc (fun _ _ => op_loads (B := natC p)) (k := ?_); refine dc (fun _ _ => op_callV (hc := fun _ _ _ _ => (hdf _))) (k := ?_); refine dh_0n ?_; refine yn (op_storeNat (n := y)) (k := ?_); refine yn (op_storeNat (n := z)) (k := ?_)) | (refine syl_id ?_; first | refine yn (op_storeNat (n := p)) (k := ?_) | fail) | fail)
      refine syx_back (s, t, y, z) ⟨hI, hs, Nat.le_of_lt (Nat.lt_of_lt_of_le hrs hs), hy, hd2⟩ ?_ ?_ ?_
      · show t < s; exact hrs
      · exact Sub.go
      · dsimp only
        exact SubR.go2
theorem inverse_fn (a m : Nat) (w : World) (ha : a < 18446744073709551616 ^ 16) (hm : m < 18446744073709551616 ^ 16) :
    Sy.Fn Tryz.prog 82 [natV a, natV m] w No (Gives (invR m a)) := by
  rcases Nat.eq_zero_or_pos m with h | h
  · subst h; exact inverse_zero a w ha
  · exact inverse_pos a m w ha hm h
end Go.Proofs.YtaeddmcoanefhaaGreatDoor
end
