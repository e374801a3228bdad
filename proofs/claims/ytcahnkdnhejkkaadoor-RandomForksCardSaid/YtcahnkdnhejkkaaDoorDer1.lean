/- Layer derive, walked: numbers, and the first bytes of numbered blocks. -/
import Derived.Test.YtcahnkdnhejkkaaDoorSyScope
import Derived.Test.YtcahnkdnhejkkaaDoorMacSpec
import Derived.Test.YtcahnkdnhejkkaaDoorMac5
set_option linter.all false
namespace Go.Sh
open Go Go.Sy
/-- What is handed over: a number, and a block of its own. -/
def ArgN (T : Nat) (_ : Nat → Prop) (x : Nat × List UInt8) (vs : List Value) (RA : List Res) (_ : World) : Prop := ∃ b, vs = [.int .i64 x.1, .slice (some ⟨b, 0, none⟩) 32 32] ∧ RA = [.blk b T (x.2.map Sy.v8)]
def numbered (f : Nat → List UInt8) (q : Nat) : List (Nat × List UInt8) := (List.range q).map fun i => (i + 1, f (i + 1))
theorem numbered_len (f : Nat → List UInt8) (q : Nat) : (numbered f q).length = q := by unfold numbered; simp
theorem numbered_get (f : Nat → List UInt8) (q k : Nat) (h : k < (numbered f q).length) : (numbered f q)[k] = (k + 1, f (k + 1)) := by
  have : (numbered f q)[k]? = some (k + 1, f (k + 1)) := by
    rw [numbered_len] at h
    unfold numbered
    rw [List.getElem?_map, List.getElem?_range h]; rfl
  rw [List.getElem?_eq_getElem h] at this
  exact Option.some.inj this
end Go.Sh
namespace Go.Proofs.YtcahnkdnhejkkaaDoor
open Go Go.Sy Go.Sh Go.RowKit
attribute [local irreducible] Sy SyL SyX Sy.Fn callFunc Sh.sum kxor kpad kbase macA HashIs MacIs hmac
set_option maxRecDepth 10000
theorem shrI (x k : Nat) (kk : IntKind) (h : k < 64) : Op.shift .shr .i64 (x : Int) kk (k : Int) = pure (.int .i64 ((x / 2 ^ k : Nat) : Int)) := by
  rw [shift_shr_any _ _ _ _ (Int.natCast_nonneg _)]; congr 2
  rw [Int.toNat_natCast, show min k IntKind.i64.bits = k from Nat.min_eq_left (Nat.le_of_lt h), Int.natCast_ediv, Int.natCast_pow]; rfl
theorem v8_of (x : Nat) : IntKind.u8.wrap (x : Int) = Wd.n8 (UInt8.ofNat x) := by rw [Wd.wrap_u8_nat, Wd.n8_of_nat]
theorem number_fn (v : Nat) (w : World) (hv : v < 4294967296) : Sy.Fn Tryd.prog 79 [.int .i64 v] w No (fun r R => ∃ b, r = .slice (some ⟨b, 0, none⟩) 4 4 ∧ R = [.blk b 5 ((four v).map Sy.v8)]) := by
  refine fn_enter Tryd.func79 rfl Tryd.ntmps79 (by simp) Holds.nil ?_
  repeat' (first | refine sy_seqC ?_ | refine syl_nil ?_ | refine sy_if_t rfl ?_ | refine sy_if_f rfl ?_ | refine sy_block ?_ | refine sy_skip ?_ | refine sy_ret ?_ | refine sy_exit ?_ | refine sy_label ?_ | refine syx_then ?_ | refine syx_go ?_ | refine syx_then_ret ?_ | refine syx_then_exit ?_ | refine syx_in ?_ | refine syx_in_ret ?_ | refine syx_in_here ?_ | refine syx_in_past rfl ?_ | (apply syx_begin; (focus ((repeat (first | exact Rem.here | apply Rem.there)); done)); assumption) | (refine sy_region (id := 0) ?_; try refine y_assign ?_) | (refine sy_region (id := 1) ?_; try refine y_move ?_; try (first | refine yv (op_shr (hr := shrI v 24 _ (by decide))) (k := ?_) | refine yv (op_shr (hr := shrI v 16 _ (by decide))) (k := ?_) | refine yv (op_shr (hr := shrI v 8 _ (by decide))) (k := ?_) | fail); try (first | refine yv (op_conv (hr := v8_of _)) (k := ?_) | refine y_convert ?_ | fail); try refine y_move ?_; try (first | refine yv (op_shr (hr := shrI v 24 _ (by decide))) (k := ?_) | refine yv (op_shr (hr := shrI v 16 _ (by decide))) (k := ?_) | refine yv (op_shr (hr := shrI v 8 _ (by decide))) (k := ?_) | fail); try (first | refine yv (op_conv (hr := v8_of _)) (k := ?_) | refine y_convert ?_ | fail); try refine y_move ?_; try (first | refine yv (op_shr (hr := shrI v 24 _ (by decide))) (k := ?_) | refine yv (op_shr (hr := shrI v 16 _ (by decide))) (k := ?_) | refine yv (op_shr (hr := shrI v 8 _ (by decide))) (k := ?_) | fail); try (first | refine yv (op_conv (hr := v8_of _)) (k := ?_) | refine y_convert ?_ | fail); try refine y_move ?_; try (first | refine yv (op_conv (hr := v8_of _)) (k := ?_) | refine y_convert ?_ | fail); try (first | (refine ys op_buildSlice0 (k := ?_); rintro _ _ ⟨_, rfl, rfl⟩) | (refine ys op_buildSlice (k := ?_); rintro _ _ ⟨_, rfl, rfl⟩) | fail); try refine y_assign ?_) | (refine syl_id ?_; first | refine yv (op_shr (hr := shrI v 24 _ (by decide))) (k := ?_) | refine yv (op_shr (hr := shrI v 16 _ (by decide))) (k := ?_) | refine yv (op_shr (hr := shrI v 8 _ (by decide))) (k := ?_) | refine yv (op_conv (hr := v8_of _)) (k := ?_) | refine y_assign ?_ | refine y_convert ?_ | refine y_move ?_ | (refine ys op_buildSlice0 (k := ?_); rintro _ _ ⟨_, rfl, rfl⟩) | (refine ys op_buildSlice (k := ?_); rintro _ _ ⟨_, rfl, rfl⟩) | fail) | refine sy_region ?_ | fail)
  exact ret1 rfl (resTmp rfl) (by (repeat' (first | exact SubR.nil | (apply SubR.same; with_reducible (focus ((repeat (first | exact Rem.here | apply Rem.there)); done))) | (apply SubR.blk; (focus ((repeat (first | exact Rem.here | apply Rem.there)); done))) | (apply SubR.pick; (focus ((repeat (first | exact Rem.here | apply Rem.there)); done))) | rfl))) ⟨_, rfl, rfl⟩
theorem numbered1_it (b1 bf : Nat) (fst cap : List Value) (f : Nat → List UInt8) (q : Nat) (w : World) (M : Nat → Prop) (hcell : w.cell? ⟨b1, 0, none⟩ = some (.func (.func bf) fst.toArray cap.toArray)) (hn : ¬ M b1) (hq : q < 100000) (h32 : ∀ i, (f i).length = 32)
    (en : ∀ args w, (callFunc bf args).run Tryd.prog w = .ok (.enter bf args) w) (hb : ∀ w' i, Keep M w w' → 1 ≤ i → i ≤ q → Sy.Fn Tryd.prog bf (fst ++ [.int .i64 (i : Nat)] ++ cap) w' No (Gives (.agg ((f i).map Sy.v8).toArray))) :
    IterE True Tryd.prog 108 [.pointer (some ⟨b1, 0, none⟩)] (numbered f q) (ArgN 24) w M [] := by
  intro lp J Jx j0 hnv hJ0 hh hY
  have hnv := hnv trivial
  rw [numbered_len] at hnv
  refine fn_enter Tryd.func108 rfl Tryd.ntmps108 (by simp) hh ?_
  repeat' (first | refine sy_seqC ?_ | refine syl_nil ?_ | refine sy_if_t rfl ?_ | refine sy_if_f rfl ?_ | refine sy_block ?_ | refine sy_skip ?_ | refine sy_ret ?_ | refine sy_exit ?_ | refine sy_label ?_ | refine syx_then ?_ | refine syx_go ?_ | refine syx_then_ret ?_ | refine syx_then_exit ?_ | refine syx_in ?_ | refine syx_in_ret ?_ | refine syx_in_here ?_ | refine syx_in_past rfl ?_ | (apply syx_begin; (focus ((repeat (first | exact Rem.here | apply Rem.there)); done)); assumption) | (refine sy_region (id := 0) ?_; try refine y_assign ?_) | (refine syl_id ?_; first | refine y_assign ?_ | fail) | refine sy_region ?_ | fail)
  refine sy_loop (γ := Nat × Res) (fun g => [(0, .func (.yield lp) #[] #[]), (1, .pointer (some ⟨b1, 0, none⟩)), (3, .int .i64 ((g.1 + 1 : Nat) : Int))]) (fun g => [g.2]) (fun g => g.1 ≤ q ∧ J g.1 g.2) (fun g => q - g.1) (0, j0) ⟨Nat.zero_le _, hJ0⟩ ?_ ?_ ?_
  · (repeat' (first | exact Sub.nil | refine Sub.cons rfl ?_ ?_ | rfl))
  · (repeat' (first | exact SubR.nil | (apply SubR.same; with_reducible (focus ((repeat (first | exact Rem.here | apply Rem.there)); done))) | (apply SubR.blk; (focus ((repeat (first | exact Rem.here | apply Rem.there)); done))) | (apply SubR.pick; (focus ((repeat (first | exact Rem.here | apply Rem.there)); done))) | rfl))
  rintro ⟨k, j⟩ ⟨hk, hJ⟩
  dsimp only at hk hJ ⊢
  have hkq : k < q := by
    rcases Nat.lt_or_ge k q with h | h
    · exact h
    · obtain rfl : k = q := by omega
      exact (hnv j hJ).elim
  have hf := h32 (k + 1)
  have hkx : k < (numbered f q).length := by rw [numbered_len]; exact hkq
  have hx : (numbered f q)[k] = (k + 1, f (k + 1)) := numbered_get f q k hkx
  repeat' (first | refine sy_seqC ?_ | refine syl_nil ?_ | refine sy_if_t rfl ?_ | refine sy_if_f rfl ?_ | refine sy_block ?_ | refine sy_skip ?_ | refine sy_ret ?_ | refine sy_exit ?_ | refine sy_label ?_ | refine syx_then ?_ | refine syx_go ?_ | refine syx_then_ret ?_ | refine syx_then_exit ?_ | refine syx_in ?_ | refine syx_in_ret ?_ | refine syx_in_here ?_ | refine syx_in_past rfl ?_ | (apply syx_begin; (focus ((repeat (first | exact Rem.here | apply Rem.there)); done)); assumption) | (refine sy_region (id := 2) ?_; try (first | refine yv (op_load_old (hv := hcell) (hn := hn)) (k := ?_) | refine y_load ?_ | fail); try refine y_move ?_; try refine yv (op_callFV (he := en) (hc := fun w' X hk hh => hb w' (k + 1) hk (by omega) (by omega))) (k := ?_); try (refine y_new ?_; intro _); try refine y_store ?_) | (refine syl_id ?_; first | refine yv (op_load_old (hv := hcell) (hn := hn)) (k := ?_) | refine yv (op_callFV (he := en) (hc := fun w' X hk hh => hb w' (k + 1) hk (by omega) (by omega))) (k := ?_) | refine y_load ?_ | refine y_move ?_ | refine y_store ?_ | (refine y_new ?_; intro _) | fail) | refine sy_region ?_ | fail)
  rename_i b4
  repeat' (first | refine sy_seqC ?_ | refine syl_nil ?_ | refine sy_if_t rfl ?_ | refine sy_if_f rfl ?_ | refine sy_block ?_ | refine sy_skip ?_ | refine sy_ret ?_ | refine sy_exit ?_ | refine sy_label ?_ | refine syx_then ?_ | refine syx_go ?_ | refine syx_then_ret ?_ | refine syx_then_exit ?_ | refine syx_in ?_ | refine syx_in_ret ?_ | refine syx_in_here ?_ | refine syx_in_past rfl ?_ | (apply syx_begin; (focus ((repeat (first | exact Rem.here | apply Rem.there)); done)); assumption) | (refine sy_region (id := 3) ?_; try refine y_move ?_; try refine y_move ?_; try refine y_slice ?_; try (refine ys (op_yield hY hkx hJ (hL := RemL.cons (by exact Rem.there Rem.here) rfl (RemL.cons (by exact Rem.here) rfl RemL.nil)) (harg := fun w' X _ _ => by rw [hx]; exact ⟨b4, rfl, rfl⟩)) (k := ?_); rintro _ _ ⟨y, j', rfl, rfl, hy⟩; cases y); try refine y_unOp ?_) | (refine syl_id ?_; first | (refine ys (op_yield hY hkx hJ (hL := RemL.cons (by exact Rem.there Rem.here) rfl (RemL.cons (by exact Rem.here) rfl RemL.nil)) (harg := fun w' X _ _ => by rw [hx]; exact ⟨b4, rfl, rfl⟩)) (k := ?_); rintro _ _ ⟨y, j', rfl, rfl, hy⟩; cases y) | refine y_move ?_ | refine y_slice ?_ | refine y_unOp ?_ | fail) | refine sy_region ?_ | fail)
  · repeat' (first | refine sy_seqC ?_ | refine syl_nil ?_ | refine sy_if_t rfl ?_ | refine sy_if_f rfl ?_ | refine sy_block ?_ | refine sy_skip ?_ | refine sy_ret ?_ | refine sy_exit ?_ | refine sy_label ?_ | refine syx_then ?_ | refine syx_go ?_ | refine syx_then_ret ?_ | refine syx_then_exit ?_ | refine syx_in ?_ | refine syx_in_ret ?_ | refine syx_in_here ?_ | refine syx_in_past rfl ?_ | (apply syx_begin; (focus ((repeat (first | exact Rem.here | apply Rem.there)); done)); assumption) | (refine sy_region (id := 3) ?_; try refine y_move ?_; try refine y_move ?_; try refine y_slice ?_; try refine y_unOp ?_) | (refine syl_id ?_; first | refine y_move ?_ | refine y_slice ?_ | refine y_unOp ?_ | fail) | refine sy_region ?_ | fail)
    exact ret0 rfl (by (repeat' (first | exact SubR.nil | (apply SubR.same; with_reducible (focus ((repeat (first | exact Rem.here | apply Rem.there)); done))) | (apply SubR.blk; (focus ((repeat (first | exact Rem.here | apply Rem.there)); done))) | (apply SubR.pick; (focus ((repeat (first | exact Rem.here | apply Rem.there)); done))) | rfl))) ⟨j', rfl, .inr ⟨k + 1, by omega, hy⟩⟩
  · repeat' (first | refine sy_seqC ?_ | refine syl_nil ?_ | refine sy_if_t rfl ?_ | refine sy_if_f rfl ?_ | refine sy_block ?_ | refine sy_skip ?_ | refine sy_ret ?_ | refine sy_exit ?_ | refine sy_label ?_ | refine syx_then ?_ | refine syx_go ?_ | refine syx_then_ret ?_ | refine syx_then_exit ?_ | refine syx_in ?_ | refine syx_in_ret ?_ | refine syx_in_here ?_ | refine syx_in_past rfl ?_ | (apply syx_begin; (focus ((repeat (first | exact Rem.here | apply Rem.there)); done)); assumption) | (refine sy_region (id := 1) ?_; try refine y_move ?_; try refine y_add ?_; try refine y_assign ?_) | (refine syl_id ?_; first | refine y_assign ?_ | refine y_add ?_ | refine y_move ?_ | fail) | refine sy_region ?_ | fail)
    refine syx_back (k + 1, j') ⟨hkq, hy⟩ ?_ ?_ ?_
    · show q - (k + 1) < q - k; omega
    · (repeat' (first | exact Sub.nil | refine Sub.cons rfl ?_ ?_ | rfl))
    · (repeat' (first | exact SubR.nil | (apply SubR.same; with_reducible (focus ((repeat (first | exact Rem.here | apply Rem.there)); done))) | (apply SubR.blk; (focus ((repeat (first | exact Rem.here | apply Rem.there)); done))) | (apply SubR.pick; (focus ((repeat (first | exact Rem.here | apply Rem.there)); done))) | rfl))
theorem numbered_fn (bf : Nat) (fst cap : List Value) (w : World) : Sy.Fn Tryd.prog 75 [.func (.func bf) fst.toArray cap.toArray] w No (fun v R => ∃ b1, v = .func (.func 108) #[] #[.pointer (some ⟨b1, 0, none⟩)] ∧ R = [.blk b1 129 [.func (.func bf) fst.toArray cap.toArray]]) := by
  refine fn_enter Tryd.func75 rfl Tryd.ntmps75 (by simp) Holds.nil ?_
  repeat' (first | refine sy_seqC ?_ | refine syl_nil ?_ | refine sy_if_t rfl ?_ | refine sy_if_f rfl ?_ | refine sy_block ?_ | refine sy_skip ?_ | refine sy_ret ?_ | refine sy_exit ?_ | refine sy_label ?_ | refine syx_then ?_ | refine syx_go ?_ | refine syx_then_ret ?_ | refine syx_then_exit ?_ | refine syx_in ?_ | refine syx_in_ret ?_ | refine syx_in_here ?_ | refine syx_in_past rfl ?_ | (apply syx_begin; (focus ((repeat (first | exact Rem.here | apply Rem.there)); done)); assumption) | (refine sy_region (id := 0) ?_; try (refine y_new ?_; intro _); try refine y_assign ?_) | (refine sy_region (id := 1) ?_; try refine y_makeFunc ?_; try refine y_assign ?_) | (refine syl_id ?_; first | refine y_assign ?_ | refine y_makeFunc ?_ | (refine y_new ?_; intro _) | fail) | refine sy_region ?_ | fail)
  exact ret1 rfl (resTmp rfl) (by (repeat' (first | exact SubR.nil | (apply SubR.same; with_reducible (focus ((repeat (first | exact Rem.here | apply Rem.there)); done))) | (apply SubR.blk; (focus ((repeat (first | exact Rem.here | apply Rem.there)); done))) | (apply SubR.pick; (focus ((repeat (first | exact Rem.here | apply Rem.there)); done))) | rfl))) ⟨_, rfl, rfl⟩
theorem first_fn (n gf : Nat) (lb : List Value) (f : Nat → List UInt8) (w : World) (h1 : 1 ≤ n) (h2 : n ≤ 100000) (h32 : ∀ i, (f i).length = 32) (eg : ∀ args w, (callFunc gf args).run Tryd.prog w = .ok (.enter gf args) w)
    (hit : ∀ (w' : World) (Mi : Nat → Prop), Keep No w w' → (∀ b, Mi b → w.heap.size ≤ b) → IterE True Tryd.prog gf lb (numbered f ((n + 31) / 32)) (ArgN 24) w' Mi []) :
    Sy.Fn Tryd.prog 74 [.int .i64 n, .func (.func gf) #[] lb.toArray] w No (fun v R => ∃ a k, v = .slice a n k ∧ R = [.row (.slice a n k) 5 1 n ((firstN f n).map Sy.v8)]) := by
  refine fn_enter Tryd.func74 rfl Tryd.ntmps74 (by simp) Holds.nil ?_
  repeat' (first | refine sy_seqC ?_ | refine syl_nil ?_ | refine sy_if_t rfl ?_ | refine sy_if_f rfl ?_ | refine sy_block ?_ | refine sy_skip ?_ | refine sy_ret ?_ | refine sy_exit ?_ | refine sy_label ?_ | refine syx_then ?_ | refine syx_go ?_ | refine syx_then_ret ?_ | refine syx_then_exit ?_ | refine syx_in ?_ | refine syx_in_ret ?_ | refine syx_in_here ?_ | refine syx_in_past rfl ?_ | (apply syx_begin; (focus ((repeat (first | exact Rem.here | apply Rem.there)); done)); assumption) | refine sy_scope ?_ | refine syx_ng_n ?_ | refine syx_ng_r ?_ | refine syx_ng_x ?_ | (refine sy_region (id := 0) ?_; try (refine y_new ?_; intro _); try refine y_assign ?_) | (refine sy_region (id := 1) ?_; try (refine y_new ?_; intro _)) | (refine sy_region (id := 2) ?_; try refine y_move ?_) | (refine syl_id ?_; first | refine y_assign ?_ | refine y_move ?_ | (refine y_new ?_; intro _) | fail) | refine sy_region ?_ | fail)
  rename_i b2 b5
  have hq : 32 * ((n + 31) / 32) ≥ n := by omega
  have hxl := numbered_len f ((n + 31) / 32)
  have hrl := rows_len f h32
  refine sy_conv (conv_nil 5 1) ?_
  refine sy_rangeE True (γ := Nat × Option Addr × Nat) (xs := numbered f ((n + 31) / 32)) (Arg := ArgN 24) entered_outer rfl eg rfl (fun k s => s.1 = k ∧ 32 * k < n) (fun cc k s => cc = .exit 0 ∧ s.1 = k ∧ n ≤ 32 * k ∧ k ≤ (n + 31) / 32)
    (fun s => [.blk b5 22 [.slice s.2.1 (32 * s.1) s.2.2], .row (.slice s.2.1 (32 * s.1) s.2.2) 5 1 (32 * s.1) ((rows f s.1).map Sy.v8), .blk b2 3 [.int .i64 n]]) [] [] (0, none, 0) ?_ ?_ ?_ ?_ ?_ ?_ ?_ ?_
  · exact ⟨rfl, by omega⟩
  · exact List.Perm.swap _ _ _
  · exact fun w' Mi X hk hm _ _ => hit w' Mi hk (fun b hb => (hm b hb).resolve_right (fun h => h))
  · exact fun _ s h => by
      obtain ⟨_, h⟩ := h
      rw [hxl] at h; omega
  · rintro O x vs RA w' ⟨b, rfl, _⟩; rfl
  · rintro lp k hk ⟨i, a, c⟩ vs RA W rec hrec ⟨hi, hlt⟩ harg hkW hmine
    rw [numbered_get] at harg
    obtain ⟨bx, rfl, rfl⟩ := harg
    rw [hxl] at hk
    dsimp only at hi hlt ⊢
    subst hi
    have hf := h32 (i + 1)
    have hys : (rows f i).map Sy.v8 ++ (f (i + 1)).map Sy.v8 = (rows f (i + 1)).map Sy.v8 := by rw [rows_succ, List.map_append]
    have hkm : 32 * i + 32 = 32 * (i + 1) := by omega
    generalize f (i + 1) = x at *
    by_cases hge : n ≤ 32 * (i + 1)
    · repeat' (first | refine sy_seqC ?_ | refine syl_nil ?_ | refine sy_if_t rfl ?_ | refine sy_if_f rfl ?_ | refine sy_block ?_ | refine sy_skip ?_ | refine sy_ret ?_ | refine sy_exit ?_ | refine sy_label ?_ | refine syx_then ?_ | refine syx_go ?_ | refine syx_then_ret ?_ | refine syx_then_exit ?_ | refine syx_in ?_ | refine syx_in_ret ?_ | refine syx_in_here ?_ | refine syx_in_past rfl ?_ | (apply syx_begin; (focus ((repeat (first | exact Rem.here | apply Rem.there)); done)); assumption) | refine sy_scope ?_ | refine syx_ng_n ?_ | refine syx_ng_r ?_ | refine syx_ng_x ?_ | (refine sy_region (id := 3) ?_; try refine y_assign ?_) | (refine sy_region (id := 4) ?_; try refine y_load ?_; try refine y_move ?_; try (first | (refine ys (op_append (k := 32 * i) (m := 32) (hn := by rw [List.length_map, hf]) (hkm := hkm) (hys := hys)) (k := ?_); rintro _ _ ⟨rfl, aN, cN, rfl⟩) | (refine ys op_append (k := ?_); rintro _ _ ⟨rfl, _, _, rfl⟩) | (refine ys op_appendB (k := ?_); rintro _ _ ⟨rfl, _, _, rfl⟩) | (refine ys op_appendN (k := ?_); rintro _ _ ⟨rfl, _, _, rfl⟩) | fail); try refine y_store ?_) | (refine sy_region (id := 5) ?_; try refine y_load ?_; try refine y_len ?_; try refine y_load ?_; try refine y_geq ?_) | (refine syl_id ?_; first | (refine ys (op_append (k := 32 * i) (m := 32) (hn := by rw [List.length_map, hf]) (hkm := hkm) (hys := hys)) (k := ?_); rintro _ _ ⟨rfl, aN, cN, rfl⟩) | refine y_assign ?_ | refine y_geq ?_ | refine y_len ?_ | refine y_load ?_ | refine y_move ?_ | refine y_store ?_ | (refine ys op_append (k := ?_); rintro _ _ ⟨rfl, _, _, rfl⟩) | (refine ys op_appendB (k := ?_); rintro _ _ ⟨rfl, _, _, rfl⟩) | (refine ys op_appendN (k := ?_); rintro _ _ ⟨rfl, _, _, rfl⟩) | fail) | refine sy_region ?_ | fail)
      refine syx_rnd_exit (i + 1, aN, cN) ⟨rfl, rfl, hge, by omega⟩ ?_
      (repeat' (first | exact SubR.nil | (apply SubR.same; with_reducible (focus ((repeat (first | exact Rem.here | apply Rem.there)); done))) | (apply SubR.blk; (focus ((repeat (first | exact Rem.here | apply Rem.there)); done))) | (apply SubR.pick; (focus ((repeat (first | exact Rem.here | apply Rem.there)); done))) | rfl))
    · repeat' (first | refine sy_seqC ?_ | refine syl_nil ?_ | refine sy_if_t rfl ?_ | refine sy_if_f rfl ?_ | refine sy_block ?_ | refine sy_skip ?_ | refine sy_ret ?_ | refine sy_exit ?_ | refine sy_label ?_ | refine syx_then ?_ | refine syx_go ?_ | refine syx_then_ret ?_ | refine syx_then_exit ?_ | refine syx_in ?_ | refine syx_in_ret ?_ | refine syx_in_here ?_ | refine syx_in_past rfl ?_ | (apply syx_begin; (focus ((repeat (first | exact Rem.here | apply Rem.there)); done)); assumption) | refine sy_scope ?_ | refine syx_ng_n ?_ | refine syx_ng_r ?_ | refine syx_ng_x ?_ | (refine sy_region (id := 3) ?_; try refine y_assign ?_) | (refine sy_region (id := 4) ?_; try refine y_load ?_; try refine y_move ?_; try (first | (refine ys (op_append (k := 32 * i) (m := 32) (hn := by rw [List.length_map, hf]) (hkm := hkm) (hys := hys)) (k := ?_); rintro _ _ ⟨rfl, aN, cN, rfl⟩) | (refine ys op_append (k := ?_); rintro _ _ ⟨rfl, _, _, rfl⟩) | (refine ys op_appendB (k := ?_); rintro _ _ ⟨rfl, _, _, rfl⟩) | (refine ys op_appendN (k := ?_); rintro _ _ ⟨rfl, _, _, rfl⟩) | fail); try refine y_store ?_) | (refine sy_region (id := 5) ?_; try refine y_load ?_; try refine y_len ?_; try refine y_load ?_; try refine y_geq ?_) | (refine syl_id ?_; first | (refine ys (op_append (k := 32 * i) (m := 32) (hn := by rw [List.length_map, hf]) (hkm := hkm) (hys := hys)) (k := ?_); rintro _ _ ⟨rfl, aN, cN, rfl⟩) | refine y_assign ?_ | refine y_geq ?_ | refine y_len ?_ | refine y_load ?_ | refine y_move ?_ | refine y_store ?_ | (refine ys op_append (k := ?_); rintro _ _ ⟨rfl, _, _, rfl⟩) | (refine ys op_appendB (k := ?_); rintro _ _ ⟨rfl, _, _, rfl⟩) | (refine ys op_appendN (k := ?_); rintro _ _ ⟨rfl, _, _, rfl⟩) | fail) | refine sy_region ?_ | fail)
      refine syx_rnd (i + 1, aN, cN) ⟨rfl, by omega⟩ ?_
      (repeat' (first | exact SubR.nil | (apply SubR.same; with_reducible (focus ((repeat (first | exact Rem.here | apply Rem.there)); done))) | (apply SubR.blk; (focus ((repeat (first | exact Rem.here | apply Rem.there)); done))) | (apply SubR.pick; (focus ((repeat (first | exact Rem.here | apply Rem.there)); done))) | rfl))
  · rintro s ⟨_, h⟩
    rw [hxl] at h; omega
  · rintro _ k ⟨i, a, c⟩ hk ⟨rfl, hi, hge, hk2⟩
    dsimp only at hi hge ⊢
    subst hi
    refine sy_fact (fun w' hh => (⟨Row.cap hh (Has.there Has.here), Row.nil hh (Has.there Has.here)⟩ : 32 * i ≤ c ∧ (a = none → c = 0 ∧ 32 * i = 0))) fun hcn => ?_
    obtain ⟨hcap, hnl⟩ := hcn
    have hfn := firstN_of f h32 n i hge
    have hrl' := hrl i
    generalize rows f i = rw at *
    repeat' (first | refine sy_seqC ?_ | refine syl_nil ?_ | refine sy_if_t rfl ?_ | refine sy_if_f rfl ?_ | refine sy_block ?_ | refine sy_skip ?_ | refine sy_ret ?_ | refine sy_exit ?_ | refine sy_label ?_ | refine syx_then ?_ | refine syx_go ?_ | refine syx_then_ret ?_ | refine syx_then_exit ?_ | refine syx_in ?_ | refine syx_in_ret ?_ | refine syx_in_here ?_ | refine syx_in_past rfl ?_ | (apply syx_begin; (focus ((repeat (first | exact Rem.here | apply Rem.there)); done)); assumption) | refine sy_scope ?_ | refine syx_ng_n ?_ | refine syx_ng_r ?_ | refine syx_ng_x ?_ | (refine sy_region (id := 6) ?_; try refine y_load ?_; try refine y_load ?_; try (first | refine yv (op_sliceR (l := 0) (h := n) (n' := n)) (k := ?_) | refine y_slice ?_ | fail); try (refine ys (op_call0 (hc := fun w' X hk hh => clone_fn a n c (rw.take n) w' (by rw [List.length_take]; omega) (by omega) (by rw [List.map_take]; exact ((Rd.row (Has.there Has.here)).take n) w' X hk hh) (fun h => ⟨(hnl h).1, by have := (hnl h).2; omega⟩))) (k := ?_); rintro _ _ ⟨R, rfl, ac, kc, rfl, rfl⟩); try refine y_assign ?_) | (refine syl_id ?_; first | refine yv (op_sliceR (l := 0) (h := n) (n' := n)) (k := ?_) | (refine ys (op_call0 (hc := fun w' X hk hh => clone_fn a n c (rw.take n) w' (by rw [List.length_take]; omega) (by omega) (by rw [List.map_take]; exact ((Rd.row (Has.there Has.here)).take n) w' X hk hh) (fun h => ⟨(hnl h).1, by have := (hnl h).2; omega⟩))) (k := ?_); rintro _ _ ⟨R, rfl, ac, kc, rfl, rfl⟩) | refine y_assign ?_ | refine y_load ?_ | refine y_slice ?_ | fail) | refine sy_region ?_ | fail)
    rw [hfn]
    exact ret1 rfl (resTmp rfl) (by (repeat' (first | exact SubR.nil | (apply SubR.same; with_reducible (focus ((repeat (first | exact Rem.here | apply Rem.there)); done))) | (apply SubR.blk; (focus ((repeat (first | exact Rem.here | apply Rem.there)); done))) | (apply SubR.pick; (focus ((repeat (first | exact Rem.here | apply Rem.there)); done))) | rfl))) ⟨_, _, rfl, rfl⟩
end Go.Proofs.YtcahnkdnhejkkaaDoor
