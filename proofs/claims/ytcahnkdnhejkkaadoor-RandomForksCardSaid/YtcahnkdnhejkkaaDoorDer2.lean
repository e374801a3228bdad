/- Layer derive, walked: KDF. -/
import Derived.Test.YtcahnkdnhejkkaaDoorDer1
set_option linter.all false
namespace Go.Proofs.YtcahnkdnhejkkaaDoor
open Go Go.Sy Go.Sh Go.RowKit
attribute [local irreducible] Sy SyL SyX Sy.Fn callFunc Sh.sum kxor kpad kbase macA HashIs MacIs hmac
set_option maxRecDepth 10000
/-- A byte string that came in, as derive takes it. -/
structure InOk (w : World) (a : Option Addr) (n c : Nat) (l : List UInt8) : Prop where
  len : l.length = n
  cap : n ≤ c
  sla : SlA w a (l.map Sy.v8)
  nil : a = none → c = 0
theorem InOk.keep {w w' : World} {a : Option Addr} {n c : Nat} {l : List UInt8} (h : InOk w a n c l) (hk : Keep No w w') : InOk w' a n c l := ⟨h.len, h.cap, h.sla.keep hk (fun _ _ h => h), h.nil⟩
/-- Later, whatever is turned of what is newer. -/
theorem InOk.far {w w' w'' : World} {Mi : Nat → Prop} {a : Option Addr} {n c : Nat} {l : List UInt8} (h : InOk w a n c l) (hk : Keep No w w') (hm : ∀ b, Mi b → w.heap.size ≤ b) (hk2 : Keep Mi w' w'') : InOk w'' a n c l :=
  ⟨h.len, h.cap, ((SlA.to (Mi := Mi) h.sla hk (fun b hb => .inl (hm b hb))).to (Mi := No) hk2 (fun _ h => h.elim)).sla, h.nil⟩
theorem Tab.far {w w' w'' : World} {Mi : Nat → Prop} (h : Tab w No) (hk : Keep No w w') (hm : ∀ b, Mi b → w.heap.size ≤ b) (hk2 : Keep Mi w' w'') : Tab w'' No :=
  (h.to (Mi := Mi) hk (fun b hb => .inl (hm b hb))).no hk2
def NumOf (v : Nat) (r : Value) (Nw : List Res) : Prop := ∃ b, r = .slice (some ⟨b, 0, none⟩) 4 4 ∧ Nw = [.blk b 5 ((four v).map Sy.v8)]
set_option maxHeartbeats 1000000 in
theorem dblock_fn (a0 a1 a2 : Option Addr) (n0 c0 n1 c1 n2 c2 n i : Nat) (key label ctx : List UInt8) (w : World) (h0 : InOk w a0 n0 c0 key) (h1 : InOk w a1 n1 c1 label) (h2 : InOk w a2 n2 c2 ctx) (hb0 : n0 ≤ 4096) (hb1 : n1 ≤ 4096) (hb2 : n2 ≤ 4096) (hn : n ≤ 100000) (hi : i ≤ 100000) (hT : Tab w No) :
    Sy.Fn Tryd.prog 76 [.agg ([.slice a0 n0 c0, .slice a1 n1 c1, .slice a2 n2 c2, .int .i64 n] : List Value).toArray, .int .i64 i] w No (Gives (.agg ((dblock key label ctx n i).map Sy.v8).toArray)) := by
  refine fn_enter Tryd.func76 rfl Tryd.ntmps76 (by simp) Holds.nil ?_
  have hs32 : (dblock key label ctx n i).length = 32 := hmac_len _ _
  have hd : dblock key label ctx n i = hmac key (four i ++ label ++ [0] ++ ctx ++ four (8 * n)) := rfl
  obtain ⟨s, hs⟩ : ∃ s, dblock key label ctx n i = s := ⟨_, rfl⟩
  rw [hs] at hs32 hd ⊢
  have hmul : IntKind.i64.wrap (8 * (n : Int)) = ((8 * n : Nat) : Int) := by rw [IntWalk.i64_in _ (by omega)]; omega
  repeat' (first | refine sy_seqC ?_ | refine syl_nil ?_ | refine sy_if_t rfl ?_ | refine sy_if_f rfl ?_ | refine sy_block ?_ | refine sy_skip ?_ | refine sy_ret ?_ | refine sy_exit ?_ | refine sy_label ?_ | refine syx_then ?_ | refine syx_go ?_ | refine syx_then_ret ?_ | refine syx_then_exit ?_ | refine syx_in ?_ | refine syx_in_ret ?_ | refine syx_in_here ?_ | refine syx_in_past rfl ?_ | (apply syx_begin; (focus ((repeat (first | exact Rem.here | apply Rem.there)); done)); assumption) | (refine sy_region (id := 0) ?_; try (refine y_new ?_; intro _); try (refine y_new ?_; intro _)) | (refine syl_id ?_; first | (refine y_new ?_; intro _) | fail) | refine sy_region ?_ | fail)
  rename_i b2 b4
  refine sy_drawA (id := 1) mixed ?_
  (refine sye_part 21 21 [[], [0], [0, 1], [], [3], [], [5], [], [], [8], [], [10], [10, 11], [3, 4, 10, 11, 12], [3, 4, 5, 6, 7, 8, 9, 10, 11, 12, 13], [0, 1, 2, 3, 4, 5, 6, 7, 8, 9, 10, 11, 12, 13, 14], [0, 1, 2, 3, 4, 5, 6, 7, 8, 9, 10, 11, 12, 13, 14, 15], [0, 1, 2, 3, 4, 5, 6, 7, 8, 9, 10, 11, 12, 13, 14, 15, 16], [0, 1, 2, 3, 4, 5, 6, 7, 8, 9, 10, 11, 12, 13, 14, 15, 16], [], [0, 1, 2, 3, 4, 5, 6, 7, 8, 9, 10, 11, 12, 13, 14, 15, 16, 17, 19], [0, 1, 2, 3, 4, 5, 6, 7, 8, 9, 10, 11, 12, 13, 14, 15, 16, 17, 18, 19, 20]] [[], [], [], [], [], [], [], [], [], [], [], [], [], [], [], [], [], [], [], [], [19], []] none rfl ?_ ?_ ?_; kernel_rfl; kernel_rfl; try (first | refine e_fieldAddr ?_ | fail); try (first | refine e_fieldAddr ?_ | fail); try (first | refine e_load ?_ | fail); try (first | refine e_move ?_ | fail); try (first | fail); try (first | refine e_fieldAddr ?_ | fail); try (first | refine e_load ?_ | fail); try (first | fail); try (first | refine e_fieldAddr ?_ | fail); try (first | refine e_load ?_ | fail); try (first | refine e_fieldAddr ?_ | fail); try (first | refine e_load ?_ | fail); try (first | refine dcE (fun _ _ => op_mul (hr := hmul)) (k := ?_) | refine e_mul ?_ | fail); try (first | fail); try (first | fail); try (first | fail); try (first | refine e_move ?_ | fail); try (first | refine e_extract ?_ | fail); try (first | refine e_extract ?_ | fail); try (first | fail); try (first | fail); try refine dh_0nE (h := ?_))
  refine dh_rE (R := fun _ => NumOf i) (fun _ _ _ => rfl) (fun ρ hρ => OpT.mono (op_call0 (hc := fun w' X hk hh => number_fn i w' (by omega))) fun v L' h => ?_) (h := ?_)
  · obtain ⟨R, rfl, h⟩ := h
    exact ⟨R, rfl, h⟩
  (skip; try (first | refine e_fieldAddr ?_ | fail); try (first | refine e_load ?_ | fail); try (first | fail); try (first | refine e_fieldAddr ?_ | fail); try (first | refine e_load ?_ | fail); try (first | refine e_fieldAddr ?_ | fail); try (first | refine e_load ?_ | fail); try (first | refine dcE (fun _ _ => op_mul (hr := hmul)) (k := ?_) | refine e_mul ?_ | fail); try (first | fail); try (first | fail); try (first | fail); try (first | refine e_move ?_ | fail); try (first | refine e_extract ?_ | fail); try (first | refine e_extract ?_ | fail); try (first | fail); try (first | fail); try refine dh_0nE (h := ?_))
  refine dh_rE (R := fun _ => LitOf 5 [.int .u8 0]) (fun _ _ _ => rfl) (fun ρ hρ => OpT.mono op_buildSlice fun v L' h => ?_) (h := ?_)
  · obtain ⟨b, rfl, rfl⟩ := h
    exact ⟨[_], rfl, b, rfl, rfl⟩
  (skip; try (first | refine e_fieldAddr ?_ | fail); try (first | refine e_load ?_ | fail); try (first | refine e_fieldAddr ?_ | fail); try (first | refine e_load ?_ | fail); try (first | refine dcE (fun _ _ => op_mul (hr := hmul)) (k := ?_) | refine e_mul ?_ | fail); try (first | fail); try (first | fail); try (first | fail); try (first | refine e_move ?_ | fail); try (first | refine e_extract ?_ | fail); try (first | refine e_extract ?_ | fail); try (first | fail); try (first | fail); try refine dh_0nE (h := ?_))
  refine dh_rE (R := fun _ => NumOf (8 * n)) (fun _ _ _ => rfl) (fun ρ hρ => OpT.mono (op_call0 (hc := fun w' X hk hh => number_fn (8 * n) w' (by omega))) fun v L' h => ?_) (h := ?_)
  · obtain ⟨R, rfl, h⟩ := h
    exact ⟨R, rfl, h⟩
  refine dh_rE (R := fun ρ => LitOf 22 [(ρ 4).1, .slice a1 n1 c1, (ρ 7).1, .slice a2 n2 c2, (ρ 13).1]) (fun ρ ρ' h => by rw [h 4 (by decide), h 7 (by decide), h 13 (by decide)]) (fun ρ hρ => ?_) (h := ?_)
  · obtain ⟨⟨b13, e13, f13⟩, ⟨b7, e7, f7⟩, ⟨b4', e4, f4⟩, -⟩ := hρ
    refine OpT.mono (op_buildSlice (hc := by show [(ρ 4).1, _, (ρ 7).1, _, (ρ 13).1].all _ = true; rw [e4, e7, e13]; rfl)) fun v L' h => ?_
    obtain ⟨b, rfl, rfl⟩ := h
    exact ⟨[_], rfl, b, rfl, rfl⟩
  refine dcE (u := .tuple #[.agg (s.map Sy.v8).toArray, .int .i64 0]) (fun ρ hρ => ?_) (k := ?_)
  · obtain ⟨⟨b, e, f⟩, ⟨b13, e13, f13⟩, ⟨b7, e7, f7⟩, ⟨b4', e4, f4⟩, -⟩ := hρ
    rw [e4, e7, e13] at f
    refine op_callV (vs := [.slice a0 n0 c0, .slice (some ⟨b, 0, none⟩) 5 5]) (ha := by show (some [_, (ρ 14).1] : Option (List Value)) = _; rw [e]; rfl) (hc := fun w' X hk hh => ?_)
    obtain ⟨xs5, hx5⟩ : ∃ x : List Bs, x = [⟨some ⟨b4', 0, none⟩, 4, 4, four i⟩, ⟨a1, n1, c1, label⟩, ⟨some ⟨b7, 0, none⟩, 1, 1, [0]⟩, ⟨a2, n2, c2, ctx⟩, ⟨some ⟨b13, 0, none⟩, 4, 4, four (8 * n)⟩] := ⟨_, rfl⟩
    have hh' : Holds w.heap.size No ([.blk b 22 (xs5.map Bs.val), .blk b13 5 ((four (8 * n)).map Sy.v8), .blk b7 5 [.int .u8 0], .blk b4' 5 ((four i).map Sy.v8)] ++ ([.blk b4 24 (List.replicate 32 (.int .u8 0)), .blk b2 126 [.slice a0 n0 c0, .slice a1 n1 c1, .slice a2 n2 c2, .int .i64 n]] ++ X)) w' := by
      have h2 : Holds w.heap.size No ((ρ 14).2 ++ ((ρ 13).2 ++ ((ρ 7).2 ++ ((ρ 4).2 ++ [.blk b4 24 (List.replicate 32 (.int .u8 0)), .blk b2 126 [.slice a0 n0 c0, .slice a1 n1 c1, .slice a2 n2 c2, .int .i64 n]]))) ++ X) w' := hh
      rw [f, f13, f7, f4] at h2
      rw [hx5]; exact h2
    have hcat : Bs.cat xs5 = four i ++ label ++ [0] ++ ctx ++ four (8 * n) := by rw [hx5]; simp [Bs.cat]
    have hp : ∀ x ∈ xs5, x.l.length = x.n ∧ x.n ≤ x.c ∧ SlA w' x.a (x.l.map Sy.v8) ∧ x.n ≤ 10000 := fun x hx => by
      rw [hx5] at hx
      have k1 := h1.keep hk
      have k2 := h2.keep hk
      rcases List.mem_cons.1 hx with rfl | hx
      · exact ⟨four_len i, Nat.le_refl _, (Rd.of (Reads.blk (Has.there (Has.there (Has.there Has.here))) Seg.all)) w' _ hk hh', (show 4 ≤ 10000 by decide)⟩
      rcases List.mem_cons.1 hx with rfl | hx
      · exact ⟨k1.len, k1.cap, k1.sla, (show n1 ≤ 10000 by omega)⟩
      rcases List.mem_cons.1 hx with rfl | hx
      · exact ⟨rfl, Nat.le_refl _, (Rd.of (Reads.blk (Has.there (Has.there Has.here)) Seg.all)) w' _ hk hh', (show 1 ≤ 10000 by decide)⟩
      rcases List.mem_cons.1 hx with rfl | hx
      · exact ⟨k2.len, k2.cap, k2.sla, (show n2 ≤ 10000 by omega)⟩
      obtain rfl := List.mem_singleton.1 hx
      exact ⟨four_len (8 * n), Nat.le_refl _, (Rd.of (Reads.blk (Has.there Has.here) Seg.all)) w' _ hk hh', (show 4 ≤ 10000 by decide)⟩
    have hpa := parts_blk (m := 5) hh' Has.here (by rw [hx5]; rfl) (by decide) hp
    have := hm_fn a0 (some ⟨b, 0, none⟩) n0 c0 5 5 key xs5 w' h0.len hb0 h0.cap (h0.keep hk).sla hpa.1 hpa.2.1 hpa.2.2.1 hpa.2.2.2 (hT.no hk)
    rw [hcat, ← hd] at this
    exact this
  (skip; try (first | refine e_move ?_ | fail); try (first | refine e_extract ?_ | fail); try (first | refine e_extract ?_ | fail); try (first | fail); try (first | fail); try refine dh_0nE (h := ?_))
  refine dh_rE (R := fun _ => PtrOf 24 (List.replicate 32 (.int .u8 0))) (fun _ _ _ => rfl) (fun ρ hρ => OpT.mono op_alloc fun v L' h => ?_) (h := ?_)
  · obtain ⟨b, rfl, rfl⟩ := h
    exact ⟨[_], rfl, b, rfl, rfl⟩
  refine dh_rnE (R := fun ρ _ Nw => ∃ b, (ρ 19).1 = .pointer (some ⟨b, 0, none⟩) ∧ Nw = [.blk b 24 (s.map Sy.v8)]) (fun ρ ρ' h => by rw [h 19 (by decide)]) (fun ρ hρ => ?_) (h := ?_)
  · obtain ⟨⟨b, f1, f2⟩, -⟩ := hρ
    refine OpT.mono (op_storesAll (hx := by show some (ρ 19).1 = _; rw [f1]) (h1 := by rw [List.length_map, hs32]) (hL := by show Upd ((ρ 19).2 ++ _) _ _ _; rw [f2]; exact Upd.here) (hC := by rw [List.length_map, hs32, List.length_replicate])) fun v L' h => ?_
    obtain ⟨rfl, rfl⟩ := h
    exact ⟨[_], rfl, b, f1, rfl⟩
  refine dh_0E (h := ?_)
  rintro ρ ⟨⟨b5, g1, g2⟩, -, ⟨b, -, f⟩, ⟨b13, -, f13⟩, ⟨b7, -, f7⟩, ⟨b4', -, f4⟩, -⟩
  (refine sya_list [[], [0], [0, 1], [], [3], [], [5], [], [], [8], [], [10], [10, 11], [3, 4, 10, 11, 12], [3, 4, 5, 6, 7, 8, 9, 10, 11, 12, 13], [0, 1, 2, 3, 4, 5, 6, 7, 8, 9, 10, 11, 12, 13, 14], [0, 1, 2, 3, 4, 5, 6, 7, 8, 9, 10, 11, 12, 13, 14, 15], [0, 1, 2, 3, 4, 5, 6, 7, 8, 9, 10, 11, 12, 13, 14, 15, 16], [0, 1, 2, 3, 4, 5, 6, 7, 8, 9, 10, 11, 12, 13, 14, 15, 16], [], [0, 1, 2, 3, 4, 5, 6, 7, 8, 9, 10, 11, 12, 13, 14, 15, 16, 17, 19], [0, 1, 2, 3, 4, 5, 6, 7, 8, 9, 10, 11, 12, 13, 14, 15, 16, 17, 18, 19, 20]] ?_ ?_; kernel_rfl)
  refine SyL.weaken (fr' := [(25, .int .i64 0), (5, .pointer (some ⟨b5, 0, none⟩)), (4, .pointer (some ⟨b4, 0, none⟩))]) (L' := [.blk b5 24 (s.map Sy.v8), .blk b4 24 (List.replicate 32 (.int .u8 0))]) ?_ ?_ ?_
  · repeat' (first | refine sy_seqC ?_ | refine syl_nil ?_ | refine sy_if_t rfl ?_ | refine sy_if_f rfl ?_ | refine sy_block ?_ | refine sy_skip ?_ | refine sy_ret ?_ | refine sy_exit ?_ | refine sy_label ?_ | refine syx_then ?_ | refine syx_go ?_ | refine syx_then_ret ?_ | refine syx_then_exit ?_ | refine syx_in ?_ | refine syx_in_ret ?_ | refine syx_in_here ?_ | refine syx_in_past rfl ?_ | (apply syx_begin; (focus ((repeat (first | exact Rem.here | apply Rem.there)); done)); assumption) | (refine sy_draw (id := 1) 21 [[], [0], [0, 1], [], [3], [], [5], [], [], [8], [], [10], [10, 11], [3, 4, 10, 11, 12], [3, 4, 5, 6, 7, 8, 9, 10, 11, 12, 13], [0, 1, 2, 3, 4, 5, 6, 7, 8, 9, 10, 11, 12, 13, 14], [0, 1, 2, 3, 4, 5, 6, 7, 8, 9, 10, 11, 12, 13, 14, 15], [0, 1, 2, 3, 4, 5, 6, 7, 8, 9, 10, 11, 12, 13, 14, 15, 16], [0, 1, 2, 3, 4, 5, 6, 7, 8, 9, 10, 11, 12, 13, 14, 15, 16], [], [0, 1, 2, 3, 4, 5, 6, 7, 8, 9, 10, 11, 12, 13, 14, 15, 16, 17, 19], [0, 1, 2, 3, 4, 5, 6, 7, 8, 9, 10, 11, 12, 13, 14, 15, 16, 17, 18, 19, 20]] mixed ?_ ?_; kernel_rfl; try refine d_fieldAddr ?_; try refine d_fieldAddr ?_; try refine d_load ?_; try refine d_move ?_; try refine d_fieldAddr ?_; try refine d_load ?_; try refine d_fieldAddr ?_; try refine d_load ?_; try refine d_fieldAddr ?_; try refine d_load ?_; try refine d_mul ?_; try refine d_move ?_; try refine d_extract ?_; try refine d_extract ?_; try refine dh_0n ?_; try refine y_assign ?_) | (refine sy_region (id := 2) ?_; try refine y_load ?_; try refine y_store ?_) | (refine syl_id ?_; first | refine y_assign ?_ | refine y_mul ?_ | refine y_extract ?_ | refine y_fieldAddr ?_ | refine y_load ?_ | refine y_move ?_ | refine y_store ?_ | (refine y_new ?_; intro _) | (refine ys op_buildSlice0 (k := ?_); rintro _ _ ⟨_, rfl, rfl⟩) | (refine ys op_buildSlice (k := ?_); rintro _ _ ⟨_, rfl, rfl⟩) | fail) | refine dh_0n ?_ | (refine dh_id ?_; first | refine d_assign ?_ | refine d_mul ?_ | refine d_extract ?_ | refine d_fieldAddr ?_ | refine d_load ?_ | refine d_move ?_ | fail) | refine sy_region ?_ | fail)
    exact ret1 rfl (resCells rfl (ty rfl) rfl (by repeat (first | exact Has.here | apply Has.there)) Seg.all (by first | rfl | (simp only [List.length_map, List.length_set, List.length_replicate, List.length_append]; omega) | (simp only [List.length_map]; first | assumption | omega) | (simp; omega) | fail)) SubR.nil ⟨rfl, rfl⟩
  · (repeat' (first | exact Sub.nil | refine Sub.cons rfl ?_ ?_ | rfl))
    exact g1
  · show SubR _ ((ρ 20).2 ++ ((ρ 14).2 ++ ((ρ 13).2 ++ ((ρ 7).2 ++ ((ρ 4).2 ++ _)))))
    rw [g2, f, f13, f7, f4]
    (repeat' (first | exact SubR.nil | (apply SubR.same; with_reducible (focus ((repeat (first | exact Rem.here | apply Rem.there)); done))) | (apply SubR.blk; (focus ((repeat (first | exact Rem.here | apply Rem.there)); done))) | (apply SubR.same; (focus ((repeat (first | exact Rem.here | apply Rem.there)); done))) | (apply SubR.pick; (focus ((repeat (first | exact Rem.here | apply Rem.there)); done))) | rfl))
theorem allowed_fn (z : Int) (a : Option Addr) (m d : Nat) (xs : List Bs) (w : World) (hm : xs.length = m) (hmb : m < 1000000) (hsx : SlA w a (xs.map Bs.val)) :
    Sy.Fn Tryd.prog 73 [.int .i64 z, .slice a m d] w No (Gives (.bool (decide (∀ s ∈ xs, s.n ≤ 4096) && (decide (1 ≤ z) && decide (z ≤ 1024))))) := by
  refine fn_enter Tryd.func73 rfl Tryd.ntmps73 (by simp) Holds.nil ?_
  repeat' (first | refine sy_seqC ?_ | refine syl_nil ?_ | refine sy_if_t rfl ?_ | refine sy_if_f rfl ?_ | refine sy_block ?_ | refine sy_skip ?_ | refine sy_ret ?_ | refine sy_exit ?_ | refine sy_label ?_ | refine syx_then ?_ | refine syx_go ?_ | refine syx_then_ret ?_ | refine syx_then_exit ?_ | refine syx_in ?_ | refine syx_in_ret ?_ | refine syx_in_here ?_ | refine syx_in_past rfl ?_ | (apply syx_begin; (focus ((repeat (first | exact Rem.here | apply Rem.there)); done)); assumption) | (refine sy_region (id := 0) ?_; try refine y_assign ?_) | (refine sy_region (id := 1) ?_; try refine y_move ?_; try refine y_len ?_; try refine y_move ?_) | (refine syl_id ?_; first | refine y_assign ?_ | refine y_len ?_ | refine y_move ?_ | fail) | refine sy_region ?_ | fail)
  refine sy_loop (γ := Nat) (fun i => [(0, .int .i64 z), (7, .slice a m d), (8, .int .i64 m), (9, .int .i64 i)]) (fun _ => []) (fun i => i ≤ m ∧ ∀ s ∈ xs.take i, s.n ≤ 4096) (fun i => m - i) 0 ⟨Nat.zero_le _, fun s hs => (by simp at hs)⟩ ?_ ?_ ?_
  · (repeat' (first | exact Sub.nil | refine Sub.cons rfl ?_ ?_ | rfl))
  · (repeat' (first | exact SubR.nil | (apply SubR.same; with_reducible (focus ((repeat (first | exact Rem.here | apply Rem.there)); done))) | (apply SubR.blk; (focus ((repeat (first | exact Rem.here | apply Rem.there)); done))) | (apply SubR.pick; (focus ((repeat (first | exact Rem.here | apply Rem.there)); done))) | rfl))
  rintro i ⟨hi, hall⟩
  by_cases hlt : i < m
  · obtain ⟨bl, ol, rfl, hcell⟩ := Bs.get hsx (hm ▸ hlt)
    have hci := hcell i (hm ▸ hlt)
    have hmem : xs[i] ∈ xs := List.getElem_mem _
    have htk : ∀ s ∈ xs.take (i + 1), s ∈ xs.take i ∨ s = xs[i] := fun s hs => by
      rw [List.take_succ, List.getElem?_eq_getElem (hm ▸ hlt)] at hs
      rcases List.mem_append.1 hs with h | h
      · exact .inl h
      · exact .inr (by simpa using h)
    generalize xs[i] = s at *
    obtain ⟨sa, sn, sc, sl⟩ := s
    dsimp only at *
    by_cases hbig : 4096 < sn
    · have hno : decide (∀ s ∈ xs, s.n ≤ 4096) = false := decide_eq_false (fun h => by have : sn ≤ 4096 := h _ hmem; omega)
      rw [hno, Bool.false_and]
      repeat' (first | refine sy_seqC ?_ | refine syl_nil ?_ | refine sy_if_t rfl ?_ | refine sy_if_f rfl ?_ | refine sy_block ?_ | refine sy_skip ?_ | refine sy_ret ?_ | refine sy_exit ?_ | refine sy_label ?_ | refine syx_then ?_ | refine syx_go ?_ | refine syx_then_ret ?_ | refine syx_then_exit ?_ | refine syx_in ?_ | refine syx_in_ret ?_ | refine syx_in_here ?_ | refine syx_in_past rfl ?_ | (apply syx_begin; (focus ((repeat (first | exact Rem.here | apply Rem.there)); done)); assumption) | (refine sy_region (id := 2) ?_; try refine y_lss ?_) | (refine sy_region (id := 3) ?_; try refine y_indexAddr ?_; try (first | refine yv (op_load_old (hv := hci)) (k := ?_) | refine y_load ?_ | fail); try refine y_assign ?_) | (refine sy_region (id := 4) ?_; try refine y_move ?_; try refine y_len ?_; try refine y_gtr ?_) | (refine sy_region (id := 5) ?_; try refine y_assign ?_) | (refine syl_id ?_; first | refine yv (op_load_old (hv := hci)) (k := ?_) | refine y_assign ?_ | refine y_gtr ?_ | refine y_lss ?_ | refine y_len ?_ | refine y_indexAddr ?_ | refine y_load ?_ | refine y_move ?_ | fail) | refine sy_region ?_ | fail)
      exact ret1 rfl (resTmp rfl) SubR.nil ⟨rfl, rfl⟩
    · repeat' (first | refine sy_seqC ?_ | refine syl_nil ?_ | refine sy_if_t rfl ?_ | refine sy_if_f rfl ?_ | refine sy_block ?_ | refine sy_skip ?_ | refine sy_ret ?_ | refine sy_exit ?_ | refine sy_label ?_ | refine syx_then ?_ | refine syx_go ?_ | refine syx_then_ret ?_ | refine syx_then_exit ?_ | refine syx_in ?_ | refine syx_in_ret ?_ | refine syx_in_here ?_ | refine syx_in_past rfl ?_ | (apply syx_begin; (focus ((repeat (first | exact Rem.here | apply Rem.there)); done)); assumption) | (refine sy_region (id := 2) ?_; try refine y_lss ?_) | (refine sy_region (id := 3) ?_; try refine y_indexAddr ?_; try (first | refine yv (op_load_old (hv := hci)) (k := ?_) | refine y_load ?_ | fail); try refine y_assign ?_) | (refine sy_region (id := 4) ?_; try refine y_move ?_; try refine y_len ?_; try refine y_gtr ?_) | (refine sy_region (id := 5) ?_; try refine y_assign ?_) | (refine sy_region (id := 6) ?_; try refine y_add ?_; try refine y_move ?_) | (refine syl_id ?_; first | refine yv (op_load_old (hv := hci)) (k := ?_) | refine y_assign ?_ | refine y_add ?_ | refine y_gtr ?_ | refine y_lss ?_ | refine y_len ?_ | refine y_indexAddr ?_ | refine y_load ?_ | refine y_move ?_ | fail) | refine sy_region ?_ | fail)
      refine syx_back (i + 1) ⟨hlt, fun s hs => ?_⟩ ?_ ?_ ?_
      · rcases htk s hs with h | rfl
        · exact hall s h
        · exact (show sn ≤ 4096 by omega)
      · show m - (i + 1) < m - i; omega
      · (repeat' (first | exact Sub.nil | refine Sub.cons rfl ?_ ?_ | rfl))
      · (repeat' (first | exact SubR.nil | (apply SubR.same; with_reducible (focus ((repeat (first | exact Rem.here | apply Rem.there)); done))) | (apply SubR.blk; (focus ((repeat (first | exact Rem.here | apply Rem.there)); done))) | (apply SubR.pick; (focus ((repeat (first | exact Rem.here | apply Rem.there)); done))) | rfl))
  obtain rfl : i = m := by omega
  rw [List.take_of_length_le (by omega)] at hall
  rw [decide_eq_true hall, Bool.true_and]
  by_cases h1 : 1 ≤ z
  · rw [decide_eq_true h1, Bool.true_and]
    repeat' (first | refine sy_seqC ?_ | refine syl_nil ?_ | refine sy_if_t rfl ?_ | refine sy_if_f rfl ?_ | refine sy_block ?_ | refine sy_skip ?_ | refine sy_ret ?_ | refine sy_exit ?_ | refine sy_label ?_ | refine syx_then ?_ | refine syx_go ?_ | refine syx_then_ret ?_ | refine syx_then_exit ?_ | refine syx_in ?_ | refine syx_in_ret ?_ | refine syx_in_here ?_ | refine syx_in_past rfl ?_ | (apply syx_begin; (focus ((repeat (first | exact Rem.here | apply Rem.there)); done)); assumption) | (refine sy_region (id := 2) ?_; try refine y_lss ?_) | (refine sy_region (id := 7) ?_; try refine y_move ?_; try refine y_geq ?_; try refine y_move ?_; try (first | refine y_move ?_ | refine syl_skip rfl rfl rfl ?_ | refine syl_skip_n rfl rfl ?_ | fail); try (first | refine y_leq ?_ | refine syl_skip rfl rfl rfl ?_ | refine syl_skip_n rfl rfl ?_ | fail); try refine y_pick ?_; try refine y_assign ?_) | (refine syl_id ?_; first | refine y_assign ?_ | refine y_geq ?_ | refine y_leq ?_ | refine y_lss ?_ | refine y_move ?_ | refine y_pick ?_ | refine syl_skip rfl rfl rfl ?_ | refine syl_skip_n rfl rfl ?_ | fail) | refine sy_region ?_ | fail)
    exact ret1 rfl (resTmp rfl) SubR.nil ⟨rfl, rfl⟩
  · rw [decide_eq_false h1, Bool.false_and]
    repeat' (first | refine sy_seqC ?_ | refine syl_nil ?_ | refine sy_if_t rfl ?_ | refine sy_if_f rfl ?_ | refine sy_block ?_ | refine sy_skip ?_ | refine sy_ret ?_ | refine sy_exit ?_ | refine sy_label ?_ | refine syx_then ?_ | refine syx_go ?_ | refine syx_then_ret ?_ | refine syx_then_exit ?_ | refine syx_in ?_ | refine syx_in_ret ?_ | refine syx_in_here ?_ | refine syx_in_past rfl ?_ | (apply syx_begin; (focus ((repeat (first | exact Rem.here | apply Rem.there)); done)); assumption) | (refine sy_region (id := 2) ?_; try refine y_lss ?_) | (refine sy_region (id := 7) ?_; try refine y_move ?_; try refine y_geq ?_; try refine y_move ?_; try (first | refine y_move ?_ | refine syl_skip rfl rfl rfl ?_ | refine syl_skip_n rfl rfl ?_ | fail); try (first | refine y_leq ?_ | refine syl_skip rfl rfl rfl ?_ | refine syl_skip_n rfl rfl ?_ | fail); try refine y_pick ?_; try refine y_assign ?_) | (refine syl_id ?_; first | refine y_assign ?_ | refine y_geq ?_ | refine y_leq ?_ | refine y_lss ?_ | refine y_move ?_ | refine y_pick ?_ | refine syl_skip rfl rfl rfl ?_ | refine syl_skip_n rfl rfl ?_ | fail) | refine sy_region ?_ | fail)
    exact ret1 rfl (resTmp rfl) SubR.nil ⟨rfl, rfl⟩
end Go.Proofs.YtcahnkdnhejkkaaDoor
