/- Layer derive, walked: KDF. -/
import Derived.Test.YtaeddmcoanefhaaGreatDoorVJ37
import Derived.Test.YtaeddmcoanefhaaGreatDoorVJ34
import Derived.Test.YtaeddmcoanefhaaGreatDoorVJ32
set_option linter.all false
section
namespace Go.Proofs.YtaeddmcoanefhaaGreatDoor
open Go Go.Sy Go.Sh Go.RowKit
attribute [local irreducible] Sy SyL SyX Sy.Fn callFunc Sh.sum kxor kpad kbase macA HashIs MacIs hmac
set_option maxRecDepth 10000
structure InOk (w : World) (a : Option Addr) (n c : Nat) (l : List UInt8) : Prop where
  len : l.length = n
  cap : n ≤ c
  sla : SlA w a (l.map Sy.v8)
  nil : a = none → c = 0
theorem InOk.keep {w w' : World} {a : Option Addr} {n c : Nat} {l : List UInt8} (h : InOk w a n c l) (hk : Keep No w w') : InOk w' a n c l := ⟨h.len, h.cap, h.sla.keep hk (fun _ _ h => h), h.nil⟩
theorem InOk.far {w w' w'' : World} {Mi : Nat → Prop} {a : Option Addr} {n c : Nat} {l : List UInt8} (h : InOk w a n c l) (hk : Keep No w w') (hm : ∀ b, Mi b → w.heap.size ≤ b) (hk2 : Keep Mi w' w'') : InOk w'' a n c l :=
  ⟨h.len, h.cap, ((SlA.to (Mi := Mi) h.sla hk (fun b hb => .inl (hm b hb))).to (Mi := No) hk2 (fun _ h => h.elim)).sla, h.nil⟩
theorem Tab.far {w w' w'' : World} {Mi : Nat → Prop} (h : Tab w No) (hk : Keep No w w') (hm : ∀ b, Mi b → w.heap.size ≤ b) (hk2 : Keep Mi w' w'') : Tab w'' No :=
  (h.to (Mi := Mi) hk (fun b hb => .inl (hm b hb))).no hk2
def NumOf (v : Nat) (r : Value) (Nw : List Res) : Prop := ∃ b, r = .slice (some ⟨b, 0, none⟩) 4 4 ∧ Nw = [.blk b 5 ((four v).map Sy.v8)]
set_option maxHeartbeats 1000000 in
theorem dblock_fn (a0 a1 a2 : Option Addr) (n0 c0 n1 c1 n2 c2 n i : Nat) (key label ctx : List UInt8) (w : World) (h0 : InOk w a0 n0 c0 key) (h1 : InOk w a1 n1 c1 label) (h2 : InOk w a2 n2 c2 ctx) (hb0 : n0 ≤ 4096) (hb1 : n1 ≤ 4096) (hb2 : n2 ≤ 4096) (hn : n ≤ 100000) (hi : i ≤ 100000) (hT : Tab w No) :
    Sy.Fn Tryz.prog 71 [.agg ([.slice a0 n0 c0, .slice a1 n1 c1, .slice a2 n2 c2, .int .i64 n] : List Value).toArray, .int .i64 i] w No (Gives (.agg ((dblock key label ctx n i).map Sy.v8).toArray)) := by
  refine fn_enter Tryz.func71 rfl Tryz.ntmps71 (by simp) Holds.nil ?_
  have hs32 : (dblock key label ctx n i).length = 32 := hmac_len _ _
  have hd : dblock key label ctx n i = hmac key (four i ++ label ++ [0] ++ ctx ++ four (8 * n)) := rfl
  obtain ⟨s, hs⟩ : ∃ s, dblock key label ctx n i = s := ⟨_, rfl⟩
  rw [hs] at hs32 hd ⊢
  have hmul : IntKind.i64.wrap (8 * (n : Int)) = ((8 * n : Nat) : Int) := by rw [IntWalk.i64_in _ (by omega)]; omega
  repeat' (first | refine sy_seqC ?_ | refine syl_nil ?_ | refine syx_then ?_ | refine syx_go ?_ | (refine sy_region (id := 0) ?_; (refine y_new ?_; intro _); (refine y_new ?_; intro _)) | fail)
  rename_i b2 b4
  refine sy_drawA (id := 1) mixed ?_
  (refine sye_part 21 21 [[], [0], [0, 1], [], [3], [], [5], [], [], [8], [], [10], [10, 11], [3, 4, 10, 11, 12], [3, 4, 5, 6, 7, 8, 9, 10, 11, 12, 13], [0, 1, 2, 3, 4, 5, 6, 7, 8, 9, 10, 11, 12, 13, 14], [0, 1, 2, 3, 4, 5, 6, 7, 8, 9, 10, 11, 12, 13, 14, 15], [0, 1, 2, 3, 4, 5, 6, 7, 8, 9, 10, 11, 12, 13, 14, 15, 16], [0, 1, 2, 3, 4, 5, 6, 7, 8, 9, 10, 11, 12, 13, 14, 15, 16], [], [0, 1, 2, 3, 4, 5, 6, 7, 8, 9, 10, 11, 12, 13, 14, 15, 16, 17, 19], [0, 1, 2, 3, 4, 5, 6, 7, 8, 9, 10, 11, 12, 13, 14, 15, 16, 17, 18, 19, 20]] [[], [], [], [], [], [], [], [], [], [], [], [], [], [], [], [], [], [], [], [], [19], []] none rfl ?_ ?_ ?_; kernel_rfl; kernel_rfl; refine e_fieldAddr ?_; refine e_fieldAddr ?_; refine e_load ?_; refine e_move ?_; try refine dh_0nE (h := ?_))
  refine dh_rE (R := fun _ => NumOf i) (fun _ _ _ => rfl) (fun ρ hρ => OpT.mono (op_call0 (hc := fun w' X hk hh => number_fn i w' (by omega))) fun v L' h => ?_) (h := ?_)
  · obtain ⟨R, rfl, h⟩ := h
    exact ⟨R, rfl, h⟩
  (skip; refine e_fieldAddr ?_; refine e_load ?_; try refine dh_0nE (h := ?_))
  refine dh_rE (R := fun _ => LitOf 5 [.int .u8 0]) (fun _ _ _ => rfl) (fun ρ hρ => OpT.mono op_buildSlice fun v L' h => ?_) (h := ?_)
  · obtain ⟨b, rfl, rfl⟩ := h
    exact ⟨[_], rfl, b, rfl, rfl⟩
  (skip; refine e_fieldAddr ?_; refine e_load ?_; refine e_fieldAddr ?_; refine e_load ?_; refine dcE (fun _ _ => op_mul (hr := hmul)) (k := ?_); try refine dh_0nE (h := ?_))
  refine dh_rE (R := fun _ => NumOf (8 * n)) (fun _ _ _ => rfl) (fun ρ hρ => OpT.mono (op_call0 (hc := fun w' X hk hh => number_fn (8 * n) w' (by omega))) fun v L' h => ?_) (h := ?_)
  · obtain ⟨R, rfl, h⟩ := h
    exact ⟨R, rfl, h⟩
  refine dh_rE (R := fun ρ => LitOf 22 [(ρ 4).1, .slice a1 n1 c1, (ρ 7).1, .slice a2 n2 c2, (ρ 13).1]) (fun ρ ρ' h => by rw [h 4 (by decide), h 7 (by decide), h 13 (by decide)]) (fun ρ hρ => ?_) (h := ?_)
  · obtain ⟨⟨b13, e13, f13⟩, ⟨b7, e7, f7⟩, ⟨b4', e4, f4⟩, -⟩ := hρ
    refine OpT.mono (op_buildSlice (hc := by show [(ρ 4).1, _, (ρ 7).1, _, (ρ 13).1].all _ = true; rw [e4, e7, e13]; rfl)) fun v L' h => ?_
    obtain ⟨b, rfl, rfl⟩ := h
    exact ⟨[_], rfl, b, rfl, rfl⟩
  refine dcE (u := .tuple #[.agg (s.map Sy.v8).toArray, .int .i64 0]) (fun ρ hρ => ?_) (k := ?_)
  · obtain ⟨⟨b, e, f⟩, ⟨b13, e13, f13⟩, ⟨b7, e7, f7⟩, ⟨b4', e4, f4⟩, -⟩ := hρ
    rw [e4, e7, e13] at f
    refine op_callV (vs := [.slice a0 n0 c0, .slice (some ⟨b, 0, none⟩) 5 5]) (ha := by show (some [_, (ρ 14).1] : Option (List Value)) = _; rw [e]; rfl) (hc := fun w' X hk hh => ?_)
    obtain ⟨xs5, hx5⟩ : ∃ x : List Bs, x = [⟨some ⟨b4', 0, none⟩, 4, 4, four i⟩, ⟨a1, n1, c1, label⟩, ⟨some ⟨b7, 0, none⟩, 1, 1, [0]⟩, ⟨a2, n2, c2, ctx⟩, ⟨some ⟨b13, 0, none⟩, 4, 4, four (8 * n)⟩] := ⟨_, rfl⟩
    have hh' : Holds w.heap.size No ([.blk b 22 (xs5.map Bs.val), .blk b13 5 ((four (8 * n)).map Sy.v8), .blk b7 5 [.int .u8 0], .blk b4' 5 ((four i).map Sy.v8)] ++ ([.blk b4 37 (List.replicate 32 (.int .u8 0)), .blk b2 111 [.slice a0 n0 c0, .slice a1 n1 c1, .slice a2 n2 c2, .int .i64 n]] ++ X)) w' := by
      have h2 : Holds w.heap.size No ((ρ 14).2 ++ ((ρ 13).2 ++ ((ρ 7).2 ++ ((ρ 4).2 ++ [.blk b4 37 (List.replicate 32 (.int .u8 0)), .blk b2 111 [.slice a0 n0 c0, .slice a1 n1 c1, .slice a2 n2 c2, .int .i64 n]]))) ++ X) w' := hh
      rw [f, f13, f7, f4] at h2
      rw [hx5]; exact h2
    have hcat : Bs.cat xs5 = four i ++ label ++ [0] ++ ctx ++ four (8 * n) := by rw [hx5]; simp [Bs.cat]
    have hp : ∀ x ∈ xs5, x.l.length = x.n ∧ x.n ≤ x.c ∧ SlA w' x.a (x.l.map Sy.v8) ∧ x.n ≤ 10000 := fun x hx => by
      rw [hx5] at hx
      have k1 := h1.keep hk
      have k2 := h2.keep hk
      rcases List.mem_cons.1 hx with rfl | hx
      · exact ⟨four_len i, Nat.le_refl _, (Rd.of (Reads.blk (Has.there (Has.there (Has.there Has.here))) Seg.all)) w' _ hk hh', (show 4 ≤ 10000 by decide)⟩
      rcases List.mem_cons.1 hx with rfl | hx
      · exact ⟨k1.len, k1.cap, k1.sla, (show n1 ≤ 10000 by omega)⟩
      rcases List.mem_cons.1 hx with rfl | hx
      · exact ⟨rfl, Nat.le_refl _, (Rd.of (Reads.blk (Has.there (Has.there Has.here)) Seg.all)) w' _ hk hh', (show 1 ≤ 10000 by decide)⟩
      rcases List.mem_cons.1 hx with rfl | hx
      · exact ⟨k2.len, k2.cap, k2.sla, (show n2 ≤ 10000 by omega)⟩
      obtain rfl := List.mem_singleton.1 hx
      exact ⟨four_len (8 * n), Nat.le_refl _, (Rd.of (Reads.blk (Has.there Has.here) Seg.all)) w' _ hk hh', (show 4 ≤ 10000 by decide)⟩
    have hpa := parts_blk (m := 5) hh' Has.here (by rw [hx5]; rfl) (by decide) hp
    have := hm_fn a0 (some ⟨b, 0, none⟩) n0 c0 5 5 key xs5 w' h0.len hb0 h0.cap (h0.keep hk).sla hpa.1 hpa.2.1 hpa.2.2.1 hpa.2.2.2 (hT.no hk)
    rw [hcat, ← hd] at this
    exact this
  (skip; refine e_move ?_; refine e_extract ?_; refine e_extract ?_; try refine dh_0nE (h := ?_))
  refine dh_rE (R := fun _ => PtrOf 37 (List.replicate 32 (.int .u8 0))) (fun _ _ _ => rfl) (fun ρ hρ => OpT.mono op_alloc fun v L' h => ?_) (h := ?_)
  · obtain ⟨b, rfl, rfl⟩ := h
    exact ⟨[_], rfl, b, rfl, rfl⟩
  refine dh_rnE (R := fun ρ _ Nw => ∃ b, (ρ 19).1 = .pointer (some ⟨b, 0, none⟩) ∧ Nw = [.blk b 37 (s.map Sy.v8)]) (fun ρ ρ' h => by rw [h 19 (by decide)]) (fun ρ hρ => ?_) (h := ?_)
  · obtain ⟨⟨b, f1, f2⟩, -⟩ := hρ
    refine OpT.mono (op_storesAll (hx := by show some (ρ 19).1 = _; rw [f1]) (h1 := by rw [List.length_map, hs32]) (hL := by show Upd ((ρ 19).2 ++ _) _ _ _; rw [f2]; exact Upd.here) (hC := by rw [List.length_map, hs32, List.length_replicate])) fun v L' h => ?_
    obtain ⟨rfl, rfl⟩ := h
    exact ⟨[_], rfl, b, f1, rfl⟩
  refine dh_0E (h := ?_)
  rintro ρ ⟨⟨b5, g1, g2⟩, -, ⟨b, -, f⟩, ⟨b13, -, f13⟩, ⟨b7, -, f7⟩, ⟨b4', -, f4⟩, -⟩
  (refine sya_list [[], [0], [0, 1], [], [3], [], [5], [], [], [8], [], [10], [10, 11], [3, 4, 10, 11, 12], [3, 4, 5, 6, 7, 8, 9, 10, 11, 12, 13], [0, 1, 2, 3, 4, 5, 6, 7, 8, 9, 10, 11, 12, 13, 14], [0, 1, 2, 3, 4, 5, 6, 7, 8, 9, 10, 11, 12, 13, 14, 15], [0, 1, 2, 3, 4, 5, 6, 7, 8, 9, 10, 11, 12, 13, 14, 15, 16], [0, 1, 2, 3, 4, 5, 6, 7, 8, 9, 10, 11, 12, 13, 14, 15, 16], [], [0, 1, 2, 3, 4, 5, 6, 7, 8, 9, 10, 11, 12, 13, 14, 15, 16, 17, 19], [0, 1, 2, 3, 4, 5, 6, 7, 8, 9, 10, 11, 12, 13, 14, 15, 16, 17, 18, 19, 20]] ?_ ?_; kernel_rfl)
  refine SyL.weaken (fr' := [(25, .int .i64 0), (5, .pointer (some ⟨b5, 0, none⟩)), (4, .pointer (some ⟨b4, 0, none⟩))]) (L' := [.blk b5 37 (s.map Sy.v8), .blk b4 37 (List.replicate 32 (.int .u8 0))]) ?_ ?_ ?_
  · repeat' (first | refine sy_seqC ?_ | refine syl_nil ?_ | refine sy_ret ?_ | refine syx_then ?_ | refine syx_go ?_ | (refine sy_region (id := 2) ?_; refine y_load ?_; refine y_store ?_) | (refine syl_id ?_; first | refine y_assign ?_ | fail) | fail)
    exact ret1 rfl (resCells rfl (ty rfl) rfl Has.go Seg.all (by first | rfl | (simp only [List.length_map, List.length_set, List.length_replicate, List.length_append]; omega) | (simp only [List.length_map]; first | assumption | omega) | (simp; omega) | fail)) SubR.nil ⟨rfl, rfl⟩
  · (repeat' (first | exact Sub.nil | refine Sub.cons rfl ?_ ?_ | rfl))
    exact g1
  · show SubR _ ((ρ 20).2 ++ ((ρ 14).2 ++ ((ρ 13).2 ++ ((ρ 7).2 ++ ((ρ 4).2 ++ _)))))
    rw [g2, f, f13, f7, f4]
    exact SubR.go2
theorem allowed_fn (z : Int) (a : Option Addr) (m d : Nat) (xs : List Bs) (w : World) (hm : xs.length = m) (hmb : m < 1000000) (hsx : SlA w a (xs.map Bs.val)) :
    Sy.Fn Tryz.prog 68 [.int .i64 z, .slice a m d] w No (Gives (.bool (decide (∀ s ∈ xs, s.n ≤ 4096) && (decide (1 ≤ z) && decide (z ≤ 1024))))) := by
  refine fn_enter Tryz.func68 rfl Tryz.ntmps68 (by simp) Holds.nil ?_
  repeat' (first | refine sy_seqC ?_ | refine syl_nil ?_ | refine sy_block ?_ | refine syx_then ?_ | refine syx_go ?_ | (refine sy_region (id := 0) ?_; refine y_assign ?_) | (refine sy_region (id := 1) ?_; refine y_move ?_; refine y_len ?_; refine y_move ?_) | fail)
  refine sy_loop (γ := Nat) (fun i => [(0, .int .i64 z), (7, .slice a m d), (8, .int .i64 m), (9, .int .i64 i)]) (fun _ => []) (fun i => i ≤ m ∧ ∀ s ∈ xs.take i, s.n ≤ 4096) (fun i => m - i) 0 ⟨Nat.zero_le _, fun s hs => (by simp at hs)⟩ ?_ ?_ ?_
  · exact Sub.go
  · exact SubR.go
  rintro i ⟨hi, hall⟩
  by_cases hlt : i < m
  · obtain ⟨bl, ol, rfl, hcell⟩ := Bs.get hsx (hm ▸ hlt)
    have hci := hcell i (hm ▸ hlt)
    have hmem : xs[i] ∈ xs := List.getElem_mem _
    have htk : ∀ s ∈ xs.take (i + 1), s ∈ xs.take i ∨ s = xs[i] := fun s hs => by
      rw [List.take_succ, List.getElem?_eq_getElem (hm ▸ hlt)] at hs
      rcases List.mem_append.1 hs with h | h
      · exact .inl h
      · exact .inr (by simpa using h)
    generalize xs[i] = s at *
    obtain ⟨sa, sn, sc, sl⟩ := s
    dsimp only at *
    by_cases hbig : 4096 < sn
    · have hno : decide (∀ s ∈ xs, s.n ≤ 4096) = false := decide_eq_false (fun h => by have : sn ≤ 4096 := h _ hmem; omega)
      rw [hno, Bool.false_and]
      repeat' (first | refine sy_seqC ?_ | refine syl_nil ?_ | refine sy_if_t rfl ?_ | refine sy_block ?_ | refine sy_skip ?_ | refine sy_ret ?_ | refine syx_then ?_ | refine syx_go ?_ | refine syx_then_ret ?_ | refine syx_in_ret ?_ | (refine sy_region (id := 2) ?_; refine y_lss ?_) | (refine sy_region (id := 3) ?_; refine y_indexAddr ?_; refine yv (op_load_old (hv := hci)) (k := ?_); refine y_assign ?_) | (refine sy_region (id := 4) ?_; refine y_move ?_; refine y_len ?_; refine y_gtr ?_) | (refine sy_region (id := 5) ?_; refine y_assign ?_) | fail)
      exact ret1 rfl (resTmp rfl) SubR.nil ⟨rfl, rfl⟩
    · repeat' (first | refine sy_seqC ?_ | refine syl_nil ?_ | refine sy_if_t rfl ?_ | refine sy_if_f rfl ?_ | refine sy_block ?_ | refine sy_skip ?_ | refine syx_then ?_ | refine syx_go ?_ | (refine sy_region (id := 2) ?_; refine y_lss ?_) | (refine sy_region (id := 3) ?_; refine y_indexAddr ?_; refine yv (op_load_old (hv := hci)) (k := ?_); refine y_assign ?_) | (refine sy_region (id := 4) ?_; refine y_move ?_; refine y_len ?_; refine y_gtr ?_) | (refine sy_region (id := 6) ?_; refine y_add ?_; refine y_move ?_) | fail)
      refine syx_back (i + 1) ⟨hlt, fun s hs => ?_⟩ ?_ ?_ ?_
      · rcases htk s hs with h | rfl
        · exact hall s h
        · exact (show sn ≤ 4096 by omega)
      · show m - (i + 1) < m - i; omega
      · exact Sub.go
      · exact SubR.go
  obtain rfl : i = m := by omega
  rw [List.take_of_length_le (by omega)] at hall
  rw [decide_eq_true hall, Bool.true_and]
  by_cases h1 : 1 ≤ z
  · rw [decide_eq_true h1, Bool.true_and]
    repeat' (first | refine sy_seqC ?_ | refine syl_nil ?_ | refine sy_if_f rfl ?_ | refine sy_ret ?_ | refine sy_exit ?_ | refine syx_then ?_ | refine syx_go ?_ | (refine sy_region (id := 2) ?_; refine y_lss ?_) | (refine sy_region (id := 7) ?_; refine y_move ?_; refine y_geq ?_; refine y_move ?_; refine y_move ?_; refine y_leq ?_; refine y_pick ?_; refine y_assign ?_) | fail)
    exact ret1 rfl (resTmp rfl) SubR.nil ⟨rfl, rfl⟩
  · rw [decide_eq_false h1, Bool.false_and]
    repeat' (first | refine sy_seqC ?_ | refine syl_nil ?_ | refine sy_if_f rfl ?_ | refine sy_ret ?_ | refine sy_exit ?_ | refine syx_then ?_ | refine syx_go ?_ | (refine sy_region (id := 2) ?_; refine y_lss ?_) | (refine sy_region (id := 7) ?_; refine y_move ?_; refine y_geq ?_; refine y_move ?_; refine syl_skip rfl rfl rfl ?_; refine syl_skip rfl rfl rfl ?_; refine y_pick ?_; refine y_assign ?_) | fail)
    exact ret1 rfl (resTmp rfl) SubR.nil ⟨rfl, rfl⟩
end Go.Proofs.YtaeddmcoanefhaaGreatDoor
end
section
namespace Go.Proofs.YtaeddmcoanefhaaGreatDoor
open Go Go.Sy Go.Sh Go.RowKit
attribute [local irreducible] Sy SyL SyX Sy.Fn callFunc Sh.sum kxor kpad kbase macA HashIs MacIs hmac dblock firstN
set_option maxRecDepth 10000
theorem dblock_len (key label ctx : List UInt8) (n i : Nat) : (dblock key label ctx n i).length = 32 := by unfold dblock; exact hmac_len _ _
theorem kdf_fn (a0 a1 a2 : Option Addr) (n0 c0 n1 c1 n2 c2 n : Nat) (key label ctx : List UInt8) (w : World) (h0 : InOk w a0 n0 c0 key) (h1 : InOk w a1 n1 c1 label) (h2 : InOk w a2 n2 c2 ctx) (hb0 : n0 ≤ 4096) (hb1 : n1 ≤ 4096) (hb2 : n2 ≤ 4096) (hn1 : 1 ≤ n) (hn : n ≤ 1024) (hT : Tab w No) :
    Sy.Fn Tryz.prog 46 [.slice a0 n0 c0, .slice a1 n1 c1, .slice a2 n2 c2, .int .i64 n] w No (fun v R => ∃ a k, v = .tuple #[.slice a n k, .int .i64 0] ∧ R = [.row (.slice a n k) 5 1 n ((firstN (dblock key label ctx n) n).map Sy.v8)]) := by
  refine fn_enter Tryz.func46 rfl Tryz.ntmps46 (by simp) Holds.nil ?_
  obtain ⟨xs, hx⟩ : ∃ x : List Bs, x = [⟨a0, n0, c0, []⟩, ⟨a1, n1, c1, []⟩, ⟨a2, n2, c2, []⟩] := ⟨_, rfl⟩
  have hv : (decide (∀ s ∈ xs, s.n ≤ 4096) && (decide (1 ≤ (n : Int)) && decide ((n : Int) ≤ 1024))) = true := by
    rw [Bool.and_eq_true, Bool.and_eq_true, decide_eq_true_eq, decide_eq_true_eq, decide_eq_true_eq]
    refine ⟨fun s hs => ?_, by omega, by omega⟩
    rw [hx] at hs
    rcases List.mem_cons.1 hs with rfl | hs
    · exact hb0
    rcases List.mem_cons.1 hs with rfl | hs
    · exact hb1
    obtain rfl := List.mem_singleton.1 hs
    exact hb2
  have hxv : xs.map Bs.val = [.slice a0 n0 c0, .slice a1 n1 c1, .slice a2 n2 c2] := by rw [hx]; rfl
  have hxl : xs.length = 3 := by rw [hx]; rfl
  repeat' (first | refine sy_seqC ?_ | refine syl_nil ?_ | refine sy_if_f rfl ?_ | refine sy_skip ?_ | refine syx_then ?_ | refine syx_go ?_ | (refine sy_region (id := 0) ?_; refine y_assign ?_; refine y_assign ?_) | (refine sy_region (id := 1) ?_; refine y_move ?_; refine y_move ?_; refine y_move ?_; refine y_move ?_; (refine ys op_buildSlice (k := ?_); rintro _ _ ⟨_, rfl, rfl⟩); refine yv (op_callV (hc := fun w' X hk hh => hv ▸ allowed_fn n _ 3 3 xs w' hxl (by decide) (by rw [hxv]; exact (Rd.of (Reads.blk Has.here Seg.all)) w' X hk hh))) (k := ?_); refine y_unOp ?_) | (refine sy_region (id := 3) ?_; refine y_move ?_; refine y_build ?_; refine y_move ?_; refine y_move ?_; refine y_move ?_; refine y_build ?_; (refine y_new ?_; intro _); refine y_store ?_) | (refine syl_id ?_; first | refine y_move ?_ | fail) | refine sy_region ?_ | fail)
  obtain ⟨agg, hagg⟩ : ∃ x : Value, x = .agg ([.slice a0 n0 c0, .slice a1 n1 c1, .slice a2 n2 c2, .int .i64 n] : List Value).toArray := ⟨_, rfl⟩
  have hq := dblock_len key label ctx n
  have hbl : ∀ (w1 w2 w3 : World) (Mi : Nat → Prop) (i : Nat), Keep No w w1 → Keep No w1 w2 → (∀ b, Mi b → w1.heap.size ≤ b) → Keep Mi w2 w3 → i ≤ 100000 → Sy.Fn Tryz.prog 71 [agg, .int .i64 i] w3 No (Gives (.agg ((dblock key label ctx n i).map Sy.v8).toArray)) := fun w1 w2 w3 Mi i k1 k2 hm k3 hi => by
    rw [hagg]
    exact dblock_fn a0 a1 a2 n0 c0 n1 c1 n2 c2 n i key label ctx w3 ((h0.keep k1).far k2 hm k3) ((h1.keep k1).far k2 hm k3) ((h2.keep k1).far k2 hm k3) hb0 hb1 hb2 (by omega) hi ((hT.no k1).far k2 hm k3)
  repeat' (first | refine syl_nil ?_ | refine sy_ret ?_ | refine syx_then ?_ | refine syx_go ?_ | (refine syl_id ?_; first | (refine ys (op_call0 (hc := fun w' X hk hh => numbered_fn 71 [.agg ([.slice a0 n0 c0, .slice a1 n1 c1, .slice a2 n2 c2, .int .i64 n] : List Value).toArray] [] w')) (k := ?_); rintro _ _ ⟨R, rfl, b1, rfl, rfl⟩) | (refine ys (op_call0 (hc := fun w' X hk hh => first_fn n 94 [.pointer (some ⟨b1, 0, none⟩)] (dblock key label ctx n) w' hn1 (by omega) hq (en rfl) (fun w2 Mi k2 hm => numbered1_it b1 71 [.agg ([.slice a0 n0 c0, .slice a1 n1 c1, .slice a2 n2 c2, .int .i64 n] : List Value).toArray] [] _ _ w2 Mi (k2.cell (blk_cell (hh.has Has.here) 0) (fun h => h)) (fun h => absurd (hm _ h) (Nat.not_le.2 (Res.own_lt (hh.has Has.here) rfl))) (by omega) hq (en rfl) (fun w3 i k3 _ _ => hagg ▸ hbl w' w2 w3 Mi i hk k2 hm k3 (by omega))))) (k := ?_); rintro _ _ ⟨R, rfl, aF, kF, rfl, rfl⟩) | refine y_assign ?_ | refine y_load ?_ | refine y_makeFunc ?_ | fail) | fail)
  exact ret2 rfl (resTmp rfl) (resTmp rfl) (by exact SubR.go) ⟨_, _, rfl, rfl⟩
end Go.Proofs.YtaeddmcoanefhaaGreatDoor
end
section
namespace Go.Proofs.YtaeddmcoanefhaaGreatDoor
open Go Go.Sy Go.Sh Go.Nt Go.RowKit
attribute [local irreducible] Sy SyL SyX Sy.Fn callFunc natC Sh.sum HashIs firstN dblock hmac
set_option maxRecDepth 10000
theorem derived_fn (b : Nat) (dig lab : List UInt8) (w : World) (hd : w.rangeAt b 3 (dig.map v8)) (hl : dig.length = 32) (hlab : lab.length ≤ 4096) (hT : Tab w No) :
    Sy.Fn Tryz.prog 37 [.pointer (some ⟨b, 0, none⟩), .string (str lab)] w No (fun v R => ∃ a k, v = .tuple #[.slice a 32 k, .int .i64 0] ∧ R = [.row (.slice a 32 k) 5 1 32 ((pkDer dig lab).map v8)]) := by
  refine fn_enter Tryz.func37 rfl Tryz.ntmps37 (by simp) Holds.nil ?_
  have hkd := fun w' (hk : Keep No w w') bB cB (s1 : (⟨some ⟨bB, 0, none⟩, lab.length, cB, lab⟩ : Bs).ok w') =>
    kdf_fn (some ⟨b, 3, none⟩) (some ⟨bB, 0, none⟩) none 32 32 lab.length cB 0 0 32 dig lab [] w' ⟨hl, Nat.le_refl _, .inr ⟨b, 3, rfl, range_keep hd hk (fun h => h)⟩, fun h => by cases h⟩ ⟨s1.len, s1.cap, s1.sla, fun h => by cases h⟩ ⟨rfl, Nat.le_refl _, .inl rfl, fun _ => rfl⟩ (by decide) hlab (by decide) (by decide) (by decide) (hT.no hk)
  repeat' (first | refine sy_seqC ?_ | refine syl_nil ?_ | refine sy_ret ?_ | refine syx_then ?_ | refine syx_go ?_ | (refine sy_region (id := 0) ?_; refine y_assign ?_; refine y_assign ?_) | (refine sy_region (id := 1) ?_; refine y_move ?_; refine y_nilCheck ?_; refine y_fieldAddr ?_; refine y_slice ?_; refine y_move ?_) | (refine ys (op_toBytes (l := lab)) (k := ?_); rintro _ _ ⟨bB, cB, J, fz, hcB, rfl, rfl⟩) | (refine syl_id ?_; first | (refine ys (op_call0 (f := 46) (hc := fun w' X hk hh => hkd w' hk bB cB (bs_obj hk hh hcB Has.here))) (k := ?_); rintro _ _ ⟨R, rfl, aK, kK, rfl, rfl⟩) | refine y_assign ?_ | refine y_extract ?_ | fail) | fail)
  exact ret2 rfl (resTmp rfl) (resTmp rfl) (by exact SubR.go) ⟨_, _, rfl, rfl⟩
theorem pcheck_fn (b b1 m d : Nat) (fs : List Nat) (w : World) (hm : fs.length = m) (hm2 : m ≤ 100) (hen : ∀ f ∈ fs, ∀ args w, (callFunc f args).run Tryz.prog w = .ok (.enter f args) w)
    (hf : ∀ f ∈ fs, ∀ w', Keep No w w' → Sy.Fn Tryz.prog f [.pointer (some ⟨b, 0, none⟩)] w' No (Gives (.int .i64 0)))
    (hs : w.rangeAt b1 0 (fs.map fun f => .func (.func f) #[.pointer (some ⟨b, 0, none⟩)] #[])) :
    Sy.Fn Tryz.prog 28 [.slice (some ⟨b1, 0, none⟩) m d] w No (Gives (.int .i64 0)) := by
  refine fn_enter Tryz.func28 rfl Tryz.ntmps28 (by simp) Holds.nil ?_
  repeat' (first | refine sy_seqC ?_ | refine syl_nil ?_ | refine sy_block ?_ | refine syx_then ?_ | refine syx_go ?_ | (refine sy_region (id := 0) ?_; refine y_assign ?_) | (refine sy_region (id := 1) ?_; refine y_move ?_; refine y_len ?_; refine y_move ?_) | fail)
  refine sy_loop (γ := Nat) (fun k => [(6, .slice (some ⟨b1, 0, none⟩) m d), (7, .int .i64 m), (8, .int .i64 k)]) (fun _ => []) (fun k => k ≤ m) (fun k => m - k) 0 (Nat.zero_le _) ?_ ?_ ?_
  · exact Sub.go
  · exact SubR.go2
  rintro k hk
  rcases Nat.lt_or_ge k m with h | h
  · obtain ⟨f, hx⟩ : ∃ f, fs[k]? = some f := ⟨_, List.getElem?_eq_getElem (by omega)⟩
    have hmem := List.mem_of_getElem? hx
    have hcell : w.cell? ⟨b1, 0 + k, none⟩ = some (.func (.func f) #[.pointer (some ⟨b, 0, none⟩)] #[]) := hs k _ (by rw [List.getElem?_map, hx]; rfl)
    have hff := hf f hmem
    have hee := hen f hmem
    have hlt : decide ((k : Int) < (m : Int)) = true := decide_eq_true (by omega)
    have g5 : IntKind.i64.wrap ((k : Int) + 1) = ((k + 1 : Nat) : Int) := by rw [IntWalk.i64_in _ (by omega)]; omega
    repeat' (first | refine sy_seqC ?_ | refine syl_nil ?_ | refine sy_if_t rfl ?_ | refine sy_if_f rfl ?_ | refine sy_block ?_ | refine sy_skip ?_ | refine syx_then ?_ | refine syx_go ?_ | (refine sy_region (id := 2) ?_; refine yv (op_lss (hr := hlt)) (k := ?_)) | (refine sy_region (id := 3) ?_; refine yv (op_indexAddr1 (j := k)) (k := ?_); refine yv (op_load_old (hv := hcell)) (k := ?_); refine y_assign ?_) | (refine sy_region (id := 4) ?_; refine y_move ?_; refine yv (op_callFV (he := hee) (fst := [.pointer (some ⟨b, 0, none⟩)]) (cap := []) (hc := fun w' X hk hh => hff w' hk)) (k := ?_); refine y_assign ?_) | (refine sy_region (id := 5) ?_; refine y_move ?_; refine y_neq ?_) | (refine sy_region (id := 7) ?_; refine yv (op_add (hr := g5)) (k := ?_); refine y_move ?_) | fail)
    refine syx_back (k + 1) h ?_ ?_ ?_
    · show m - (k + 1) < m - k; omega
    · exact Sub.go
    · exact SubR.go2
  have hlt : decide ((k : Int) < (m : Int)) = false := decide_eq_false (by omega)
  repeat' (first | refine sy_seqC ?_ | refine syl_nil ?_ | refine sy_if_f rfl ?_ | refine sy_ret ?_ | refine sy_exit ?_ | refine syx_then ?_ | refine syx_go ?_ | (refine sy_region (id := 2) ?_; refine yv (op_lss (hr := hlt)) (k := ?_)) | (refine sy_region (id := 8) ?_; refine y_assign ?_) | fail)
  exact ret1 rfl (resTmp rfl) SubR.nil ⟨rfl, rfl⟩
theorem xkey_fn (b : Nat) (s : Int) (dig : List UInt8) (w : World) (hs : s ≠ 0) (hc : w.cell? ⟨b, 35, none⟩ = some (.int .i64 s)) (hd : w.cell? ⟨b, 2, none⟩ = some (.bool true)) (hg : w.rangeAt b 3 (dig.map v8)) (hl : dig.length = 32) (hT : Tab w No) :
    Sy.Fn Tryz.prog 12 [.pointer (some ⟨b, 0, none⟩)] w No (fun v R => ∃ a k, v = .tuple #[.slice a 32 k, .int .i64 0] ∧ R = [.row (.slice a 32 k) 5 1 32 ((pkDer dig pkKey).map v8)]) := by
  refine fn_enter Tryz.func12 rfl Tryz.ntmps12 (by simp) Holds.nil ?_
  have hch := fun w' (hk : Keep No w w') b9 (h : w'.rangeAt b9 0 [Value.func (.func 29) #[.pointer (some ⟨b, 0, none⟩)] #[], .func (.func 36) #[.pointer (some ⟨b, 0, none⟩)] #[]]) =>
    pcheck_fn b b9 2 2 [29, 36] w' rfl (by decide) (fun f hf => by
      simp only [List.mem_cons, List.not_mem_nil, or_false] at hf
      rcases hf with rfl | rfl
      · exact en rfl
      · exact en rfl) (fun f hf w'' hk2 => by
      simp only [List.mem_cons, List.not_mem_nil, or_false] at hf
      rcases hf with rfl | rfl
      · exact exists_fn b s w'' hs (cell_to (cell_to hc hk) hk2)
      · exact complete_fn b w'' (cell_to (cell_to hd hk) hk2)) h
  have hde := fun w' (hk : Keep No w w') => derived_fn b dig pkKey w' (range_keep hg hk (fun h => h)) hl (by decide) (hT.no hk)
  rw [show (str pkKey) = str [107, 101, 121] from rfl] at hde
  repeat' (first | refine sy_seqC ?_ | refine syl_nil ?_ | refine sy_if_f rfl ?_ | refine sy_skip ?_ | refine sy_ret ?_ | refine syx_then ?_ | refine syx_go ?_ | (refine sy_region (id := 0) ?_; refine y_assign ?_; refine y_assign ?_) | (refine sy_region (id := 1) ?_; refine y_move ?_; refine y_makeFunc ?_; refine y_move ?_; refine y_makeFunc ?_; (refine ys op_buildSlice (k := ?_); rintro _ _ ⟨_, rfl, rfl⟩); refine yv (op_callV (f := 28) (hc := fun w' X hk hh => hch w' hk _ (blk_range (hh.has (Has.append Has.here)) Seg.all))) (k := ?_); refine y_assign ?_) | (refine sy_region (id := 2) ?_; refine y_move ?_; refine y_neq ?_) | (refine sy_region (id := 4) ?_; refine y_move ?_; refine y_nilCheck ?_; refine y_fieldAddr ?_; (refine ys (op_call0 (hc := fun w' X hk hh => hde w' hk)) (k := ?_); rintro _ _ ⟨R, rfl, aK, kK, rfl, rfl⟩); refine y_extract ?_; refine y_extract ?_; refine y_assign ?_; refine y_assign ?_) | fail)
  exact ret2 rfl (resTmp rfl) (resTmp rfl) (by exact SubR.go) ⟨_, _, rfl, rfl⟩
end Go.Proofs.YtaeddmcoanefhaaGreatDoor
end
section
namespace Go.Sy
open Go
section
variable {P : Program} {ro : Option Nat} {N : Nat} {w0 : World} {M : Nat → Prop} {ds : List Deferred} {g : Nat → Option Value} {L : List Res} {o : Oper}
variable {t t' : TypeId} {x z : Operand} {y ye : Ty}
theorem op_appendG {k cs m cx e : Nat} {b0 b1 : Addr} {xs news : List Value} {xo so : Operand} (ho : o.op = .call { callee := .builtin .append, args := #[so, xo], argTypes := #[t, t] } := by exact rfl)
    (hs : ev g so = some (.slice (some b0) k cs)) (hx : ev g xo = some (.slice (some b1) m cx)) (ht : tyOf P t = some y := by exact ty rfl) (hy : y.desc = .slice e := by exact rfl) (he : tyOf P e = some ye := by exact ty rfl) (hsz : ye.size = 1 := by exact rfl) (hz : (zeroC P e).map (·.length) = some 1 := by (rw [zc rfl]; rfl))
    (hrs : Rd w0 M L (some b0) xs) (hrx : Rd w0 M L (some b1) news) (hk : xs.length = k) (hm : news.length = m) (hkp : 0 < k) (hmp : 0 < m) (hg : cs < k + m) (b1' : k + m ≤ 1000000) (b2 : ye.bytes = 1 := by exact rfl) :
    OpT P ro N w0 M ds o g L (fun v' L' => ∃ b J, v' = .slice (some ⟨b, 0, none⟩) (k + m) (k + m + J.length) ∧ L' = .blk b e ((xs ++ news) ++ J) :: L) := by
  refine OpT.run (by rw [ho]; rfl) fun a w X hst => ?_
  obtain ⟨d, i', hd, hi', hs', _⟩ := tyOf_spec ht
  rw [hy] at hs'
  have := slim_slice hs'; subst this
  obtain ⟨de, ie, hde, hie, _, hez, heb, _⟩ := tyOf_spec he
  obtain ⟨zcells, hzc, hzl⟩ := Option.map_eq_some_iff.1 hz
  unfold zeroC at hzc
  rw [hie] at hzc
  simp only [Option.bind_some, Option.map_eq_some_iff] at hzc
  obtain ⟨zv, hzv, hze⟩ := hzc
  have hzs : zv.cells.size = 1 := by rw [← hze] at hzl; simpa using hzl
  have c0 : ∀ j u, xs[j]? = some u → w.cell? (b0.add j) = some u := fun j u hj => by
    rcases hrs w X hst.keep hst.hold with h | ⟨b, off, h, hrg⟩
    · rw [h] at hj; simp at hj
    · cases h; exact sla_add hrg j u hj
  have c1 : ∀ j u, news[j]? = some u → w.cell? (b1.add j) = some u := fun j u hj => by
    rcases hrx w X hst.keep hst.hold with h | ⟨b, off, h, hrg⟩
    · rw [h] at hj; simp at hj
    · cases h; exact sla_add hrg j u hj
  have hie1 : ie.size = 1 := by rw [hez, hsz]
  have hib1 : ie.bytes = 1 := by rw [heb, b2]
  have hrun := run_append_grow (P := P) w t o.type e ie zv hd hie hzv b0 k cs xs (by rw [hie1]; omega) c0 b1 m cx news (by rw [hie1]; omega) c1 hg (by omega) (growslice_fits (by omega) (by rw [hib1]; omega))
  have hcap := grownCap_ge w (k + m) cs e
  obtain ⟨J, hJ, hJl⟩ : ∃ J : List Value, xs.toArray ++ news.toArray ++ Builtin.zeroCells zv.cells (grownCap w (k + m) cs e - (k + m)) = ((xs ++ news) ++ J).toArray ∧ J.length = grownCap w (k + m) cs e - (k + m) := by
    refine ⟨(Builtin.zeroCells zv.cells (grownCap w (k + m) cs e - (k + m))).toList, by simp, ?_⟩
    simp [Builtin.zeroCells, hzs]
  rw [hJ] at hrun
  have hk' : Keep No w (w.drew.alloc (.cells ((xs ++ news) ++ J).toArray e)) := ⟨rfl, rfl, rfl, by show w.heap.size ≤ (w.heap.push _).size; rw [Array.size_push]; omega, fun q hq _ => by
    show (w.heap.push _)[q]? = _
    rw [Array.getElem?_push, if_neg (by omega)]⟩
  refine ⟨_, _, w.drew.alloc (.cells ((xs ++ news) ++ J).toArray e), _, ?_, .inl rfl, ⟨w.heap.size, J, rfl, rfl⟩, hst.keep.trans hk' (fun _ h => h.elim), ?_⟩
  · have e1 : #[so, xo].map a.eval = #[.slice (some b0) k cs, .slice (some b1) m cx] := by simp [hst.agr.eval hs, hst.agr.eval hx]
    simp only [execOp, ho, resolve, invoke, builtin, e1, Sem.run_bind, Sem.run_pure, Result.andThen_ok, hrun]
    rw [show grownCap w (k + m) cs e = k + m + J.length by omega]
  · refine Holds.fresh hst.hold hk' ?_ (fun b hb => hb.symm) hst.keep.size
    show (w.heap.push _)[w.heap.size]? = _
    exact Array.getElem?_push_size
end
end Go.Sy
end
