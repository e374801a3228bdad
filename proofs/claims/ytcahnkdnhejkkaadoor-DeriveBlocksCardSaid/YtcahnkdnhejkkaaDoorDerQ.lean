/- Layer derive, walked: a password's block. -/
import Derived.Test.YtcahnkdnhejkkaaDoorDerP
set_option linter.all false
namespace Go.Proofs.YtcahnkdnhejkkaaDoor
open Go Go.Sy Go.Sh Go.RowKit
attribute [local irreducible] Sy SyL SyX Sy.Fn callFunc Sh.sum kxor kpad kbase macA HashIs MacIs hmac
set_option maxRecDepth 10000
theorem pwU_len (pw salt : List UInt8) (i : Nat) : ∀ k, (pwU pw salt i k).length = 32
  | 0 => hmac_len _ _
  | _ + 1 => hmac_len _ _
theorem pwB_len (pw salt : List UInt8) (i : Nat) : ∀ k, (pwB pw salt i k).length = 32
  | 0 => pwU_len pw salt i 0
  | k + 1 => xorl_len _ _ 32 (pwB_len pw salt i k) (pwU_len pw salt i (k + 1))
set_option maxHeartbeats 1000000 in
theorem pblock_fn (b1 bb bm b2 b3 : Nat) (C0 : List Value) (pw salt : List UInt8) (a : Option Addr) (n c k i : Nat) (w : World) (hc1 : w.cell? ⟨b1, 0, none⟩ = some (.func (.func 77) #[] (#[.pointer (some ⟨bb, 0, none⟩)] : Array Value)))
    (hc2 : w.cell? ⟨b2, 0, none⟩ = some (.slice a n c)) (hc3 : w.cell? ⟨b3, 0, none⟩ = some (.int .i64 k)) (hcb : w.cell? ⟨bb, 0, none⟩ = some (.pointer (some ⟨bm, 0, none⟩))) (hC : (Res.blk bm 69 C0).holds w) (hI : MacIs pw [] C0)
    (hs : InOk w a n c salt) (hnb : n ≤ 4096) (hk1 : 1 ≤ k) (hkb : k ≤ 100000) (hi : i ≤ 100000) (hT : Tab w No) :
    Sy.Fn Tryd.prog 78 [.int .i64 i, .pointer (some ⟨b1, 0, none⟩), .pointer (some ⟨b2, 0, none⟩), .pointer (some ⟨b3, 0, none⟩)] w No (Gives (.agg ((pwB pw salt i (k - 1)).map Sy.v8).toArray)) := by
  refine fn_enter Tryd.func78 rfl Tryd.ntmps78 (by simp) Holds.nil ?_
  have hsub : IntKind.i64.wrap ((k : Int) - 1) = ((k - 1 : Nat) : Int) := by rw [IntWalk.i64_in _ (by omega)]; omega
  have hUl := pwU_len pw salt i
  have hBl := pwB_len pw salt i
  have hU0 : hmac pw (salt ++ four i) = pwU pw salt i 0 := rfl
  have hB0 : pwB pw salt i 0 = pwU pw salt i 0 := rfl
  have hUs : ∀ j, hmac pw (pwU pw salt i j) = pwU pw salt i (j + 1) := fun _ => rfl
  have hBs : ∀ j, xorl (pwB pw salt i j) (pwU pw salt i (j + 1)) = pwB pw salt i (j + 1) := fun _ => rfl
  have hold : ∀ w', Keep No w w' → (Res.blk bm 69 C0).holds w' := fun w' hk => Res.holds_congr hC (fun b hb => hk.block b (Res.own_lt hC hb) (fun h => h))
  generalize pwU pw salt i = U at *
  generalize pwB pw salt i = B at *
  repeat' (first | refine sy_seqC ?_ | refine syl_nil ?_ | refine sy_if_t rfl ?_ | refine sy_if_f rfl ?_ | refine sy_block ?_ | refine sy_skip ?_ | refine sy_ret ?_ | refine sy_exit ?_ | refine sy_label ?_ | refine syx_then ?_ | refine syx_go ?_ | refine syx_then_ret ?_ | refine syx_then_exit ?_ | refine syx_in ?_ | refine syx_in_ret ?_ | refine syx_in_here ?_ | refine syx_in_past rfl ?_ | (apply syx_begin; (focus ((repeat (first | exact Rem.here | apply Rem.there)); done)); assumption) | (refine sy_region (id := 0) ?_; try (refine y_new ?_; intro _)) | (refine syl_id ?_; first | (refine y_new ?_; intro _) | fail) | refine sy_region ?_ | fail)
  rename_i b5
  refine sy_drawA (id := 1) mixed ?_
  (refine sye_part 7 7 [[], [], [], [2], [1, 2, 3], [0, 1, 2, 3, 4], [], [0, 1, 2, 3, 4, 5, 6]] [[], [], [], [], [], [], [], []] none rfl ?_ ?_ ?_; kernel_rfl; kernel_rfl; try (first | refine dcE (fun _ _ => op_load_old (hv := hc1)) (k := ?_) | refine dcE (fun _ _ => op_load_old (hv := hc2)) (k := ?_) | refine e_load ?_ | fail); try (first | refine dcE (fun _ _ => op_load_old (hv := hc1)) (k := ?_) | refine dcE (fun _ _ => op_load_old (hv := hc2)) (k := ?_) | refine e_load ?_ | fail); try (first | refine e_move ?_ | fail); try (first | fail); try (first | fail); try (first | fail); try (first | fail); try refine dh_0nE (h := ?_))
  refine dh_rE (R := fun _ => NumOf i) (fun _ _ _ => rfl) (fun ρ hρ => OpT.mono (op_call0 (hc := fun w' X hk hh => number_fn i w' (by omega))) fun v L' h => ?_) (h := ?_)
  · obtain ⟨R, rfl, h⟩ := h
    exact ⟨R, rfl, h⟩
  refine dh_rE (R := fun ρ => LitOf 22 [.slice a n c, (ρ 3).1]) (fun ρ ρ' h => by rw [h 3 (by decide)]) (fun ρ hρ => ?_) (h := ?_)
  · obtain ⟨⟨b3', e3, f3⟩, -⟩ := hρ
    refine OpT.mono (op_buildSlice (hc := by show [_, (ρ 3).1].all _ = true; rw [e3]; rfl)) fun v L' h => ?_
    obtain ⟨b, rfl, rfl⟩ := h
    exact ⟨[_], rfl, b, rfl, rfl⟩
  refine dcE (u := .agg ((U 0).map Sy.v8).toArray) (fun ρ hρ => ?_) (k := ?_)
  · obtain ⟨⟨b4, e4, f4⟩, ⟨b3', e3, f3⟩, -⟩ := hρ
    rw [e3] at f4
    refine op_callV (vs := [.slice (some ⟨b4, 0, none⟩) 2 2]) (cap := [.pointer (some ⟨bb, 0, none⟩)]) (ha := by show (some [(ρ 4).1] : Option (List Value)) = _; rw [e4]; rfl) (hc := fun w' X hk hh => ?_)
    obtain ⟨xs2, hx2⟩ : ∃ x : List Bs, x = [⟨a, n, c, salt⟩, ⟨some ⟨b3', 0, none⟩, 4, 4, four i⟩] := ⟨_, rfl⟩
    have hh' : Holds w.heap.size No ([.blk b4 22 (xs2.map Bs.val), .blk b3' 5 ((four i).map Sy.v8)] ++ ([.blk b5 24 (List.replicate 32 (.int .u8 0))] ++ X)) w' := by
      have h2 : Holds w.heap.size No ((ρ 4).2 ++ ((ρ 3).2 ++ [.blk b5 24 (List.replicate 32 (.int .u8 0))]) ++ X) w' := hh
      rw [f4, f3] at h2
      rw [hx2]; exact h2
    have hcat : Bs.cat xs2 = salt ++ four i := by rw [hx2]; simp [Bs.cat]
    have hpa := parts_blk (m := 2) hh' Has.here (by rw [hx2]; rfl) (by decide) (fun x hx => by
      have k1 := hs.keep hk
      rw [hx2] at hx
      rcases List.mem_cons.1 hx with rfl | hx
      · exact ⟨k1.len, k1.cap, k1.sla, (show n ≤ 10000 by omega)⟩
      obtain rfl := List.mem_singleton.1 hx
      exact ⟨four_len i, Nat.le_refl _, (Rd.of (Reads.blk (Has.there Has.here) Seg.all)) w' _ hk hh', (show 4 ≤ 10000 by decide)⟩)
    have := keyed_fn bb bm C0 pw _ 2 2 xs2 w' (hk.cell hcb (fun h => h)) (hold w' hk) hI hpa (hT.no hk)
    rw [hcat, hU0] at this
    exact this
  (skip; try (first | fail); try refine dh_0nE (h := ?_))
  refine dh_rE (R := fun _ => PtrOf 24 (List.replicate 32 (.int .u8 0))) (fun _ _ _ => rfl) (fun ρ hρ => OpT.mono op_alloc fun v L' h => ?_) (h := ?_)
  · obtain ⟨b, rfl, rfl⟩ := h
    exact ⟨[_], rfl, b, rfl, rfl⟩
  refine dh_0E (h := ?_)
  rintro ρ ⟨⟨b6, g1, g2⟩, ⟨b4, -, f4⟩, ⟨b3', -, f3⟩, -⟩
  (refine sya_list [[], [], [], [2], [1, 2, 3], [0, 1, 2, 3, 4], [], [0, 1, 2, 3, 4, 5, 6]] ?_ ?_; kernel_rfl)
  refine SyL.weaken (fr' := [(13, .agg ((U 0).map Sy.v8).toArray), (6, .pointer (some ⟨b6, 0, none⟩)), (5, .pointer (some ⟨b5, 0, none⟩)), (1, .pointer (some ⟨b1, 0, none⟩)), (2, .pointer (some ⟨b2, 0, none⟩)), (3, .pointer (some ⟨b3, 0, none⟩))])
    (L' := [.blk b6 24 (List.replicate 32 (.int .u8 0)), .blk b5 24 (List.replicate 32 (.int .u8 0))]) ?_ ?_ ?_
  · have hU0l := hUl 0
    repeat' (first | refine sy_seqC ?_ | refine syl_nil ?_ | refine sy_if_t rfl ?_ | refine sy_if_f rfl ?_ | refine sy_block ?_ | refine sy_skip ?_ | refine sy_ret ?_ | refine sy_exit ?_ | refine sy_label ?_ | refine syx_then ?_ | refine syx_go ?_ | refine syx_then_ret ?_ | refine syx_then_exit ?_ | refine syx_in ?_ | refine syx_in_ret ?_ | refine syx_in_here ?_ | refine syx_in_past rfl ?_ | (apply syx_begin; (focus ((repeat (first | exact Rem.here | apply Rem.there)); done)); assumption) | (refine sy_draw (id := 1) 7 [[], [], [], [2], [1, 2, 3], [0, 1, 2, 3, 4], [], [0, 1, 2, 3, 4, 5, 6]] mixed ?_ ?_; kernel_rfl; try (first | refine dc (fun _ _ => op_load_old (hv := hc3)) (k := ?_) | refine d_load ?_ | fail); try (first | refine dc (fun _ _ => op_load_old (hv := hc3)) (k := ?_) | refine d_load ?_ | fail); try refine d_move ?_; try refine dh_0n ?_; try refine y_store ?_) | (refine sy_region (id := 2) ?_; try (first | refine yv (op_load_old (hv := hc3)) (k := ?_) | refine y_load ?_ | fail); try (refine y_new ?_; intro _); try refine y_store ?_) | (refine sy_region (id := 3) ?_; try (first | refine yv (op_load_old (hv := hc3)) (k := ?_) | refine y_load ?_ | fail); try (first | refine yv (op_sub (hr := hsub)) (k := ?_) | refine y_sub ?_ | fail); try refine y_move ?_) | (refine syl_id ?_; first | refine yv (op_load_old (hv := hc3)) (k := ?_) | refine yv (op_sub (hr := hsub)) (k := ?_) | refine y_sub ?_ | refine y_load ?_ | refine y_move ?_ | refine y_store ?_ | (refine y_new ?_; intro _) | (refine ys op_buildSlice0 (k := ?_); rintro _ _ ⟨_, rfl, rfl⟩) | (refine ys op_buildSlice (k := ?_); rintro _ _ ⟨_, rfl, rfl⟩) | fail) | refine dh_0n ?_ | (refine dh_id ?_; first | refine dc (fun _ _ => op_load_old (hv := hc3)) (k := ?_) | refine dc (fun _ _ => op_sub (hr := hsub)) (k := ?_) | refine d_sub ?_ | refine d_load ?_ | refine d_move ?_ | fail) | refine sy_region ?_ | fail)
    rename_i b7
    refine sy_loop (γ := Nat) (fun j => [(1, .pointer (some ⟨b1, 0, none⟩)), (5, .pointer (some ⟨b5, 0, none⟩)), (6, .pointer (some ⟨b6, 0, none⟩)), (7, .pointer (some ⟨b7, 0, none⟩)), (16, .int .i64 ((k - 1 : Nat) : Int)), (17, .int .i64 j)])
      (fun j => [.blk b7 24 ((B j).map Sy.v8), .blk b6 24 ((U j).map Sy.v8), .blk b5 24 (List.replicate 32 (.int .u8 0))]) (fun j => j ≤ k - 1) (fun j => (k - 1) - j) 0 (Nat.zero_le _) ?_ ?_ ?_
    · (repeat' (first | exact Sub.nil | refine Sub.cons rfl ?_ ?_ | rfl))
    · rw [hB0]; (repeat' (first | exact SubR.nil | (apply SubR.same; with_reducible (focus ((repeat (first | exact Rem.here | apply Rem.there)); done))) | (apply SubR.blk; (focus ((repeat (first | exact Rem.here | apply Rem.there)); done))) | (apply SubR.pick; (focus ((repeat (first | exact Rem.here | apply Rem.there)); done))) | rfl))
    intro j hj
    have hUj := hUl j
    have hUj1 := hUl (j + 1)
    have hBj := hBl j
    have hUs := hUs j
    have hBs := hBs j
    by_cases hlt : j < k - 1
    · repeat' (first | refine sy_seqC ?_ | refine syl_nil ?_ | refine sy_if_t rfl ?_ | refine sy_if_f rfl ?_ | refine sy_block ?_ | refine sy_skip ?_ | refine sy_ret ?_ | refine sy_exit ?_ | refine sy_label ?_ | refine syx_then ?_ | refine syx_go ?_ | refine syx_then_ret ?_ | refine syx_then_exit ?_ | refine syx_in ?_ | refine syx_in_ret ?_ | refine syx_in_here ?_ | refine syx_in_past rfl ?_ | (apply syx_begin; (focus ((repeat (first | exact Rem.here | apply Rem.there)); done)); assumption) | (refine sy_region (id := 4) ?_; try refine y_lss ?_) | (refine syl_id ?_; first | refine y_lss ?_ | fail) | refine sy_region ?_ | fail)
      generalize U j = u at *
      generalize hU1 : U (j + 1) = u1 at *
      generalize B j = bj at *
      refine sy_drawA (id := 5) mixed ?_
      (refine sye_part 4 4 [[], [], [1], [0, 1, 2], [0, 1, 2, 3]] [[], [], [], [], []] none rfl ?_ ?_ ?_; kernel_rfl; kernel_rfl; try (first | refine dcE (fun _ _ => op_load_old (hv := hc1)) (k := ?_) | refine e_load ?_ | fail); try (first | refine e_slice ?_ | fail); try (first | fail); try (first | fail); try refine dh_0nE (h := ?_))
      refine dh_rE (R := fun ρ => LitOf 22 [.slice (some ⟨b6, 0, none⟩) 32 32]) (fun ρ ρ' h => rfl) (fun ρ hρ => OpT.mono op_buildSlice fun v L' h => ?_) (h := ?_)
      · obtain ⟨b, rfl, rfl⟩ := h
        exact ⟨[_], rfl, b, rfl, rfl⟩
      refine dcE (u := .agg (u1.map Sy.v8).toArray) (fun ρ hρ => ?_) (k := ?_)
      · obtain ⟨⟨b4, e4, f4⟩, -⟩ := hρ
        refine op_callV (vs := [.slice (some ⟨b4, 0, none⟩) 1 1]) (cap := [.pointer (some ⟨bb, 0, none⟩)]) (ha := by show (some [(ρ 2).1] : Option (List Value)) = _; rw [e4]; rfl) (hc := fun w' X hk hh => ?_)
        obtain ⟨s1, hs1⟩ : ∃ x : Bs, x = ⟨some ⟨b6, 0, none⟩, 32, 32, u⟩ := ⟨_, rfl⟩
        have hh' : Holds w.heap.size No ([.blk b4 22 ([s1].map Bs.val), .blk b7 24 (bj.map Sy.v8), .blk b6 24 (u.map Sy.v8)] ++ ([.blk b5 24 (List.replicate 32 (.int .u8 0))] ++ X)) w' := by
          have h2 : Holds w.heap.size No ((ρ 2).2 ++ [.blk b7 24 (bj.map Sy.v8), .blk b6 24 (u.map Sy.v8), .blk b5 24 (List.replicate 32 (.int .u8 0))] ++ X) w' := hh
          rw [f4] at h2
          rw [hs1]; exact h2
        have hpa := parts_blk (m := 1) hh' Has.here rfl (by decide) (part1 (by
          rw [hs1]
          exact ⟨hUj, Nat.le_refl _, (Rd.of (Reads.blk (Has.there (Has.there Has.here)) Seg.all)) w' _ hk hh', (show 32 ≤ 10000 by decide)⟩))
        have := keyed_fn bb bm C0 pw _ 1 1 [s1] w' (hk.cell hcb (fun h => h)) (hold w' hk) hI hpa (hT.no hk)
        rw [cat1, hs1] at this
        rw [← hUs]
        exact this
      refine dh_0E (h := ?_)
      rintro ρ ⟨⟨b4, e4, f4⟩, -⟩
      (refine sya_list [[], [], [1], [0, 1, 2], [0, 1, 2, 3]] ?_ ?_; kernel_rfl)
      refine SyL.weaken (fr' := [(22, .agg (u1.map Sy.v8).toArray), (1, .pointer (some ⟨b1, 0, none⟩)), (5, .pointer (some ⟨b5, 0, none⟩)), (6, .pointer (some ⟨b6, 0, none⟩)), (7, .pointer (some ⟨b7, 0, none⟩)), (16, .int .i64 ((k - 1 : Nat) : Int)), (17, .int .i64 j)])
        (L' := [.blk b7 24 (bj.map Sy.v8), .blk b6 24 (u.map Sy.v8), .blk b5 24 (List.replicate 32 (.int .u8 0))]) ?_ ?_ ?_
      · repeat' (first | refine sy_seqC ?_ | refine syl_nil ?_ | refine sy_if_t rfl ?_ | refine sy_if_f rfl ?_ | refine sy_block ?_ | refine sy_skip ?_ | refine sy_ret ?_ | refine sy_exit ?_ | refine sy_label ?_ | refine syx_then ?_ | refine syx_go ?_ | refine syx_then_ret ?_ | refine syx_then_exit ?_ | refine syx_in ?_ | refine syx_in_ret ?_ | refine syx_in_here ?_ | refine syx_in_past rfl ?_ | (apply syx_begin; (focus ((repeat (first | exact Rem.here | apply Rem.there)); done)); assumption) | (refine sy_draw (id := 5) 3 [[], [], [1], [0, 1, 2], [0, 1, 2, 3]] mixed ?_ ?_; kernel_rfl; try refine d_load ?_; try refine d_slice ?_; try refine dh_0n ?_; try refine y_store ?_) | (refine syl_id ?_; first | refine y_load ?_ | refine y_slice ?_ | refine y_store ?_ | (refine ys op_buildSlice0 (k := ?_); rintro _ _ ⟨_, rfl, rfl⟩) | (refine ys op_buildSlice (k := ?_); rintro _ _ ⟨_, rfl, rfl⟩) | fail) | refine dh_0n ?_ | (refine dh_id ?_; first | refine d_load ?_ | refine d_slice ?_ | fail) | refine sy_region ?_ | fail)
        refine sy_drawA (id := 6) mixed ?_
        (refine sye_part 2 2 [[], [], [0, 1]] [[], [], []] none rfl ?_ ?_ ?_; kernel_rfl; kernel_rfl; try (first | refine e_slice ?_ | fail); try (first | refine e_slice ?_ | fail); try refine dh_0nE (h := ?_))
        (refine sya_list [[], [], [0, 1]] ?_ ?_; kernel_rfl)
        refine SyL.weaken (fr' := [(24, .slice (some ⟨b6, 0, none⟩) 32 32), (23, .slice (some ⟨b7, 0, none⟩) 32 32), (1, .pointer (some ⟨b1, 0, none⟩)), (5, .pointer (some ⟨b5, 0, none⟩)), (6, .pointer (some ⟨b6, 0, none⟩)), (7, .pointer (some ⟨b7, 0, none⟩)), (16, .int .i64 ((k - 1 : Nat) : Int)), (17, .int .i64 j)])
          (L' := [.blk b7 24 (bj.map Sy.v8), .blk b6 24 (u1.map Sy.v8), .blk b5 24 (List.replicate 32 (.int .u8 0))]) ?_ (by (repeat' (first | exact Sub.nil | refine Sub.cons rfl ?_ ?_ | rfl))) (by show SubR _ [_, _, _]; (repeat' (first | exact SubR.nil | (apply SubR.same; with_reducible (focus ((repeat (first | exact Rem.here | apply Rem.there)); done))) | (apply SubR.blk; (focus ((repeat (first | exact Rem.here | apply Rem.there)); done))) | (apply SubR.pick; (focus ((repeat (first | exact Rem.here | apply Rem.there)); done))) | rfl)))
        refine ys (op_callR (b := b7) (Rel := fun C => C = (xorl bj u1).map Sy.v8) (hc := fun w' X hk hh => combine_fn b7 _ b6 bj u1 w' (hh.has (Has.append Has.here)) hBj hUj1 (blk_range (hh.has (Has.append (Has.there Has.here))) Seg.all) (fun e => (List.pairwise_cons.1 hh.apart).1 _ List.mem_cons_self b7 rfl e))) (k := ?_); rintro _ _ ⟨rfl, _, rfl, rfl⟩
        rw [hBs]
        repeat' (first | refine sy_seqC ?_ | refine syl_nil ?_ | refine sy_if_t rfl ?_ | refine sy_if_f rfl ?_ | refine sy_block ?_ | refine sy_skip ?_ | refine sy_ret ?_ | refine sy_exit ?_ | refine sy_label ?_ | refine syx_then ?_ | refine syx_go ?_ | refine syx_then_ret ?_ | refine syx_then_exit ?_ | refine syx_in ?_ | refine syx_in_ret ?_ | refine syx_in_here ?_ | refine syx_in_past rfl ?_ | (apply syx_begin; (focus ((repeat (first | exact Rem.here | apply Rem.there)); done)); assumption) | (refine sy_draw (id := 6) 2 [[], [], [0, 1]] mixed ?_ ?_; kernel_rfl; try refine d_slice ?_; try refine d_slice ?_; try refine dh_0n ?_) | (refine sy_region (id := 7) ?_; try refine y_add ?_; try refine y_move ?_) | (refine syl_id ?_; first | refine y_add ?_ | refine y_move ?_ | refine y_slice ?_ | fail) | refine dh_0n ?_ | (refine dh_id ?_; first | refine d_add ?_ | refine d_move ?_ | refine d_slice ?_ | fail) | refine sy_region ?_ | fail)
        refine syx_back (j + 1) (by show j + 1 ≤ k - 1; omega) ?_ ?_ ?_
        · show (k - 1) - (j + 1) < (k - 1) - j; omega
        · (repeat' (first | exact Sub.nil | refine Sub.cons rfl ?_ ?_ | rfl))
        · rw [hU1]; (repeat' (first | exact SubR.nil | (apply SubR.same; with_reducible (focus ((repeat (first | exact Rem.here | apply Rem.there)); done))) | (apply SubR.blk; (focus ((repeat (first | exact Rem.here | apply Rem.there)); done))) | (apply SubR.pick; (focus ((repeat (first | exact Rem.here | apply Rem.there)); done))) | rfl))
      · (repeat' (first | exact Sub.nil | refine Sub.cons rfl ?_ ?_ | rfl))
      · show SubR _ ((ρ 2).2 ++ _)
        rw [f4]
        (repeat' (first | exact SubR.nil | (apply SubR.same; with_reducible (focus ((repeat (first | exact Rem.here | apply Rem.there)); done))) | (apply SubR.blk; (focus ((repeat (first | exact Rem.here | apply Rem.there)); done))) | (apply SubR.same; (focus ((repeat (first | exact Rem.here | apply Rem.there)); done))) | (apply SubR.pick; (focus ((repeat (first | exact Rem.here | apply Rem.there)); done))) | rfl))
    obtain rfl : j = k - 1 := by omega
    repeat' (first | refine sy_seqC ?_ | refine syl_nil ?_ | refine sy_if_t rfl ?_ | refine sy_if_f rfl ?_ | refine sy_block ?_ | refine sy_skip ?_ | refine sy_ret ?_ | refine sy_exit ?_ | refine sy_label ?_ | refine syx_then ?_ | refine syx_go ?_ | refine syx_then_ret ?_ | refine syx_then_exit ?_ | refine syx_in ?_ | refine syx_in_ret ?_ | refine syx_in_here ?_ | refine syx_in_past rfl ?_ | (apply syx_begin; (focus ((repeat (first | exact Rem.here | apply Rem.there)); done)); assumption) | (refine sy_region (id := 4) ?_; try refine y_lss ?_) | (refine sy_region (id := 8) ?_; try refine y_load ?_; try refine y_store ?_) | (refine syl_id ?_; first | refine y_lss ?_ | refine y_load ?_ | refine y_store ?_ | fail) | refine sy_region ?_ | fail)
    exact ret1 rfl (resCells rfl (ty rfl) rfl (by repeat (first | exact Has.here | apply Has.there)) Seg.all (by first | rfl | (simp only [List.length_map, List.length_set, List.length_replicate, List.length_append]; omega) | (simp only [List.length_map]; first | assumption | omega) | (simp; omega) | fail)) SubR.nil ⟨rfl, rfl⟩
  · (repeat' (first | exact Sub.nil | refine Sub.cons rfl ?_ ?_ | rfl))
    exact g1
  · show SubR _ ((ρ 6).2 ++ ((ρ 4).2 ++ ((ρ 3).2 ++ _)))
    rw [g2, f4, f3]
    (repeat' (first | exact SubR.nil | (apply SubR.same; with_reducible (focus ((repeat (first | exact Rem.here | apply Rem.there)); done))) | (apply SubR.blk; (focus ((repeat (first | exact Rem.here | apply Rem.there)); done))) | (apply SubR.same; (focus ((repeat (first | exact Rem.here | apply Rem.there)); done))) | (apply SubR.pick; (focus ((repeat (first | exact Rem.here | apply Rem.there)); done))) | rfl))
end Go.Proofs.YtcahnkdnhejkkaaDoor
