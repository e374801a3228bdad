/- The specification of a password's key, walked. -/
import Derived.Test.YtcahnkdnhejkkaaDoorRefDer
import Derived.Test.YtcahnkdnhejkkaaDoorDerQ
set_option linter.all false
namespace Go.Sy
open Go
theorem Seg.pre {A B : List Value} : Seg (A ++ B) 0 A := fun j v h => by
  rw [Nat.zero_add, List.getElem?_append_left (List.getElem?_eq_some_iff.1 h).1]; exact h
end Go.Sy
namespace Go.Proofs.YtcahnkdnhejkkaaDoor
open Go Go.Sy Go.Sh Go.RowKit
attribute [local irreducible] Sy SyL SyX Sy.Fn callFunc Sh.sum kxor kpad kbase macA HashIs MacIs hmac dblock firstN
set_option maxRecDepth 10000
theorem xor_set (a b : List UInt8) (i : Nat) (ha : a.length = 32) (hb : b.length = 32) (hlt : i < 32) :
    ∃ x y : UInt8, b[i]? = some y ∧ ((xorl a b).take i ++ a.drop i)[i]? = some x ∧ ((xorl a b).take i ++ a.drop i).set i (x ^^^ y) = (xorl a b).take (i + 1) ++ a.drop (i + 1) := by
  have hx32 := xorl_len a b 32 ha hb
  obtain ⟨x, hx⟩ : ∃ x, a[i]? = some x := ⟨a[i]'(by omega), List.getElem?_eq_getElem _⟩
  obtain ⟨y, hy⟩ : ∃ y, b[i]? = some y := ⟨b[i]'(by omega), List.getElem?_eq_getElem _⟩
  refine ⟨x, y, hy, ?_, ?_⟩
  · rw [List.getElem?_append_right (by rw [List.length_take]; omega), List.length_take, Nat.min_eq_left (by omega), Nat.sub_self, List.getElem?_drop, Nat.add_zero, hx]
  · have hd : a.drop i = x :: a.drop (i + 1) := by
      rw [List.drop_eq_getElem_cons (by omega)]
      congr 1
      rw [List.getElem?_eq_getElem (by omega)] at hx
      exact Option.some.inj hx
    rw [hd, List.set_append_right _ _ (by rw [List.length_take]; omega), List.length_take, Nat.min_eq_left (by omega), Nat.sub_self, List.take_add_one, xorl_at a b i x y hx hy]
    simp
set_option maxHeartbeats 1000000 in
theorem rpw_fn (a0 a1 : Option Addr) (n0 c0 n1 c1 k n kb ko kc : Nat) (pw salt : List UInt8) (w : World) (h0 : InOk w a0 n0 c0 pw) (h1 : InOk w a1 n1 c1 salt) (hb0 : n0 ≤ 4096) (hb1 : n1 ≤ 4096) (hk1 : 1 ≤ k) (hk2 : k ≤ 65536) (hn : n ≤ 1024) (hR : RTab w No kb ko kc) :
    Sy.Fn Tryd.prog 48 [.slice a0 n0 c0, .slice a1 n1 c1, .int .i64 k, .int .i64 n] w No (fun v R => ∃ a kk, v = .slice a n kk ∧ R = [.row (.slice a n kk) 5 1 n ((firstN (fun i => pwB pw salt i (k - 1)) n).map Sy.v8)]) := by
  refine fn_enter Tryd.func48 rfl Tryd.ntmps48 (by simp) Holds.nil ?_
  have h32 : ∀ i, (pwB pw salt i (k - 1)).length = 32 := fun i => pwB_len pw salt i (k - 1)
  have hUl := pwU_len pw salt
  have hBl := pwB_len pw salt
  have hU0 : ∀ i, hmac pw (salt ++ four i) = pwU pw salt i 0 := fun _ => rfl
  have hB0 : ∀ i, pwB pw salt i 0 = pwU pw salt i 0 := fun _ => rfl
  have hUs : ∀ i j, hmac pw (pwU pw salt i j) = pwU pw salt i (j + 1) := fun _ _ => rfl
  have hBs : ∀ i j, xorl (pwB pw salt i j) (pwU pw salt i (j + 1)) = pwB pw salt i (j + 1) := fun _ _ => rfl
  have hH : ∀ (w' : World) (a : Option Addr) (m d : Nat) (l s : List UInt8), Keep No w w' → l.length = m → m < 1000000000 → SlA w' a (l.map Sy.v8) → (a = none → d = 0) → hmac pw l = s → Sy.Fn Tryd.prog 36 [.slice a0 n0 c0, .slice a m d] w' No (fun v R => ∃ b, v = .slice (some ⟨b, 0, none⟩) 32 32 ∧ R = [.blk b 24 (s.map Sy.v8)]) := fun w' a m d l s hk hm hmb hs hz e =>
    e ▸ rhmac_fn a0 a n0 c0 m d kb ko kc pw l w' h0.len (by omega) h0.cap (h0.keep hk).sla h0.nil hm hmb hs hz (hR.no hk)
  generalize pwU pw salt = U at *
  generalize pwB pw salt = B at *
  have hrl := rows_len (fun i => B i (k - 1)) h32
  have hl1 := h1.len
  have hz1 := h1.nil
  have hs1 := h1.sla
  repeat' (first | refine sy_seqC ?_ | refine syl_nil ?_ | refine sy_if_t rfl ?_ | refine sy_if_f rfl ?_ | refine sy_block ?_ | refine sy_skip ?_ | refine sy_ret ?_ | refine sy_exit ?_ | refine sy_label ?_ | refine syx_then ?_ | refine syx_go ?_ | refine syx_then_ret ?_ | refine syx_then_exit ?_ | refine syx_in ?_ | refine syx_in_ret ?_ | refine syx_in_here ?_ | refine syx_in_past rfl ?_ | (apply syx_begin; (focus ((repeat (first | exact Rem.here | apply Rem.there)); done)); assumption) | (refine sy_region (id := 0) ?_; try refine y_assign ?_) | (refine sy_region (id := 1) ?_; try refine y_assign ?_) | (refine sy_region (id := 2) ?_; try refine y_assign ?_) | (refine syl_id ?_; first | refine y_assign ?_ | fail) | refine sy_region ?_ | fail)
  refine sy_conv (conv_nil 5 1) ?_
  refine sy_loop (γ := Nat × Option Addr × Nat) (fun g => [(0, .slice a0 n0 c0), (1, .slice a1 n1 c1), (2, .int .i64 k), (3, .int .i64 n), (9, .slice g.2.1 (32 * g.1) g.2.2), (10, .int .i64 ((g.1 + 1 : Nat) : Int))]) (fun g => [.row (.slice g.2.1 (32 * g.1) g.2.2) 5 1 (32 * g.1) ((rows (fun i => B i (k - 1)) g.1).map Sy.v8)])
    (fun g => g.1 ≤ 1024) (fun g => 1024 - g.1) (0, none, 0) (Nat.zero_le _) ?_ ?_ ?_
  · (repeat' (first | exact Sub.nil | refine Sub.cons rfl ?_ ?_ | rfl))
  · (repeat' (first | exact SubR.nil | (apply SubR.same; with_reducible (focus ((repeat (first | exact Rem.here | apply Rem.there)); done))) | (apply SubR.blk; (focus ((repeat (first | exact Rem.here | apply Rem.there)); done))) | (apply SubR.pick; (focus ((repeat (first | exact Rem.here | apply Rem.there)); done))) | rfl))
  rintro ⟨i, a, c⟩ hi
  dsimp only at hi ⊢
  by_cases hlt : 32 * i < n
  · have hf := h32 (i + 1)
    have hys : (rows (fun i => B i (k - 1)) i).map Sy.v8 ++ (B (i + 1) (k - 1)).map Sy.v8 = (rows (fun i => B i (k - 1)) (i + 1)).map Sy.v8 := by rw [rows_succ, List.map_append]
    have hkm : 32 * i + 32 = 32 * (i + 1) := by omega
    have hUl := hUl (i + 1)
    have hBl := hBl (i + 1)
    have hU0 := hU0 (i + 1)
    have hB0 := hB0 (i + 1)
    have hUs := hUs (i + 1)
    have hBs := hBs (i + 1)
    generalize rows (fun i => B i (k - 1)) i = rw0 at *
    generalize U (i + 1) = u at *
    generalize B (i + 1) = bb at *
    obtain ⟨t, ht⟩ : ∃ t, salt ++ four (i + 1) = t := ⟨_, rfl⟩
    rw [ht] at hU0
    have hy4 : salt.map Sy.v8 ++ (four (i + 1)).map Sy.v8 = t.map Sy.v8 := by rw [← ht, List.map_append]
    have htl : t.length = n1 + 4 := by rw [← ht, List.length_append, four_len, hl1]
    have hU0l := hUl 0
    repeat' (first | refine sy_seqC ?_ | refine syl_nil ?_ | refine sy_if_t rfl ?_ | refine sy_if_f rfl ?_ | refine sy_block ?_ | refine sy_skip ?_ | refine sy_ret ?_ | refine sy_exit ?_ | refine sy_label ?_ | refine syx_then ?_ | refine syx_go ?_ | refine syx_then_ret ?_ | refine syx_then_exit ?_ | refine syx_in ?_ | refine syx_in_ret ?_ | refine syx_in_here ?_ | refine syx_in_past rfl ?_ | (apply syx_begin; (focus ((repeat (first | exact Rem.here | apply Rem.there)); done)); assumption) | (refine sy_region (id := 3) ?_; try refine y_move ?_; try refine y_len ?_; try refine y_move ?_; try refine y_lss ?_) | (refine sy_region (id := 5) ?_; try refine y_move ?_; try (first | (refine ys op_buildSlice0 (k := ?_); rintro _ _ ⟨_, rfl, rfl⟩) | (refine ys op_buildSlice (k := ?_); rintro _ _ ⟨_, rfl, rfl⟩) | fail); try refine y_move ?_; try (first | (refine ys (op_appendB (xs := []) (k := 0) (m := n1) (km := n1) (hn := by rw [List.length_map, Nat.mul_one, hl1]) (hnil := hz1) (hkm := Nat.zero_add _) (hys := List.nil_append _)) (k := ?_); rintro _ _ ⟨rfl, aP, cP, rfl⟩) | (refine ys (op_append (k := n1) (m := 4) (hn := rfl) (hkm := rfl) (hys := hy4)) (k := ?_); rintro _ _ ⟨rfl, aQ, cQ, rfl⟩) | (refine ys (op_appendB (xs := []) (k := 0) (m := 32) (km := 32) (hn := by rw [List.length_map, hU0l]) (hkm := rfl) (hys := List.nil_append _)) (k := ?_); rintro _ _ ⟨rfl, aV, cV, rfl⟩) | (refine ys op_append (k := ?_); rintro _ _ ⟨rfl, _, _, rfl⟩) | (refine ys op_appendB (k := ?_); rintro _ _ ⟨rfl, _, _, rfl⟩) | (refine ys op_appendN (k := ?_); rintro _ _ ⟨rfl, _, _, rfl⟩) | fail); try refine y_move ?_; try (first | (refine ys (op_call0 (hc := fun w' X hk hh => four_fn (i + 1) w' (by omega))) (k := ?_); rintro _ _ ⟨R, rfl, b4, rfl, rfl⟩) | (refine ys (op_call0 (hc := fun w' X hk hh => hH w' _ (n1 + 4) _ t (u 0) hk htl (by omega) (Rd.row Has.here w' X hk hh) (fun h => (Row.nil hh Has.here h).1) hU0)) (k := ?_); rintro _ _ ⟨R, rfl, bU, rfl, rfl⟩) | fail); try (first | (refine ys (op_appendB (xs := []) (k := 0) (m := n1) (km := n1) (hn := by rw [List.length_map, Nat.mul_one, hl1]) (hnil := hz1) (hkm := Nat.zero_add _) (hys := List.nil_append _)) (k := ?_); rintro _ _ ⟨rfl, aP, cP, rfl⟩) | (refine ys (op_append (k := n1) (m := 4) (hn := rfl) (hkm := rfl) (hys := hy4)) (k := ?_); rintro _ _ ⟨rfl, aQ, cQ, rfl⟩) | (refine ys (op_appendB (xs := []) (k := 0) (m := 32) (km := 32) (hn := by rw [List.length_map, hU0l]) (hkm := rfl) (hys := List.nil_append _)) (k := ?_); rintro _ _ ⟨rfl, aV, cV, rfl⟩) | (refine ys op_append (k := ?_); rintro _ _ ⟨rfl, _, _, rfl⟩) | (refine ys op_appendB (k := ?_); rintro _ _ ⟨rfl, _, _, rfl⟩) | (refine ys op_appendN (k := ?_); rintro _ _ ⟨rfl, _, _, rfl⟩) | fail); try (first | (refine ys (op_call0 (hc := fun w' X hk hh => four_fn (i + 1) w' (by omega))) (k := ?_); rintro _ _ ⟨R, rfl, b4, rfl, rfl⟩) | (refine ys (op_call0 (hc := fun w' X hk hh => hH w' _ (n1 + 4) _ t (u 0) hk htl (by omega) (Rd.row Has.here w' X hk hh) (fun h => (Row.nil hh Has.here h).1) hU0)) (k := ?_); rintro _ _ ⟨R, rfl, bU, rfl, rfl⟩) | fail); try refine y_assign ?_) | (refine sy_region (id := 6) ?_; try (first | (refine ys op_buildSlice0 (k := ?_); rintro _ _ ⟨_, rfl, rfl⟩) | (refine ys op_buildSlice (k := ?_); rintro _ _ ⟨_, rfl, rfl⟩) | fail); try refine y_move ?_; try (first | (refine ys (op_appendB (xs := []) (k := 0) (m := n1) (km := n1) (hn := by rw [List.length_map, Nat.mul_one, hl1]) (hnil := hz1) (hkm := Nat.zero_add _) (hys := List.nil_append _)) (k := ?_); rintro _ _ ⟨rfl, aP, cP, rfl⟩) | (refine ys (op_append (k := n1) (m := 4) (hn := rfl) (hkm := rfl) (hys := hy4)) (k := ?_); rintro _ _ ⟨rfl, aQ, cQ, rfl⟩) | (refine ys (op_appendB (xs := []) (k := 0) (m := 32) (km := 32) (hn := by rw [List.length_map, hU0l]) (hkm := rfl) (hys := List.nil_append _)) (k := ?_); rintro _ _ ⟨rfl, aV, cV, rfl⟩) | (refine ys op_append (k := ?_); rintro _ _ ⟨rfl, _, _, rfl⟩) | (refine ys op_appendB (k := ?_); rintro _ _ ⟨rfl, _, _, rfl⟩) | (refine ys op_appendN (k := ?_); rintro _ _ ⟨rfl, _, _, rfl⟩) | fail); try refine y_assign ?_) | (refine sy_region (id := 7) ?_; try refine y_assign ?_) | (refine syl_id ?_; first | (refine ys (op_appendB (xs := []) (k := 0) (m := n1) (km := n1) (hn := by rw [List.length_map, Nat.mul_one, hl1]) (hnil := hz1) (hkm := Nat.zero_add _) (hys := List.nil_append _)) (k := ?_); rintro _ _ ⟨rfl, aP, cP, rfl⟩) | (refine ys (op_call0 (hc := fun w' X hk hh => four_fn (i + 1) w' (by omega))) (k := ?_); rintro _ _ ⟨R, rfl, b4, rfl, rfl⟩) | (refine ys (op_append (k := n1) (m := 4) (hn := rfl) (hkm := rfl) (hys := hy4)) (k := ?_); rintro _ _ ⟨rfl, aQ, cQ, rfl⟩) | (refine ys (op_call0 (hc := fun w' X hk hh => hH w' _ (n1 + 4) _ t (u 0) hk htl (by omega) (Rd.row Has.here w' X hk hh) (fun h => (Row.nil hh Has.here h).1) hU0)) (k := ?_); rintro _ _ ⟨R, rfl, bU, rfl, rfl⟩) | (refine ys (op_appendB (xs := []) (k := 0) (m := 32) (km := 32) (hn := by rw [List.length_map, hU0l]) (hkm := rfl) (hys := List.nil_append _)) (k := ?_); rintro _ _ ⟨rfl, aV, cV, rfl⟩) | refine y_assign ?_ | refine y_lss ?_ | refine y_len ?_ | refine y_move ?_ | (refine ys op_buildSlice0 (k := ?_); rintro _ _ ⟨_, rfl, rfl⟩) | (refine ys op_buildSlice (k := ?_); rintro _ _ ⟨_, rfl, rfl⟩) | (refine ys op_append (k := ?_); rintro _ _ ⟨rfl, _, _, rfl⟩) | (refine ys op_appendB (k := ?_); rintro _ _ ⟨rfl, _, _, rfl⟩) | (refine ys op_appendN (k := ?_); rintro _ _ ⟨rfl, _, _, rfl⟩) | fail) | refine sy_region ?_ | fail)
    refine Sy.weaken (fr' := [(0, .slice a0 n0 c0), (1, .slice a1 n1 c1), (2, .int .i64 k), (3, .int .i64 n), (9, .slice a (32 * i) c), (10, .int .i64 ((i + 1 : Nat) : Int)), (11, .slice (some ⟨bU, 0, none⟩) 32 32), (12, .slice aV 32 cV), (13, .int .i64 1)])
      (L' := [.row (.slice aV 32 cV) 5 1 32 ((u 0).map Sy.v8), .blk bU 24 ((u 0).map Sy.v8), .row (.slice a (32 * i) c) 5 1 (32 * i) (rw0.map Sy.v8)]) ?_ (by (repeat' (first | exact Sub.nil | refine Sub.cons rfl ?_ ?_ | rfl))) (by (repeat' (first | exact SubR.nil | (apply SubR.same; with_reducible (focus ((repeat (first | exact Rem.here | apply Rem.there)); done))) | (apply SubR.blk; (focus ((repeat (first | exact Rem.here | apply Rem.there)); done))) | (apply SubR.same; (focus ((repeat (first | exact Rem.here | apply Rem.there)); done))) | (apply SubR.pick; (focus ((repeat (first | exact Rem.here | apply Rem.there)); done))) | rfl)))
    refine sy_open Rem.here (by decide) (fun bV J hV hlJ hcV hcM _ => ?_)
    subst hV
    refine sy_loop (γ := Nat × Nat) (fun g => [(0, .slice a0 n0 c0), (1, .slice a1 n1 c1), (2, .int .i64 k), (3, .int .i64 n), (9, .slice a (32 * i) c), (10, .int .i64 ((i + 1 : Nat) : Int)), (11, .slice (some ⟨g.2, 0, none⟩) 32 32), (12, .slice (some ⟨bV, 0, none⟩) 32 cV), (13, .int .i64 ((g.1 + 1 : Nat) : Int))])
      (fun g => [.blk bV 5 ((bb g.1).map Sy.v8 ++ J), .blk g.2 24 ((u g.1).map Sy.v8), .row (.slice a (32 * i) c) 5 1 (32 * i) (rw0.map Sy.v8)]) (fun g => g.1 ≤ k - 1) (fun g => (k - 1) - g.1) (0, bU) (Nat.zero_le _) ?_ ?_ ?_
    · (repeat' (first | exact Sub.nil | refine Sub.cons rfl ?_ ?_ | rfl))
    · rw [hB0]; (repeat' (first | exact SubR.nil | (apply SubR.same; with_reducible (focus ((repeat (first | exact Rem.here | apply Rem.there)); done))) | (apply SubR.blk; (focus ((repeat (first | exact Rem.here | apply Rem.there)); done))) | (apply SubR.pick; (focus ((repeat (first | exact Rem.here | apply Rem.there)); done))) | rfl))
    rintro ⟨j, bu⟩ hj
    dsimp only at hj ⊢
    have hUj := hUl j
    have hBj := hBl j
    by_cases hlt2 : j < k - 1
    · have hUs := hUs j
      have hBs := hBs j
      have hUj1 := hUl (j + 1)
      have hBj1 := hBl (j + 1)
      generalize u j = uj at *
      generalize hu1 : u (j + 1) = u1 at *
      generalize bb j = bj at *
      generalize hb1 : bb (j + 1) = b1 at *
      repeat' (first | refine sy_seqC ?_ | refine syl_nil ?_ | refine sy_if_t rfl ?_ | refine sy_if_f rfl ?_ | refine sy_block ?_ | refine sy_skip ?_ | refine sy_ret ?_ | refine sy_exit ?_ | refine sy_label ?_ | refine syx_then ?_ | refine syx_go ?_ | refine syx_then_ret ?_ | refine syx_then_exit ?_ | refine syx_in ?_ | refine syx_in_ret ?_ | refine syx_in_here ?_ | refine syx_in_past rfl ?_ | (apply syx_begin; (focus ((repeat (first | exact Rem.here | apply Rem.there)); done)); assumption) | (refine sy_region (id := 8) ?_; try refine y_move ?_; try refine y_move ?_; try refine y_lss ?_) | (refine sy_region (id := 10) ?_; try refine y_move ?_; try refine y_move ?_; try (refine ys (op_call0 (hc := fun w' X hk hh => hH w' (some ⟨bu, 0, none⟩) 32 32 uj u1 hk hUj (by decide) ((Rd.of (Reads.blk (Has.there Has.here) Seg.all)) w' X hk hh) (fun h => by cases h) hUs)) (k := ?_); rintro _ _ ⟨R, rfl, bW, rfl, rfl⟩); try refine y_assign ?_) | (refine syl_id ?_; first | (refine ys (op_call0 (hc := fun w' X hk hh => hH w' (some ⟨bu, 0, none⟩) 32 32 uj u1 hk hUj (by decide) ((Rd.of (Reads.blk (Has.there Has.here) Seg.all)) w' X hk hh) (fun h => by cases h) hUs)) (k := ?_); rintro _ _ ⟨R, rfl, bW, rfl, rfl⟩) | refine y_assign ?_ | refine y_lss ?_ | refine y_move ?_ | fail) | refine sy_region ?_ | fail)
      repeat' (first | refine sy_seqC ?_ | refine syl_nil ?_ | refine sy_if_t rfl ?_ | refine sy_if_f rfl ?_ | refine sy_block ?_ | refine sy_skip ?_ | refine sy_ret ?_ | refine sy_exit ?_ | refine sy_label ?_ | refine syx_then ?_ | refine syx_go ?_ | refine syx_then_ret ?_ | refine syx_then_exit ?_ | refine syx_in ?_ | refine syx_in_ret ?_ | refine syx_in_here ?_ | refine syx_in_past rfl ?_ | (apply syx_begin; (focus ((repeat (first | exact Rem.here | apply Rem.there)); done)); assumption) | (refine sy_region (id := 11) ?_; try refine y_assign ?_) | (refine syl_id ?_; first | refine y_assign ?_ | fail) | refine sy_region ?_ | fail)
      refine sy_loop (γ := Nat) (fun r => [(0, .slice a0 n0 c0), (1, .slice a1 n1 c1), (2, .int .i64 k), (3, .int .i64 n), (9, .slice a (32 * i) c), (10, .int .i64 ((i + 1 : Nat) : Int)), (11, .slice (some ⟨bW, 0, none⟩) 32 32), (12, .slice (some ⟨bV, 0, none⟩) 32 cV), (13, .int .i64 ((j + 1 : Nat) : Int)), (14, .int .i64 r)])
        (fun r => [.blk bV 5 (((xorl bj u1).take r ++ bj.drop r).map Sy.v8 ++ J), .blk bW 24 (u1.map Sy.v8), .row (.slice a (32 * i) c) 5 1 (32 * i) (rw0.map Sy.v8)]) (fun r => r ≤ 32) (fun r => 32 - r) 0 (by decide) ?_ ?_ ?_
      · (repeat' (first | exact Sub.nil | refine Sub.cons rfl ?_ ?_ | rfl))
      · (repeat' (first | exact SubR.nil | (apply SubR.same; with_reducible (focus ((repeat (first | exact Rem.here | apply Rem.there)); done))) | (apply SubR.blk; (focus ((repeat (first | exact Rem.here | apply Rem.there)); done))) | (apply SubR.pick; (focus ((repeat (first | exact Rem.here | apply Rem.there)); done))) | rfl))
      intro r hr
      by_cases hlt3 : r < 32
      · obtain ⟨x, y, hy, hx, hset⟩ := xor_set bj u1 r hBj hUj1 hlt3
        have hxl := xorl_len bj u1 32 hBj hUj1
        have hl : ((xorl bj u1).take r ++ bj.drop r).length = 32 := by rw [List.length_append, List.length_take, List.length_drop]; omega
        have hv1 : (((xorl bj u1).take r ++ bj.drop r).map Sy.v8 ++ J)[r]? = some (.int .u8 (Wd.n8 x)) := by
          rw [List.getElem?_append_left (by rw [List.length_map, hl]; exact hlt3), List.getElem?_map, hx]; rfl
        have hv2 : (u1.map Sy.v8)[r]? = some (.int .u8 (Wd.n8 y)) := by rw [List.getElem?_map, hy]; rfl
        have he : (((xorl bj u1).take r ++ bj.drop r).map Sy.v8 ++ J).set r (Sy.v8 (x ^^^ y)) = ((xorl bj u1).take (r + 1) ++ bj.drop (r + 1)).map Sy.v8 ++ J := by
          rw [List.set_append_left _ _ (by rw [List.length_map, hl]; exact hlt3), ← List.map_set, hset]
        have hl' : (((xorl bj u1).take r ++ bj.drop r).map Sy.v8 ++ J).length = 32 + J.length := by rw [List.length_append, List.length_map, hl]
        generalize ((xorl bj u1).take r ++ bj.drop r).map Sy.v8 ++ J = C at *
        repeat' (first | refine sy_seqC ?_ | refine syl_nil ?_ | refine sy_if_t rfl ?_ | refine sy_if_f rfl ?_ | refine sy_block ?_ | refine sy_skip ?_ | refine sy_ret ?_ | refine sy_exit ?_ | refine sy_label ?_ | refine syx_then ?_ | refine syx_go ?_ | refine syx_then_ret ?_ | refine syx_then_exit ?_ | refine syx_in ?_ | refine syx_in_ret ?_ | refine syx_in_here ?_ | refine syx_in_past rfl ?_ | (apply syx_begin; (focus ((repeat (first | exact Rem.here | apply Rem.there)); done)); assumption) | (refine sy_region (id := 12) ?_; try refine y_move ?_; try refine y_lss ?_) | (refine sy_draw (id := 14) 11 [[], [], [], [], [2, 3], [2, 3, 4], [], [], [6, 7], [6, 7, 8], [2, 3, 4, 5, 6, 7, 8, 9], [0, 1, 2, 3, 4, 5, 6, 7, 8, 9, 10], [0, 1, 2, 3, 4, 5, 6, 7, 8, 9, 10, 11]] mixed ?_ ?_; kernel_rfl; try refine d_move ?_; try refine d_move ?_; try refine d_move ?_; try refine d_move ?_; try refine d_indexAddr ?_; try (first | refine dc (fun _ _ => op_load (hv := hv1)) (k := ?_) | refine dc (fun _ _ => op_load (hv := hv2)) (k := ?_) | refine d_load ?_ | fail); try refine d_move ?_; try refine d_move ?_; try refine d_indexAddr ?_; try (first | refine dc (fun _ _ => op_load (hv := hv1)) (k := ?_) | refine dc (fun _ _ => op_load (hv := hv2)) (k := ?_) | refine d_load ?_ | fail); try (first | refine dc (fun _ _ => op_xor (hr := Wd.xor8 x y)) (k := ?_) | refine d_xor ?_ | fail); try refine dh_0n ?_; try refine y_indexAddr ?_; try refine y_store ?_) | (refine sy_region (id := 13) ?_; try refine y_move ?_; try refine y_add ?_; try refine y_assign ?_) | (refine syl_id ?_; first | refine yv (op_load (hv := hv1)) (k := ?_) | refine yv (op_load (hv := hv2)) (k := ?_) | refine yv (op_xor (hr := Wd.xor8 x y)) (k := ?_) | refine y_assign ?_ | refine y_add ?_ | refine y_lss ?_ | refine y_xor ?_ | refine y_indexAddr ?_ | refine y_load ?_ | refine y_move ?_ | refine y_store ?_ | fail) | refine dh_0n ?_ | (refine dh_id ?_; first | refine dc (fun _ _ => op_load (hv := hv1)) (k := ?_) | refine dc (fun _ _ => op_load (hv := hv2)) (k := ?_) | refine dc (fun _ _ => op_xor (hr := Wd.xor8 x y)) (k := ?_) | refine d_assign ?_ | refine d_add ?_ | refine d_lss ?_ | refine d_xor ?_ | refine d_indexAddr ?_ | refine d_load ?_ | refine d_move ?_ | fail) | refine sy_region ?_ | fail)
        refine syx_back (r + 1) ?_ ?_ ?_ ?_
        · show r + 1 ≤ 32; omega
        · show 32 - (r + 1) < 32 - r; omega
        · (repeat' (first | exact Sub.nil | refine Sub.cons rfl ?_ ?_ | rfl))
        · (repeat' (first | exact SubR.nil | (apply SubR.same; with_reducible (focus ((repeat (first | exact Rem.here | apply Rem.there)); done))) | (apply SubR.blk; (focus ((repeat (first | exact Rem.here | apply Rem.there)); done))) | (apply SubR.pick; (focus ((repeat (first | exact Rem.here | apply Rem.there)); done))) | rfl))
          exact he
      obtain rfl : r = 32 := by omega
      have hxl := xorl_len bj u1 32 hBj hUj1
      have hend : (xorl bj u1).take 32 ++ bj.drop 32 = b1 := by rw [List.take_of_length_le (by omega), List.drop_of_length_le (by omega), List.append_nil, hBs]
      rw [hend]
      repeat' (first | refine sy_seqC ?_ | refine syl_nil ?_ | refine sy_if_t rfl ?_ | refine sy_if_f rfl ?_ | refine sy_block ?_ | refine sy_skip ?_ | refine sy_ret ?_ | refine sy_exit ?_ | refine sy_label ?_ | refine syx_then ?_ | refine syx_go ?_ | refine syx_then_ret ?_ | refine syx_then_exit ?_ | refine syx_in ?_ | refine syx_in_ret ?_ | refine syx_in_here ?_ | refine syx_in_past rfl ?_ | (apply syx_begin; (focus ((repeat (first | exact Rem.here | apply Rem.there)); done)); assumption) | (refine sy_region (id := 12) ?_; try refine y_move ?_; try refine y_lss ?_) | (refine sy_region (id := 9) ?_; try refine y_move ?_; try refine y_add ?_; try refine y_assign ?_) | (refine syl_id ?_; first | refine y_assign ?_ | refine y_add ?_ | refine y_lss ?_ | refine y_move ?_ | fail) | refine sy_region ?_ | fail)
      refine syx_back (j + 1, bW) (by show j + 1 ≤ k - 1; omega) ?_ ?_ ?_
      · show (k - 1) - (j + 1) < (k - 1) - j; omega
      · (repeat' (first | exact Sub.nil | refine Sub.cons rfl ?_ ?_ | rfl))
      · rw [hu1, hb1]; (repeat' (first | exact SubR.nil | (apply SubR.same; with_reducible (focus ((repeat (first | exact Rem.here | apply Rem.there)); done))) | (apply SubR.blk; (focus ((repeat (first | exact Rem.here | apply Rem.there)); done))) | (apply SubR.pick; (focus ((repeat (first | exact Rem.here | apply Rem.there)); done))) | rfl))
    obtain rfl : j = k - 1 := by omega
    repeat' (first | refine sy_seqC ?_ | refine syl_nil ?_ | refine sy_if_t rfl ?_ | refine sy_if_f rfl ?_ | refine sy_block ?_ | refine sy_skip ?_ | refine sy_ret ?_ | refine sy_exit ?_ | refine sy_label ?_ | refine syx_then ?_ | refine syx_go ?_ | refine syx_then_ret ?_ | refine syx_then_exit ?_ | refine syx_in ?_ | refine syx_in_ret ?_ | refine syx_in_here ?_ | refine syx_in_past rfl ?_ | (apply syx_begin; (focus ((repeat (first | exact Rem.here | apply Rem.there)); done)); assumption) | (refine sy_region (id := 8) ?_; try refine y_move ?_; try refine y_move ?_; try refine y_lss ?_) | (refine sy_region (id := 15) ?_; try refine y_move ?_; try refine y_move ?_; try (first | (refine ys (op_append (k := 32 * i) (m := 32) (hr := Rd.of (Reads.blk Has.here Seg.pre)) (hn := by rw [List.length_map, hf]) (hkm := hkm) (hys := hys)) (k := ?_); rintro _ _ ⟨rfl, aN, cN, rfl⟩) | (refine ys op_append (k := ?_); rintro _ _ ⟨rfl, _, _, rfl⟩) | (refine ys op_appendB (k := ?_); rintro _ _ ⟨rfl, _, _, rfl⟩) | (refine ys op_appendN (k := ?_); rintro _ _ ⟨rfl, _, _, rfl⟩) | fail); try refine y_assign ?_) | (refine sy_region (id := 4) ?_; try refine y_move ?_; try refine y_add ?_; try refine y_assign ?_) | (refine syl_id ?_; first | (refine ys (op_append (k := 32 * i) (m := 32) (hr := Rd.of (Reads.blk Has.here Seg.pre)) (hn := by rw [List.length_map, hf]) (hkm := hkm) (hys := hys)) (k := ?_); rintro _ _ ⟨rfl, aN, cN, rfl⟩) | refine y_assign ?_ | refine y_add ?_ | refine y_lss ?_ | refine y_move ?_ | (refine ys op_append (k := ?_); rintro _ _ ⟨rfl, _, _, rfl⟩) | (refine ys op_appendB (k := ?_); rintro _ _ ⟨rfl, _, _, rfl⟩) | (refine ys op_appendN (k := ?_); rintro _ _ ⟨rfl, _, _, rfl⟩) | fail) | refine sy_region ?_ | fail)
    refine syx_back (i + 1, aN, cN) (by show i + 1 ≤ 1024; omega) ?_ ?_ ?_
    · show 1024 - (i + 1) < 1024 - i; omega
    · (repeat' (first | exact Sub.nil | refine Sub.cons rfl ?_ ?_ | rfl))
    · (repeat' (first | exact SubR.nil | (apply SubR.same; with_reducible (focus ((repeat (first | exact Rem.here | apply Rem.there)); done))) | (apply SubR.blk; (focus ((repeat (first | exact Rem.here | apply Rem.there)); done))) | (apply SubR.pick; (focus ((repeat (first | exact Rem.here | apply Rem.there)); done))) | rfl))
  have hge : n ≤ 32 * i := by omega
  have hfn := firstN_of (fun i => B i (k - 1)) h32 n i hge
  have hrl' := hrl i
  have htk : ((rows (fun i => B i (k - 1)) i).map Sy.v8).take (n * 1) = (firstN (fun i => B i (k - 1)) n).map Sy.v8 := by rw [Nat.mul_one, ← List.map_take, hfn]
  refine sy_fact (fun w' hh => (Row.cap hh Has.here : 32 * i ≤ c)) fun hcap => ?_
  refine sy_conv (conv_short (n' := n) Rem.here hge) ?_
  rw [htk]
  repeat' (first | refine sy_seqC ?_ | refine syl_nil ?_ | refine sy_if_t rfl ?_ | refine sy_if_f rfl ?_ | refine sy_block ?_ | refine sy_skip ?_ | refine sy_ret ?_ | refine sy_exit ?_ | refine sy_label ?_ | refine syx_then ?_ | refine syx_go ?_ | refine syx_then_ret ?_ | refine syx_then_exit ?_ | refine syx_in ?_ | refine syx_in_ret ?_ | refine syx_in_here ?_ | refine syx_in_past rfl ?_ | (apply syx_begin; (focus ((repeat (first | exact Rem.here | apply Rem.there)); done)); assumption) | (refine sy_region (id := 3) ?_; try refine y_move ?_; try refine y_len ?_; try refine y_move ?_; try refine y_lss ?_) | (refine sy_region (id := 16) ?_; try refine y_move ?_; try refine y_move ?_; try (first | refine yv (op_sliceR (l := 0) (h := n) (n' := n)) (k := ?_) | refine y_slice ?_ | fail); try refine y_assign ?_) | (refine syl_id ?_; first | refine yv (op_sliceR (l := 0) (h := n) (n' := n)) (k := ?_) | refine y_assign ?_ | refine y_lss ?_ | refine y_len ?_ | refine y_move ?_ | refine y_slice ?_ | fail) | refine sy_region ?_ | fail)
  exact ret1 rfl (resTmp rfl) (by (repeat' (first | exact SubR.nil | (apply SubR.same; with_reducible (focus ((repeat (first | exact Rem.here | apply Rem.there)); done))) | (apply SubR.blk; (focus ((repeat (first | exact Rem.here | apply Rem.there)); done))) | (apply SubR.pick; (focus ((repeat (first | exact Rem.here | apply Rem.there)); done))) | rfl))) ⟨_, _, rfl, rfl⟩
end Go.Proofs.YtcahnkdnhejkkaaDoor
