/- Layer mac, walked: HMAC, Truncated, Check, Equal. -/
import Derived.Test.YtcahnkdnhejkkaaDoorMac3
import Derived.Test.YtcahnkdnhejkkaaDoorShaBlks
set_option linter.all false
namespace Go.Proofs.YtcahnkdnhejkkaaDoor
open Go Go.Sy Go.Sh Go.RowKit
attribute [local irreducible] Sy SyL SyX Sy.Fn callFunc Sh.sum kxor kpad kbase macA HashIs MacIs hmac
set_option maxRecDepth 10000
abbrev zero32 : List Value := List.replicate 32 (Value.int .u8 0)
theorem hm_long (a0 a1 : Option Addr) (n c m d : Nat) (w : World) (hb : 4096 < n) : Sy.Fn Tryd.prog 34 [.slice a0 n c, .slice a1 m d] w No (Gives (.tuple #[.agg zero32.toArray, .int .i64 2])) := by
  refine fn_enter Tryd.func34 rfl Tryd.ntmps34 (by simp) Holds.nil ?_
  repeat' (first | refine sy_seqC ?_ | refine syl_nil ?_ | refine sy_if_t rfl ?_ | refine sy_if_f rfl ?_ | refine sy_block ?_ | refine sy_skip ?_ | refine sy_ret ?_ | refine sy_exit ?_ | refine sy_label ?_ | refine syx_then ?_ | refine syx_go ?_ | refine syx_then_ret ?_ | refine syx_then_exit ?_ | refine syx_in ?_ | refine syx_in_ret ?_ | refine syx_in_here ?_ | refine syx_in_past rfl ?_ | (apply syx_begin; (focus ((repeat (first | exact Rem.here | apply Rem.there)); done)); assumption) | (refine sy_region (id := 0) ?_; try (refine y_new ?_; intro _); try refine y_assign ?_) | (refine sy_region (id := 1) ?_; try refine y_move ?_; try refine yv (op_callV (hc := fun w' X hk hh => new_long a0 n c w' hb)) (k := ?_); try refine y_move ?_; try refine y_extract ?_; try refine y_extract ?_; try refine y_assign ?_; try refine y_assign ?_) | (refine sy_region (id := 2) ?_; try refine y_move ?_; try refine y_neq ?_) | (refine sy_region (id := 3) ?_; try refine y_build ?_; try refine y_move ?_; try refine y_store ?_; try refine y_assign ?_) | (refine syl_id ?_; first | refine yv (op_callV (hc := fun w' X hk hh => new_long a0 n c w' hb)) (k := ?_) | refine y_move ?_ | refine y_extract ?_ | refine y_assign ?_ | refine y_build ?_ | refine y_neq ?_ | refine y_store ?_ | (refine y_new ?_; intro _) | fail) | refine sy_region ?_ | fail)
  exact ret2 rfl (resCells rfl (ty rfl) rfl (by repeat (first | exact Has.here | apply Has.there)) Seg.all (by first | rfl | (simp only [List.length_map, List.length_set, List.length_replicate, List.length_append]; omega) | (simp only [List.length_map]; first | assumption | omega) | (simp; omega) | fail)) (resTmp rfl) SubR.nil ⟨rfl, rfl⟩
theorem hm_fn (a0 a1 : Option Addr) (n c m d : Nat) (key : List UInt8) (xs : List Bs) (w : World) (hn : key.length = n) (hb : n ≤ 4096) (hc : n ≤ c) (hsl : SlA w a0 (key.map Sy.v8)) (hm : xs.length = m) (hmb : m < 1000000) (hsx : SlA w a1 (xs.map Bs.val))
    (hxs : ∀ s ∈ xs, s.l.length = s.n ∧ s.n ≤ s.c ∧ SlA w s.a (s.l.map Sy.v8) ∧ s.n ≤ 10000) (hT : Tab w No) :
    Sy.Fn Tryd.prog 34 [.slice a0 n c, .slice a1 m d] w No (Gives (.tuple #[.agg ((hmac key (Bs.cat xs)).map Sy.v8).toArray, .int .i64 0])) := by
  refine fn_enter Tryd.func34 rfl Tryd.ntmps34 (by simp) Holds.nil ?_
  have hy32 := hmac_len key (Bs.cat xs)
  obtain ⟨y, hy⟩ : ∃ y, hmac key (Bs.cat xs) = y := ⟨_, rfl⟩
  rw [hy] at hy32 ⊢
  repeat' (first | refine sy_seqC ?_ | refine syl_nil ?_ | refine sy_if_t rfl ?_ | refine sy_if_f rfl ?_ | refine sy_block ?_ | refine sy_skip ?_ | refine sy_ret ?_ | refine sy_exit ?_ | refine sy_label ?_ | refine syx_then ?_ | refine syx_go ?_ | refine syx_then_ret ?_ | refine syx_then_exit ?_ | refine syx_in ?_ | refine syx_in_ret ?_ | refine syx_in_here ?_ | refine syx_in_past rfl ?_ | (apply syx_begin; (focus ((repeat (first | exact Rem.here | apply Rem.there)); done)); assumption) | (refine sy_region (id := 0) ?_; try (refine y_new ?_; intro _); try refine y_assign ?_) | (refine sy_region (id := 1) ?_; try refine y_move ?_; try (refine ys (op_call0 (hc := fun w' X hk hh => new_fn a0 n c key w' hn hb hc (hsl.keep hk (fun _ _ h => h)) (hT.no hk))) (k := ?_); rintro _ _ ⟨R, rfl, bm, C0, rfl, rfl, hC0⟩); try refine y_move ?_; try refine y_extract ?_; try refine y_extract ?_; try refine y_assign ?_; try refine y_assign ?_) | (refine sy_region (id := 2) ?_; try refine y_move ?_; try refine y_neq ?_) | (refine sy_region (id := 3) ?_; try refine y_build ?_; try refine y_move ?_; try refine y_store ?_; try refine y_assign ?_) | (refine sy_region (id := 4) ?_; try refine y_move ?_; try refine y_len ?_; try refine y_move ?_) | (refine syl_id ?_; first | (refine ys (op_call0 (hc := fun w' X hk hh => new_fn a0 n c key w' hn hb hc (hsl.keep hk (fun _ _ h => h)) (hT.no hk))) (k := ?_); rintro _ _ ⟨R, rfl, bm, C0, rfl, rfl, hC0⟩) | refine y_move ?_ | refine y_extract ?_ | refine y_assign ?_ | refine y_build ?_ | refine y_neq ?_ | refine y_len ?_ | refine y_store ?_ | (refine y_new ?_; intro _) | fail) | refine sy_region ?_ | fail)
  rename_i b4
  refine sy_loop (γ := Nat × List Value) (fun g => [(4, .pointer (some ⟨b4, 0, none⟩)), (5, .int .i64 0), (6, .pointer (some ⟨bm, 0, none⟩)), (19, .slice a1 m d), (20, .int .i64 m), (21, .int .i64 g.1)]) (fun g => [.blk bm 69 g.2, .blk b4 24 zero32])
    (fun g => g.1 ≤ m ∧ MacIs key (Bs.cat (xs.take g.1)) g.2) (fun g => m - g.1) (0, C0) ⟨Nat.zero_le _, hC0⟩ ?_ ?_ ?_
  · (repeat' (first | exact Sub.nil | refine Sub.cons rfl ?_ ?_ | rfl))
  · (repeat' (first | exact SubR.nil | (apply SubR.same; with_reducible (focus ((repeat (first | exact Rem.here | apply Rem.there)); done))) | (apply SubR.blk; (focus ((repeat (first | exact Rem.here | apply Rem.there)); done))) | (apply SubR.pick; (focus ((repeat (first | exact Rem.here | apply Rem.there)); done))) | rfl))
  rintro ⟨i, C⟩ ⟨hi, hC⟩
  dsimp only at *
  have hcl : (Bs.cat (xs.take i)).length ≤ 10000 * i := by
    have := Bs.cat_le (k := 10000) (xs.take i) (fun s hs => by have := hxs s (List.mem_of_mem_take hs); omega)
    rw [List.length_take, Nat.min_eq_left (by omega)] at this; exact this
  by_cases hlt : i < m
  · obtain ⟨bl, ol, rfl, hcell⟩ := Bs.get hsx (hm ▸ hlt)
    have hci := hcell i (hm ▸ hlt)
    have hcat := Bs.cat_succ xs i (hm ▸ hlt)
    obtain ⟨h1, h2, h3, h4⟩ := hxs xs[i] (List.getElem_mem _)
    generalize xs[i] = s at *
    obtain ⟨sa, sn, sc, sl⟩ := s
    dsimp only at *
    repeat' (first | refine sy_seqC ?_ | refine syl_nil ?_ | refine sy_if_t rfl ?_ | refine sy_if_f rfl ?_ | refine sy_block ?_ | refine sy_skip ?_ | refine sy_ret ?_ | refine sy_exit ?_ | refine sy_label ?_ | refine syx_then ?_ | refine syx_go ?_ | refine syx_then_ret ?_ | refine syx_then_exit ?_ | refine syx_in ?_ | refine syx_in_ret ?_ | refine syx_in_here ?_ | refine syx_in_past rfl ?_ | (apply syx_begin; (focus ((repeat (first | exact Rem.here | apply Rem.there)); done)); assumption) | (refine sy_region (id := 5) ?_; try refine y_lss ?_) | (refine sy_region (id := 6) ?_; try refine y_indexAddr ?_; try (first | refine yv (op_load_old (hv := hci)) (k := ?_) | refine y_load ?_ | fail); try refine y_assign ?_) | (refine sy_region (id := 7) ?_; try refine y_move ?_; try refine y_move ?_) | (refine syl_id ?_; first | refine yv (op_load_old (hv := hci)) (k := ?_) | refine y_load ?_ | refine y_indexAddr ?_ | refine y_move ?_ | refine y_lss ?_ | refine y_assign ?_ | fail) | refine sy_region ?_ | fail)
    refine ys (op_callR (b := bm) (Rel := MacIs key (Bs.cat (xs.take i) ++ sl)) (hc := fun w' X hk hh => wr_fn bm key (Bs.cat (xs.take i)) sl C sa sn sc w' (hh.has (Has.append Has.here)) hC h1 h2 (by omega) (SlF.oldB h3 hk hh Has.here) (hT.to hk (hh.one Has.here)))) (k := ?_); rintro _ _ ⟨rfl, C', hC', rfl⟩
    repeat' (first | refine sy_seqC ?_ | refine syl_nil ?_ | refine sy_if_t rfl ?_ | refine sy_if_f rfl ?_ | refine sy_block ?_ | refine sy_skip ?_ | refine sy_ret ?_ | refine sy_exit ?_ | refine sy_label ?_ | refine syx_then ?_ | refine syx_go ?_ | refine syx_then_ret ?_ | refine syx_then_exit ?_ | refine syx_in ?_ | refine syx_in_ret ?_ | refine syx_in_here ?_ | refine syx_in_past rfl ?_ | (apply syx_begin; (focus ((repeat (first | exact Rem.here | apply Rem.there)); done)); assumption) | (refine sy_region (id := 7) ?_; try refine y_move ?_; try refine y_move ?_) | (refine sy_region (id := 8) ?_; try refine y_add ?_; try refine y_move ?_) | (refine syl_id ?_; first | refine y_add ?_ | refine y_move ?_ | fail) | refine sy_region ?_ | fail)
    refine syx_back (i + 1, C') ⟨hlt, by show MacIs key (Bs.cat (xs.take (i + 1))) C'; rw [hcat]; exact hC'⟩ ?_ ?_ ?_
    · show m - (i + 1) < m - i; omega
    · (repeat' (first | exact Sub.nil | refine Sub.cons rfl ?_ ?_ | rfl))
    · (repeat' (first | exact SubR.nil | (apply SubR.same; with_reducible (focus ((repeat (first | exact Rem.here | apply Rem.there)); done))) | (apply SubR.blk; (focus ((repeat (first | exact Rem.here | apply Rem.there)); done))) | (apply SubR.pick; (focus ((repeat (first | exact Rem.here | apply Rem.there)); done))) | rfl))
  obtain rfl : i = m := by omega
  rw [List.take_of_length_le (by omega)] at hC hcl
  repeat' (first | refine sy_seqC ?_ | refine syl_nil ?_ | refine sy_if_t rfl ?_ | refine sy_if_f rfl ?_ | refine sy_block ?_ | refine sy_skip ?_ | refine sy_ret ?_ | refine sy_exit ?_ | refine sy_label ?_ | refine syx_then ?_ | refine syx_go ?_ | refine syx_then_ret ?_ | refine syx_then_exit ?_ | refine syx_in ?_ | refine syx_in_ret ?_ | refine syx_in_here ?_ | refine syx_in_past rfl ?_ | (apply syx_begin; (focus ((repeat (first | exact Rem.here | apply Rem.there)); done)); assumption) | (refine sy_region (id := 5) ?_; try refine y_lss ?_) | (refine sy_region (id := 9) ?_; try refine y_move ?_; try refine yv (op_callV (hc := fun w' X hk hh => hy ▸ sm_fn bm key (Bs.cat xs) C w' (hh.has (Has.append Has.here)) hC (by omega) (hT.no hk))) (k := ?_); try refine y_extract ?_; try refine y_extract ?_; try refine y_store ?_; try refine y_assign ?_) | (refine syl_id ?_; first | refine yv (op_callV (hc := fun w' X hk hh => hy ▸ sm_fn bm key (Bs.cat xs) C w' (hh.has (Has.append Has.here)) hC (by omega) (hT.no hk))) (k := ?_) | refine y_move ?_ | refine y_lss ?_ | refine y_extract ?_ | refine y_assign ?_ | refine y_store ?_ | fail) | refine sy_region ?_ | fail)
  exact ret2 rfl (resCells rfl (ty rfl) rfl (by repeat (first | exact Has.here | apply Has.there)) Seg.all (by first | rfl | (simp only [List.length_map, List.length_set, List.length_replicate, List.length_append]; omega) | (simp only [List.length_map]; first | assumption | omega) | (simp; omega) | fail)) (resTmp rfl) SubR.nil ⟨rfl, rfl⟩
theorem or_zero (d z : UInt8) : d ||| z = 0 ↔ d = 0 ∧ z = 0 := by
  rw [← UInt8.toBitVec_inj, ← UInt8.toBitVec_inj (a := d), ← UInt8.toBitVec_inj (a := z)]
  exact BitVec.or_eq_zero_iff
theorem xor_zero (x y : UInt8) : x ^^^ y = 0 ↔ x = y := by
  rw [← UInt8.toBitVec_inj, ← UInt8.toBitVec_inj (a := x)]
  exact BitVec.xor_eq_zero_iff
theorem SlA.get {w : World} {a : Option Addr} {l : List UInt8} (h : SlA w a (l.map Sy.v8)) (hl : l ≠ []) : ∃ b off, a = some ⟨b, off, none⟩ ∧ ∀ i x, l[i]? = some x → w.cell? ⟨b, off + i, none⟩ = some (.int .u8 (Wd.n8 x)) := by
  rcases h with h | ⟨b, off, rfl, h⟩
  · exact absurd (List.map_eq_nil_iff.1 h) hl
  · exact ⟨b, off, rfl, fun i x hx => h i _ (by rw [List.getElem?_map, hx]; rfl)⟩
theorem same_fn (a0 a1 : Option Addr) (n c m d : Nat) (l k : List UInt8) (w : World) (hn : l.length = n) (hb : n < 1000000000000) (hsl : SlA w a0 (l.map Sy.v8)) (hm : k.length = m) (hmb : m < 1000000000000) (hsk : SlA w a1 (k.map Sy.v8)) :
    Sy.Fn Tryd.prog 69 [.slice a0 n c, .slice a1 m d] w No (Gives (.bool (decide (l = k)))) := by
  refine fn_enter Tryd.func69 rfl Tryd.ntmps69 (by simp) Holds.nil ?_
  by_cases hne : n = m
  · subst hne
    repeat' (first | refine sy_seqC ?_ | refine syl_nil ?_ | refine sy_if_t rfl ?_ | refine sy_if_f rfl ?_ | refine sy_block ?_ | refine sy_skip ?_ | refine sy_ret ?_ | refine sy_exit ?_ | refine sy_label ?_ | refine syx_then ?_ | refine syx_go ?_ | refine syx_then_ret ?_ | refine syx_then_exit ?_ | refine syx_in ?_ | refine syx_in_ret ?_ | refine syx_in_here ?_ | refine syx_in_past rfl ?_ | (apply syx_begin; (focus ((repeat (first | exact Rem.here | apply Rem.there)); done)); assumption) | (refine sy_region (id := 0) ?_; try refine y_assign ?_) | (refine sy_region (id := 1) ?_; try refine y_move ?_; try refine y_len ?_; try refine y_move ?_; try refine y_len ?_; try refine y_neq ?_) | (refine sy_region (id := 2) ?_; try refine y_assign ?_) | (refine sy_region (id := 3) ?_; try refine y_assign ?_) | (refine sy_region (id := 4) ?_; try refine y_move ?_; try refine y_len ?_; try refine y_move ?_) | (refine syl_id ?_; first | refine y_neq ?_ | refine y_assign ?_ | refine y_len ?_ | refine y_move ?_ | fail) | refine sy_region ?_ | fail)
    refine sy_loop (γ := Nat × UInt8) (fun g => [(0, .slice a0 n c), (1, .slice a1 n d), (5, Sy.v8 g.2), (13, .int .i64 n), (14, .int .i64 g.1)]) (fun _ => []) (fun g => g.1 ≤ n ∧ (g.2 = 0 ↔ l.take g.1 = k.take g.1)) (fun g => n - g.1) (0, 0) ⟨Nat.zero_le _, by simp⟩ ?_ ?_ ?_
    · (repeat' (first | exact Sub.nil | refine Sub.cons rfl ?_ ?_ | rfl))
    · (repeat' (first | exact SubR.nil | (apply SubR.same; with_reducible (focus ((repeat (first | exact Rem.here | apply Rem.there)); done))) | (apply SubR.blk; (focus ((repeat (first | exact Rem.here | apply Rem.there)); done))) | (apply SubR.pick; (focus ((repeat (first | exact Rem.here | apply Rem.there)); done))) | rfl))
    rintro ⟨i, df⟩ ⟨hi, hd⟩
    dsimp only at *
    by_cases hlt : i < n
    · obtain ⟨b1, o1, rfl, hg1⟩ := SlA.get hsl (fun h => by subst h; simp at hn; omega)
      obtain ⟨b2, o2, rfl, hg2⟩ := SlA.get hsk (fun h => by subst h; simp at hm; omega)
      obtain ⟨x, hx⟩ : ∃ x, l[i]? = some x := ⟨l[i]'(by omega), List.getElem?_eq_getElem _⟩
      obtain ⟨y, hy⟩ : ∃ y, k[i]? = some y := ⟨k[i]'(by omega), List.getElem?_eq_getElem _⟩
      have hx1 := hg1 i x hx
      have hy1 := hg2 i y hy
      repeat' (first | refine sy_seqC ?_ | refine syl_nil ?_ | refine sy_if_t rfl ?_ | refine sy_if_f rfl ?_ | refine sy_block ?_ | refine sy_skip ?_ | refine sy_ret ?_ | refine sy_exit ?_ | refine sy_label ?_ | refine syx_then ?_ | refine syx_go ?_ | refine syx_then_ret ?_ | refine syx_then_exit ?_ | refine syx_in ?_ | refine syx_in_ret ?_ | refine syx_in_here ?_ | refine syx_in_past rfl ?_ | (apply syx_begin; (focus ((repeat (first | exact Rem.here | apply Rem.there)); done)); assumption) | (refine sy_region (id := 5) ?_; try refine y_lss ?_) | (refine sy_region (id := 6) ?_; try refine y_move ?_; try refine y_assign ?_) | (refine sy_draw (id := 7) 10 [[], [], [], [1, 2], [1, 2, 3], [], [], [5, 6], [5, 6, 7], [1, 2, 3, 4, 5, 6, 7, 8], [0, 1, 2, 3, 4, 5, 6, 7, 8, 9], [0, 1, 2, 3, 4, 5, 6, 7, 8, 9, 10]] mixed ?_ ?_; kernel_rfl; try refine d_move ?_; try refine d_move ?_; try refine d_move ?_; try refine d_indexAddr ?_; try (first | refine dc (fun _ _ => op_load_old (hv := hx1)) (k := ?_) | refine dc (fun _ _ => op_load_old (hv := hy1)) (k := ?_) | refine d_load ?_ | fail); try refine d_move ?_; try refine d_move ?_; try refine d_indexAddr ?_; try (first | refine dc (fun _ _ => op_load_old (hv := hx1)) (k := ?_) | refine dc (fun _ _ => op_load_old (hv := hy1)) (k := ?_) | refine d_load ?_ | fail); try (first | refine dc (fun _ _ => op_xor (hr := Wd.xor8 x y)) (k := ?_) | refine d_xor ?_ | fail); try refine dh_0n ?_; try (first | refine yv (op_or (hr := Wd.or8 df (x ^^^ y))) (k := ?_) | refine y_or ?_ | fail); try refine y_assign ?_) | (refine sy_region (id := 8) ?_; try refine y_add ?_; try refine y_move ?_) | (refine syl_id ?_; first | refine yv (op_load_old (hv := hx1)) (k := ?_) | refine yv (op_load_old (hv := hy1)) (k := ?_) | refine yv (op_xor (hr := Wd.xor8 x y)) (k := ?_) | refine yv (op_or (hr := Wd.or8 df (x ^^^ y))) (k := ?_) | refine y_xor ?_ | refine y_load ?_ | refine y_indexAddr ?_ | refine y_move ?_ | refine y_lss ?_ | refine y_add ?_ | refine y_assign ?_ | refine y_or ?_ | fail) | refine dh_0n ?_ | (refine dh_id ?_; first | refine dc (fun _ _ => op_load_old (hv := hx1)) (k := ?_) | refine dc (fun _ _ => op_load_old (hv := hy1)) (k := ?_) | refine dc (fun _ _ => op_xor (hr := Wd.xor8 x y)) (k := ?_) | refine dc (fun _ _ => op_or (hr := Wd.or8 df (x ^^^ y))) (k := ?_) | refine d_xor ?_ | refine d_load ?_ | refine d_indexAddr ?_ | refine d_move ?_ | refine d_lss ?_ | refine d_add ?_ | refine d_assign ?_ | refine d_or ?_ | fail) | refine sy_region ?_ | fail)
      refine syx_back (i + 1, df ||| (x ^^^ y)) ⟨hlt, ?_⟩ ?_ ?_ ?_
      · rw [or_zero, xor_zero, hd, List.take_add_one, List.take_add_one, hx, hy]
        simp only [Option.toList_some]
        constructor
        · rintro ⟨h1, rfl⟩; rw [h1]
        · intro h
          have := List.append_inj h (by simp; omega)
          exact ⟨this.1, by simpa using this.2⟩
      · show n - (i + 1) < n - i; omega
      · (repeat' (first | exact Sub.nil | refine Sub.cons rfl ?_ ?_ | rfl))
      · (repeat' (first | exact SubR.nil | (apply SubR.same; with_reducible (focus ((repeat (first | exact Rem.here | apply Rem.there)); done))) | (apply SubR.blk; (focus ((repeat (first | exact Rem.here | apply Rem.there)); done))) | (apply SubR.pick; (focus ((repeat (first | exact Rem.here | apply Rem.there)); done))) | rfl))
    obtain rfl : i = n := by omega
    rw [List.take_of_length_le (by omega), List.take_of_length_le (by omega)] at hd
    have hr : decide (Wd.n8 df = 0) = decide (l = k) := by
      rw [decide_eq_decide, ← hd]
      exact ⟨fun h => Wd.n8_inj (y := 0) h, fun h => by subst h; rfl⟩
    repeat' (first | refine sy_seqC ?_ | refine syl_nil ?_ | refine sy_if_t rfl ?_ | refine sy_if_f rfl ?_ | refine sy_block ?_ | refine sy_skip ?_ | refine sy_ret ?_ | refine sy_exit ?_ | refine sy_label ?_ | refine syx_then ?_ | refine syx_go ?_ | refine syx_then_ret ?_ | refine syx_then_exit ?_ | refine syx_in ?_ | refine syx_in_ret ?_ | refine syx_in_here ?_ | refine syx_in_past rfl ?_ | (apply syx_begin; (focus ((repeat (first | exact Rem.here | apply Rem.there)); done)); assumption) | (refine sy_region (id := 5) ?_; try refine y_lss ?_) | (refine sy_region (id := 9) ?_; try refine y_move ?_; try (first | refine yv (op_eql (hr := hr)) (k := ?_) | refine y_eql ?_ | fail); try refine y_assign ?_) | (refine syl_id ?_; first | refine yv (op_eql (hr := hr)) (k := ?_) | refine y_lss ?_ | refine y_eql ?_ | refine y_assign ?_ | refine y_move ?_ | fail) | refine sy_region ?_ | fail)
    exact ret1 rfl (resTmp rfl) SubR.nil ⟨rfl, rfl⟩
  · have hlk : decide (l = k) = false := decide_eq_false (fun h => hne (by rw [← hn, ← hm, h]))
    rw [hlk]
    repeat' (first | refine sy_seqC ?_ | refine syl_nil ?_ | refine sy_if_t rfl ?_ | refine sy_if_f rfl ?_ | refine sy_block ?_ | refine sy_skip ?_ | refine sy_ret ?_ | refine sy_exit ?_ | refine sy_label ?_ | refine syx_then ?_ | refine syx_go ?_ | refine syx_then_ret ?_ | refine syx_then_exit ?_ | refine syx_in ?_ | refine syx_in_ret ?_ | refine syx_in_here ?_ | refine syx_in_past rfl ?_ | (apply syx_begin; (focus ((repeat (first | exact Rem.here | apply Rem.there)); done)); assumption) | (refine sy_region (id := 0) ?_; try refine y_assign ?_) | (refine sy_region (id := 1) ?_; try refine y_move ?_; try refine y_len ?_; try refine y_move ?_; try refine y_len ?_; try refine y_neq ?_) | (refine sy_region (id := 2) ?_; try refine y_assign ?_) | (refine syl_id ?_; first | refine y_neq ?_ | refine y_assign ?_ | refine y_len ?_ | refine y_move ?_ | fail) | refine sy_region ?_ | fail)
    exact ret1 rfl (resTmp rfl) SubR.nil ⟨rfl, rfl⟩
theorem equal_fn (a0 a1 : Option Addr) (n c m d : Nat) (l k : List UInt8) (w : World) (hn : l.length = n) (hb : n < 1000000000000) (hsl : SlA w a0 (l.map Sy.v8)) (hm : k.length = m) (hmb : m < 1000000000000) (hsk : SlA w a1 (k.map Sy.v8)) :
    Sy.Fn Tryd.prog 38 [.slice a0 n c, .slice a1 m d] w No (Gives (.bool (decide (l = k)))) := by
  refine fn_enter Tryd.func38 rfl Tryd.ntmps38 (by simp) Holds.nil ?_
  repeat' (first | refine sy_seqC ?_ | refine syl_nil ?_ | refine sy_if_t rfl ?_ | refine sy_if_f rfl ?_ | refine sy_block ?_ | refine sy_skip ?_ | refine sy_ret ?_ | refine sy_exit ?_ | refine sy_label ?_ | refine syx_then ?_ | refine syx_go ?_ | refine syx_then_ret ?_ | refine syx_then_exit ?_ | refine syx_in ?_ | refine syx_in_ret ?_ | refine syx_in_here ?_ | refine syx_in_past rfl ?_ | (apply syx_begin; (focus ((repeat (first | exact Rem.here | apply Rem.there)); done)); assumption) | (refine sy_region (id := 0) ?_; try refine y_assign ?_) | (refine sy_region (id := 1) ?_; try refine y_move ?_; try refine y_move ?_; try refine yv (op_callV (hc := fun w' X hk hh => same_fn a0 a1 n c m d l k w' hn hb (hsl.keep hk (fun _ _ h => h)) hm hmb (hsk.keep hk (fun _ _ h => h)))) (k := ?_); try refine y_assign ?_) | (refine syl_id ?_; first | refine yv (op_callV (hc := fun w' X hk hh => same_fn a0 a1 n c m d l k w' hn hb (hsl.keep hk (fun _ _ h => h)) hm hmb (hsk.keep hk (fun _ _ h => h)))) (k := ?_) | refine y_assign ?_ | refine y_move ?_ | fail) | refine sy_region ?_ | fail)
  exact ret1 rfl (resTmp rfl) SubR.nil ⟨rfl, rfl⟩
end Go.Proofs.YtcahnkdnhejkkaaDoor
