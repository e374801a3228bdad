/- Layer derive, walked: the blocks of a password's key. -/
import Derived.Test.YtcahnkdnhejkkaaDoorDer2
set_option linter.all false
namespace Go.Proofs.YtcahnkdnhejkkaaDoor
open Go Go.Sy Go.Sh Go.RowKit
attribute [local irreducible] Sy SyL SyX Sy.Fn callFunc Sh.sum kxor kpad kbase macA HashIs MacIs hmac
set_option maxRecDepth 10000
theorem keyed_fn (bb bm : Nat) (C0 : List Value) (pw : List UInt8) (a1 : Option Addr) (m d : Nat) (xs : List Bs) (w : World) (hcell : w.cell? ⟨bb, 0, none⟩ = some (.pointer (some ⟨bm, 0, none⟩))) (hC : (Res.blk bm 69 C0).holds w) (hI : MacIs pw [] C0) (hp : PartsOk w a1 m xs) (hT : Tab w No) :
    Sy.Fn Tryd.prog 77 [.slice a1 m d, .pointer (some ⟨bb, 0, none⟩)] w No (Gives (.agg ((hmac pw (Bs.cat xs)).map Sy.v8).toArray)) := by
  obtain ⟨hm, hmb, hsx, hxs⟩ := hp
  refine fn_enter Tryd.func77 rfl Tryd.ntmps77 (by simp) Holds.nil ?_
  have hy32 := hmac_len pw (Bs.cat xs)
  obtain ⟨y, hy⟩ : ∃ y, hmac pw (Bs.cat xs) = y := ⟨_, rfl⟩
  rw [hy] at hy32 ⊢
  have hold : ∀ w', Keep No w w' → (Res.blk bm 69 C0).holds w' := fun w' hk => Res.holds_congr hC (fun b hb => hk.block b (Res.own_lt hC hb) (fun h => h))
  repeat' (first | refine sy_seqC ?_ | refine syl_nil ?_ | refine sy_if_t rfl ?_ | refine sy_if_f rfl ?_ | refine sy_block ?_ | refine sy_skip ?_ | refine sy_ret ?_ | refine sy_exit ?_ | refine sy_label ?_ | refine syx_then ?_ | refine syx_go ?_ | refine syx_then_ret ?_ | refine syx_then_exit ?_ | refine syx_in ?_ | refine syx_in_ret ?_ | refine syx_in_here ?_ | refine syx_in_past rfl ?_ | (apply syx_begin; (focus ((repeat (first | exact Rem.here | apply Rem.there)); done)); assumption) | (refine sy_region (id := 0) ?_; try (refine y_new ?_; intro _)) | (refine sy_region (id := 1) ?_; try (first | refine yv (op_load_old (hv := hcell)) (k := ?_) | refine y_load ?_ | fail); try (refine ys (op_call0 (hc := fun w' X hk hh => cp_fn bm pw [] C0 w' (hold w' hk) hI)) (k := ?_); rintro _ _ ⟨R, rfl, bc, rfl, rfl⟩); try refine y_assign ?_) | (refine sy_region (id := 2) ?_; try refine y_move ?_; try refine y_len ?_; try refine y_move ?_) | (refine syl_id ?_; first | refine yv (op_load_old (hv := hcell)) (k := ?_) | (refine ys (op_call0 (hc := fun w' X hk hh => cp_fn bm pw [] C0 w' (hold w' hk) hI)) (k := ?_); rintro _ _ ⟨R, rfl, bc, rfl, rfl⟩) | refine y_assign ?_ | refine y_len ?_ | refine y_load ?_ | refine y_move ?_ | (refine y_new ?_; intro _) | fail) | refine sy_region ?_ | fail)
  rename_i b3
  refine sy_loop (γ := Nat × List Value) (fun g => [(3, .pointer (some ⟨b3, 0, none⟩)), (4, .pointer (some ⟨bc, 0, none⟩)), (11, .slice a1 m d), (12, .int .i64 m), (13, .int .i64 g.1)]) (fun g => [.blk bc 69 g.2, .blk b3 24 zero32])
    (fun g => g.1 ≤ m ∧ MacIs pw (Bs.cat (xs.take g.1)) g.2) (fun g => m - g.1) (0, C0) ⟨Nat.zero_le _, hI⟩ ?_ ?_ ?_
  · (repeat' (first | exact Sub.nil | refine Sub.cons rfl ?_ ?_ | rfl))
  · (repeat' (first | exact SubR.nil | (apply SubR.same; with_reducible (focus ((repeat (first | exact Rem.here | apply Rem.there)); done))) | (apply SubR.blk; (focus ((repeat (first | exact Rem.here | apply Rem.there)); done))) | (apply SubR.pick; (focus ((repeat (first | exact Rem.here | apply Rem.there)); done))) | rfl))
  rintro ⟨i, C⟩ ⟨hi, hC'⟩
  dsimp only at *
  have hcl : (Bs.cat (xs.take i)).length ≤ 10000 * i := by
    have := Bs.cat_le (k := 10000) (xs.take i) (fun s hs => by have := hxs s (List.mem_of_mem_take hs); omega)
    rw [List.length_take, Nat.min_eq_left (by omega)] at this; exact this
  by_cases hlt : i < m
  · obtain ⟨bl, ol, rfl, hcl'⟩ := Bs.get hsx (hm ▸ hlt)
    have hci := hcl' i (hm ▸ hlt)
    have hcat := Bs.cat_succ xs i (hm ▸ hlt)
    obtain ⟨h1, h2, h3, h4⟩ := hxs xs[i] (List.getElem_mem _)
    generalize xs[i] = s at *
    obtain ⟨sa, sn, sc, sl⟩ := s
    dsimp only at *
    repeat' (first | refine sy_seqC ?_ | refine syl_nil ?_ | refine sy_if_t rfl ?_ | refine sy_if_f rfl ?_ | refine sy_block ?_ | refine sy_skip ?_ | refine sy_ret ?_ | refine sy_exit ?_ | refine sy_label ?_ | refine syx_then ?_ | refine syx_go ?_ | refine syx_then_ret ?_ | refine syx_then_exit ?_ | refine syx_in ?_ | refine syx_in_ret ?_ | refine syx_in_here ?_ | refine syx_in_past rfl ?_ | (apply syx_begin; (focus ((repeat (first | exact Rem.here | apply Rem.there)); done)); assumption) | (refine sy_region (id := 3) ?_; try refine y_lss ?_) | (refine sy_region (id := 4) ?_; try refine y_indexAddr ?_; try (first | refine yv (op_load_old (hv := hci)) (k := ?_) | refine y_load ?_ | fail); try refine y_assign ?_) | (refine sy_region (id := 5) ?_; try refine y_move ?_; try refine y_move ?_) | (refine syl_id ?_; first | refine yv (op_load_old (hv := hci)) (k := ?_) | refine y_assign ?_ | refine y_lss ?_ | refine y_indexAddr ?_ | refine y_load ?_ | refine y_move ?_ | fail) | refine sy_region ?_ | fail)
    refine ys (op_callR (b := bc) (Rel := MacIs pw (Bs.cat (xs.take i) ++ sl)) (hc := fun w' X hk hh => wr_fn bc pw (Bs.cat (xs.take i)) sl C sa sn sc w' (hh.has (Has.append Has.here)) hC' h1 h2 (by omega) (SlF.oldB h3 hk hh Has.here) (hT.to hk (hh.one Has.here)))) (k := ?_); rintro _ _ ⟨rfl, C2, hC2, rfl⟩
    repeat' (first | refine sy_seqC ?_ | refine syl_nil ?_ | refine sy_if_t rfl ?_ | refine sy_if_f rfl ?_ | refine sy_block ?_ | refine sy_skip ?_ | refine sy_ret ?_ | refine sy_exit ?_ | refine sy_label ?_ | refine syx_then ?_ | refine syx_go ?_ | refine syx_then_ret ?_ | refine syx_then_exit ?_ | refine syx_in ?_ | refine syx_in_ret ?_ | refine syx_in_here ?_ | refine syx_in_past rfl ?_ | (apply syx_begin; (focus ((repeat (first | exact Rem.here | apply Rem.there)); done)); assumption) | (refine sy_region (id := 5) ?_; try refine y_move ?_; try refine y_move ?_) | (refine sy_region (id := 6) ?_; try refine y_add ?_; try refine y_move ?_) | (refine syl_id ?_; first | refine y_add ?_ | refine y_move ?_ | fail) | refine sy_region ?_ | fail)
    refine syx_back (i + 1, C2) ⟨hlt, by show MacIs pw (Bs.cat (xs.take (i + 1))) C2; rw [hcat]; exact hC2⟩ ?_ ?_ ?_
    · show m - (i + 1) < m - i; omega
    · (repeat' (first | exact Sub.nil | refine Sub.cons rfl ?_ ?_ | rfl))
    · (repeat' (first | exact SubR.nil | (apply SubR.same; with_reducible (focus ((repeat (first | exact Rem.here | apply Rem.there)); done))) | (apply SubR.blk; (focus ((repeat (first | exact Rem.here | apply Rem.there)); done))) | (apply SubR.pick; (focus ((repeat (first | exact Rem.here | apply Rem.there)); done))) | rfl))
  obtain rfl : i = m := by omega
  rw [List.take_of_length_le (by omega)] at hC' hcl
  repeat' (first | refine sy_seqC ?_ | refine syl_nil ?_ | refine sy_if_t rfl ?_ | refine sy_if_f rfl ?_ | refine sy_block ?_ | refine sy_skip ?_ | refine sy_ret ?_ | refine sy_exit ?_ | refine sy_label ?_ | refine syx_then ?_ | refine syx_go ?_ | refine syx_then_ret ?_ | refine syx_then_exit ?_ | refine syx_in ?_ | refine syx_in_ret ?_ | refine syx_in_here ?_ | refine syx_in_past rfl ?_ | (apply syx_begin; (focus ((repeat (first | exact Rem.here | apply Rem.there)); done)); assumption) | (refine sy_region (id := 3) ?_; try refine y_lss ?_) | (refine sy_region (id := 7) ?_; try refine y_move ?_; try refine yv (op_callV (hc := fun w' X hk hh => hy ▸ sm_fn bc pw (Bs.cat xs) C w' (hh.has (Has.append Has.here)) hC' (by omega) (hT.no hk))) (k := ?_); try refine y_move ?_; try refine y_extract ?_; try refine y_extract ?_; try (refine y_new ?_; intro _); try refine y_store ?_; try refine y_assign ?_) | (refine sy_region (id := 8) ?_; try refine y_load ?_; try refine y_store ?_) | (refine syl_id ?_; first | refine yv (op_callV (hc := fun w' X hk hh => hy ▸ sm_fn bc pw (Bs.cat xs) C w' (hh.has (Has.append Has.here)) hC' (by omega) (hT.no hk))) (k := ?_) | refine y_assign ?_ | refine y_lss ?_ | refine y_extract ?_ | refine y_load ?_ | refine y_move ?_ | refine y_store ?_ | (refine y_new ?_; intro _) | fail) | refine sy_region ?_ | fail)
  exact ret1 rfl (resCells rfl (ty rfl) rfl (by repeat (first | exact Has.here | apply Has.there)) Seg.all (by first | rfl | (simp only [List.length_map, List.length_set, List.length_replicate, List.length_append]; omega) | (simp only [List.length_map]; first | assumption | omega) | (simp; omega) | fail)) SubR.nil ⟨rfl, rfl⟩
theorem xorl_len (a b : List UInt8) (n : Nat) (ha : a.length = n) (hb : b.length = n) : (xorl a b).length = n := by unfold xorl; rw [List.length_zipWith]; omega
theorem xorl_at (a b : List UInt8) (i : Nat) (x y : UInt8) (ha : a[i]? = some x) (hb : b[i]? = some y) : (xorl a b)[i]? = some (x ^^^ y) := by
  unfold xorl; rw [List.getElem?_zipWith, ha, hb]
theorem combine_fn (S T b2 : Nat) (a b : List UInt8) (w : World) (hC : (Res.blk S T (a.map Sy.v8)).holds w) (ha : a.length = 32) (hb : b.length = 32) (hr : w.rangeAt b2 0 (b.map Sy.v8)) (hne : b2 ≠ S) :
    Sy.Fn Tryd.prog 80 [.slice (some ⟨S, 0, none⟩) 32 32, .slice (some ⟨b2, 0, none⟩) 32 32] w (fun x => x = S) (fun v R => v = .tuple #[] ∧ ∃ C', C' = (xorl a b).map Sy.v8 ∧ R = [.blk S T C']) := by
  have hL0 : Holds w.heap.size (fun x => x = S) [.blk S T (a.map Sy.v8)] w := ⟨fun x hx => by obtain rfl := List.mem_singleton.1 hx; exact hC, List.pairwise_singleton _ _, fun x hx y hy => by obtain rfl := List.mem_singleton.1 hx; exact .inr (Eq.symm hy)⟩
  have hx32 := xorl_len a b 32 ha hb
  have hat := xorl_at a b
  refine fn_enter Tryd.func80 rfl Tryd.ntmps80 (by simp) hL0 ?_
  repeat' (first | refine sy_seqC ?_ | refine syl_nil ?_ | refine sy_if_t rfl ?_ | refine sy_if_f rfl ?_ | refine sy_block ?_ | refine sy_skip ?_ | refine sy_ret ?_ | refine sy_exit ?_ | refine sy_label ?_ | refine syx_then ?_ | refine syx_go ?_ | refine syx_then_ret ?_ | refine syx_then_exit ?_ | refine syx_in ?_ | refine syx_in_ret ?_ | refine syx_in_here ?_ | refine syx_in_past rfl ?_ | (apply syx_begin; (focus ((repeat (first | exact Rem.here | apply Rem.there)); done)); assumption) | (refine sy_region (id := 0) ?_; try refine y_move ?_; try refine y_len ?_; try refine y_move ?_) | (refine syl_id ?_; first | refine y_len ?_ | refine y_move ?_ | fail) | refine sy_region ?_ | fail)
  refine sy_loop (γ := Nat) (fun i => [(0, .slice (some ⟨S, 0, none⟩) 32 32), (1, .slice (some ⟨b2, 0, none⟩) 32 32), (6, .int .i64 32), (7, .int .i64 i)]) (fun i => [.blk S T (((xorl a b).take i ++ a.drop i).map Sy.v8)]) (fun i => i ≤ 32) (fun i => 32 - i) 0 (by decide) ?_ ?_ ?_
  · (repeat' (first | exact Sub.nil | refine Sub.cons rfl ?_ ?_ | rfl))
  · (repeat' (first | exact SubR.nil | (apply SubR.same; with_reducible (focus ((repeat (first | exact Rem.here | apply Rem.there)); done))) | (apply SubR.blk; (focus ((repeat (first | exact Rem.here | apply Rem.there)); done))) | (apply SubR.pick; (focus ((repeat (first | exact Rem.here | apply Rem.there)); done))) | rfl))
  intro i hi
  by_cases hlt : i < 32
  · obtain ⟨x, hx⟩ : ∃ x, a[i]? = some x := ⟨a[i]'(by omega), List.getElem?_eq_getElem _⟩
    obtain ⟨y, hy⟩ : ∃ y, b[i]? = some y := ⟨b[i]'(by omega), List.getElem?_eq_getElem _⟩
    have hl : ((xorl a b).take i ++ a.drop i).length = 32 := by rw [List.length_append, List.length_take, List.length_drop]; omega
    have hv1 : (((xorl a b).take i ++ a.drop i).map Sy.v8)[i]? = some (.int .u8 (Wd.n8 x)) := by
      rw [List.getElem?_map, List.getElem?_append_right (by rw [List.length_take]; omega), List.length_take, Nat.min_eq_left (by omega), Nat.sub_self, List.getElem?_drop, Nat.add_zero, hx]; rfl
    have hv2 : w.cell? ⟨b2, i, none⟩ = some (.int .u8 (Wd.n8 y)) := by
      have := hr i (Sy.v8 y) (by rw [List.getElem?_map, hy]; rfl)
      rw [Nat.zero_add] at this; exact this
    have he : (((xorl a b).take i ++ a.drop i).map Sy.v8).set i (Sy.v8 (x ^^^ y)) = ((xorl a b).take (i + 1) ++ a.drop (i + 1)).map Sy.v8 := by
      have hd : a.drop i = x :: a.drop (i + 1) := by
        rw [List.drop_eq_getElem_cons (by omega)]
        congr 1
        rw [List.getElem?_eq_getElem (by omega)] at hx
        exact Option.some.inj hx
      rw [← List.map_set, hd, List.set_append_right _ _ (by rw [List.length_take]; omega), List.length_take, Nat.min_eq_left (by omega), Nat.sub_self, List.take_add_one, hat i x y hx hy]
      simp
    have hl' : (((xorl a b).take i ++ a.drop i).map Sy.v8).length = 32 := by rw [List.length_map, hl]
    generalize ((xorl a b).take i ++ a.drop i).map Sy.v8 = C at *
    repeat' (first | refine sy_seqC ?_ | refine syl_nil ?_ | refine sy_if_t rfl ?_ | refine sy_if_f rfl ?_ | refine sy_block ?_ | refine sy_skip ?_ | refine sy_ret ?_ | refine sy_exit ?_ | refine sy_label ?_ | refine syx_then ?_ | refine syx_go ?_ | refine syx_then_ret ?_ | refine syx_then_exit ?_ | refine syx_in ?_ | refine syx_in_ret ?_ | refine syx_in_here ?_ | refine syx_in_past rfl ?_ | (apply syx_begin; (focus ((repeat (first | exact Rem.here | apply Rem.there)); done)); assumption) | (refine sy_region (id := 1) ?_; try refine y_lss ?_) | (refine sy_region (id := 2) ?_; try refine y_move ?_; try refine y_assign ?_) | (refine sy_draw (id := 3) 8 [[], [], [0, 1], [0, 1, 2], [], [], [4, 5], [4, 5, 6], [0, 1, 2, 3, 4, 5, 6, 7], [0, 1, 2, 3, 4, 5, 6, 7, 8], [0, 1, 2, 3, 4, 5, 6, 7, 8, 9]] mixed ?_ ?_; kernel_rfl; try refine d_move ?_; try refine d_move ?_; try refine d_indexAddr ?_; try (first | refine dc (fun _ _ => op_load (hv := hv1)) (k := ?_) | refine dc (fun _ _ => op_load_old (hv := hv2) (hn := hne)) (k := ?_) | refine d_load ?_ | fail); try refine d_move ?_; try refine d_move ?_; try refine d_indexAddr ?_; try (first | refine dc (fun _ _ => op_load (hv := hv1)) (k := ?_) | refine dc (fun _ _ => op_load_old (hv := hv2) (hn := hne)) (k := ?_) | refine d_load ?_ | fail); try refine dh_0n ?_; try (first | refine yv (op_xor (hr := Wd.xor8 x y)) (k := ?_) | refine y_xor ?_ | fail); try refine y_indexAddr ?_; try refine y_store ?_) | (refine sy_region (id := 4) ?_; try refine y_add ?_; try refine y_move ?_) | (refine syl_id ?_; first | refine yv (op_load (hv := hv1)) (k := ?_) | refine yv (op_load_old (hv := hv2) (hn := hne)) (k := ?_) | refine yv (op_xor (hr := Wd.xor8 x y)) (k := ?_) | refine y_assign ?_ | refine y_add ?_ | refine y_lss ?_ | refine y_xor ?_ | refine y_indexAddr ?_ | refine y_load ?_ | refine y_move ?_ | refine y_store ?_ | fail) | refine dh_0n ?_ | (refine dh_id ?_; first | refine dc (fun _ _ => op_load (hv := hv1)) (k := ?_) | refine dc (fun _ _ => op_load_old (hv := hv2) (hn := hne)) (k := ?_) | refine dc (fun _ _ => op_xor (hr := Wd.xor8 x y)) (k := ?_) | refine d_assign ?_ | refine d_add ?_ | refine d_lss ?_ | refine d_xor ?_ | refine d_indexAddr ?_ | refine d_load ?_ | refine d_move ?_ | fail) | refine sy_region ?_ | fail)
    refine syx_back (i + 1) ?_ ?_ ?_ ?_
    · show i + 1 ≤ 32; omega
    · show 32 - (i + 1) < 32 - i; omega
    · (repeat' (first | exact Sub.nil | refine Sub.cons rfl ?_ ?_ | rfl))
    · (repeat' (first | exact SubR.nil | (apply SubR.same; with_reducible (focus ((repeat (first | exact Rem.here | apply Rem.there)); done))) | (apply SubR.blk; (focus ((repeat (first | exact Rem.here | apply Rem.there)); done))) | (apply SubR.pick; (focus ((repeat (first | exact Rem.here | apply Rem.there)); done))) | rfl))
      exact he
  obtain rfl : i = 32 := by omega
  have hend : (xorl a b).take 32 ++ a.drop 32 = xorl a b := by rw [List.take_of_length_le (by omega), List.drop_of_length_le (by omega), List.append_nil]
  rw [hend]
  repeat' (first | refine sy_seqC ?_ | refine syl_nil ?_ | refine sy_if_t rfl ?_ | refine sy_if_f rfl ?_ | refine sy_block ?_ | refine sy_skip ?_ | refine sy_ret ?_ | refine sy_exit ?_ | refine sy_label ?_ | refine syx_then ?_ | refine syx_go ?_ | refine syx_then_ret ?_ | refine syx_then_exit ?_ | refine syx_in ?_ | refine syx_in_ret ?_ | refine syx_in_here ?_ | refine syx_in_past rfl ?_ | (apply syx_begin; (focus ((repeat (first | exact Rem.here | apply Rem.there)); done)); assumption) | (refine sy_region (id := 1) ?_; try refine y_lss ?_) | (refine syl_id ?_; first | refine y_lss ?_ | fail) | refine sy_region ?_ | fail)
  exact end0 rfl (by (repeat' (first | exact SubR.nil | (apply SubR.same; with_reducible (focus ((repeat (first | exact Rem.here | apply Rem.there)); done))) | (apply SubR.blk; (focus ((repeat (first | exact Rem.here | apply Rem.there)); done))) | (apply SubR.pick; (focus ((repeat (first | exact Rem.here | apply Rem.there)); done))) | rfl))) ⟨rfl, _, rfl, rfl⟩
end Go.Proofs.YtcahnkdnhejkkaaDoor
