/- The specification of the keyed hash, walked. -/
import Derived.Test.YtcahnkdnhejkkaaDoorSyMac
import Derived.Test.YtcahnkdnhejkkaaDoorMacSpec
import Derived.Test.YtcahnkdnhejkkaaDoorRefSum2
import Derived.Test.YtcahnkdnhejkkaaDoorShaKit
import Derived.Test.YtcahnkdnhejkkaaDoorSyRead
set_option linter.all false
namespace Go.Proofs.YtcahnkdnhejkkaaDoor
open Go Go.Sy Go.Sh Go.RowKit
attribute [local irreducible] Sy SyL SyX Sy.Fn callFunc Sh.sum
set_option maxRecDepth 10000
theorem kxor_get (key : List UInt8) (by' : UInt8) (i : Nat) (h : (kbase key).length ≤ 64) (hi : i < 64) : (kxor (kpad key) by')[i]? = some ((if hl : i < (kbase key).length then (kbase key)[i] else 0) ^^^ by') := by
  unfold kxor kpad
  rw [List.getElem?_map]
  split
  · rw [List.getElem?_append_left (by omega), List.getElem?_eq_getElem (by omega)]; rfl
  · rw [List.getElem?_append_right (by omega), List.getElem?_replicate, if_pos (by omega)]; rfl
theorem kblock_fn (a0 : Option Addr) (n c kb ko kc : Nat) (key : List UInt8) (by' : UInt8) (w : World) (hn : key.length = n) (hb : n < 1000000000000) (hc : n ≤ c) (hsl : SlA w a0 (key.map Sy.v8)) (hnil : a0 = none → c = 0) (hR : RTab w No kb ko kc) :
    Sy.Fn Tryd.prog 68 [.slice a0 n c, Sy.v8 by'] w No (fun v R => ∃ b, v = .slice (some ⟨b, 0, none⟩) 64 64 ∧ R = [.row v 5 1 64 ((kxor (kpad key) by').map Sy.v8)]) := by
  refine fn_enter Tryd.func68 rfl Tryd.ntmps68 (by simp) Holds.nil ?_
  have hs32 := sum_len key
  have hkb := kbase_le key hs32
  have hget := kxor_get key by'
  repeat' (first | refine sy_seqC ?_ | refine syl_nil ?_ | refine sy_if_t rfl ?_ | refine sy_if_f rfl ?_ | refine sy_block ?_ | refine sy_skip ?_ | refine sy_ret ?_ | refine sy_exit ?_ | refine sy_label ?_ | refine syx_then ?_ | refine syx_go ?_ | refine syx_then_ret ?_ | refine syx_then_exit ?_ | refine syx_in ?_ | refine syx_in_ret ?_ | refine syx_in_here ?_ | refine syx_in_past rfl ?_ | (apply syx_begin; (focus ((repeat (first | exact Rem.here | apply Rem.there)); done)); assumption) | (refine sy_region (id := 0) ?_; try refine y_assign ?_) | (refine sy_region (id := 1) ?_; try refine y_assign ?_) | (refine sy_region (id := 2) ?_; try refine y_move ?_; try refine y_len ?_; try refine y_gtr ?_) | (refine ys (op_makeB (n := 64)) (k := ?_); rintro _ _ ⟨bm, rfl, rfl⟩) | (refine syl_id ?_; first | refine y_assign ?_ | refine y_gtr ?_ | refine y_len ?_ | refine y_move ?_ | fail) | refine sy_region ?_ | fail)
  refine sy_cut (γ := Option Addr × Nat × Res) (fun g => [(0, .slice g.1 (kbase key).length g.2.1), (1, Sy.v8 by'), (5, .slice (some ⟨bm, 0, none⟩) 64 64)]) (fun g => [.blk bm 5 (List.replicate 64 (.int .u8 0)), g.2.2])
    (fun g => 0 < (kbase key).length → ∃ b1 o1, g.1 = some ⟨b1, o1, none⟩ ∧ ∀ C, Reads w No [.blk bm 5 C, g.2.2] b1 o1 ((kbase key).map Sy.v8)) ?_ ?_
  · refine sy_cond rfl (fun h => ?_) (fun h => ?_)
    · have h := of_decide_eq_true h
      have hkk : kbase key = Sh.sum key := by unfold kbase; rw [if_pos (by omega)]
      repeat' (first | refine sy_seqC ?_ | refine syl_nil ?_ | refine sy_if_t rfl ?_ | refine sy_if_f rfl ?_ | refine sy_block ?_ | refine sy_skip ?_ | refine sy_ret ?_ | refine sy_exit ?_ | refine sy_label ?_ | refine syx_then ?_ | refine syx_go ?_ | refine syx_then_ret ?_ | refine syx_then_exit ?_ | refine syx_in ?_ | refine syx_in_ret ?_ | refine syx_in_here ?_ | refine syx_in_past rfl ?_ | (apply syx_begin; (focus ((repeat (first | exact Rem.here | apply Rem.there)); done)); assumption) | (refine sy_region (id := 3) ?_; try refine y_move ?_; try refine yv (op_callV (hc := fun w' X hk hh => rsum_any a0 n c kb ko kc key w' hn (by omega) (hsl.keep hk (fun _ _ h => h)) hnil (hR.no hk).cell (hR.no hk).row)) (k := ?_); try (refine y_new ?_; intro _); try refine y_store ?_) | (refine sy_region (id := 4) ?_; try refine y_slice ?_; try refine y_assign ?_) | (refine syl_id ?_; first | refine yv (op_callV (hc := fun w' X hk hh => rsum_any a0 n c kb ko kc key w' hn (by omega) (hsl.keep hk (fun _ _ h => h)) hnil (hR.no hk).cell (hR.no hk).row)) (k := ?_) | refine y_assign ?_ | refine y_move ?_ | refine y_slice ?_ | refine y_store ?_ | (refine y_new ?_; intro _) | fail) | refine sy_region ?_ | fail)
      rename_i b6
      have hlen : (kbase key).length = 32 := by rw [hkk]; exact hs32
      refine syx_cut (some ⟨b6, 0, none⟩, 32, .blk b6 24 ((Sh.sum key).map Sy.v8)) (fun _ => ⟨b6, 0, rfl, fun C => by rw [hkk]; exact Reads.blk (Has.there Has.here) Seg.all⟩) ?_ ?_
      · dsimp only; rw [hlen]; (repeat' (first | exact Sub.nil | refine Sub.cons rfl ?_ ?_ | rfl))
      · (repeat' (first | exact SubR.nil | (apply SubR.same; with_reducible (focus ((repeat (first | exact Rem.here | apply Rem.there)); done))) | (apply SubR.blk; (focus ((repeat (first | exact Rem.here | apply Rem.there)); done))) | (apply SubR.pick; (focus ((repeat (first | exact Rem.here | apply Rem.there)); done))) | rfl))
    · have h := of_decide_eq_false h
      have hkk : kbase key = key := by unfold kbase; rw [if_neg (by omega)]
      refine sy_conv (conv_nil 5 1) ?_
      repeat' (first | refine sy_seqC ?_ | refine syl_nil ?_ | refine sy_if_t rfl ?_ | refine sy_if_f rfl ?_ | refine sy_block ?_ | refine sy_skip ?_ | refine sy_ret ?_ | refine sy_exit ?_ | refine sy_label ?_ | refine syx_then ?_ | refine syx_go ?_ | refine syx_then_ret ?_ | refine syx_then_exit ?_ | refine syx_in ?_ | refine syx_in_ret ?_ | refine syx_in_here ?_ | refine syx_in_past rfl ?_ | (apply syx_begin; (focus ((repeat (first | exact Rem.here | apply Rem.there)); done)); assumption) | (refine sy_region (id := 3) ?_; try refine y_move ?_; try (refine y_new ?_; intro _); try refine y_store ?_) | (refine syl_id ?_; first | refine y_move ?_ | refine y_store ?_ | (refine y_new ?_; intro _) | fail) | refine sy_region ?_ | fail)
      have hlen : (kbase key).length = n := by rw [hkk, hn]
      refine syx_cut (a0, c, .row (.slice none 0 0) 5 1 0 []) (fun hpos => ?_) ?_ ?_
      · rcases hsl with h | ⟨b1, o1, rfl, hr⟩
        · exfalso; have := congrArg List.length h; rw [List.length_map, List.length_nil] at this; omega
        · exact ⟨b1, o1, rfl, fun C => by rw [hkk]; exact Reads.old hr (fun h => h)⟩
      · dsimp only; rw [hlen]; (repeat' (first | exact Sub.nil | refine Sub.cons rfl ?_ ?_ | rfl))
      · (repeat' (first | exact SubR.nil | (apply SubR.same; with_reducible (focus ((repeat (first | exact Rem.here | apply Rem.there)); done))) | (apply SubR.blk; (focus ((repeat (first | exact Rem.here | apply Rem.there)); done))) | (apply SubR.pick; (focus ((repeat (first | exact Rem.here | apply Rem.there)); done))) | rfl))
  rintro ⟨a1, c1, r⟩ hI
  dsimp only at *
  repeat' (first | refine sy_seqC ?_ | refine syl_nil ?_ | refine sy_if_t rfl ?_ | refine sy_if_f rfl ?_ | refine sy_block ?_ | refine sy_skip ?_ | refine sy_ret ?_ | refine sy_exit ?_ | refine sy_label ?_ | refine syx_then ?_ | refine syx_go ?_ | refine syx_then_ret ?_ | refine syx_then_exit ?_ | refine syx_in ?_ | refine syx_in_ret ?_ | refine syx_in_here ?_ | refine syx_in_past rfl ?_ | (apply syx_begin; (focus ((repeat (first | exact Rem.here | apply Rem.there)); done)); assumption) | (refine sy_region (id := 5) ?_; try refine y_assign ?_) | (refine syl_id ?_; first | refine y_assign ?_ | fail) | refine sy_region ?_ | fail)
  have h64 := kpad_len key hs32
  have hx64 : (kxor (kpad key) by').length = 64 := by rw [kxor_len, h64]
  refine sy_loop (γ := Nat) (fun i => [(0, .slice a1 (kbase key).length c1), (1, Sy.v8 by'), (5, .slice (some ⟨bm, 0, none⟩) 64 64), (7, .int .i64 i)]) (fun i => [.blk bm 5 (((kxor (kpad key) by').take i).map Sy.v8 ++ List.replicate (64 - i) (.int .u8 0)), r]) (fun i => i ≤ 64) (fun i => 64 - i) 0 (by decide) ?_ ?_ ?_
  · (repeat' (first | exact Sub.nil | refine Sub.cons rfl ?_ ?_ | rfl))
  · (repeat' (first | exact SubR.nil | (apply SubR.same; with_reducible (focus ((repeat (first | exact Rem.here | apply Rem.there)); done))) | (apply SubR.blk; (focus ((repeat (first | exact Rem.here | apply Rem.there)); done))) | (apply SubR.pick; (focus ((repeat (first | exact Rem.here | apply Rem.there)); done))) | rfl))
  intro i hi
  by_cases hlt : i < 64
  · have hgi := hget i hkb hlt
    have hset : ∀ v, ((((kxor (kpad key) by').take i).map Sy.v8 ++ List.replicate (64 - i) (Value.int .u8 0)).set i v) = ((kxor (kpad key) by').take i).map Sy.v8 ++ v :: List.replicate (64 - (i + 1)) (Value.int .u8 0) := fun v => by
      rw [show 64 - i = 64 - (i + 1) + 1 from by omega, List.replicate_succ, List.set_append_right _ _ (by simp; omega)]
      simp [hx64, Nat.min_eq_left (Nat.le_of_lt hlt)]
    obtain ⟨C, hC⟩ : ∃ C, C = ((kxor (kpad key) by').take i).map Sy.v8 ++ List.replicate (64 - i) (Value.int .u8 0) := ⟨_, rfl⟩
    have hCl : C.length = 64 := by rw [hC]; simp [hx64]; omega
    have hend : ∀ x : UInt8, (kxor (kpad key) by')[i]? = some (x ^^^ by') → ∀ v, (C.set i v).set i (Sy.v8 (x ^^^ by')) = ((kxor (kpad key) by').take (i + 1)).map Sy.v8 ++ List.replicate (64 - (i + 1)) (Value.int .u8 0) := fun x hx v => by
      rw [List.set_set, hC, hset, List.take_add_one, hx]; simp
    have hend0 : ∀ x : UInt8, (kxor (kpad key) by')[i]? = some (x ^^^ by') → C.set i (Sy.v8 (x ^^^ by')) = ((kxor (kpad key) by').take (i + 1)).map Sy.v8 ++ List.replicate (64 - (i + 1)) (Value.int .u8 0) := fun x hx => by
      rw [hC, hset, List.take_add_one, hx]; simp
    rw [← hC]
    by_cases hki : i < (kbase key).length
    · obtain ⟨b1, o1, rfl, hrd⟩ := hI (by omega)
      rw [dif_pos hki] at hgi
      have hxi : ((kbase key).map Sy.v8)[i]? = some (.int .u8 (Wd.n8 (kbase key)[i])) := by rw [List.getElem?_map, List.getElem?_eq_getElem hki]; rfl
      have he := hend _ hgi
      generalize (kbase key)[i] = x at *
      have hg2 : (C.set i (.int .u8 (Wd.n8 x)))[i]? = some (.int .u8 (Wd.n8 x)) := by rw [List.getElem?_set_self (by omega)]
      repeat' (first | refine sy_seqC ?_ | refine syl_nil ?_ | refine sy_if_t rfl ?_ | refine sy_if_f rfl ?_ | refine sy_block ?_ | refine sy_skip ?_ | refine sy_ret ?_ | refine sy_exit ?_ | refine sy_label ?_ | refine syx_then ?_ | refine syx_go ?_ | refine syx_then_ret ?_ | refine syx_then_exit ?_ | refine syx_in ?_ | refine syx_in_ret ?_ | refine syx_in_here ?_ | refine syx_in_past rfl ?_ | (apply syx_begin; (focus ((repeat (first | exact Rem.here | apply Rem.there)); done)); assumption) | (refine sy_region (id := 6) ?_; try refine y_move ?_; try refine y_lss ?_) | (refine sy_region (id := 8) ?_; try refine y_move ?_; try refine y_move ?_; try refine y_len ?_; try refine y_lss ?_) | (refine sy_region (id := 9) ?_; try refine y_move ?_; try refine y_move ?_; try refine y_move ?_; try refine y_move ?_; try refine y_indexAddr ?_; try (first | refine yv (op_loadR (h := hrd _) (hv := hxi)) (k := ?_) | refine yv (op_load (hv := hg2)) (k := ?_) | refine y_load ?_ | fail); try refine y_indexAddr ?_; try refine y_store ?_) | (refine sy_region (id := 10) ?_; try refine y_move ?_; try refine y_move ?_; try refine y_move ?_; try refine y_move ?_; try refine y_indexAddr ?_; try (first | refine yv (op_loadR (h := hrd _) (hv := hxi)) (k := ?_) | refine yv (op_load (hv := hg2)) (k := ?_) | refine y_load ?_ | fail); try refine y_move ?_; try (first | refine yv (op_xor (hr := Wd.xor8 x by')) (k := ?_) | refine y_xor ?_ | fail); try refine y_indexAddr ?_; try refine y_store ?_) | (refine sy_region (id := 7) ?_; try refine y_move ?_; try refine y_add ?_; try refine y_assign ?_) | (refine syl_id ?_; first | refine yv (op_loadR (h := hrd _) (hv := hxi)) (k := ?_) | refine yv (op_load (hv := hg2)) (k := ?_) | refine yv (op_xor (hr := Wd.xor8 x by')) (k := ?_) | refine y_assign ?_ | refine y_add ?_ | refine y_lss ?_ | refine y_xor ?_ | refine y_len ?_ | refine y_indexAddr ?_ | refine y_load ?_ | refine y_move ?_ | refine y_store ?_ | fail) | refine sy_region ?_ | fail)
      refine syx_back (i + 1) ?_ ?_ ?_ ?_
      · show i + 1 ≤ 64; omega
      · show 64 - (i + 1) < 64 - i; omega
      · (repeat' (first | exact Sub.nil | refine Sub.cons rfl ?_ ?_ | rfl))
      · (repeat' (first | exact SubR.nil | (apply SubR.same; with_reducible (focus ((repeat (first | exact Rem.here | apply Rem.there)); done))) | (apply SubR.blk; (focus ((repeat (first | exact Rem.here | apply Rem.there)); done))) | (apply SubR.pick; (focus ((repeat (first | exact Rem.here | apply Rem.there)); done))) | rfl))
        exact he _
    · rw [dif_neg hki] at hgi
      have he := hend0 _ hgi
      have hg2 : C[i]? = some (.int .u8 (Wd.n8 0)) := by rw [hC, List.getElem?_append_right (by simp; omega), List.getElem?_replicate, if_pos (by simp [hx64]; omega)]; rfl
      repeat' (first | refine sy_seqC ?_ | refine syl_nil ?_ | refine sy_if_t rfl ?_ | refine sy_if_f rfl ?_ | refine sy_block ?_ | refine sy_skip ?_ | refine sy_ret ?_ | refine sy_exit ?_ | refine sy_label ?_ | refine syx_then ?_ | refine syx_go ?_ | refine syx_then_ret ?_ | refine syx_then_exit ?_ | refine syx_in ?_ | refine syx_in_ret ?_ | refine syx_in_here ?_ | refine syx_in_past rfl ?_ | (apply syx_begin; (focus ((repeat (first | exact Rem.here | apply Rem.there)); done)); assumption) | (refine sy_region (id := 6) ?_; try refine y_move ?_; try refine y_lss ?_) | (refine sy_region (id := 8) ?_; try refine y_move ?_; try refine y_move ?_; try refine y_len ?_; try refine y_lss ?_) | (refine sy_region (id := 9) ?_; try refine y_move ?_; try refine y_move ?_; try refine y_move ?_; try refine y_move ?_; try refine y_indexAddr ?_; try (first | refine yv (op_load (hv := hg2)) (k := ?_) | refine y_load ?_ | fail); try refine y_indexAddr ?_; try refine y_store ?_) | (refine sy_region (id := 10) ?_; try refine y_move ?_; try refine y_move ?_; try refine y_move ?_; try refine y_move ?_; try refine y_indexAddr ?_; try (first | refine yv (op_load (hv := hg2)) (k := ?_) | refine y_load ?_ | fail); try refine y_move ?_; try (first | refine yv (op_xor (hr := Wd.xor8 0 by')) (k := ?_) | refine y_xor ?_ | fail); try refine y_indexAddr ?_; try refine y_store ?_) | (refine sy_region (id := 7) ?_; try refine y_move ?_; try refine y_add ?_; try refine y_assign ?_) | (refine syl_id ?_; first | refine yv (op_load (hv := hg2)) (k := ?_) | refine yv (op_xor (hr := Wd.xor8 0 by')) (k := ?_) | refine y_assign ?_ | refine y_add ?_ | refine y_lss ?_ | refine y_xor ?_ | refine y_len ?_ | refine y_indexAddr ?_ | refine y_load ?_ | refine y_move ?_ | refine y_store ?_ | fail) | refine sy_region ?_ | fail)
      refine syx_back (i + 1) ?_ ?_ ?_ ?_
      · show i + 1 ≤ 64; omega
      · show 64 - (i + 1) < 64 - i; omega
      · (repeat' (first | exact Sub.nil | refine Sub.cons rfl ?_ ?_ | rfl))
      · (repeat' (first | exact SubR.nil | (apply SubR.same; with_reducible (focus ((repeat (first | exact Rem.here | apply Rem.there)); done))) | (apply SubR.blk; (focus ((repeat (first | exact Rem.here | apply Rem.there)); done))) | (apply SubR.pick; (focus ((repeat (first | exact Rem.here | apply Rem.there)); done))) | rfl))
        exact he
  obtain rfl : i = 64 := by omega
  repeat' (first | refine sy_seqC ?_ | refine syl_nil ?_ | refine sy_if_t rfl ?_ | refine sy_if_f rfl ?_ | refine sy_block ?_ | refine sy_skip ?_ | refine sy_ret ?_ | refine sy_exit ?_ | refine sy_label ?_ | refine syx_then ?_ | refine syx_go ?_ | refine syx_then_ret ?_ | refine syx_then_exit ?_ | refine syx_in ?_ | refine syx_in_ret ?_ | refine syx_in_here ?_ | refine syx_in_past rfl ?_ | (apply syx_begin; (focus ((repeat (first | exact Rem.here | apply Rem.there)); done)); assumption) | (refine sy_region (id := 6) ?_; try refine y_move ?_; try refine y_lss ?_) | (refine sy_region (id := 11) ?_; try refine y_move ?_; try refine y_assign ?_) | (refine syl_id ?_; first | refine y_assign ?_ | refine y_lss ?_ | refine y_move ?_ | fail) | refine sy_region ?_ | fail)
  have hcells : ((kxor (kpad key) by').take 64).map Sy.v8 ++ List.replicate (64 - 64) (Value.int .u8 0) = (kxor (kpad key) by').map Sy.v8 := by rw [List.take_of_length_le (by omega)]; simp
  rw [hcells]
  exact syx_conv (conv_shut (n := 64) (s := 1) .here (by simp [hx64]) (by decide)) (ret1 rfl (resTmp rfl) (by (repeat' (first | exact SubR.nil | (apply SubR.same; with_reducible (focus ((repeat (first | exact Rem.here | apply Rem.there)); done))) | (apply SubR.blk; (focus ((repeat (first | exact Rem.here | apply Rem.there)); done))) | (apply SubR.pick; (focus ((repeat (first | exact Rem.here | apply Rem.there)); done))) | rfl))) ⟨_, rfl, rfl⟩)
end Go.Proofs.YtcahnkdnhejkkaaDoor
/- The specification of the keyed hash, walked: HMAC. -/
namespace Go.Proofs.YtcahnkdnhejkkaaDoor
open Go Go.Sy Go.Sh Go.RowKit
attribute [local irreducible] Sy SyL SyX Sy.Fn callFunc Sh.sum kxor kpad
set_option maxRecDepth 10000
theorem rhmac_fn (a0 a1 : Option Addr) (n c m d kb ko kc : Nat) (key l : List UInt8) (w : World) (hn : key.length = n) (hb : n < 1000000000) (hc : n ≤ c) (hsl : SlA w a0 (key.map Sy.v8)) (hnil : a0 = none → c = 0)
    (hm : l.length = m) (hmb : m < 1000000000) (hsl1 : SlA w a1 (l.map Sy.v8)) (hnil1 : a1 = none → d = 0) (hR : RTab w No kb ko kc) :
    Sy.Fn Tryd.prog 36 [.slice a0 n c, .slice a1 m d] w No (fun v R => ∃ b, v = .slice (some ⟨b, 0, none⟩) 32 32 ∧ R = [.blk b 24 ((hmac key l).map Sy.v8)]) := by
  refine fn_enter Tryd.func36 rfl Tryd.ntmps36 (by simp) Holds.nil ?_
  have h64 : (kxor (kpad key) 54).length = 64 := by rw [kxor_len, kpad_len key (sum_len key)]
  have h64' : (kxor (kpad key) 92).length = 64 := by rw [kxor_len, kpad_len key (sum_len key)]
  obtain ⟨x, hx⟩ : ∃ x, Sh.sum (kxor (kpad key) 54 ++ l) = x := ⟨_, rfl⟩
  have hx32 : x.length = 32 := by rw [← hx]; exact sum_len _
  obtain ⟨y, hy⟩ : ∃ y, Sh.sum (kxor (kpad key) 92 ++ x) = y := ⟨_, rfl⟩
  have hy32 : y.length = 32 := by rw [← hy]; exact sum_len _
  have hmac' : hmac key l = y := by rw [← hy, ← hx]; rfl
  rw [hmac']
  have hcat : (kxor (kpad key) 54).map Sy.v8 ++ l.map Sy.v8 = (kxor (kpad key) 54 ++ l).map Sy.v8 := List.map_append.symm
  have hlen : (kxor (kpad key) 54 ++ l).length = 64 + m := by rw [List.length_append, h64, hm]
  have hcat' : (kxor (kpad key) 92).map Sy.v8 ++ x.map Sy.v8 = (kxor (kpad key) 92 ++ x).map Sy.v8 := List.map_append.symm
  have hlen' : (kxor (kpad key) 92 ++ x).length = 96 := by rw [List.length_append, h64', hx32]
  repeat' (first | refine sy_seqC ?_ | refine syl_nil ?_ | refine sy_if_t rfl ?_ | refine sy_if_f rfl ?_ | refine sy_block ?_ | refine sy_skip ?_ | refine sy_ret ?_ | refine sy_exit ?_ | refine sy_label ?_ | refine syx_then ?_ | refine syx_go ?_ | refine syx_then_ret ?_ | refine syx_then_exit ?_ | refine syx_in ?_ | refine syx_in_ret ?_ | refine syx_in_here ?_ | refine syx_in_past rfl ?_ | (apply syx_begin; (focus ((repeat (first | exact Rem.here | apply Rem.there)); done)); assumption) | (refine sy_region (id := 0) ?_; try refine y_assign ?_) | (refine sy_region (id := 1) ?_; try refine y_move ?_; try (first | (refine ys (op_call0 (hc := fun w' X hk hh => kblock_fn a0 n c kb ko kc key 54 w' hn (by omega) hc (hsl.keep hk (fun _ _ h => h)) hnil (hR.no hk))) (k := ?_); rintro _ _ ⟨R, rfl, bk, rfl, rfl⟩) | refine yv (op_callV (hc := fun w' X hk hh => hx ▸ rsum_any _ (64 + m) _ kb ko kc (kxor (kpad key) 54 ++ l) w' hlen (by omega) (Rd.row Has.here w' X hk hh) (fun h => (Row.nil hh Has.here h).1) (hR.no hk).cell (hR.no hk).row)) (k := ?_) | fail); try refine y_move ?_; try (first | (refine ys (op_append (k := 64) (m := m) (hn := by rw [List.length_map, Nat.mul_one, hm]) (hkm := rfl) (hys := hcat)) (k := ?_); rintro _ _ ⟨rfl, aN, cN, rfl⟩) | (refine ys op_append (k := ?_); rintro _ _ ⟨rfl, _, _, rfl⟩) | (refine ys op_appendB (k := ?_); rintro _ _ ⟨rfl, _, _, rfl⟩) | (refine ys op_appendN (k := ?_); rintro _ _ ⟨rfl, _, _, rfl⟩) | fail); try (first | (refine ys (op_call0 (hc := fun w' X hk hh => kblock_fn a0 n c kb ko kc key 54 w' hn (by omega) hc (hsl.keep hk (fun _ _ h => h)) hnil (hR.no hk))) (k := ?_); rintro _ _ ⟨R, rfl, bk, rfl, rfl⟩) | refine yv (op_callV (hc := fun w' X hk hh => hx ▸ rsum_any _ (64 + m) _ kb ko kc (kxor (kpad key) 54 ++ l) w' hlen (by omega) (Rd.row Has.here w' X hk hh) (fun h => (Row.nil hh Has.here h).1) (hR.no hk).cell (hR.no hk).row)) (k := ?_) | fail); try (refine y_new ?_; intro _); try refine y_store ?_) | (refine syl_id ?_; first | (refine ys (op_call0 (hc := fun w' X hk hh => kblock_fn a0 n c kb ko kc key 54 w' hn (by omega) hc (hsl.keep hk (fun _ _ h => h)) hnil (hR.no hk))) (k := ?_); rintro _ _ ⟨R, rfl, bk, rfl, rfl⟩) | (refine ys (op_append (k := 64) (m := m) (hn := by rw [List.length_map, Nat.mul_one, hm]) (hkm := rfl) (hys := hcat)) (k := ?_); rintro _ _ ⟨rfl, aN, cN, rfl⟩) | refine yv (op_callV (hc := fun w' X hk hh => hx ▸ rsum_any _ (64 + m) _ kb ko kc (kxor (kpad key) 54 ++ l) w' hlen (by omega) (Rd.row Has.here w' X hk hh) (fun h => (Row.nil hh Has.here h).1) (hR.no hk).cell (hR.no hk).row)) (k := ?_) | refine y_assign ?_ | refine y_move ?_ | refine y_store ?_ | (refine y_new ?_; intro _) | (refine ys op_append (k := ?_); rintro _ _ ⟨rfl, _, _, rfl⟩) | (refine ys op_appendB (k := ?_); rintro _ _ ⟨rfl, _, _, rfl⟩) | (refine ys op_appendN (k := ?_); rintro _ _ ⟨rfl, _, _, rfl⟩) | fail) | refine sy_region ?_ | fail)
  rename_i b5
  refine sy_drawA (id := 2) mixed ?_
  (refine sye_part 6 6 [[], [0], [], [0, 1, 2], [0, 1, 2, 3], [], [0, 1, 2, 3, 4, 5]] [[], [], [], [1], [], [], []] none rfl ?_ ?_ ?_; kernel_rfl; kernel_rfl; try (first | refine e_move ?_ | fail); try (first | fail); try (first | refine e_slice ?_ | fail); try (first | fail); try (first | fail); try (first | fail); try refine dh_0nE (h := ?_))
  refine dh_rE (R := fun _ v Nw => ∃ b, v = .slice (some ⟨b, 0, none⟩) 64 64 ∧ Nw = [.row v 5 1 64 ((kxor (kpad key) 92).map Sy.v8)]) (fun _ _ _ => rfl) (fun ρ hρ => ?_) (h := ?_)
  · refine OpT.mono (op_call0 (hc := fun w' X hk hh => kblock_fn a0 n c kb ko kc key 92 w' hn (by omega) hc (hsl.keep hk (fun _ _ h => h)) hnil (hR.no hk))) fun v L' h => ?_
    obtain ⟨R, rfl, h⟩ := h
    exact ⟨R, rfl, h⟩
  (skip; try (first | refine e_slice ?_ | fail); try (first | fail); try (first | fail); try (first | fail); try refine dh_0nE (h := ?_))
  refine dh_rE (R := fun _ => RowOf 5 96 ((kxor (kpad key) 92 ++ x).map Sy.v8)) (fun _ _ _ => rfl) (fun ρ hρ => ?_) (h := ?_)
  · obtain ⟨⟨b, e1, e2⟩, -⟩ := hρ
    rw [e1] at e2
    refine OpT.mono (op_append (k := 64) (m := 32) (v := .slice (some ⟨b, 0, none⟩) 64 64) (hs := by show some (ρ 1).1 = _; rw [e1]) (hL := by show Rem ((ρ 1).2 ++ _) _ _; rw [e2]; exact Rem.here) (hr := by show Rd w No ((ρ 1).2 ++ _) _ _; rw [e2]; exact Rd.of (Reads.blk (Has.there Has.here) Seg.all)) (hn := by rw [List.length_map, Nat.mul_one, hx32]) (hkm := rfl) (hys := hcat')) fun v L' h => ?_
    obtain ⟨rfl, a, c, rfl⟩ := h
    exact ⟨_, rfl, a, c, rfl, rfl⟩
  refine dcE (u := .agg (y.map Sy.v8).toArray) (fun ρ hρ => ?_) (k := ?_)
  · obtain ⟨⟨a, c, e1, e2⟩, -⟩ := hρ
    rw [e1] at e2
    exact op_callV (vs := [.slice a 96 c]) (ha := by show (some [(ρ 3).1] : Option (List Value)) = _; rw [e1]) (hc := fun w' X hk hh => hy ▸ rsum_any a 96 c kb ko kc (kxor (kpad key) 92 ++ x) w' hlen' (by omega) (Rd.row (by show Has ((ρ 3).2 ++ _) _; rw [e2]; exact Has.here) w' X hk hh) (fun h => (Row.nil hh (by show Has ((ρ 3).2 ++ _ ++ _) _; rw [e2]; exact Has.here) h).1) (hR.no hk).cell (hR.no hk).row)
  refine dh_rE (R := fun _ v Nw => ∃ b, v = .pointer (some ⟨b, 0, none⟩) ∧ Nw = [.blk b 24 (List.replicate 32 (.int .u8 0))]) (fun _ _ _ => rfl) (fun ρ hρ => OpT.mono op_alloc fun v L' h => ?_) (h := ?_)
  · obtain ⟨b, rfl, rfl⟩ := h
    exact ⟨[_], rfl, b, rfl, rfl⟩
  refine dh_0E (h := ?_)
  rintro ρ ⟨⟨b6, f1, f2⟩, -⟩
  (refine sya_list [[], [0], [], [0, 1, 2], [0, 1, 2, 3], [], [0, 1, 2, 3, 4, 5]] ?_ ?_; kernel_rfl)
  refine SyL.weaken (fr' := [(16, .agg (y.map Sy.v8).toArray), (6, .pointer (some ⟨b6, 0, none⟩))]) (L' := [.blk b6 24 (List.replicate 32 (.int .u8 0))]) ?_ ?_ ?_
  · repeat' (first | refine sy_seqC ?_ | refine syl_nil ?_ | refine sy_if_t rfl ?_ | refine sy_if_f rfl ?_ | refine sy_block ?_ | refine sy_skip ?_ | refine sy_ret ?_ | refine sy_exit ?_ | refine sy_label ?_ | refine syx_then ?_ | refine syx_go ?_ | refine syx_then_ret ?_ | refine syx_then_exit ?_ | refine syx_in ?_ | refine syx_in_ret ?_ | refine syx_in_here ?_ | refine syx_in_past rfl ?_ | (apply syx_begin; (focus ((repeat (first | exact Rem.here | apply Rem.there)); done)); assumption) | (refine sy_draw (id := 2) 6 [[], [0], [], [0, 1, 2], [0, 1, 2, 3], [], [0, 1, 2, 3, 4, 5]] mixed ?_ ?_; kernel_rfl; try refine d_move ?_; try refine d_slice ?_; try refine dh_0n ?_; try refine y_store ?_) | (refine sy_region (id := 3) ?_; try refine y_slice ?_; try refine y_assign ?_) | (refine syl_id ?_; first | refine y_assign ?_ | refine y_move ?_ | refine y_slice ?_ | refine y_store ?_ | (refine y_new ?_; intro _) | (refine ys op_append (k := ?_); rintro _ _ ⟨rfl, _, _, rfl⟩) | (refine ys op_appendB (k := ?_); rintro _ _ ⟨rfl, _, _, rfl⟩) | (refine ys op_appendN (k := ?_); rintro _ _ ⟨rfl, _, _, rfl⟩) | fail) | refine dh_0n ?_ | (refine dh_id ?_; first | refine d_assign ?_ | refine d_move ?_ | refine d_slice ?_ | fail) | refine sy_region ?_ | fail)
    exact ret1 rfl (resTmp rfl) (by (repeat' (first | exact SubR.nil | (apply SubR.same; with_reducible (focus ((repeat (first | exact Rem.here | apply Rem.there)); done))) | (apply SubR.blk; (focus ((repeat (first | exact Rem.here | apply Rem.there)); done))) | (apply SubR.pick; (focus ((repeat (first | exact Rem.here | apply Rem.there)); done))) | rfl))) ⟨_, rfl, rfl⟩
  · (repeat' (first | exact Sub.nil | refine Sub.cons rfl ?_ ?_ | rfl))
    exact f1
  · show SubR _ ((ρ 5).2 ++ _)
    rw [f2]
    (repeat' (first | exact SubR.nil | (apply SubR.same; with_reducible (focus ((repeat (first | exact Rem.here | apply Rem.there)); done))) | (apply SubR.blk; (focus ((repeat (first | exact Rem.here | apply Rem.there)); done))) | (apply SubR.pick; (focus ((repeat (first | exact Rem.here | apply Rem.there)); done))) | rfl))
end Go.Proofs.YtcahnkdnhejkkaaDoor
