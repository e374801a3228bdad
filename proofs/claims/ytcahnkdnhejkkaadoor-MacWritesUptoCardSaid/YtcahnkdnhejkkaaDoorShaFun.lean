/- Layer sha's functions, walked: the hash of a string, the hash in progress, the blocks. -/
import Derived.Test.YtcahnkdnhejkkaaDoorShaPad2
import Derived.Test.YtcahnkdnhejkkaaDoorShaByt2
import Derived.Test.YtcahnkdnhejkkaaDoorShaAdd2
import Derived.Test.YtcahnkdnhejkkaaDoorRefSum2
set_option linter.all false
namespace Go.Proofs.YtcahnkdnhejkkaaDoor
open Go Go.Sy Go.Sh Go.RowKit
attribute [local irreducible] Sy SyL SyX Sy.Fn callFunc
set_option maxRecDepth 10000
/-- The tables of layer sha, which no block of M is among. -/
structure Tab (w : World) (M : Nat → Prop) : Prop where
  start : w.rangeAt 0 0 (h0.map Sy.v32)
  konst : w.rangeAt 1 0 (kC.map Sy.v32)
  ns : ¬ M 0
  nk : ¬ M 1
theorem Tab.to {w0 w : World} {M Mi : Nat → Prop} (h : Tab w0 M) (hk : Keep M w0 w) (hm : ∀ b, Mi b → w0.heap.size ≤ b ∨ M b) : Tab w Mi := by
  obtain ⟨a1, a2⟩ := range_to h.start (by decide) h.ns hk hm
  obtain ⟨a3, a4⟩ := range_to h.konst (by decide) h.nk hk hm
  exact ⟨a1, a3, a2, a4⟩
theorem Tab.no {w0 w : World} {M : Nat → Prop} (h : Tab w0 M) (hk : Keep M w0 w) : Tab w No := h.to hk (fun _ h => h.elim)
theorem add_fn (S T o b bo : Nat) (C : List Value) (s : List UInt32) (blk : List UInt8) (w : World) (hs : s.length = 8) (hb : blk.length = 64) (hC : (Res.blk S T C).holds w) (hseg : Seg C o (s.map Sy.v32)) (ho : o + 8 ≤ C.length)
    (hB : w.rangeAt b bo (blk.map Sy.v8)) (hK : w.rangeAt 1 0 (kC.map Sy.v32)) :
    Sy.Fn Tryd.prog 63 [.pointer (some ⟨S, o, none⟩), .slice (some ⟨b, bo, none⟩) 64 64] w (fun x => x = S) (fun v R => v = .tuple #[] ∧ R = [.blk S T (setSeg C o ((compress s blk).map Sy.v32))]) := by
  have h := add_any S o b bo s blk w hs hb (blk_range hC hseg) (blk_there hC ho) hB hK
  unfold Sy.Fn
  refine Calls.mono h ?_
  rintro e w' ⟨rfl, hw⟩
  have hsz : (w.setCells S o ((compress s blk).map Sy.v32)).heap.size = w.heap.size := Go.Wd.size_setCells S _ o w
  have hk1 := Sy.Keep.setCells S ((compress s blk).map Sy.v32) o w
  have hk2 : Sy.Keep (fun x => x = S) (w.setCells S o ((compress s blk).map Sy.v32)) w' := Sy.Keep.of_below (by rw [hsz]; exact hw)
  have hb1 := blk_setCells ((compress s blk).map Sy.v32) C o w hC (by rw [List.length_map, compress_len _ _ hs]; exact ho)
  refine ⟨_, _, rfl, ⟨rfl, rfl⟩, hk1.trans hk2 (fun x hx => .inr hx), ⟨?_, List.pairwise_singleton _ _, ?_⟩⟩
  · intro r hr
    obtain rfl := List.mem_singleton.1 hr
    refine Res.holds_congr hb1 fun x hx => ?_
    have hx : S = x := hx
    subst hx
    exact hw.block _ (Res.own_lt hC rfl)
  · intro r hr x hx
    obtain rfl := List.mem_singleton.1 hr
    exact .inr (Eq.symm hx)
theorem add_fn0 (S T b bo : Nat) (s : List UInt32) (blk : List UInt8) (w : World) (hs : s.length = 8) (hb : blk.length = 64) (hC : (Res.blk S T (s.map Sy.v32)).holds w)
    (hB : w.rangeAt b bo (blk.map Sy.v8)) (hK : w.rangeAt 1 0 (kC.map Sy.v32)) :
    Sy.Fn Tryd.prog 63 [.pointer (some ⟨S, 0, none⟩), .slice (some ⟨b, bo, none⟩) 64 64] w (fun x => x = S) (fun v R => v = .tuple #[] ∧ R = [.blk S T ((compress s blk).map Sy.v32)]) := by
  have h := add_fn S T 0 b bo _ s blk w hs hb hC Seg.all (by simp [hs]) hB hK
  rw [setSeg_all (by simp [hs, compress_len s blk hs])] at h
  exact h
theorem fold_take_succ (s : List UInt32) (bs : List (List UInt8)) (k : Nat) (h : k < bs.length) : fold s (bs.take (k + 1)) = compress (fold s (bs.take k)) bs[k] := by
  rw [List.take_succ_eq_append_getElem h, Sh.fold_snoc]
set_option maxHeartbeats 1000000 in
theorem sum_fn (a0 : Option Addr) (n c : Nat) (l : List UInt8) (w : World) (hn : l.length = n) (hc : n ≤ c) (hb : n < 1000000000000) (hsl : SlA w a0 (l.map Sy.v8)) (hT : Tab w No) :
    Sy.Fn Tryd.prog 24 [.slice a0 n c] w No (Gives (.agg ((sum l).map Sy.v8).toArray)) := by
  refine fn_enter Tryd.func24 rfl Tryd.ntmps24 (by simp) Holds.nil ?_
  have hstart := hT.start
  repeat' (first | refine sy_seqC ?_ | refine syl_nil ?_ | refine sy_if_t rfl ?_ | refine sy_if_f rfl ?_ | refine sy_block ?_ | refine sy_skip ?_ | refine sy_ret ?_ | refine sy_exit ?_ | refine sy_label ?_ | refine syx_then ?_ | refine syx_go ?_ | refine syx_then_ret ?_ | refine syx_then_exit ?_ | refine syx_in ?_ | refine syx_in_ret ?_ | refine syx_in_here ?_ | refine syx_in_past rfl ?_ | (apply syx_begin; (focus ((repeat (first | exact Rem.here | apply Rem.there)); done)); assumption) | (refine sy_region (id := 0) ?_; try (refine y_new ?_; intro _)) | (refine sy_region (id := 1) ?_; try refine y_load ?_; try (refine y_new ?_; intro _); try refine y_store ?_) | (refine sy_region (id := 2) ?_; try refine y_move ?_; try refine y_move ?_; try refine y_len ?_) | (refine sy_region (id := 3) ?_; try refine y_assign ?_) | (refine sy_region (id := 4) ?_; try refine y_move ?_) | (refine sy_region (id := 5) ?_; try refine y_load ?_; try refine y_store ?_) | (refine syl_id ?_; first | refine y_assign ?_ | refine y_len ?_ | refine y_load ?_ | refine y_move ?_ | refine y_store ?_ | (refine y_new ?_; intro _) | fail) | refine sy_region ?_ | fail)
  rename_i bo bs
  refine ys (op_call0 (hc := fun w' X hk hh => padded_fn _ _ w' rfl)) (k := ?_)
  rintro _ _ ⟨R, rfl, b1, b2, rfl, rfl⟩
  repeat' (first | refine sy_seqC ?_ | refine syl_nil ?_ | refine sy_if_t rfl ?_ | refine sy_if_f rfl ?_ | refine sy_block ?_ | refine sy_skip ?_ | refine sy_ret ?_ | refine sy_exit ?_ | refine sy_label ?_ | refine syx_then ?_ | refine syx_go ?_ | refine syx_then_ret ?_ | refine syx_then_exit ?_ | refine syx_in ?_ | refine syx_in_ret ?_ | refine syx_in_here ?_ | refine syx_in_past rfl ?_ | (apply syx_begin; (focus ((repeat (first | exact Rem.here | apply Rem.there)); done)); assumption) | (refine sy_region (id := 0) ?_; try (refine y_new ?_; intro _)) | (refine sy_region (id := 1) ?_; try refine y_load ?_; try (refine y_new ?_; intro _); try refine y_store ?_) | (refine sy_region (id := 2) ?_; try refine y_move ?_; try refine y_move ?_; try refine y_len ?_) | (refine sy_region (id := 3) ?_; try refine y_assign ?_) | (refine sy_region (id := 4) ?_; try refine y_move ?_) | (refine sy_region (id := 5) ?_; try refine y_load ?_; try refine y_store ?_) | (refine syl_id ?_; first | refine y_assign ?_ | refine y_len ?_ | refine y_load ?_ | refine y_move ?_ | refine y_store ?_ | (refine y_new ?_; intro _) | fail) | refine sy_region ?_ | fail)
  refine sy_range (γ := Nat) (xs := blocks l n) (Arg := ArgB) entered_outer rfl (en rfl) rfl (fun k s => s = k) (fun _ _ _ => False) (fun k => [.blk bs 35 ((fold h0 ((blocks l n).take k)).map Sy.v32)])
    [.blk b1 22 [.slice a0 n c], .blk b2 3 [.int .i64 n]] [.blk bo 24 (List.replicate 32 (.int .u8 0))] 0 rfl ?_ ?_ ?_ ?_ ?_ ?_
  · exact (List.perm_append_comm (l₁ := [_, _]) (l₂ := [_])).append_right _
  · exact fun w' Mi X hk hm _ _ => padded1_it b1 b2 a0 n c n l w' Mi hn hc (by omega) (hsl.to hk hm)
  · rintro O x vs RA w' ⟨b, o, rfl, _⟩; rfl
  · rintro lp k hk s vs RA W rec hrec rfl ⟨b, o, rfl, rfl, hrd, hno⟩ hkW hmine
    have hT' := hT.to hkW hmine
    have hl8 : (fold h0 ((blocks l n).take s)).length = 8 := fold_len _ _ rfl
    have hl64 : (blocks l n)[s].length = 64 := blocks_all _ _ _ (List.getElem_mem hk)
    have hfs := fold_take_succ h0 (blocks l n) s hk
    generalize fold h0 ((blocks l n).take s) = st at *
    generalize (blocks l n)[s] = x at *
    have hcl := compress_len st x hl8
    repeat' (first | refine sy_seqC ?_ | refine syl_nil ?_ | refine sy_if_t rfl ?_ | refine sy_if_f rfl ?_ | refine sy_block ?_ | refine sy_skip ?_ | refine sy_ret ?_ | refine sy_exit ?_ | refine sy_label ?_ | refine syx_then ?_ | refine syx_go ?_ | refine syx_then_ret ?_ | refine syx_then_exit ?_ | refine syx_in ?_ | refine syx_in_ret ?_ | refine syx_in_here ?_ | refine syx_in_past rfl ?_ | (apply syx_begin; (focus ((repeat (first | exact Rem.here | apply Rem.there)); done)); assumption) | (refine sy_region (id := 0) ?_; try (refine y_new ?_; intro _)) | (refine sy_region (id := 1) ?_; try refine y_load ?_; try (refine y_new ?_; intro _); try refine y_store ?_) | (refine sy_region (id := 2) ?_; try refine y_move ?_; try refine y_move ?_; try refine y_len ?_; try refine yv (op_callB (hc := fun w' X hk hh => add_fn0 bs 35 b o st x w' hl8 hl64 (hh.has (Has.append (Has.there Has.here))) (range_keep hrd hk hno) (hT'.no hk).konst)) (k := ?_)) | (refine sy_region (id := 3) ?_; try refine y_assign ?_) | (refine sy_region (id := 4) ?_; try refine y_move ?_; try refine yv (op_callB (hc := fun w' X hk hh => add_fn0 bs 35 b o st x w' hl8 hl64 (hh.has (Has.append (Has.there Has.here))) (range_keep hrd hk hno) (hT'.no hk).konst)) (k := ?_)) | (refine sy_region (id := 5) ?_; try refine y_load ?_; try refine yv (op_callB (hc := fun w' X hk hh => add_fn0 bs 35 b o st x w' hl8 hl64 (hh.has (Has.append (Has.there Has.here))) (range_keep hrd hk hno) (hT'.no hk).konst)) (k := ?_); try refine y_store ?_) | (refine syl_id ?_; first | refine yv (op_callB (hc := fun w' X hk hh => add_fn0 bs 35 b o st x w' hl8 hl64 (hh.has (Has.append (Has.there Has.here))) (range_keep hrd hk hno) (hT'.no hk).konst)) (k := ?_) | refine y_assign ?_ | refine y_len ?_ | refine y_load ?_ | refine y_move ?_ | refine y_store ?_ | (refine y_new ?_; intro _) | fail) | refine sy_region ?_ | fail)
    refine syx_rnd (s + 1) rfl ?_
    (repeat' (first | exact SubR.nil | (apply SubR.same; with_reducible (focus ((repeat (first | exact Rem.here | apply Rem.there)); done))) | (apply SubR.blk; (focus ((repeat (first | exact Rem.here | apply Rem.there)); done))) | (apply SubR.pick; (focus ((repeat (first | exact Rem.here | apply Rem.there)); done))) | rfl))
    rw [hfs]
  · rintro s rfl
    rw [List.take_length]
    have hf8 : (fold h0 (blocks l n)).length = 8 := fold_len _ _ rfl
    have hsum : ser (fold h0 (blocks l n)) = sum l := by subst hn; rfl
    generalize fold h0 (blocks l n) = st at *
    have hs32 : (ser st).length = 32 := by rw [ser_len, hf8]
    repeat' (first | refine sy_seqC ?_ | refine syl_nil ?_ | refine sy_if_t rfl ?_ | refine sy_if_f rfl ?_ | refine sy_block ?_ | refine sy_skip ?_ | refine sy_ret ?_ | refine sy_exit ?_ | refine sy_label ?_ | refine syx_then ?_ | refine syx_go ?_ | refine syx_then_ret ?_ | refine syx_then_exit ?_ | refine syx_in ?_ | refine syx_in_ret ?_ | refine syx_in_here ?_ | refine syx_in_past rfl ?_ | (apply syx_begin; (focus ((repeat (first | exact Rem.here | apply Rem.there)); done)); assumption) | (refine sy_region (id := 0) ?_; try (refine y_new ?_; intro _)) | (refine sy_region (id := 1) ?_; try refine y_load ?_; try (refine y_new ?_; intro _); try refine y_store ?_) | (refine sy_region (id := 2) ?_; try refine y_move ?_; try refine y_move ?_; try refine y_len ?_; try refine yv (op_callV (hc := fun w' _ _ _ => bytes_any st w' hf8)) (k := ?_)) | (refine sy_region (id := 3) ?_; try refine y_assign ?_) | (refine sy_region (id := 4) ?_; try refine y_move ?_; try refine yv (op_callV (hc := fun w' _ _ _ => bytes_any st w' hf8)) (k := ?_)) | (refine sy_region (id := 5) ?_; try refine y_load ?_; try refine yv (op_callV (hc := fun w' _ _ _ => bytes_any st w' hf8)) (k := ?_); try refine y_store ?_) | (refine syl_id ?_; first | refine yv (op_callV (hc := fun w' _ _ _ => bytes_any st w' hf8)) (k := ?_) | refine y_assign ?_ | refine y_len ?_ | refine y_load ?_ | refine y_move ?_ | refine y_store ?_ | (refine y_new ?_; intro _) | fail) | refine sy_region ?_ | fail)
    exact ret1 rfl (resCells rfl (ty rfl) rfl (by repeat (first | exact Has.here | apply Has.there)) Seg.all (by first | rfl | (simp only [List.length_map, List.length_set, List.length_replicate, List.length_append]; omega) | (simp only [List.length_map]; first | assumption | omega) | (simp; omega) | fail)) SubR.nil ⟨by rw [hsum], rfl⟩
  · exact fun _ _ _ _ h => h.elim
end Go.Proofs.YtcahnkdnhejkkaaDoor
