/- Layer derive, walked: Blocks. -/
import Derived.Test.YtcahnkdnhejkkaaDoorDer3
set_option linter.all false
namespace Go.Sy
theorem permr {L L' R : List Res} {r : Res} (h : Rem L r L') (k : L'.Perm R) : L.Perm (r :: R) := h.perm.trans (List.Perm.cons _ k)
theorem notOwn {L1 : List Res} {r : Res} {Mi : Nat → Prop} (h : Has L1 r) (hm1 : ∀ b, Mi b → ¬ OwnOf L1 b) : ∀ b, Mi b → ¬ OwnOf [r] b := fun b hb ⟨r', hr, ho⟩ => by
  obtain rfl := List.mem_singleton.1 hr
  exact hm1 b hb ⟨_, h, ho⟩
end Go.Sy
namespace Go.Proofs.YtcahnkdnhejkkaaDoor
open Go Go.Sy Go.Sh Go.RowKit
attribute [local irreducible] Sy SyL SyX Sy.Fn callFunc Sh.sum kxor kpad kbase macA HashIs MacIs hmac dblock firstN
set_option maxRecDepth 10000
theorem inOk_row {B0 : Nat} {M : Nat → Prop} {L : List Res} {w : World} {a : Option Addr} {n c E : Nat} {l : List UInt8} (hh : Holds B0 M L w) (hL : Has L (.row (.slice a n c) E 1 n (l.map Sy.v8))) (hl : l.length = n) : InOk w a n c l :=
  ⟨hl, Row.cap hh hL, (SlF.row (Mi := No) hh hL (fun _ h => h.elim)).sla, fun h => (Row.nil hh hL h).1⟩
theorem InOk.of {w w' : World} {Mi : Nat → Prop} {a : Option Addr} {n c : Nat} {l : List UInt8} (h : InOk w a n c l) (hs : SlF w Mi a (l.map Sy.v8)) (hk : Keep Mi w w') : InOk w' a n c l :=
  ⟨h.len, h.cap, (hs.to (Mi := No) hk (fun _ h => h.elim)).sla, h.nil⟩
/-- What Blocks hands out: the captured blocks, and the copies of the arguments. -/
def BlkRes (b9 b7 : Nat) (a0 a1 a2 : Option Addr) (n0 c0 n1 c1 n2 c2 n : Nat) (key label ctx : List UInt8) : List Res :=
  [.blk b9 126 [.slice a0 n0 c0, .slice a1 n1 c1, .slice a2 n2 c2, .int .i64 n], .blk b7 3 [.int .i64 n], .row (.slice a0 n0 c0) 5 1 n0 (key.map Sy.v8), .row (.slice a1 n1 c1) 5 1 n1 (label.map Sy.v8), .row (.slice a2 n2 c2) 5 1 n2 (ctx.map Sy.v8)]
theorem dblocks1_it {α : Type} (xs : List α) (Arg : (Nat → Prop) → α → List Value → List Res → World → Prop) (w : World) (M : Nat → Prop) (hx : xs = []) : IterC Tryd.prog 82 [] xs Arg w M [] := by
  subst hx
  intro lp J Jx j0 hJ0 hh hY
  refine fn_enter Tryd.func82 rfl Tryd.ntmps82 (by simp) hh ?_
  repeat' (first | refine sy_seqC ?_ | refine syl_nil ?_ | refine sy_if_t rfl ?_ | refine sy_if_f rfl ?_ | refine sy_block ?_ | refine sy_skip ?_ | refine sy_ret ?_ | refine sy_exit ?_ | refine sy_label ?_ | refine syx_then ?_ | refine syx_go ?_ | refine syx_then_ret ?_ | refine syx_then_exit ?_ | refine syx_in ?_ | refine syx_in_ret ?_ | refine syx_in_here ?_ | refine syx_in_past rfl ?_ | (apply syx_begin; (focus ((repeat (first | exact Rem.here | apply Rem.there)); done)); assumption) | (refine syl_id ?_; first | refine y_assign ?_ | refine y_add ?_ | refine y_and ?_ | refine y_andNot ?_ | refine y_eql ?_ | refine y_geq ?_ | refine y_gtr ?_ | refine y_leq ?_ | refine y_lss ?_ | refine y_mul ?_ | refine y_neq ?_ | refine y_or ?_ | refine y_quo ?_ | refine y_rem ?_ | refine y_sub ?_ | refine y_xor ?_ | refine y_build ?_ | refine y_len ?_ | refine y_convert ?_ | refine y_extract ?_ | refine y_fieldAddr ?_ | refine y_index ?_ | refine y_indexAddr ?_ | refine y_load ?_ | refine y_makeFunc ?_ | refine y_move ?_ | refine y_nilCheck ?_ | refine y_pick ?_ | refine y_slice ?_ | refine y_unOp ?_ | fail) | refine sy_region ?_ | fail)
  exact end0 rfl (by (repeat' (first | exact SubR.nil | (apply SubR.same; with_reducible (focus ((repeat (first | exact Rem.here | apply Rem.there)); done))) | (apply SubR.blk; (focus ((repeat (first | exact Rem.here | apply Rem.there)); done))) | (apply SubR.pick; (focus ((repeat (first | exact Rem.here | apply Rem.there)); done))) | rfl))) ⟨j0, rfl, .inl hJ0⟩
theorem dblocks2_it (b9 b7 : Nat) (a0 a1 a2 : Option Addr) (n0 c0 n1 c1 n2 c2 n : Nat) (key label ctx : List UInt8) (w : World) (M : Nat → Prop) (hl0 : key.length = n0) (hl1 : label.length = n1) (hl2 : ctx.length = n2) (hb0 : n0 ≤ 4096) (hb1 : n1 ≤ 4096) (hb2 : n2 ≤ 4096) (hn1 : 1 ≤ n) (hn : n ≤ 1024) (hT : Tab w M) :
    IterC Tryd.prog 83 [.pointer (some ⟨b9, 0, none⟩), .pointer (some ⟨b7, 0, none⟩)] (numbered (dblock key label ctx n) ((n + 31) / 32)) (ArgN 24) w M (BlkRes b9 b7 a0 a1 a2 n0 c0 n1 c1 n2 c2 n key label ctx) := by
  intro lp J Jx j0 hJ0 hh hY
  refine fn_enter Tryd.func83 rfl Tryd.ntmps83 (by simp) hh ?_
  unfold BlkRes
  have hq := dblock_len key label ctx n
  have hxl := numbered_len (dblock key label ctx n) ((n + 31) / 32)
  repeat' (first | refine sy_seqC ?_ | refine syl_nil ?_ | refine sy_if_t rfl ?_ | refine sy_if_f rfl ?_ | refine sy_block ?_ | refine sy_skip ?_ | refine sy_ret ?_ | refine sy_exit ?_ | refine sy_label ?_ | refine syx_then ?_ | refine syx_go ?_ | refine syx_then_ret ?_ | refine syx_then_exit ?_ | refine syx_in ?_ | refine syx_in_ret ?_ | refine syx_in_here ?_ | refine syx_in_past rfl ?_ | (apply syx_begin; (focus ((repeat (first | exact Rem.here | apply Rem.there)); done)); assumption) | refine sy_scope ?_ | refine syx_ng_n ?_ | refine syx_ng_r ?_ | refine syx_ng_x ?_ | (refine sy_region (id := 0) ?_; try (refine y_new ?_; intro _)) | (refine sy_region (id := 1) ?_; try refine y_load ?_; try refine y_makeFunc ?_; try (refine ys (op_call0 (hc := fun w' X hk hh => numbered_fn 76 [.agg ([.slice a0 n0 c0, .slice a1 n1 c1, .slice a2 n2 c2, .int .i64 n] : List Value).toArray] [] w')) (k := ?_); rintro _ _ ⟨R, rfl, b1, rfl, rfl⟩)) | (refine syl_id ?_; first | (refine ys (op_call0 (hc := fun w' X hk hh => numbered_fn 76 [.agg ([.slice a0 n0 c0, .slice a1 n1 c1, .slice a2 n2 c2, .int .i64 n] : List Value).toArray] [] w')) (k := ?_); rintro _ _ ⟨R, rfl, b1, rfl, rfl⟩) | refine y_load ?_ | refine y_makeFunc ?_ | (refine y_new ?_; intro _) | fail) | refine sy_region ?_ | fail)
  rename_i b3
  refine sy_rangeE True (γ := Res) (xs := numbered (dblock key label ctx n) ((n + 31) / 32)) (Arg := ArgN 24) entered_outer rfl (en rfl) rfl (fun k s => J k s ∧ 32 * k < n) (fun cc k s => cc = .exit 0 ∧ (Jx k s ∨ (J k s ∧ n ≤ 32 * k)))
    (fun s => [s, .blk b3 133 [.func (.yield lp) #[] #[]], .blk b7 3 [.int .i64 n]]) [] [.blk b1 129 [.func (.func 76) ([.agg ([.slice a0 n0 c0, .slice a1 n1 c1, .slice a2 n2 c2, .int .i64 n] : List Value).toArray] : List Value).toArray ([] : List Value).toArray], .blk b9 126 [.slice a0 n0 c0, .slice a1 n1 c1, .slice a2 n2 c2, .int .i64 n], .row (.slice a0 n0 c0) 5 1 n0 (key.map Sy.v8), .row (.slice a1 n1 c1) 5 1 n1 (label.map Sy.v8), .row (.slice a2 n2 c2) 5 1 n2 (ctx.map Sy.v8)] j0 ⟨hJ0, by omega⟩ ?_ ?_ ?_ ?_ ?_ ?_ ?_
  · ((try simp only [List.cons_append, List.nil_append, List.append_nil]); (repeat' (first | exact List.Perm.nil | exact List.Perm.refl _ | (apply permr; with_reducible (focus ((repeat (first | exact Rem.here | apply Rem.there)); done))) | (apply permr; (focus ((repeat (first | exact Rem.here | apply Rem.there)); done))))))
  · intro w' Mi X hk hm hm1 hh'
    simp only [List.cons_append, List.nil_append, List.append_nil] at hh'
    have i0 := inOk_row hh' (by exact Has.there (Has.there (Has.there (Has.there (Has.there Has.here))))) hl0
    have i1 := inOk_row hh' (by exact Has.there (Has.there (Has.there (Has.there (Has.there (Has.there Has.here)))))) hl1
    have i2 := inOk_row hh' (by exact Has.there (Has.there (Has.there (Has.there (Has.there (Has.there (Has.there Has.here))))))) hl2
    have s0 : SlF w' Mi a0 (key.map Sy.v8) := SlF.row (n := n0) (m := n0) hh' (by exact Has.there (Has.there (Has.there (Has.there (Has.there Has.here))))) (notOwn (by exact Has.there (Has.there Has.here)) hm1)
    have s1 : SlF w' Mi a1 (label.map Sy.v8) := SlF.row (n := n1) (m := n1) hh' (by exact Has.there (Has.there (Has.there (Has.there (Has.there (Has.there Has.here)))))) (notOwn (by exact Has.there (Has.there (Has.there Has.here))) hm1)
    have s2 : SlF w' Mi a2 (ctx.map Sy.v8) := SlF.row (n := n2) (m := n2) hh' (by exact Has.there (Has.there (Has.there (Has.there (Has.there (Has.there (Has.there Has.here))))))) (notOwn (by exact Has.there (Has.there (Has.there (Has.there Has.here)))) hm1)
    exact numbered1_it b1 76 [.agg ([.slice a0 n0 c0, .slice a1 n1 c1, .slice a2 n2 c2, .int .i64 n] : List Value).toArray] [] _ _ w' Mi (blk_cell (hh'.has (by exact Has.there (Has.there (Has.there Has.here)))) 0) (fun hb => hm1 b1 hb ⟨_, Has.here, rfl⟩) (by omega) hq (en rfl) (fun w3 i k3 _ _ =>
      dblock_fn a0 a1 a2 n0 c0 n1 c1 n2 c2 n i key label ctx w3 (i0.of s0 k3) (i1.of s1 k3) (i2.of s2 k3) hb0 hb1 hb2 (by omega) (by omega) ((hT.to hk hm).no k3))
  · rintro - s ⟨-, h⟩
    rw [hxl] at h; omega
  · rintro O x vs RA w' ⟨b, rfl, _⟩; rfl
  · rintro lq k hk s vs RA W rec hrec ⟨hJs, hlt⟩ harg hkW hmine
    have hY' := hY.to hkW hmine
    rw [numbered_get] at harg
    obtain ⟨bx, rfl, rfl⟩ := harg
    dsimp only
    have hmul : IntKind.i64.wrap (((k + 1 : Nat) : Int) * 32) = ((32 * (k + 1) : Nat) : Int) := by rw [hxl] at hk; rw [IntWalk.i64_in _ (by omega)]; omega
    by_cases hge : n ≤ 32 * (k + 1)
    · repeat' (first | refine sy_seqC ?_ | refine syl_nil ?_ | refine sy_if_t rfl ?_ | refine sy_if_f rfl ?_ | refine sy_block ?_ | refine sy_skip ?_ | refine sy_ret ?_ | refine sy_exit ?_ | refine sy_label ?_ | refine syx_then ?_ | refine syx_go ?_ | refine syx_then_ret ?_ | refine syx_then_exit ?_ | refine syx_in ?_ | refine syx_in_ret ?_ | refine syx_in_here ?_ | refine syx_in_past rfl ?_ | (apply syx_begin; (focus ((repeat (first | exact Rem.here | apply Rem.there)); done)); assumption) | refine sy_scope ?_ | refine syx_ng_n ?_ | refine syx_ng_r ?_ | refine syx_ng_x ?_ | (refine sy_region (id := 2) ?_; try refine y_assign ?_) | (refine sy_region (id := 3) ?_; try refine y_assign ?_) | (refine sy_region (id := 4) ?_; try refine y_load ?_; try refine y_move ?_; try refine y_move ?_; try (refine ys (op_yield hY' hk hJs (hL := RemL.cons (by exact Rem.there Rem.here) rfl (RemL.cons (by exact Rem.there (Rem.there (Rem.there Rem.here))) rfl RemL.nil)) (harg := fun w' X _ _ => by rw [numbered_get]; exact ⟨_, rfl, rfl⟩)) (k := ?_); rintro _ _ ⟨y, j', rfl, rfl, hy⟩; cases y); try refine y_unOp ?_; try refine y_move ?_; try (first | refine y_move ?_ | refine syl_skip rfl rfl rfl ?_ | refine syl_skip_n rfl rfl ?_ | fail); try (first | refine yv (op_mul (hr := hmul)) (k := ?_) | refine y_mul ?_ | refine syl_skip rfl rfl rfl ?_ | refine syl_skip_n rfl rfl ?_ | fail); try (first | refine y_load ?_ | refine syl_skip rfl rfl rfl ?_ | refine syl_skip_n rfl rfl ?_ | fail); try (first | refine y_geq ?_ | refine syl_skip rfl rfl rfl ?_ | refine syl_skip_n rfl rfl ?_ | fail); try refine y_pick ?_) | (refine syl_id ?_; first | refine yv (op_mul (hr := hmul)) (k := ?_) | (refine ys (op_yield hY' hk hJs (hL := RemL.cons (by exact Rem.there Rem.here) rfl (RemL.cons (by exact Rem.there (Rem.there (Rem.there Rem.here))) rfl RemL.nil)) (harg := fun w' X _ _ => by rw [numbered_get]; exact ⟨_, rfl, rfl⟩)) (k := ?_); rintro _ _ ⟨y, j', rfl, rfl, hy⟩; cases y) | refine y_assign ?_ | refine y_geq ?_ | refine y_mul ?_ | refine y_load ?_ | refine y_move ?_ | refine y_pick ?_ | refine y_unOp ?_ | refine syl_skip rfl rfl rfl ?_ | refine syl_skip_n rfl rfl ?_ | fail) | refine sy_region ?_ | fail)
      · refine syx_rnd_exit j' ⟨rfl, .inl hy⟩ ?_
        (repeat' (first | exact SubR.nil | (apply SubR.same; with_reducible (focus ((repeat (first | exact Rem.here | apply Rem.there)); done))) | (apply SubR.blk; (focus ((repeat (first | exact Rem.here | apply Rem.there)); done))) | (apply SubR.pick; (focus ((repeat (first | exact Rem.here | apply Rem.there)); done))) | rfl))
      · refine syx_rnd_exit j' ⟨rfl, .inr ⟨hy, hge⟩⟩ ?_
        (repeat' (first | exact SubR.nil | (apply SubR.same; with_reducible (focus ((repeat (first | exact Rem.here | apply Rem.there)); done))) | (apply SubR.blk; (focus ((repeat (first | exact Rem.here | apply Rem.there)); done))) | (apply SubR.pick; (focus ((repeat (first | exact Rem.here | apply Rem.there)); done))) | rfl))
    · repeat' (first | refine sy_seqC ?_ | refine syl_nil ?_ | refine sy_if_t rfl ?_ | refine sy_if_f rfl ?_ | refine sy_block ?_ | refine sy_skip ?_ | refine sy_ret ?_ | refine sy_exit ?_ | refine sy_label ?_ | refine syx_then ?_ | refine syx_go ?_ | refine syx_then_ret ?_ | refine syx_then_exit ?_ | refine syx_in ?_ | refine syx_in_ret ?_ | refine syx_in_here ?_ | refine syx_in_past rfl ?_ | (apply syx_begin; (focus ((repeat (first | exact Rem.here | apply Rem.there)); done)); assumption) | refine sy_scope ?_ | refine syx_ng_n ?_ | refine syx_ng_r ?_ | refine syx_ng_x ?_ | (refine sy_region (id := 2) ?_; try refine y_assign ?_) | (refine sy_region (id := 3) ?_; try refine y_assign ?_) | (refine sy_region (id := 4) ?_; try refine y_load ?_; try refine y_move ?_; try refine y_move ?_; try (refine ys (op_yield hY' hk hJs (hL := RemL.cons (by exact Rem.there Rem.here) rfl (RemL.cons (by exact Rem.there (Rem.there (Rem.there Rem.here))) rfl RemL.nil)) (harg := fun w' X _ _ => by rw [numbered_get]; exact ⟨_, rfl, rfl⟩)) (k := ?_); rintro _ _ ⟨y, j', rfl, rfl, hy⟩; cases y); try refine y_unOp ?_; try refine y_move ?_; try (first | refine y_move ?_ | refine syl_skip rfl rfl rfl ?_ | refine syl_skip_n rfl rfl ?_ | fail); try (first | refine yv (op_mul (hr := hmul)) (k := ?_) | refine y_mul ?_ | refine syl_skip rfl rfl rfl ?_ | refine syl_skip_n rfl rfl ?_ | fail); try (first | refine y_load ?_ | refine syl_skip rfl rfl rfl ?_ | refine syl_skip_n rfl rfl ?_ | fail); try (first | refine y_geq ?_ | refine syl_skip rfl rfl rfl ?_ | refine syl_skip_n rfl rfl ?_ | fail); try refine y_pick ?_) | (refine syl_id ?_; first | refine yv (op_mul (hr := hmul)) (k := ?_) | (refine ys (op_yield hY' hk hJs (hL := RemL.cons (by exact Rem.there Rem.here) rfl (RemL.cons (by exact Rem.there (Rem.there (Rem.there Rem.here))) rfl RemL.nil)) (harg := fun w' X _ _ => by rw [numbered_get]; exact ⟨_, rfl, rfl⟩)) (k := ?_); rintro _ _ ⟨y, j', rfl, rfl, hy⟩; cases y) | refine y_assign ?_ | refine y_geq ?_ | refine y_mul ?_ | refine y_load ?_ | refine y_move ?_ | refine y_pick ?_ | refine y_unOp ?_ | refine syl_skip rfl rfl rfl ?_ | refine syl_skip_n rfl rfl ?_ | fail) | refine sy_region ?_ | fail)
      · refine syx_rnd_exit j' ⟨rfl, .inl hy⟩ ?_
        (repeat' (first | exact SubR.nil | (apply SubR.same; with_reducible (focus ((repeat (first | exact Rem.here | apply Rem.there)); done))) | (apply SubR.blk; (focus ((repeat (first | exact Rem.here | apply Rem.there)); done))) | (apply SubR.pick; (focus ((repeat (first | exact Rem.here | apply Rem.there)); done))) | rfl))
      · refine syx_rnd j' ⟨hy, by omega⟩ ?_
        (repeat' (first | exact SubR.nil | (apply SubR.same; with_reducible (focus ((repeat (first | exact Rem.here | apply Rem.there)); done))) | (apply SubR.blk; (focus ((repeat (first | exact Rem.here | apply Rem.there)); done))) | (apply SubR.pick; (focus ((repeat (first | exact Rem.here | apply Rem.there)); done))) | rfl))
  · rintro s ⟨_, h⟩
    rw [hxl] at h; omega
  · rintro _ k s hk ⟨rfl, h⟩
    repeat' (first | refine sy_seqC ?_ | refine syl_nil ?_ | refine sy_if_t rfl ?_ | refine sy_if_f rfl ?_ | refine sy_block ?_ | refine sy_skip ?_ | refine sy_ret ?_ | refine sy_exit ?_ | refine sy_label ?_ | refine syx_then ?_ | refine syx_go ?_ | refine syx_then_ret ?_ | refine syx_then_exit ?_ | refine syx_in ?_ | refine syx_in_ret ?_ | refine syx_in_here ?_ | refine syx_in_past rfl ?_ | (apply syx_begin; (focus ((repeat (first | exact Rem.here | apply Rem.there)); done)); assumption) | refine sy_scope ?_ | refine syx_ng_n ?_ | refine syx_ng_r ?_ | refine syx_ng_x ?_ | (refine sy_region (id := 4) ?_; try refine y_load ?_; try refine y_move ?_; try refine y_move ?_; try refine y_unOp ?_; try refine y_move ?_; try (first | refine y_move ?_ | refine syl_skip rfl rfl rfl ?_ | refine syl_skip_n rfl rfl ?_ | fail); try (first | refine y_mul ?_ | refine syl_skip rfl rfl rfl ?_ | refine syl_skip_n rfl rfl ?_ | fail); try (first | refine y_load ?_ | refine syl_skip rfl rfl rfl ?_ | refine syl_skip_n rfl rfl ?_ | fail); try (first | refine y_geq ?_ | refine syl_skip rfl rfl rfl ?_ | refine syl_skip_n rfl rfl ?_ | fail); try refine y_pick ?_) | (refine syl_id ?_; first | refine y_geq ?_ | refine y_mul ?_ | refine y_load ?_ | refine y_move ?_ | refine y_pick ?_ | refine y_unOp ?_ | refine syl_skip rfl rfl rfl ?_ | refine syl_skip_n rfl rfl ?_ | fail) | refine sy_region ?_ | fail)
    refine end0 rfl (by (repeat' (first | exact SubR.nil | (apply SubR.same; with_reducible (focus ((repeat (first | exact Rem.here | apply Rem.there)); done))) | (apply SubR.blk; (focus ((repeat (first | exact Rem.here | apply Rem.there)); done))) | (apply SubR.pick; (focus ((repeat (first | exact Rem.here | apply Rem.there)); done))) | rfl))) ⟨s, rfl, ?_⟩
    rcases h with h | ⟨h, hge⟩
    · exact .inr ⟨k, hk, h⟩
    · rw [hxl] at hk
      obtain rfl : k = (n + 31) / 32 := by omega
      rw [hxl]; exact .inl h
theorem dblocks_bad (a0 a1 a2 : Option Addr) (n0 c0 n1 c1 n2 c2 : Nat) (z : Int) (w : World) (h : ¬ (n0 ≤ 4096 ∧ n1 ≤ 4096 ∧ n2 ≤ 4096 ∧ 1 ≤ z ∧ z ≤ 1024)) :
    Sy.Fn Tryd.prog 49 [.slice a0 n0 c0, .slice a1 n1 c1, .slice a2 n2 c2, .int .i64 z] w No (Gives (.func (.func 82) #[] #[])) := by
  refine fn_enter Tryd.func49 rfl Tryd.ntmps49 (by simp) Holds.nil ?_
  obtain ⟨xs, hx⟩ : ∃ x : List Bs, x = [⟨a0, n0, c0, []⟩, ⟨a1, n1, c1, []⟩, ⟨a2, n2, c2, []⟩] := ⟨_, rfl⟩
  have hv : (decide (∀ s ∈ xs, s.n ≤ 4096) && (decide (1 ≤ z) && decide (z ≤ 1024))) = false := by
    rw [← Bool.not_eq_true, Bool.and_eq_true, Bool.and_eq_true, decide_eq_true_eq, decide_eq_true_eq, decide_eq_true_eq]
    rintro ⟨h1, h2, h3⟩
    rw [hx] at h1
    exact h ⟨h1 _ List.mem_cons_self, h1 _ (List.mem_cons_of_mem _ List.mem_cons_self), h1 _ (List.mem_cons_of_mem _ (List.mem_cons_of_mem _ List.mem_cons_self)), h2, h3⟩
  have hxv : xs.map Bs.val = [.slice a0 n0 c0, .slice a1 n1 c1, .slice a2 n2 c2] := by rw [hx]; rfl
  have hxl : xs.length = 3 := by rw [hx]; rfl
  repeat' (first | refine sy_seqC ?_ | refine syl_nil ?_ | refine sy_if_t rfl ?_ | refine sy_if_f rfl ?_ | refine sy_block ?_ | refine sy_skip ?_ | refine sy_ret ?_ | refine sy_exit ?_ | refine sy_label ?_ | refine syx_then ?_ | refine syx_go ?_ | refine syx_then_ret ?_ | refine syx_then_exit ?_ | refine syx_in ?_ | refine syx_in_ret ?_ | refine syx_in_here ?_ | refine syx_in_past rfl ?_ | (apply syx_begin; (focus ((repeat (first | exact Rem.here | apply Rem.there)); done)); assumption) | (refine sy_region (id := 0) ?_; try (refine y_new ?_; intro _); try refine y_assign ?_) | (refine sy_region (id := 1) ?_; try refine y_load ?_; try refine y_move ?_; try refine y_move ?_; try refine y_move ?_; try (first | (refine ys op_buildSlice0 (k := ?_); rintro _ _ ⟨_, rfl, rfl⟩) | (refine ys op_buildSlice (k := ?_); rintro _ _ ⟨_, rfl, rfl⟩) | fail); try refine yv (op_callV (hc := fun w' X hk hh => hv ▸ allowed_fn z _ 3 3 xs w' hxl (by decide) (by rw [hxv]; exact (Rd.of (Reads.blk Has.here Seg.all)) w' X hk hh))) (k := ?_); try refine y_unOp ?_) | (refine sy_region (id := 2) ?_; try refine y_assign ?_) | (refine syl_id ?_; first | refine yv (op_callV (hc := fun w' X hk hh => hv ▸ allowed_fn z _ 3 3 xs w' hxl (by decide) (by rw [hxv]; exact (Rd.of (Reads.blk Has.here Seg.all)) w' X hk hh))) (k := ?_) | refine y_assign ?_ | refine y_load ?_ | refine y_move ?_ | refine y_unOp ?_ | (refine y_new ?_; intro _) | (refine ys op_buildSlice0 (k := ?_); rintro _ _ ⟨_, rfl, rfl⟩) | (refine ys op_buildSlice (k := ?_); rintro _ _ ⟨_, rfl, rfl⟩) | fail) | refine sy_region ?_ | fail)
  exact ret1 rfl (resTmp rfl) SubR.nil ⟨rfl, rfl⟩
set_option maxHeartbeats 1000000 in
theorem dblocks_fn (a0 a1 a2 : Option Addr) (n0 c0 n1 c1 n2 c2 n : Nat) (key label ctx : List UInt8) (w : World) (h0 : InOk w a0 n0 c0 key) (h1 : InOk w a1 n1 c1 label) (h2 : InOk w a2 n2 c2 ctx) (hb0 : n0 ≤ 4096) (hb1 : n1 ≤ 4096) (hb2 : n2 ≤ 4096) (hn1 : 1 ≤ n) (hn : n ≤ 1024) :
    Sy.Fn Tryd.prog 49 [.slice a0 n0 c0, .slice a1 n1 c1, .slice a2 n2 c2, .int .i64 n] w No (fun v R => ∃ b9 b7 a0' a1' a2' c0' c1' c2', v = .func (.func 83) #[] #[.pointer (some ⟨b9, 0, none⟩), .pointer (some ⟨b7, 0, none⟩)] ∧ R = BlkRes b9 b7 a0' a1' a2' n0 c0' n1 c1' n2 c2' n key label ctx) := by
  refine fn_enter Tryd.func49 rfl Tryd.ntmps49 (by simp) Holds.nil ?_
  obtain ⟨xs, hx⟩ : ∃ x : List Bs, x = [⟨a0, n0, c0, []⟩, ⟨a1, n1, c1, []⟩, ⟨a2, n2, c2, []⟩] := ⟨_, rfl⟩
  have hv : (decide (∀ s ∈ xs, s.n ≤ 4096) && (decide (1 ≤ (n : Int)) && decide ((n : Int) ≤ 1024))) = true := by
    rw [Bool.and_eq_true, Bool.and_eq_true, decide_eq_true_eq, decide_eq_true_eq, decide_eq_true_eq]
    refine ⟨fun s hs => ?_, by omega, by omega⟩
    rw [hx] at hs
    rcases List.mem_cons.1 hs with rfl | hs
    · exact hb0
    rcases List.mem_cons.1 hs with rfl | hs
    · exact hb1
    obtain rfl := List.mem_singleton.1 hs
    exact hb2
  have hxv : xs.map Bs.val = [.slice a0 n0 c0, .slice a1 n1 c1, .slice a2 n2 c2] := by rw [hx]; rfl
  have hxl : xs.length = 3 := by rw [hx]; rfl
  repeat' (first | refine sy_seqC ?_ | refine syl_nil ?_ | refine sy_if_t rfl ?_ | refine sy_if_f rfl ?_ | refine sy_block ?_ | refine sy_skip ?_ | refine sy_ret ?_ | refine sy_exit ?_ | refine sy_label ?_ | refine syx_then ?_ | refine syx_go ?_ | refine syx_then_ret ?_ | refine syx_then_exit ?_ | refine syx_in ?_ | refine syx_in_ret ?_ | refine syx_in_here ?_ | refine syx_in_past rfl ?_ | (apply syx_begin; (focus ((repeat (first | exact Rem.here | apply Rem.there)); done)); assumption) | (refine sy_region (id := 0) ?_; try (refine y_new ?_; intro _); try refine y_assign ?_) | (refine sy_region (id := 1) ?_; try refine y_load ?_; try refine y_move ?_; try refine y_move ?_; try refine y_move ?_; try (first | (refine ys op_buildSlice0 (k := ?_); rintro _ _ ⟨_, rfl, rfl⟩) | (refine ys op_buildSlice (k := ?_); rintro _ _ ⟨_, rfl, rfl⟩) | fail); try refine yv (op_callV (hc := fun w' X hk hh => hv ▸ allowed_fn n _ 3 3 xs w' hxl (by decide) (by rw [hxv]; exact (Rd.of (Reads.blk Has.here Seg.all)) w' X hk hh))) (k := ?_); try refine y_unOp ?_) | (refine syl_id ?_; first | refine yv (op_callV (hc := fun w' X hk hh => hv ▸ allowed_fn n _ 3 3 xs w' hxl (by decide) (by rw [hxv]; exact (Rd.of (Reads.blk Has.here Seg.all)) w' X hk hh))) (k := ?_) | refine y_assign ?_ | refine y_load ?_ | refine y_move ?_ | refine y_unOp ?_ | (refine y_new ?_; intro _) | (refine ys op_buildSlice0 (k := ?_); rintro _ _ ⟨_, rfl, rfl⟩) | (refine ys op_buildSlice (k := ?_); rintro _ _ ⟨_, rfl, rfl⟩) | fail) | refine sy_region ?_ | fail)
  rename_i b7 bl
  refine sy_drawA (id := 3) mixed ?_
  (refine sye_part 11 11 [[], [0], [0, 1], [], [0, 1, 3], [], [0, 1, 3, 4, 5], [], [0, 1, 2, 3, 4, 5, 6, 7], [], [0, 1, 2, 3, 4, 5, 6, 7, 8, 9]] [[], [], [], [], [], [], [], [], [], [], [9]] none rfl ?_ ?_ ?_; kernel_rfl; kernel_rfl; try (first | refine e_move ?_ | fail); try (first | fail); try (first | refine e_build ?_ | fail); try (first | refine e_move ?_ | fail); try (first | fail); try (first | refine e_move ?_ | fail); try (first | fail); try (first | refine e_load ?_ | fail); try (first | refine e_build ?_ | fail); try (first | fail); try (first | fail); try refine dh_0nE (h := ?_))
  refine dh_rE (R := fun _ => RowOf 5 n0 (key.map Sy.v8)) (fun _ _ _ => rfl) (fun ρ hρ => OpT.mono (op_call0 (hc := fun w' X hk hh => clone_fn a0 n0 c0 key w' h0.len (by omega) (h0.keep hk).sla (fun h => ⟨h0.nil h, by have := h0.cap; have := h0.nil h; omega⟩))) fun v L' h => ?_) (h := ?_)
  · obtain ⟨R, rfl, a, k, rfl, rfl⟩ := h
    exact ⟨_, rfl, a, k, rfl, rfl⟩
  refine dh_vE (u := fun ρ => .agg ([(ρ 1).1] : List Value).toArray) (fun ρ hρ => ?_) (fun _ => rfl) rfl (fun ρ ρ' h => by rw [h 1 (by decide)]) (h := ?_)
  · obtain ⟨⟨a, k, e1, f1⟩, -⟩ := hρ
    exact op_buildS (vs := [(ρ 1).1]) (hf := Fits.one (by rw [e1]; rfl) rfl Fits.nil)
  (skip; try (first | refine e_move ?_ | fail); try refine dh_0nE (h := ?_))
  refine dh_rE (R := fun _ => RowOf 5 n1 (label.map Sy.v8)) (fun _ _ _ => rfl) (fun ρ hρ => OpT.mono (op_call0 (hc := fun w' X hk hh => clone_fn a1 n1 c1 label w' h1.len (by omega) (h1.keep hk).sla (fun h => ⟨h1.nil h, by have := h1.cap; have := h1.nil h; omega⟩))) fun v L' h => ?_) (h := ?_)
  · obtain ⟨R, rfl, a, k, rfl, rfl⟩ := h
    exact ⟨_, rfl, a, k, rfl, rfl⟩
  (skip; try (first | refine e_move ?_ | fail); try refine dh_0nE (h := ?_))
  refine dh_rE (R := fun _ => RowOf 5 n2 (ctx.map Sy.v8)) (fun _ _ _ => rfl) (fun ρ hρ => OpT.mono (op_call0 (hc := fun w' X hk hh => clone_fn a2 n2 c2 ctx w' h2.len (by omega) (h2.keep hk).sla (fun h => ⟨h2.nil h, by have := h2.cap; have := h2.nil h; omega⟩))) fun v L' h => ?_) (h := ?_)
  · obtain ⟨R, rfl, a, k, rfl, rfl⟩ := h
    exact ⟨_, rfl, a, k, rfl, rfl⟩
  (skip; try (first | refine e_load ?_ | fail); try refine dh_0nE (h := ?_))
  refine dh_vE (u := fun ρ => .agg ([(ρ 1).1, (ρ 4).1, (ρ 6).1, .int .i64 n] : List Value).toArray) (fun ρ hρ => ?_) (fun _ => rfl) rfl (fun ρ ρ' h => by rw [h 1 (by decide), h 4 (by decide), h 6 (by decide)]) (h := ?_)
  · obtain ⟨⟨a6, k6, e6, f6⟩, ⟨a4, k4, e4, f4⟩, ⟨a1, k1, e1, f1⟩, -⟩ := hρ
    exact op_buildS (vs := [.agg ([(ρ 1).1] : List Value).toArray, (ρ 4).1, (ρ 6).1, .int .i64 n]) (hf := Fits.agg (cs := [(ρ 1).1]) rfl rfl (Fits.one (by rw [e4]; rfl) rfl (Fits.one (by rw [e6]; rfl) rfl (Fits.one rfl rfl Fits.nil))))
  refine dh_rE (R := fun _ => PtrOf 126 [.slice none 0 0, .slice none 0 0, .slice none 0 0, .int .i64 0]) (fun _ _ _ => rfl) (fun ρ hρ => OpT.mono op_alloc fun v L' h => ?_) (h := ?_)
  · obtain ⟨b, rfl, rfl⟩ := h
    exact ⟨[_], rfl, b, rfl, rfl⟩
  refine dh_rnE (R := fun ρ _ Nw => ∃ b, (ρ 9).1 = .pointer (some ⟨b, 0, none⟩) ∧ Nw = [.blk b 126 [(ρ 1).1, (ρ 4).1, (ρ 6).1, .int .i64 n]]) (fun ρ ρ' h => by rw [h 9 (by decide), h 1 (by decide), h 4 (by decide), h 6 (by decide)]) (fun ρ hρ => ?_) (h := ?_)
  · obtain ⟨⟨b, f1, f2⟩, ⟨a6, k6, e6, f6⟩, ⟨a4, k4, e4, f4⟩, ⟨a1, k1, e1, _⟩, -⟩ := hρ
    refine OpT.mono (op_storesAll (B := [(ρ 1).1, (ρ 4).1, (ρ 6).1, .int .i64 n]) (hx := by show some (ρ 9).1 = _; rw [f1]) (hv := by rw [e1, e4, e6]; rfl) (hL := by show Upd ((ρ 9).2 ++ _) _ _ _; rw [f2]; exact Upd.here)) fun v L' h => ?_
    obtain ⟨rfl, rfl⟩ := h
    exact ⟨[_], rfl, b, f1, rfl⟩
  refine dh_0E (h := ?_)
  rintro ρ ⟨⟨b9, g1, g2⟩, ⟨b9', g1', -⟩, ⟨a6, k6, e6, f6⟩, ⟨a4, k4, e4, f4⟩, ⟨a1, k1, e1, f1⟩, -⟩
  (refine sya_list [[], [0], [0, 1], [], [0, 1, 3], [], [0, 1, 3, 4, 5], [], [0, 1, 2, 3, 4, 5, 6, 7], [], [0, 1, 2, 3, 4, 5, 6, 7, 8, 9]] ?_ ?_; kernel_rfl)
  refine SyL.weaken (fr' := [(9, .pointer (some ⟨b9, 0, none⟩)), (7, .pointer (some ⟨b7, 0, none⟩))]) (L' := BlkRes b9 b7 a1 a4 a6 n0 k1 n1 k4 n2 k6 n key label ctx) ?_ ?_ ?_
  · unfold BlkRes
    repeat' (first | refine sy_seqC ?_ | refine syl_nil ?_ | refine sy_if_t rfl ?_ | refine sy_if_f rfl ?_ | refine sy_block ?_ | refine sy_skip ?_ | refine sy_ret ?_ | refine sy_exit ?_ | refine sy_label ?_ | refine syx_then ?_ | refine syx_go ?_ | refine syx_then_ret ?_ | refine syx_then_exit ?_ | refine syx_in ?_ | refine syx_in_ret ?_ | refine syx_in_here ?_ | refine syx_in_past rfl ?_ | (apply syx_begin; (focus ((repeat (first | exact Rem.here | apply Rem.there)); done)); assumption) | (refine sy_region (id := 4) ?_; try refine y_makeFunc ?_; try refine y_assign ?_) | (refine syl_id ?_; first | refine y_assign ?_ | refine y_makeFunc ?_ | fail) | refine sy_region ?_ | fail)
    exact ret1 rfl (resTmp rfl) (by (repeat' (first | exact SubR.nil | (apply SubR.same; with_reducible (focus ((repeat (first | exact Rem.here | apply Rem.there)); done))) | (apply SubR.blk; (focus ((repeat (first | exact Rem.here | apply Rem.there)); done))) | (apply SubR.pick; (focus ((repeat (first | exact Rem.here | apply Rem.there)); done))) | rfl))) ⟨_, _, _, _, _, _, _, _, rfl, rfl⟩
  · (repeat' (first | exact Sub.nil | refine Sub.cons rfl ?_ ?_ | rfl))
    exact g1
  · show SubR _ ((ρ 10).2 ++ ((ρ 6).2 ++ ((ρ 4).2 ++ ((ρ 1).2 ++ _))))
    rw [e1, e4, e6] at g2
    rw [e6] at f6; rw [e4] at f4; rw [e1] at f1
    rw [g2, f6, f4, f1]
    unfold BlkRes
    (repeat' (first | exact SubR.nil | (apply SubR.same; with_reducible (focus ((repeat (first | exact Rem.here | apply Rem.there)); done))) | (apply SubR.blk; (focus ((repeat (first | exact Rem.here | apply Rem.there)); done))) | (apply SubR.same; (focus ((repeat (first | exact Rem.here | apply Rem.there)); done))) | (apply SubR.pick; (focus ((repeat (first | exact Rem.here | apply Rem.there)); done))) | rfl))
end Go.Proofs.YtcahnkdnhejkkaaDoor
