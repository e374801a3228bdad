/- Layer random, walked: first bytes, draws. -/
import Derived.Test.YtcahnkdnhejkkaaDoorRnd1
import Derived.Test.YtcahnkdnhejkkaaDoorSyPerm
import Derived.Test.YtcahnkdnhejkkaaDoorShaBlks
import Derived.Lib.ConvBytes
set_option linter.all false
namespace Go.Sy
open Go
section
variable {P : Program} {ro : Option Nat} {N : Nat} {w0 : World} {M : Nat → Prop} {ds : List Deferred} {g : Nat → Option Value} {L : List Res} {o : Oper}
variable {t t' : TypeId} {x z : Operand} {y ye : Ty}
theorem Holds.fresh {B : Nat} {w w' : World} {r : Res} (h : Holds B M L w) (hk : Keep No w w') (hr : r.holds w') (ho : ∀ b, r.own b → b = w.heap.size) (hB : B ≤ w.heap.size) : Holds B M (r :: L) w' :=
  (h.keep hk (fun _ _ _ _ h => h)).cons hr (fun x hx b hb hb' => by
    have h1 := ho b hb
    have h2 := Res.own_lt (h.all x hx) hb'
    omega) (fun b hb => .inl (by have := ho b hb; omega))
/-- '[]byte(s)'. -/
theorem op_toBytes {e : Nat} {l : List UInt8} (ho : o.op = .convert t t' x := by exact rfl) (hx : ev g x = some (.string (str l)) := by exact rfl) (ht : tyOf P t = some y := by exact ty rfl) {y' : Ty} (ht' : tyOf P t' = some y' := by exact ty rfl) (hy' : y'.desc = .slice e := by exact rfl) (he : tyOf P e = some ye := by exact ty rfl) (hye : ye.desc = .int .u8 := by exact rfl) :
    OpT P ro N w0 M ds o g L (fun v L' => ∃ b c J fz, l.length ≤ c ∧ v = .slice (some ⟨b, 0, none⟩) l.length c ∧ L' = .obj b (.cells (l.map v8 ++ J).toArray e fz) :: L) :=
  OpT.run (by rw [ho]; rfl) fun a w X hst => by
    obtain ⟨d, i, hd, hi, hs, _⟩ := tyOf_spec ht
    obtain ⟨d', i', hd', hi', hs', _⟩ := tyOf_spec ht'
    rw [hy'] at hs'
    have := slim_slice hs'; subst this
    obtain ⟨d2, i2, hd2, hi2, hs2, _⟩ := tyOf_spec he
    rw [hye] at hs2
    have hd2' : d2 = .int .u8 := by
      cases d2 <;> simp [slim] at hs2
      exact congrArg _ hs2
    subst hd2'
    have hrun := Lib.run_convert_string_bytes w t t' e (str l) hd hd' hd2
    have hk : Keep No w (Lib.bytesWorld w e (str l)) := ⟨rfl, rfl, rfl, by rw [Lib.bytesWorld_size]; omega, fun k hk _ => Lib.bytesWorld_at_old w e (str l) k hk⟩
    have hB : w0.heap.size ≤ w.heap.size := hst.keep.size
    have hcells : Lib.bytesCells w e (str l) = (l.map v8 ++ List.replicate (grownCap w (str l).size 0 e - (str l).size) (Value.int .u8 0)).toArray := by
      apply Array.toList_inj.1
      simp [Lib.bytesCells, str, v8, Wd.n8]
    refine ⟨_, _, Lib.bytesWorld w e (str l), _, ?_, .inl rfl, ⟨w.heap.size, grownCap w (str l).size 0 e, List.replicate (grownCap w (str l).size 0 e - (str l).size) (Value.int .u8 0), ((Lib.bytesCells w e (str l)).size, (Lib.bytesCells w e (str l)).size + 1), by have := grownCap_ge w (str l).size 0 e; rw [str_size] at this ⊢; exact this, rfl, rfl⟩, hst.keep.trans hk (fun _ h => h.elim), ?_⟩
    · simp only [execOp, ho, hst.agr.eval hx, Sem.run_bind, hrun, Result.andThen_ok]
      rw [str_size]
      rfl
    · refine Holds.fresh hst.hold hk ?_ (fun b hb => hb.symm) hB
      show (Lib.bytesWorld w e (str l)).heap[w.heap.size]? = _
      rw [Lib.bytesWorld_at_new, hcells]
end
end Go.Sy
namespace Go.Sh
open Go Go.Sy
theorem firstN_add (f : Nat → List UInt8) (h : ∀ i, (f i).length = 32) (k r : Nat) (hr : r ≤ 32) : firstN f (32 * k) ++ (f (k + 1)).take r = firstN f (32 * k + r) := by
  have h1 := firstN_of f h (32 * k) k (Nat.le_refl _)
  have h2 := firstN_of f h (32 * k + r) (k + 1) (by omega)
  have hl := rows_len f h k
  have e1 : (rows f k).take (32 * k + r) = rows f k := List.take_of_length_le (by omega)
  have e2 : (rows f k).take (32 * k) = rows f k := List.take_of_length_le (by omega)
  rw [← h2, rows_succ, List.take_append, hl, show 32 * k + r - 32 * k = r from by omega, e1, ← h1, e2]
end Go.Sh
namespace Go.Proofs.YtcahnkdnhejkkaaDoor
open Go Go.Sy Go.Sh Go.RowKit
attribute [local irreducible] Sy SyL SyX Sy.Fn callFunc Sh.sum kxor kpad kbase macA HashIs MacIs hmac firstN
set_option maxRecDepth 10000
theorem rfirst_fn (s : List UInt8) (n : Nat) (w : World) (hs : s.length = 32) (hn1 : 1 ≤ n) (hn : n ≤ 65536) (hT : Tab w No) :
    Sy.Fn Tryd.prog 91 [.agg (s.map Sy.v8).toArray, .int .i64 n] w No (fun v R => ∃ a k, v = .slice a n k ∧ R = [.row (.slice a n k) 5 1 n ((firstN (rf s) n).map Sy.v8)]) := by
  refine fn_enter Tryd.func91 rfl Tryd.ntmps91 (by simp) Holds.nil ?_
  have hfl := rf_len s
  have hadd := firstN_add (rf s) hfl
  have hN0 : firstN (rf s) 0 = [] := List.eq_nil_of_length_eq_zero (firstN_len _ hfl 0)
  have hNl := firstN_len (rf s) hfl
  have hxl := rblks_len s ((n + 31) / 32)
  have hxg : ∀ k (h : k < (rblks s ((n + 31) / 32)).length), (rblks s ((n + 31) / 32))[k] = rf s (k + 1) := fun k h => rblks_get s _ k h
  repeat' (first | refine sy_seqC ?_ | refine syl_nil ?_ | refine sy_if_t rfl ?_ | refine sy_if_f rfl ?_ | refine sy_block ?_ | refine sy_skip ?_ | refine sy_ret ?_ | refine sy_exit ?_ | refine sy_label ?_ | refine syx_then ?_ | refine syx_go ?_ | refine syx_then_ret ?_ | refine syx_then_exit ?_ | refine syx_in ?_ | refine syx_in_ret ?_ | refine syx_in_here ?_ | refine syx_in_past rfl ?_ | (apply syx_begin; (focus ((repeat (first | exact Rem.here | apply Rem.there)); done)); assumption) | refine sy_scope ?_ | refine syx_ng_n ?_ | refine syx_ng_r ?_ | refine syx_ng_x ?_ | (refine sy_region (id := 0) ?_; try (refine y_new ?_; intro _); try (refine y_new ?_; intro _); try refine y_assign ?_) | (refine sy_region (id := 1) ?_; try (refine y_new ?_; intro _)) | (refine sy_region (id := 2) ?_; try refine y_load ?_; try (refine ys (op_call0 (hc := fun w' X hk hh => rblocks_fn s w')) (k := ?_); rintro _ _ ⟨R, rfl, b1, rfl, rfl⟩)) | (refine syl_id ?_; first | (refine ys (op_call0 (hc := fun w' X hk hh => rblocks_fn s w')) (k := ?_); rintro _ _ ⟨R, rfl, b1, rfl, rfl⟩) | refine y_assign ?_ | refine y_load ?_ | (refine y_new ?_; intro _) | fail) | refine sy_region ?_ | fail)
  rename_i b2 b3 b5
  have hit := fun (w' : World) (Mi : Nat → Prop) (hr : w'.rangeAt b1 0 (s.map Sy.v8)) (hnm : ¬ Mi b1) (hT : Tab w' Mi) => rblocks1_it b1 s ((n + 31) / 32) w' Mi hs hr hnm (by omega) hT
  generalize rblks s ((n + 31) / 32) = xs at *
  generalize rf s = f at *
  generalize firstN f = F at *
  refine sy_conv (conv_nil 5 1) ?_
  refine sy_rangeE True (γ := Nat × Option Addr × Nat) (xs := xs) (Arg := ArgL 105) entered_outer rfl (en rfl) rfl (fun k g => g.1 = 32 * k ∧ 32 * k < n) (fun cc k g => cc = .exit 0 ∧ g.1 = n)
    (fun g => [.blk b5 22 [.slice g.2.1 g.1 g.2.2], .row (.slice g.2.1 g.1 g.2.2) 5 1 g.1 ((F g.1).map Sy.v8), .blk b3 3 [.int .i64 n]]) [] [.blk b1 105 (s.map Sy.v8), .blk b2 105 (s.map Sy.v8)] (0, none, 0) ⟨rfl, by omega⟩ ?_ ?_ ?_ ?_ ?_ ?_ ?_
  · rw [hN0, List.map_nil]
    ((try simp only [List.cons_append, List.nil_append, List.append_nil]); (repeat' (first | exact List.Perm.nil | exact List.Perm.refl _ | (apply permr; with_reducible (focus ((repeat (first | exact Rem.here | apply Rem.there)); done))) | (apply permr; (focus ((repeat (first | exact Rem.here | apply Rem.there)); done))))))
  · intro w' Mi X hk hm hm1 hh'
    simp only [List.cons_append, List.nil_append, List.append_nil] at hh'
    exact hit w' Mi (blk_range (hh'.has (by exact Has.there (Has.there (Has.there Has.here)))) Seg.all) (fun hb => hm1 b1 hb ⟨_, Has.here, rfl⟩) (hT.to hk hm)
  · rintro - g ⟨-, h⟩
    rw [hxl] at h; omega
  · rintro O x vs RA w' ⟨b, rfl, _⟩; rfl
  · rintro lq k hk ⟨i, a, c⟩ vs RA W rec hrec ⟨hi, hlt⟩ harg hkW hmine
    rw [hxg] at harg
    obtain ⟨bx, rfl, rfl⟩ := harg
    dsimp only at hi hlt ⊢
    subst hi
    rw [hxl] at hk
    have hf := hfl (k + 1)
    have hF := hNl (32 * k)
    have hsub : IntKind.i64.wrap ((n : Int) - ((32 * k : Nat) : Int)) = ((n - 32 * k : Nat) : Int) := by rw [IntWalk.i64_in _ (by omega)]; omega
    have had := hadd k
    by_cases hge : n - 32 * k ≤ 32
    · have hy : (F (32 * k)).map Sy.v8 ++ ((f (k + 1)).take (n - 32 * k)).map Sy.v8 = (F n).map Sy.v8 := by rw [← List.map_append, had _ hge, show 32 * k + (n - 32 * k) = n by omega]
      have htl : ((f (k + 1)).take (n - 32 * k)).length = n - 32 * k := by rw [List.length_take]; omega
      have hkm : 32 * k + (n - 32 * k) = n := by omega
      generalize n - 32 * k = r at *
      generalize 32 * k = q at *
      generalize f (k + 1) = x at *
      have hrp : 0 < r := by omega
      repeat' (first | refine sy_seqC ?_ | refine syl_nil ?_ | refine sy_if_t rfl ?_ | refine sy_if_f rfl ?_ | refine sy_block ?_ | refine sy_skip ?_ | refine sy_ret ?_ | refine sy_exit ?_ | refine sy_label ?_ | refine syx_then ?_ | refine syx_go ?_ | refine syx_then_ret ?_ | refine syx_then_exit ?_ | refine syx_in ?_ | refine syx_in_ret ?_ | refine syx_in_here ?_ | refine syx_in_past rfl ?_ | (apply syx_begin; (focus ((repeat (first | exact Rem.here | apply Rem.there)); done)); assumption) | refine sy_scope ?_ | refine syx_ng_n ?_ | refine syx_ng_r ?_ | refine syx_ng_x ?_ | (refine sy_region (id := 3) ?_; try refine y_assign ?_) | (refine sy_region (id := 4) ?_; try refine y_load ?_; try refine y_load ?_; try refine y_len ?_; try (first | refine yv (op_sub (hr := hsub)) (k := ?_) | refine y_sub ?_ | fail); try refine y_assign ?_) | (refine sy_region (id := 5) ?_; try refine y_move ?_; try refine y_move ?_; try refine y_len ?_; try refine y_leq ?_) | (refine sy_draw (id := 6) 5 [[], [], [], [], [1, 2, 3], [0, 1, 2, 3, 4], [0, 1, 2, 3, 4, 5]] mixed ?_ ?_; kernel_rfl; try refine d_load ?_; try refine d_move ?_; try refine d_move ?_; try refine d_move ?_; try (first | refine dc (fun _ _ => op_sliceR (l := 0) (h := r) (m := r) (n' := r)) (k := ?_) | refine d_slice ?_ | fail); try refine dh_0n ?_; try (first | (refine ys (op_append (k := q) (m := r) (news := (x.take r).map Sy.v8) (hr := by rw [List.map_take]; exact (Rd.of (Reads.blk (by repeat (first | exact Has.here | apply Has.there)) Seg.all)).take r) (hn := by rw [List.length_map, htl, Nat.mul_one]) (hkm := hkm) (hys := hy)) (k := ?_); rintro _ _ ⟨rfl, aN, cN, rfl⟩) | (refine ys op_append (k := ?_); rintro _ _ ⟨rfl, _, _, rfl⟩) | (refine ys op_appendB (k := ?_); rintro _ _ ⟨rfl, _, _, rfl⟩) | (refine ys op_appendN (k := ?_); rintro _ _ ⟨rfl, _, _, rfl⟩) | fail); try refine y_store ?_) | (refine syl_id ?_; first | refine yv (op_sub (hr := hsub)) (k := ?_) | refine yv (op_sliceR (l := 0) (h := r) (m := r) (n' := r)) (k := ?_) | (refine ys (op_append (k := q) (m := r) (news := (x.take r).map Sy.v8) (hr := by rw [List.map_take]; exact (Rd.of (Reads.blk (by repeat (first | exact Has.here | apply Has.there)) Seg.all)).take r) (hn := by rw [List.length_map, htl, Nat.mul_one]) (hkm := hkm) (hys := hy)) (k := ?_); rintro _ _ ⟨rfl, aN, cN, rfl⟩) | refine y_assign ?_ | refine y_leq ?_ | refine y_sub ?_ | refine y_len ?_ | refine y_load ?_ | refine y_move ?_ | refine y_slice ?_ | refine y_store ?_ | (refine ys op_append (k := ?_); rintro _ _ ⟨rfl, _, _, rfl⟩) | (refine ys op_appendB (k := ?_); rintro _ _ ⟨rfl, _, _, rfl⟩) | (refine ys op_appendN (k := ?_); rintro _ _ ⟨rfl, _, _, rfl⟩) | fail) | refine dh_0n ?_ | (refine dh_id ?_; first | refine dc (fun _ _ => op_sub (hr := hsub)) (k := ?_) | refine dc (fun _ _ => op_sliceR (l := 0) (h := r) (m := r) (n' := r)) (k := ?_) | refine d_assign ?_ | refine d_leq ?_ | refine d_sub ?_ | refine d_len ?_ | refine d_load ?_ | refine d_move ?_ | refine d_slice ?_ | fail) | refine sy_region ?_ | fail)
      refine syx_rnd_exit (n, aN, cN) ⟨rfl, rfl⟩ ?_
      (repeat' (first | exact SubR.nil | (apply SubR.same; with_reducible (focus ((repeat (first | exact Rem.here | apply Rem.there)); done))) | (apply SubR.blk; (focus ((repeat (first | exact Rem.here | apply Rem.there)); done))) | (apply SubR.pick; (focus ((repeat (first | exact Rem.here | apply Rem.there)); done))) | rfl))
    · have hy : (F (32 * k)).map Sy.v8 ++ (f (k + 1)).map Sy.v8 = (F (32 * (k + 1))).map Sy.v8 := by
        rw [← List.map_append]; congr 1
        have := had 32 (Nat.le_refl _)
        rw [List.take_of_length_le (by omega)] at this
        rw [this]; congr 1
      have hkm : 32 * k + 32 = 32 * (k + 1) := by omega
      generalize f (k + 1) = x at *
      repeat' (first | refine sy_seqC ?_ | refine syl_nil ?_ | refine sy_if_t rfl ?_ | refine sy_if_f rfl ?_ | refine sy_block ?_ | refine sy_skip ?_ | refine sy_ret ?_ | refine sy_exit ?_ | refine sy_label ?_ | refine syx_then ?_ | refine syx_go ?_ | refine syx_then_ret ?_ | refine syx_then_exit ?_ | refine syx_in ?_ | refine syx_in_ret ?_ | refine syx_in_here ?_ | refine syx_in_past rfl ?_ | (apply syx_begin; (focus ((repeat (first | exact Rem.here | apply Rem.there)); done)); assumption) | refine sy_scope ?_ | refine syx_ng_n ?_ | refine syx_ng_r ?_ | refine syx_ng_x ?_ | (refine sy_region (id := 3) ?_; try refine y_assign ?_) | (refine sy_region (id := 4) ?_; try refine y_load ?_; try refine y_load ?_; try refine y_len ?_; try (first | refine yv (op_sub (hr := hsub)) (k := ?_) | refine y_sub ?_ | fail); try refine y_assign ?_) | (refine sy_region (id := 5) ?_; try refine y_move ?_; try refine y_move ?_; try refine y_len ?_; try refine y_leq ?_) | (refine sy_region (id := 7) ?_; try refine y_load ?_; try refine y_move ?_; try (first | (refine ys (op_append (k := 32 * k) (m := 32) (hn := by rw [List.length_map, hf]) (hkm := hkm) (hys := hy)) (k := ?_); rintro _ _ ⟨rfl, aN, cN, rfl⟩) | (refine ys op_append (k := ?_); rintro _ _ ⟨rfl, _, _, rfl⟩) | (refine ys op_appendB (k := ?_); rintro _ _ ⟨rfl, _, _, rfl⟩) | (refine ys op_appendN (k := ?_); rintro _ _ ⟨rfl, _, _, rfl⟩) | fail); try refine y_store ?_) | (refine syl_id ?_; first | refine yv (op_sub (hr := hsub)) (k := ?_) | (refine ys (op_append (k := 32 * k) (m := 32) (hn := by rw [List.length_map, hf]) (hkm := hkm) (hys := hy)) (k := ?_); rintro _ _ ⟨rfl, aN, cN, rfl⟩) | refine y_assign ?_ | refine y_leq ?_ | refine y_sub ?_ | refine y_len ?_ | refine y_load ?_ | refine y_move ?_ | refine y_store ?_ | (refine ys op_append (k := ?_); rintro _ _ ⟨rfl, _, _, rfl⟩) | (refine ys op_appendB (k := ?_); rintro _ _ ⟨rfl, _, _, rfl⟩) | (refine ys op_appendN (k := ?_); rintro _ _ ⟨rfl, _, _, rfl⟩) | fail) | refine sy_region ?_ | fail)
      refine syx_rnd (32 * (k + 1), aN, cN) ⟨rfl, by omega⟩ ?_
      (repeat' (first | exact SubR.nil | (apply SubR.same; with_reducible (focus ((repeat (first | exact Rem.here | apply Rem.there)); done))) | (apply SubR.blk; (focus ((repeat (first | exact Rem.here | apply Rem.there)); done))) | (apply SubR.pick; (focus ((repeat (first | exact Rem.here | apply Rem.there)); done))) | rfl))
  · rintro g ⟨_, h⟩
    rw [hxl] at h; omega
  · rintro _ k ⟨i, a, c⟩ hk ⟨rfl, hi⟩
    dsimp only at hi ⊢
    subst hi
    refine sy_fact (fun w' hh => (⟨Row.cap hh (Has.there Has.here), Row.nil hh (Has.there Has.here)⟩ : i ≤ c ∧ (a = none → c = 0 ∧ i = 0))) fun hcn => ?_
    obtain ⟨hcap, hnl⟩ := hcn
    have hFi := hNl i
    repeat' (first | refine sy_seqC ?_ | refine syl_nil ?_ | refine sy_if_t rfl ?_ | refine sy_if_f rfl ?_ | refine sy_block ?_ | refine sy_skip ?_ | refine sy_ret ?_ | refine sy_exit ?_ | refine sy_label ?_ | refine syx_then ?_ | refine syx_go ?_ | refine syx_then_ret ?_ | refine syx_then_exit ?_ | refine syx_in ?_ | refine syx_in_ret ?_ | refine syx_in_here ?_ | refine syx_in_past rfl ?_ | (apply syx_begin; (focus ((repeat (first | exact Rem.here | apply Rem.there)); done)); assumption) | refine sy_scope ?_ | refine syx_ng_n ?_ | refine syx_ng_r ?_ | refine syx_ng_x ?_ | (refine sy_region (id := 8) ?_; try refine y_load ?_; try (refine ys (op_call0 (hc := fun w' X hk hh => clone_fn a i c (F i) w' hFi (by omega) ((Rd.row (Has.there Has.here)) w' X hk hh) hnl)) (k := ?_); rintro _ _ ⟨R, rfl, ac, kc, rfl, rfl⟩); try refine y_assign ?_) | (refine syl_id ?_; first | (refine ys (op_call0 (hc := fun w' X hk hh => clone_fn a i c (F i) w' hFi (by omega) ((Rd.row (Has.there Has.here)) w' X hk hh) hnl)) (k := ?_); rintro _ _ ⟨R, rfl, ac, kc, rfl, rfl⟩) | refine y_assign ?_ | refine y_load ?_ | fail) | refine sy_region ?_ | fail)
    exact ret1 rfl (resTmp rfl) (by (repeat' (first | exact SubR.nil | (apply SubR.same; with_reducible (focus ((repeat (first | exact Rem.here | apply Rem.there)); done))) | (apply SubR.blk; (focus ((repeat (first | exact Rem.here | apply Rem.there)); done))) | (apply SubR.pick; (focus ((repeat (first | exact Rem.here | apply Rem.there)); done))) | rfl))) ⟨_, _, rfl, rfl⟩
end Go.Proofs.YtcahnkdnhejkkaaDoor
