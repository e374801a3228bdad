/- Layer random, walked: hashes of the state, blocks, first bytes. -/
import Derived.Test.YtcahnkdnhejkkaaDoorDer2
set_option linter.all false
namespace Go.Sh
open Go Go.Sy
def rblk (s : List UInt8) (i : Nat) : List UInt8 := hmac s (1 :: four i)
def rafter (s : List UInt8) : List UInt8 := hmac s [0]
def rfork (s label : List UInt8) : List UInt8 := hmac s (2 :: label)
def rnew (seed : List UInt8) : List UInt8 := hmac [119, 97, 116, 99, 104, 119, 111, 114, 100] seed
/-- The blocks, numbered from 1, as 'rows' has them. -/
def rf (s : List UInt8) (i : Nat) : List UInt8 := rblk s (i - 1)
def rblks (s : List UInt8) (q : Nat) : List (List UInt8) := (List.range q).map (rblk s)
theorem rblks_len (s : List UInt8) (q : Nat) : (rblks s q).length = q := by unfold rblks; simp
theorem rblks_get (s : List UInt8) (q k : Nat) (h : k < (rblks s q).length) : (rblks s q)[k] = rblk s k := by
  have : (rblks s q)[k]? = some (rblk s k) := by
    rw [rblks_len] at h
    unfold rblks; rw [List.getElem?_map, List.getElem?_range h]; rfl
  rw [List.getElem?_eq_getElem h] at this
  exact Option.some.inj this
def ArgL (T : Nat) (_ : Nat → Prop) (x : List UInt8) (vs : List Value) (RA : List Res) (_ : World) : Prop := ∃ b, vs = [.slice (some ⟨b, 0, none⟩) 32 32] ∧ RA = [.blk b T (x.map Sy.v8)]
end Go.Sh
namespace Go.Proofs.YtcahnkdnhejkkaaDoor
open Go Go.Sy Go.Sh Go.RowKit
attribute [local irreducible] Sy SyL SyX Sy.Fn callFunc Sh.sum kxor kpad kbase macA HashIs MacIs hmac
set_option maxRecDepth 10000
/-- A byte string of the call's own, as a part. -/
def BsOk (w : World) (s : Bs) : Prop := s.l.length = s.n ∧ s.n ≤ s.c ∧ SlA w s.a (s.l.map Sy.v8) ∧ s.n ≤ 10000
theorem bs_blk {B0 : Nat} {M : Nat → Prop} {L : List Res} {w : World} {b T n : Nat} {l : List UInt8} (hh : Holds B0 M L w) (hL : Has L (.blk b T (l.map Sy.v8))) (hl : l.length = n) (hn : n ≤ 10000) : BsOk w ⟨some ⟨b, 0, none⟩, n, n, l⟩ :=
  ⟨hl, Nat.le_refl _, .inr ⟨b, 0, rfl, blk_range (hh.has hL) Seg.all⟩, hn⟩
theorem all1 {w : World} {x : Bs} (h : BsOk w x) : ∀ s ∈ [x], BsOk w s := fun s hs => by obtain rfl := List.mem_singleton.1 hs; exact h
theorem all2 {w : World} {x y : Bs} (h : BsOk w x) (k : BsOk w y) : ∀ s ∈ [x, y], BsOk w s := fun s hs => by
  rcases List.mem_cons.1 hs with rfl | hs
  · exact h
  · obtain rfl := List.mem_singleton.1 hs; exact k
theorem rblk_len (s : List UInt8) (i : Nat) : (rblk s i).length = 32 := hmac_len _ _
theorem rf_len (s : List UInt8) (i : Nat) : (rf s i).length = 32 := hmac_len _ _
theorem shrU (x k : Nat) (kk : IntKind) (h : k < 32) : Op.shift .shr .u32 (x : Int) kk (k : Int) = pure (.int .u32 ((x / 2 ^ k : Nat) : Int)) := by
  rw [shift_shr_any _ _ _ _ (Int.natCast_nonneg _)]; congr 2
  rw [Int.toNat_natCast, show min k IntKind.u32.bits = k from Nat.min_eq_left (Nat.le_of_lt h), Int.natCast_ediv, Int.natCast_pow]; rfl
theorem rhash_fn (s : List UInt8) (a1 : Option Addr) (m d : Nat) (xs : List Bs) (w : World) (hs : s.length = 32) (hp : PartsOk w a1 m xs) (hT : Tab w No) :
    Sy.Fn Tryd.prog 96 [.agg (s.map Sy.v8).toArray, .slice a1 m d] w No (Gives (.agg ((hmac s (Bs.cat xs)).map Sy.v8).toArray)) := by
  refine fn_enter Tryd.func96 rfl Tryd.ntmps96 (by simp) Holds.nil ?_
  have hy32 := hmac_len s (Bs.cat xs)
  have hhm := fun (w' : World) (a : Option Addr) (hk : Keep No w w') (hsl : SlA w' a (s.map Sy.v8)) => hm_fn a a1 32 32 m d s xs w' hs (by decide) (by decide) hsl (hp.keep hk).1 (hp.keep hk).2.1 (hp.keep hk).2.2.1 (hp.keep hk).2.2.2 (hT.no hk)
  generalize hmac s (Bs.cat xs) = y at *
  repeat' (first | refine sy_seqC ?_ | refine syl_nil ?_ | refine sy_if_t rfl ?_ | refine sy_if_f rfl ?_ | refine sy_block ?_ | refine sy_skip ?_ | refine sy_ret ?_ | refine sy_exit ?_ | refine sy_label ?_ | refine syx_then ?_ | refine syx_go ?_ | refine syx_then_ret ?_ | refine syx_then_exit ?_ | refine syx_in ?_ | refine syx_in_ret ?_ | refine syx_in_here ?_ | refine syx_in_past rfl ?_ | (apply syx_begin; (focus ((repeat (first | exact Rem.here | apply Rem.there)); done)); assumption) | (refine sy_region (id := 0) ?_; try (refine y_new ?_; intro _); try (refine y_new ?_; intro _)) | (refine sy_region (id := 1) ?_; try refine y_slice ?_; try refine y_move ?_; try (first | refine yv (op_callV (hc := fun w' X hk hh => hhm w' _ hk ((Rd.of (Reads.blk Has.here Seg.all)) w' X hk hh))) (k := ?_) | refine yv (op_callV (hc := fun w' X hk hh => hhm w' _ hk ((Rd.of (Reads.blk (Has.there Has.here) Seg.all)) w' X hk hh))) (k := ?_) | fail); try refine y_move ?_; try refine y_extract ?_; try refine y_extract ?_; try (refine y_new ?_; intro _); try refine y_store ?_; try refine y_assign ?_) | (refine sy_region (id := 2) ?_; try refine y_load ?_; try refine y_store ?_) | (refine syl_id ?_; first | refine yv (op_callV (hc := fun w' X hk hh => hhm w' _ hk ((Rd.of (Reads.blk Has.here Seg.all)) w' X hk hh))) (k := ?_) | refine yv (op_callV (hc := fun w' X hk hh => hhm w' _ hk ((Rd.of (Reads.blk (Has.there Has.here) Seg.all)) w' X hk hh))) (k := ?_) | refine y_assign ?_ | refine y_extract ?_ | refine y_load ?_ | refine y_move ?_ | refine y_slice ?_ | refine y_store ?_ | (refine y_new ?_; intro _) | fail) | refine sy_region ?_ | fail)
  exact ret1 rfl (resCells rfl (ty rfl) rfl (by repeat (first | exact Has.here | apply Has.there)) Seg.all (by first | rfl | (simp only [List.length_map, List.length_set, List.length_replicate, List.length_append]; omega) | (simp only [List.length_map]; first | assumption | omega) | (simp; omega) | fail)) SubR.nil ⟨rfl, rfl⟩
theorem rblocks1_it (b1 : Nat) (s : List UInt8) (q : Nat) (w : World) (M : Nat → Prop) (hs : s.length = 32) (hr : w.rangeAt b1 0 (s.map Sy.v8)) (hn : ¬ M b1) (hq : q < 100000) (hT : Tab w M) :
    IterE True Tryd.prog 111 [.pointer (some ⟨b1, 0, none⟩)] (rblks s q) (ArgL 105) w M [] := by
  intro lp J Jx j0 hnv hJ0 hh hY
  have hnv := hnv trivial
  rw [rblks_len] at hnv
  refine fn_enter Tryd.func111 rfl Tryd.ntmps111 (by simp) hh ?_
  repeat' (first | refine sy_seqC ?_ | refine syl_nil ?_ | refine sy_if_t rfl ?_ | refine sy_if_f rfl ?_ | refine sy_block ?_ | refine sy_skip ?_ | refine sy_ret ?_ | refine sy_exit ?_ | refine sy_label ?_ | refine syx_then ?_ | refine syx_go ?_ | refine syx_then_ret ?_ | refine syx_then_exit ?_ | refine syx_in ?_ | refine syx_in_ret ?_ | refine syx_in_here ?_ | refine syx_in_past rfl ?_ | (apply syx_begin; (focus ((repeat (first | exact Rem.here | apply Rem.there)); done)); assumption) | (refine sy_region (id := 0) ?_; try refine y_assign ?_) | (refine syl_id ?_; first | refine y_assign ?_ | fail) | fail)
  refine sy_loop (γ := Nat × Res) (fun g => [(0, .func (.yield lp) #[] #[]), (1, .pointer (some ⟨b1, 0, none⟩)), (3, .int .u32 (g.1 : Nat))]) (fun g => [g.2]) (fun g => g.1 ≤ q ∧ J g.1 g.2) (fun g => q - g.1) (0, j0) ⟨Nat.zero_le _, hJ0⟩ ?_ ?_ ?_
  · (repeat' (first | exact Sub.nil | refine Sub.cons rfl ?_ ?_ | rfl))
  · (repeat' (first | exact SubR.nil | (apply SubR.same; with_reducible (focus ((repeat (first | exact Rem.here | apply Rem.there)); done))) | (apply SubR.blk; (focus ((repeat (first | exact Rem.here | apply Rem.there)); done))) | (apply SubR.pick; (focus ((repeat (first | exact Rem.here | apply Rem.there)); done))) | rfl))
  rintro ⟨k, j⟩ ⟨hk, hJ⟩
  dsimp only at hk hJ ⊢
  have hkq : k < q := by
    rcases Nat.lt_or_ge k q with h | h
    · exact h
    · obtain rfl : k = q := by omega
      exact (hnv j hJ).elim
  have hxl : k < (rblks s q).length := by rw [rblks_len]; exact hkq
  have hx : (rblks s q)[k] = rblk s k := rblks_get s q k hxl
  have hf := rblk_len s k
  have hb : ∀ (w' : World) (a1 : Option Addr) (xs : List Bs), Bs.cat xs = 1 :: four k → PartsOk w' a1 2 xs → Tab w' No → Sy.Fn Tryd.prog 96 [.agg (s.map Sy.v8).toArray, .slice a1 2 2] w' No (Gives (.agg ((rblk s k).map Sy.v8).toArray)) := fun w' a1 xs hc hp hT => by
    have := rhash_fn s a1 2 2 xs w' hs hp hT
    rw [hc] at this; exact this
  generalize rblk s k = y at *
  repeat' (first | refine sy_seqC ?_ | refine syl_nil ?_ | refine sy_if_t rfl ?_ | refine sy_if_f rfl ?_ | refine sy_block ?_ | refine sy_skip ?_ | refine sy_ret ?_ | refine sy_exit ?_ | refine sy_label ?_ | refine syx_then ?_ | refine syx_go ?_ | refine syx_then_ret ?_ | refine syx_then_exit ?_ | refine syx_in ?_ | refine syx_in_ret ?_ | refine syx_in_here ?_ | refine syx_in_past rfl ?_ | (apply syx_begin; (focus ((repeat (first | exact Rem.here | apply Rem.there)); done)); assumption) | (refine sy_region (id := 2) ?_; try (first | refine yv (op_loads_old (hv := hr) (hn := hn)) (k := ?_) | refine y_load ?_ | fail); try (first | (refine ys op_buildSlice0 (k := ?_); rintro _ _ ⟨_, rfl, rfl⟩) | (refine ys op_buildSlice (k := ?_); rintro _ _ ⟨_, rfl, rfl⟩) | fail); try refine y_move ?_; try (first | refine yv (op_shr (hr := shrU k 24 _ (by decide))) (k := ?_) | refine yv (op_shr (hr := shrU k 16 _ (by decide))) (k := ?_) | refine yv (op_shr (hr := shrU k 8 _ (by decide))) (k := ?_) | fail); try (first | refine yv (op_conv (hr := v8_of _)) (k := ?_) | refine y_convert ?_ | fail); try refine y_move ?_; try (first | refine yv (op_shr (hr := shrU k 24 _ (by decide))) (k := ?_) | refine yv (op_shr (hr := shrU k 16 _ (by decide))) (k := ?_) | refine yv (op_shr (hr := shrU k 8 _ (by decide))) (k := ?_) | fail); try (first | refine yv (op_conv (hr := v8_of _)) (k := ?_) | refine y_convert ?_ | fail); try refine y_move ?_; try (first | refine yv (op_shr (hr := shrU k 24 _ (by decide))) (k := ?_) | refine yv (op_shr (hr := shrU k 16 _ (by decide))) (k := ?_) | refine yv (op_shr (hr := shrU k 8 _ (by decide))) (k := ?_) | fail); try (first | refine yv (op_conv (hr := v8_of _)) (k := ?_) | refine y_convert ?_ | fail); try refine y_move ?_; try (first | refine yv (op_conv (hr := v8_of _)) (k := ?_) | refine y_convert ?_ | fail); try (first | (refine ys op_buildSlice0 (k := ?_); rintro _ _ ⟨_, rfl, rfl⟩) | (refine ys op_buildSlice (k := ?_); rintro _ _ ⟨_, rfl, rfl⟩) | fail); try (first | (refine ys op_buildSlice0 (k := ?_); rintro _ _ ⟨_, rfl, rfl⟩) | (refine ys op_buildSlice (k := ?_); rintro _ _ ⟨_, rfl, rfl⟩) | fail); try (refine y_new ?_; intro _); try refine y_store ?_) | (refine syl_id ?_; first | refine yv (op_loads_old (hv := hr) (hn := hn)) (k := ?_) | refine yv (op_shr (hr := shrU k 24 _ (by decide))) (k := ?_) | refine yv (op_shr (hr := shrU k 16 _ (by decide))) (k := ?_) | refine yv (op_shr (hr := shrU k 8 _ (by decide))) (k := ?_) | refine yv (op_conv (hr := v8_of _)) (k := ?_) | refine y_convert ?_ | refine y_load ?_ | refine y_move ?_ | refine y_store ?_ | (refine y_new ?_; intro _) | (refine ys op_buildSlice0 (k := ?_); rintro _ _ ⟨_, rfl, rfl⟩) | (refine ys op_buildSlice (k := ?_); rintro _ _ ⟨_, rfl, rfl⟩) | fail) | fail)
  rename_i b8 b20 b21
  refine yv (op_callV (hc := fun w' X hk hh => hb w' _ [⟨some ⟨b8, 0, none⟩, 1, 1, [1]⟩, ⟨some ⟨b20, 0, none⟩, 4, 4, four k⟩] rfl (parts_blk (m := 2) hh Has.here rfl (by decide) (all2 (bs_blk (T := 5) hh (by exact Has.there (Has.there Has.here)) rfl (by decide)) (bs_blk (T := 5) hh (by exact Has.there Has.here) rfl (by decide)))) (hT.no hk))) (k := ?_)
  repeat' (first | refine sy_seqC ?_ | refine syl_nil ?_ | refine sy_if_t rfl ?_ | refine sy_if_f rfl ?_ | refine sy_block ?_ | refine sy_skip ?_ | refine sy_ret ?_ | refine sy_exit ?_ | refine sy_label ?_ | refine syx_then ?_ | refine syx_go ?_ | refine syx_then_ret ?_ | refine syx_then_exit ?_ | refine syx_in ?_ | refine syx_in_ret ?_ | refine syx_in_here ?_ | refine syx_in_past rfl ?_ | (apply syx_begin; (focus ((repeat (first | exact Rem.here | apply Rem.there)); done)); assumption) | (refine sy_region (id := 2) ?_; try refine y_load ?_; try (first | (refine ys op_buildSlice0 (k := ?_); rintro _ _ ⟨_, rfl, rfl⟩) | (refine ys op_buildSlice (k := ?_); rintro _ _ ⟨_, rfl, rfl⟩) | fail); try refine y_move ?_; try refine y_convert ?_; try refine y_move ?_; try refine y_convert ?_; try refine y_move ?_; try refine y_convert ?_; try refine y_move ?_; try refine y_convert ?_; try (first | (refine ys op_buildSlice0 (k := ?_); rintro _ _ ⟨_, rfl, rfl⟩) | (refine ys op_buildSlice (k := ?_); rintro _ _ ⟨_, rfl, rfl⟩) | fail); try (first | (refine ys op_buildSlice0 (k := ?_); rintro _ _ ⟨_, rfl, rfl⟩) | (refine ys op_buildSlice (k := ?_); rintro _ _ ⟨_, rfl, rfl⟩) | fail); try (refine y_new ?_; intro _); try refine y_store ?_) | (refine syl_id ?_; first | refine y_convert ?_ | refine y_load ?_ | refine y_move ?_ | refine y_store ?_ | (refine y_new ?_; intro _) | (refine ys op_buildSlice0 (k := ?_); rintro _ _ ⟨_, rfl, rfl⟩) | (refine ys op_buildSlice (k := ?_); rintro _ _ ⟨_, rfl, rfl⟩) | fail) | fail)
  rename_i b4
  repeat' (first | refine sy_seqC ?_ | refine syl_nil ?_ | refine sy_if_t rfl ?_ | refine sy_if_f rfl ?_ | refine sy_block ?_ | refine sy_skip ?_ | refine sy_ret ?_ | refine sy_exit ?_ | refine sy_label ?_ | refine syx_then ?_ | refine syx_go ?_ | refine syx_then_ret ?_ | refine syx_then_exit ?_ | refine syx_in ?_ | refine syx_in_ret ?_ | refine syx_in_here ?_ | refine syx_in_past rfl ?_ | (apply syx_begin; (focus ((repeat (first | exact Rem.here | apply Rem.there)); done)); assumption) | (refine sy_region (id := 3) ?_; try refine y_move ?_; try refine y_slice ?_; try (refine ys (op_yield hY hxl hJ (hL := RemL.cons (by exact Rem.there (Rem.there (Rem.there (Rem.there Rem.here)))) rfl (RemL.cons (by exact Rem.here) rfl RemL.nil)) (harg := fun w' X _ _ => by rw [hx]; exact ⟨b4, rfl, rfl⟩)) (k := ?_); rintro _ _ ⟨y', j', rfl, rfl, hy⟩; cases y'); try refine y_unOp ?_) | (refine syl_id ?_; first | (refine ys (op_yield hY hxl hJ (hL := RemL.cons (by exact Rem.there (Rem.there (Rem.there (Rem.there Rem.here)))) rfl (RemL.cons (by exact Rem.here) rfl RemL.nil)) (harg := fun w' X _ _ => by rw [hx]; exact ⟨b4, rfl, rfl⟩)) (k := ?_); rintro _ _ ⟨y', j', rfl, rfl, hy⟩; cases y') | refine y_move ?_ | refine y_slice ?_ | refine y_unOp ?_ | fail) | fail)
  · repeat' (first | refine sy_seqC ?_ | refine syl_nil ?_ | refine sy_if_t rfl ?_ | refine sy_if_f rfl ?_ | refine sy_block ?_ | refine sy_skip ?_ | refine sy_ret ?_ | refine sy_exit ?_ | refine sy_label ?_ | refine syx_then ?_ | refine syx_go ?_ | refine syx_then_ret ?_ | refine syx_then_exit ?_ | refine syx_in ?_ | refine syx_in_ret ?_ | refine syx_in_here ?_ | refine syx_in_past rfl ?_ | (apply syx_begin; (focus ((repeat (first | exact Rem.here | apply Rem.there)); done)); assumption) | (refine sy_region (id := 3) ?_; try refine y_move ?_; try refine y_slice ?_; try refine y_unOp ?_) | (refine syl_id ?_; first | refine y_move ?_ | refine y_slice ?_ | refine y_unOp ?_ | fail) | refine sy_region ?_ | fail)
    exact ret0 rfl (by (repeat' (first | exact SubR.nil | (apply SubR.same; with_reducible (focus ((repeat (first | exact Rem.here | apply Rem.there)); done))) | (apply SubR.blk; (focus ((repeat (first | exact Rem.here | apply Rem.there)); done))) | (apply SubR.pick; (focus ((repeat (first | exact Rem.here | apply Rem.there)); done))) | rfl))) ⟨j', rfl, .inr ⟨k + 1, by omega, hy⟩⟩
  · have hadd : IntKind.u32.wrap ((k : Int) + 1) = ((k + 1 : Nat) : Int) := by rw [IntWalk.u32_in _ (by omega)]; omega
    repeat' (first | refine sy_seqC ?_ | refine syl_nil ?_ | refine sy_if_t rfl ?_ | refine sy_if_f rfl ?_ | refine sy_block ?_ | refine sy_skip ?_ | refine sy_ret ?_ | refine sy_exit ?_ | refine sy_label ?_ | refine syx_then ?_ | refine syx_go ?_ | refine syx_then_ret ?_ | refine syx_then_exit ?_ | refine syx_in ?_ | refine syx_in_ret ?_ | refine syx_in_here ?_ | refine syx_in_past rfl ?_ | (apply syx_begin; (focus ((repeat (first | exact Rem.here | apply Rem.there)); done)); assumption) | (refine sy_region (id := 1) ?_; try refine y_move ?_; try (first | refine yv (op_add (hr := hadd)) (k := ?_) | refine y_add ?_ | fail); try refine y_assign ?_) | (refine syl_id ?_; first | refine yv (op_add (hr := hadd)) (k := ?_) | refine y_assign ?_ | refine y_add ?_ | refine y_move ?_ | fail) | refine sy_region ?_ | fail)
    refine syx_back (k + 1, j') ⟨hkq, hy⟩ ?_ ?_ ?_
    · show q - (k + 1) < q - k; omega
    · (repeat' (first | exact Sub.nil | refine Sub.cons rfl ?_ ?_ | rfl))
    · (repeat' (first | exact SubR.nil | (apply SubR.same; with_reducible (focus ((repeat (first | exact Rem.here | apply Rem.there)); done))) | (apply SubR.blk; (focus ((repeat (first | exact Rem.here | apply Rem.there)); done))) | (apply SubR.pick; (focus ((repeat (first | exact Rem.here | apply Rem.there)); done))) | rfl))
theorem rblocks_fn (s : List UInt8) (w : World) : Sy.Fn Tryd.prog 109 [.agg (s.map Sy.v8).toArray] w No (fun v R => ∃ b1, v = .func (.func 111) #[] #[.pointer (some ⟨b1, 0, none⟩)] ∧ R = [.blk b1 105 (s.map Sy.v8)]) := by
  refine fn_enter Tryd.func109 rfl Tryd.ntmps109 (by simp) Holds.nil ?_
  repeat' (first | refine sy_seqC ?_ | refine syl_nil ?_ | refine sy_if_t rfl ?_ | refine sy_if_f rfl ?_ | refine sy_block ?_ | refine sy_skip ?_ | refine sy_ret ?_ | refine sy_exit ?_ | refine sy_label ?_ | refine syx_then ?_ | refine syx_go ?_ | refine syx_then_ret ?_ | refine syx_then_exit ?_ | refine syx_in ?_ | refine syx_in_ret ?_ | refine syx_in_here ?_ | refine syx_in_past rfl ?_ | (apply syx_begin; (focus ((repeat (first | exact Rem.here | apply Rem.there)); done)); assumption) | (refine sy_region (id := 0) ?_; try (refine y_new ?_; intro _); try refine y_assign ?_) | (refine sy_region (id := 1) ?_; try refine y_makeFunc ?_; try refine y_assign ?_) | (refine syl_id ?_; first | refine y_assign ?_ | refine y_makeFunc ?_ | (refine y_new ?_; intro _) | fail) | refine sy_region ?_ | fail)
  exact ret1 rfl (resTmp rfl) (by (repeat' (first | exact SubR.nil | (apply SubR.same; with_reducible (focus ((repeat (first | exact Rem.here | apply Rem.there)); done))) | (apply SubR.blk; (focus ((repeat (first | exact Rem.here | apply Rem.there)); done))) | (apply SubR.pick; (focus ((repeat (first | exact Rem.here | apply Rem.there)); done))) | rfl))) ⟨_, rfl, rfl⟩
end Go.Proofs.YtcahnkdnhejkkaaDoor
