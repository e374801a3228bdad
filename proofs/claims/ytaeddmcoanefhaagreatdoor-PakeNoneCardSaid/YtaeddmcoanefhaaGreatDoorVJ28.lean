/- Layer sha's functions, walked: the hash of a string, the hash in progress, the blocks. -/
import Derived.Test.YtaeddmcoanefhaaGreatDoorVJ26
import Derived.Test.YtaeddmcoanefhaaGreatDoorVJ27
import Derived.Test.YtaeddmcoanefhaaGreatDoorVJ25
import Derived.Test.YtaeddmcoanefhaaGreatDoorVJ07
set_option linter.all false
section
namespace Go.Proofs.YtaeddmcoanefhaaGreatDoor
open Go Go.Sy Go.Sh Go.RowKit
attribute [local irreducible] Sy SyL SyX Sy.Fn callFunc
set_option maxRecDepth 10000
structure Tab (w : World) (M : Nat → Prop) : Prop where
  start : w.rangeAt 1 0 (h0.map Sy.v32)
  konst : w.rangeAt 2 0 (kC.map Sy.v32)
  ns : ¬ M 1
  nk : ¬ M 2
theorem Tab.to {w0 w : World} {M Mi : Nat → Prop} (h : Tab w0 M) (hk : Keep M w0 w) (hm : ∀ b, Mi b → w0.heap.size ≤ b ∨ M b) : Tab w Mi := by
  obtain ⟨a1, a2⟩ := range_to h.start (by decide) h.ns hk hm
  obtain ⟨a3, a4⟩ := range_to h.konst (by decide) h.nk hk hm
  exact ⟨a1, a3, a2, a4⟩
theorem Tab.no {w0 w : World} {M : Nat → Prop} (h : Tab w0 M) (hk : Keep M w0 w) : Tab w No := h.to hk (fun _ h => h.elim)
theorem shadd_fn (S T o b bo : Nat) (C : List Value) (s : List UInt32) (blk : List UInt8) (w : World) (hs : s.length = 8) (hb : blk.length = 64) (hC : (Res.blk S T C).holds w) (hseg : Seg C o (s.map Sy.v32)) (ho : o + 8 ≤ C.length)
    (hB : w.rangeAt b bo (blk.map Sy.v8)) (hK : w.rangeAt 2 0 (kC.map Sy.v32)) :
    Sy.Fn Tryz.prog 110 [.pointer (some ⟨S, o, none⟩), .slice (some ⟨b, bo, none⟩) 64 64] w (fun x => x = S) (fun v R => v = .tuple #[] ∧ R = [.blk S T (setSeg C o ((compress s blk).map Sy.v32))]) := by
  have h := add_any S o b bo s blk w hs hb (blk_range hC hseg) (blk_there hC ho) hB hK
  unfold Sy.Fn
  refine Calls.mono h ?_
  rintro e w' ⟨rfl, hw⟩
  have hsz : (w.setCells S o ((compress s blk).map Sy.v32)).heap.size = w.heap.size := Go.Wd.size_setCells S _ o w
  have hk1 := Sy.Keep.setCells S ((compress s blk).map Sy.v32) o w
  have hk2 : Sy.Keep (fun x => x = S) (w.setCells S o ((compress s blk).map Sy.v32)) w' := Sy.Keep.of_below (by rw [hsz]; exact hw)
  have hb1 := blk_setCells ((compress s blk).map Sy.v32) C o w hC (by rw [List.length_map, compress_len _ _ hs]; exact ho)
  refine ⟨_, _, rfl, ⟨rfl, rfl⟩, hk1.trans hk2 (fun x hx => .inr hx), ⟨?_, List.pairwise_singleton _ _, ?_⟩⟩
  · intro r hr
    obtain rfl := List.mem_singleton.1 hr
    refine Res.holds_congr hb1 fun x hx => ?_
    have hx : S = x := hx
    subst hx
    exact hw.block _ (Res.own_lt hC rfl)
  · intro r hr x hx
    obtain rfl := List.mem_singleton.1 hr
    exact .inr (Eq.symm hx)
theorem add_fn0 (S T b bo : Nat) (s : List UInt32) (blk : List UInt8) (w : World) (hs : s.length = 8) (hb : blk.length = 64) (hC : (Res.blk S T (s.map Sy.v32)).holds w)
    (hB : w.rangeAt b bo (blk.map Sy.v8)) (hK : w.rangeAt 2 0 (kC.map Sy.v32)) :
    Sy.Fn Tryz.prog 110 [.pointer (some ⟨S, 0, none⟩), .slice (some ⟨b, bo, none⟩) 64 64] w (fun x => x = S) (fun v R => v = .tuple #[] ∧ R = [.blk S T ((compress s blk).map Sy.v32)]) := by
  have h := shadd_fn S T 0 b bo _ s blk w hs hb hC Seg.all (by simp [hs]) hB hK
  rw [setSeg_all (by simp [hs, compress_len s blk hs])] at h
  exact h
theorem fold_take_succ (s : List UInt32) (bs : List (List UInt8)) (k : Nat) (h : k < bs.length) : fold s (bs.take (k + 1)) = compress (fold s (bs.take k)) bs[k] := by
  rw [List.take_succ_eq_append_getElem h, Sh.fold_snoc]
set_option maxHeartbeats 1000000 in
theorem shsum_fn (a0 : Option Addr) (n c : Nat) (l : List UInt8) (w : World) (hn : l.length = n) (hc : n ≤ c) (hb : n < 1000000000000) (hsl : SlA w a0 (l.map Sy.v8)) (hT : Tab w No) :
    Sy.Fn Tryz.prog 89 [.slice a0 n c] w No (Gives (.agg ((sum l).map Sy.v8).toArray)) := by
  refine fn_enter Tryz.func89 rfl Tryz.ntmps89 (by simp) Holds.nil ?_
  have hstart := hT.start
  repeat' (first | refine sy_seqC ?_ | refine syl_nil ?_ | refine syx_then ?_ | refine syx_go ?_ | (refine sy_region (id := 0) ?_; (refine y_new ?_; intro _)) | (refine sy_region (id := 1) ?_; refine y_load ?_; (refine y_new ?_; intro _); refine y_store ?_) | (refine sy_region (id := 2) ?_; refine y_move ?_; refine y_move ?_; refine y_len ?_) | fail)
  rename_i bo bs
  refine ys (op_call0 (hc := fun w' X hk hh => padded_fn _ _ w' rfl)) (k := ?_)
  rintro _ _ ⟨R, rfl, b1, b2, rfl, rfl⟩
  repeat' (first | refine syl_nil ?_ | refine sy_block ?_ | refine syx_then ?_ | refine syx_go ?_ | fail)
  refine sy_range (γ := Nat) (xs := blocks l n) (Arg := ArgB) entered_outer rfl (en rfl) rfl (fun k s => s = k) (fun _ _ _ => False) (fun k => [.blk bs 126 ((fold h0 ((blocks l n).take k)).map Sy.v32)])
    [.blk b1 22 [.slice a0 n c], .blk b2 3 [.int .i64 n]] [.blk bo 37 (List.replicate 32 (.int .u8 0))] 0 rfl ?_ ?_ ?_ ?_ ?_ ?_
  · exact (List.perm_append_comm (l₁ := [_, _]) (l₂ := [_])).append_right _
  · exact fun w' Mi X hk hm _ _ => padded1_it b1 b2 a0 n c n l w' Mi hn hc (by omega) (hsl.to hk hm)
  · rintro O x vs RA w' ⟨b, o, rfl, _⟩; rfl
  · rintro lp k hk s vs RA W rec hrec rfl ⟨b, o, rfl, rfl, hrd, hno⟩ hkW hmine
    have hT' := hT.to hkW hmine
    have hl8 : (fold h0 ((blocks l n).take s)).length = 8 := fold_len _ _ rfl
    have hl64 : (blocks l n)[s].length = 64 := blocks_all _ _ _ (List.getElem_mem hk)
    have hfs := fold_take_succ h0 (blocks l n) s hk
    generalize fold h0 ((blocks l n).take s) = st at *
    generalize (blocks l n)[s] = x at *
    have hcl := compress_len st x hl8
    repeat' (first | refine syl_nil ?_ | refine sy_block ?_ | refine syx_then ?_ | refine syx_in ?_ | (apply syx_begin; (focus ((repeat (first | exact Rem.here | apply Rem.there)); done)); assumption) | (refine sy_region (id := 3) ?_; refine y_assign ?_) | (refine sy_region (id := 4) ?_; refine y_move ?_; refine yv (op_callB (hc := fun w' X hk hh => add_fn0 bs 126 b o st x w' hl8 hl64 (hh.has (Has.append (Has.there Has.here))) (range_keep hrd hk hno) (hT'.no hk).konst)) (k := ?_)) | fail)
    refine syx_rnd (s + 1) rfl ?_
    (repeat' (first | exact SubR.nil | (apply SubR.same; with_reducible (focus ((repeat (first | exact Rem.here | apply Rem.there)); done))) | (apply SubR.blk; (focus ((repeat (first | exact Rem.here | apply Rem.there)); done))) | (apply SubR.pick; (focus ((repeat (first | exact Rem.here | apply Rem.there)); done))) | rfl))
    rw [hfs]
  · rintro s rfl
    rw [List.take_length]
    have hf8 : (fold h0 (blocks l n)).length = 8 := fold_len _ _ rfl
    have hsum : ser (fold h0 (blocks l n)) = sum l := by subst hn; rfl
    generalize fold h0 (blocks l n) = st at *
    have hs32 : (ser st).length = 32 := by rw [ser_len, hf8]
    repeat' (first | refine sy_seqC ?_ | refine syl_nil ?_ | refine sy_ret ?_ | refine syx_then ?_ | refine syx_go ?_ | (refine sy_region (id := 5) ?_; refine y_load ?_; refine yv (op_callV (hc := fun w' _ _ _ => bytes_any st w' hf8)) (k := ?_); refine y_store ?_) | fail)
    exact ret1 rfl (resCells rfl (ty rfl) rfl Has.go Seg.all (by first | rfl | (simp only [List.length_map, List.length_set, List.length_replicate, List.length_append]; omega) | (simp only [List.length_map]; first | assumption | omega) | (simp; omega) | fail)) SubR.nil ⟨by rw [hsum], rfl⟩
  · exact fun _ _ _ _ h => h.elim
theorem sum_len (l : List UInt8) : (Sh.sum l).length = 32 := by
  unfold Sh.sum; rw [ser_len, fold_len _ _ rfl]
end Go.Proofs.YtaeddmcoanefhaaGreatDoor
end
section
namespace Go.Proofs.YtaeddmcoanefhaaGreatDoor
open Go Go.Sy Go.Wd Go.Sh Go.RowKit
theorem gStart : Tryz.prog.globalNamed "watchword/sha.start" = some 1 := by kernel_rfl
theorem gKonst : Tryz.prog.globalNamed "watchword/sha.constants" = some 2 := by kernel_rfl
theorem tyStart : (Tryz.prog.globals[1]?).map (·.type) = some 126 := by kernel_rfl
theorem tyKonst : (Tryz.prog.globals[2]?).map (·.type) = some 174 := by kernel_rfl
theorem dStart : (Rows.laid_watchword_sha_start : DataW Unit) = Lib.tabData .u32 (h0.map n32) := by kernel_rfl
theorem dKonst : (Rows.laid_watchword_sha_constants : DataW Unit) = Lib.tabData .u32 (kC.map n32) := by kernel_rfl
theorem undStart : Tryz.prog.underlying 126 = some (.array 8 124) := by kernel_rfl
theorem undKonst : Tryz.prog.underlying 174 = some (.array 64 124) := by kernel_rfl
theorem undU32 : Tryz.prog.underlying 124 = some (.int .u32) := by kernel_rfl
theorem cellsU32 : Tryz.prog.cellsOf 124 = 1 := by kernel_rfl
theorem cellsStart : Tryz.prog.cellsOf 126 = 8 := by kernel_rfl
theorem cellsKonst : Tryz.prog.cellsOf 174 = 64 := by kernel_rfl
theorem tab_of {W : World} {l : List (String × DataW Unit)} (h : laidMet Tryz.prog l W) (h1 : ("watchword/sha.start", Rows.laid_watchword_sha_start) ∈ l) (h2 : ("watchword/sha.constants", Rows.laid_watchword_sha_constants) ∈ l) : Tab W No := by
  rw [dStart] at h1
  rw [dKonst] at h2
  have a1 := laid_tab h h1 gStart tyStart undStart undU32 cellsU32 cellsStart
  have a2 := laid_tab h h2 gKonst tyKonst undKonst undU32 cellsU32 cellsKonst
  rw [List.map_map] at a1 a2
  exact ⟨a1, a2, fun h => h, fun h => h⟩
noncomputable def laidWorldP (os : Os) : World :=
  { laidWorldG os with heap := ((laidWorldG os).heap.modify 1 (putCells (h0.map Sy.v32))).modify 2 (putCells (kC.map Sy.v32)) }
end Go.Proofs.YtaeddmcoanefhaaGreatDoor
end
section
namespace Go.Sy
open Go
section
variable {P : Program} {ro : Option Nat} {N : Nat} {w0 : World} {M : Nat → Prop} {ds : List Deferred} {o : Oper} {g : Nat → Option Value} {L : List Res} {t : TypeId} {y : Ty}
theorem op_makeCap {e n c' : Nat} {lo co : Operand} {k1 k2 : IntKind} {z0 : Value} {l c : Int} {ye : Ty} (hnc : n ≤ c') (hln : l = (n : Int) := by exact rfl) (hcn : c = (c' : Int) := by exact rfl) (ho : o.op = .makeSlice t lo co := by exact rfl) (hl : ev g lo = some (.int k1 l) := by exact rfl) (hc : ev g co = some (.int k2 c) := by exact rfl) (ht : tyOf P t = some y := by exact ty rfl) (hy : y.desc = .slice e := by exact rfl) (he : tyOf P e = some ye := by exact ty rfl)
    (hz : zeroC P e = some [z0] := by exact zc rfl) (h1 : ye.size = 1 := by exact rfl) (hb : ye.bytes * c' ≤ 281474976710656 := by first | (dsimp only; omega) | omega | fail) (hm : c' ≤ maxLen := by first | (unfold maxLen; omega) | fail) :
    OpT P ro N w0 M ds o g L (fun v L' => ∃ b, v = .slice (some ⟨b, 0, none⟩) n c' ∧ L' = .blk b e (List.replicate c' z0) :: L) :=
  OpT.run (by rw [ho]; rfl) fun a w X hst => by
    obtain ⟨d, i', hd, hi', hs', _⟩ := tyOf_spec ht
    rw [hy] at hs'
    have := slim_slice hs'; subst this
    obtain ⟨de, ie, hde, hie, _, hez, heb, _⟩ := tyOf_spec he
    unfold zeroC at hz
    rw [hie] at hz
    simp only [Option.bind_some, Option.map_eq_some_iff] at hz
    obtain ⟨zv, hzv, hze⟩ := hz
    subst hln; subst hcn
    obtain ⟨h2, h3⟩ := alloc_holds hst e (List.replicate c' z0)
    refine ⟨_, _, w.alloc (.cells (List.replicate c' z0).toArray e), _, ?_, .inl rfl, ⟨w.heap.size, rfl, rfl⟩, h2, h3⟩
    have hm' : c' ≤ 9223372036854775807 := by unfold maxLen at hm; omega
    have hzs : zv.cells = #[z0] := Array.toList_inj.1 hze
    have hr := run_make (P := P) w t e ie zv hd hie hzv k1 k2 n c' (by omega) (by omega) (by rw [heb, ← Int.natCast_mul]; omega) (by omega)
    simp only [Int.toNat_natCast] at hr
    have e1 : madeCells zv.cells (c' * ie.size) = (List.replicate c' z0).toArray := by
      rw [hez, h1, Nat.mul_one, hzs]; exact Array.toList_inj.1 (toList_madeCells_one z0 c')
    rw [e1] at hr
    simp [execOp, ho, hst.agr.eval hl, hst.agr.eval hc, hr]
end
end Go.Sy
end
section
namespace Go.Nt
open Go Go.Sy
def memB (p q x : Nat) : Bool := decide (0 < x ∧ x < p ∧ x ^ q % p = 1)
def fixB (l x : Nat) : List UInt8 := List.replicate (l - nd 256 x) 0 ++ byt x
theorem fixB_len (l x : Nat) (h : nd 256 x ≤ l) : (fixB l x).length = l := by
  unfold fixB; rw [List.length_append, List.length_replicate, byt_len]; omega
end Go.Nt
namespace Go.Proofs.YtaeddmcoanefhaaGreatDoor
open Go Go.Sy Go.Nt Go.RowKit
attribute [local irreducible] Sy SyL SyX Sy.Fn callFunc natC rowN safeC gP gQ gL gS gCells memB
set_option maxRecDepth 10000
theorem power_fn (p q l x e : Nat) (w : World) (hp : p < 18446744073709551616 ^ 16) (h0 : 0 < p) (hx : x < 18446744073709551616 ^ 16) (he : e < 18446744073709551616 ^ 16) :
    Sy.Fn Tryz.prog 80 [safeV p q l, natV x, natV e] w No (Gives (natV (x ^ e % p))) := by
  refine fn_enter Tryz.func80 rfl Tryz.ntmps80 (by simp) Holds.nil ?_
  have lS := safeC_len p q l
  have lp := natC_len p
  have lx := natC_len x
  have le := natC_len e
  have hsp := safe_p p q l
  have hex := fun w' => exp_fn x e p w' hx he hp
  unfold modR at hex
  simp only [if_neg (show ¬ p = 0 by omega)] at hex
  have lr := natC_len (x ^ e % p)
  generalize x ^ e % p = r at *
  repeat' (first | refine sy_seqC ?_ | refine syl_nil ?_ | refine sy_ret ?_ | refine syx_then ?_ | refine syx_go ?_ | (refine sy_region (id := 0) ?_; (refine y_new ?_; intro _); (refine y_new ?_; intro _); (refine y_new ?_; intro _); (refine y_new ?_; intro _)) | (refine sy_region (id := 1) ?_; refine yv (op_loads (B := natC x)) (k := ?_); refine yv (op_loads (B := natC e)) (k := ?_); refine y_fieldAddr ?_; refine yv (op_loads (B := natC p) (hv := hsp)) (k := ?_); refine yv (op_callV (hc := fun _ _ _ _ => (hex _))) (k := ?_); refine y_move ?_; refine y_extract ?_; refine y_extract ?_; (refine y_new ?_; intro _); refine yn (op_storeNat (n := r)) (k := ?_); refine y_assign ?_) | (refine sy_region (id := 2) ?_; refine yv (op_loads (B := natC r)) (k := ?_); refine yn (op_storeNat (n := r)) (k := ?_)) | fail)
  exact ret1 rfl (resCells (B := natC r) rfl (ty rfl) rfl Has.go Seg.all (natC_len _).symm) SubR.nil ⟨rfl, rfl⟩
theorem scalar_fn (p q l x : Nat) (w : World) (hq : q < 18446744073709551616 ^ 16) (hx : x < 18446744073709551616 ^ 16) :
    Sy.Fn Tryz.prog 79 [safeV p q l, natV x] w No (Gives (.bool (decide (x < q)))) := by
  refine fn_enter Tryz.func79 rfl Tryz.ntmps79 (by simp) Holds.nil ?_
  have lS := safeC_len p q l
  have lq := natC_len q
  have lx := natC_len x
  have hsq := safe_q p q l
  have hc := fun w' => compare_fn x q w' hx hq
  have hr : decide (cmpI x q < 0) = decide (x < q) := decide_eq_decide.2 (by
    unfold cmpI
    by_cases h : x < q
    · rw [if_pos h]; exact ⟨fun _ => h, fun _ => by decide⟩
    · rw [if_neg h]; split <;> omega)
  repeat' (first | refine sy_seqC ?_ | refine syl_nil ?_ | refine sy_ret ?_ | refine syx_then ?_ | refine syx_go ?_ | (refine sy_region (id := 0) ?_; (refine y_new ?_; intro _); (refine y_new ?_; intro _); refine y_assign ?_) | (refine sy_region (id := 1) ?_; refine yv (op_loads (B := natC x)) (k := ?_); refine y_fieldAddr ?_; refine yv (op_loads (B := natC q) (hv := hsq)) (k := ?_); refine yv (op_callV (hc := fun _ _ _ _ => (hc _))) (k := ?_); refine yv (op_lss (hr := hr)) (k := ?_); refine y_assign ?_) | fail)
  exact ret1 rfl (resTmp rfl) SubR.nil ⟨rfl, rfl⟩
theorem cmpI_le0 {x y : Nat} (h : x ≤ y) : cmpI x y ≤ 0 := by
  unfold cmpI
  by_cases h1 : x < y
  · rw [if_pos h1]; decide
  · rw [if_neg h1]; split <;> omega
theorem element_fn (p q l x : Nat) (w : World) (hp : p < 18446744073709551616 ^ 16) (hq : q < 18446744073709551616 ^ 16) (h0 : 0 < p) (hx : x < 18446744073709551616 ^ 16) :
    Sy.Fn Tryz.prog 56 [safeV p q l, natV x] w No (Gives (.bool (memB p q x))) := by
  refine fn_enter Tryz.func56 rfl Tryz.ntmps56 (by simp) Holds.nil ?_
  have lS := safeC_len p q l
  have lp := natC_len p
  have lq := natC_len q
  have lx := natC_len x
  have l1 := natC_len 1
  have hsp := safe_p p q l
  have hsq := safe_q p q l
  have hz := fun w' => isZero_fn x w' hx
  have hc := fun w' => compare_fn p x w' hp hx
  rcases Nat.eq_zero_or_pos x with h | h
  · subst h
    have hb : memB p q 0 = false := by unfold memB; exact decide_eq_false (fun h => absurd h.1 (by omega))
    rw [hb]
    repeat' (first | refine sy_seqC ?_ | refine syl_nil ?_ | refine sy_if_t rfl ?_ | refine sy_ret ?_ | refine syx_then ?_ | refine syx_go ?_ | refine syx_then_ret ?_ | (refine sy_region (id := 0) ?_; (refine y_new ?_; intro _); (refine y_new ?_; intro _); refine y_assign ?_) | (refine sy_region (id := 1) ?_; refine yv (op_loads (B := natC 0)) (k := ?_); refine yv (op_callV (hc := fun _ _ _ _ => (hz _))) (k := ?_); refine y_move ?_; refine syl_skip rfl rfl rfl ?_; refine syl_skip rfl rfl rfl ?_; refine syl_skip rfl rfl rfl ?_; refine syl_skip rfl rfl rfl ?_; refine syl_skip rfl rfl rfl ?_; refine y_pick ?_) | (refine sy_region (id := 2) ?_; refine y_assign ?_) | fail)
    exact ret1 rfl (resTmp rfl) SubR.nil ⟨rfl, rfl⟩
  simp only [decide_eq_false (show ¬ x = 0 by omega)] at hz
  by_cases hxp : x < p
  · have g1 : decide (cmpI p x ≤ 0) = false := by rw [cmpI_gt hxp]; rfl
    have hpw := fun w' => power_fn p q l x q w' hp h0 hx hq
    have f1 := fun w' => fromInt_fn 1 w' (by decide)
    have hrW := Nat.lt_trans (Nat.mod_lt (x ^ q) h0) hp
    have hr : decide (x ^ q % p = 1) = memB p q x := by
      unfold memB
      exact decide_eq_decide.2 ⟨fun e => ⟨h, hxp, e⟩, fun e => e.2.2⟩
    generalize memB p q x = b at *
    generalize x ^ q % p = r at *
    generalize cmpI p x = cz at *
    repeat' (first | refine sy_seqC ?_ | refine syl_nil ?_ | refine sy_if_f rfl ?_ | refine sy_skip ?_ | refine sy_ret ?_ | refine syx_then ?_ | refine syx_go ?_ | (refine sy_region (id := 0) ?_; (refine y_new ?_; intro _); (refine y_new ?_; intro _); refine y_assign ?_) | (refine sy_region (id := 1) ?_; refine yv (op_loads (B := natC x)) (k := ?_); refine yv (op_callV (hc := fun _ _ _ _ => (hz _))) (k := ?_); refine y_move ?_; refine y_fieldAddr ?_; refine yv (op_loads (B := natC p) (hv := hsp)) (k := ?_); refine yv (op_loads (B := natC x)) (k := ?_); refine yv (op_callV (hc := fun _ _ _ _ => (hc _))) (k := ?_); refine yv (op_leq (hr := g1)) (k := ?_); refine y_pick ?_) | (refine sy_region (id := 3) ?_; refine yv (op_callV (hc := fun _ _ _ _ => (f1 _))) (k := ?_); refine y_move ?_; refine y_extract ?_; refine y_extract ?_; (refine y_new ?_; intro _); refine yn (op_storeNat (n := 1)) (k := ?_); refine y_assign ?_) | (refine sy_draw (id := 4) 6 [[], [], [], [2], [0, 1, 2, 3], [], [0, 1, 2, 3, 4, 5], [0, 1, 2, 3, 4, 5, 6]] mixed ?_ ?_; kernel_rfl; refine dc (fun _ _ => op_loads (B := safeC p q l)) (k := ?_); refine dc (fun _ _ => op_loads (B := natC x)) (k := ?_); refine d_fieldAddr ?_; refine dc (fun _ _ => op_loads (B := natC q) (hv := hsq)) (k := ?_); refine dc (fun _ _ => op_callV (hc := fun _ _ _ _ => (hpw _))) (k := ?_); refine dc (fun _ _ => op_loads (B := natC 1)) (k := ?_); refine dh_0n ?_; refine yv (op_eqNat (a := r) (b := 1) (r := b) natTy hrW (by decide) hr) (k := ?_); refine y_assign ?_) | fail)
    exact ret1 rfl (resTmp rfl) SubR.nil ⟨rfl, rfl⟩
  · have g1 : decide (cmpI p x ≤ 0) = true := decide_eq_true (cmpI_le0 (by omega))
    have hb : memB p q x = false := by unfold memB; exact decide_eq_false (fun h => hxp h.2.1)
    rw [hb]
    generalize cmpI p x = cz at *
    repeat' (first | refine sy_seqC ?_ | refine syl_nil ?_ | refine sy_if_t rfl ?_ | refine sy_ret ?_ | refine syx_then ?_ | refine syx_go ?_ | refine syx_then_ret ?_ | (refine sy_region (id := 0) ?_; (refine y_new ?_; intro _); (refine y_new ?_; intro _); refine y_assign ?_) | (refine sy_region (id := 1) ?_; refine yv (op_loads (B := natC x)) (k := ?_); refine yv (op_callV (hc := fun _ _ _ _ => (hz _))) (k := ?_); refine y_move ?_; refine y_fieldAddr ?_; refine yv (op_loads (B := natC p) (hv := hsp)) (k := ?_); refine yv (op_loads (B := natC x)) (k := ?_); refine yv (op_callV (hc := fun _ _ _ _ => (hc _))) (k := ?_); refine yv (op_leq (hr := g1)) (k := ?_); refine y_pick ?_) | (refine sy_region (id := 2) ?_; refine y_assign ?_) | fail)
    exact ret1 rfl (resTmp rfl) SubR.nil ⟨rfl, rfl⟩
theorem all1_fn (p q l x bc bg f : Nat) (b : Bool) (w : World) (hen : ∀ args w, (callFunc f args).run Tryz.prog w = .ok (.enter f args) w) (hf : ∀ w', Sy.Fn Tryz.prog f [safeV p q l, natV x] w' No (Gives (.bool b)))
    (hc : w.cell? ⟨bc, 0, none⟩ = some (.func (.func f) #[] #[])) (hg : w.rangeAt bg 0 (safeC p q l)) :
    Sy.Fn Tryz.prog 104 [natV x, .pointer (some ⟨bc, 0, none⟩), .pointer (some ⟨bg, 0, none⟩)] w No (Gives (.bool b)) := by
  refine fn_enter Tryz.func104 rfl Tryz.ntmps104 (by simp) Holds.nil ?_
  have lS := safeC_len p q l
  have lx := natC_len x
  repeat' (first | refine sy_seqC ?_ | refine syl_nil ?_ | refine sy_ret ?_ | refine syx_then ?_ | refine syx_go ?_ | (refine sy_region (id := 0) ?_; (refine y_new ?_; intro _); refine y_assign ?_) | (refine sy_region (id := 1) ?_; refine yv (op_load_old (hv := hc)) (k := ?_); refine yv (op_loads_old (B := safeC p q l) (hv := hg)) (k := ?_); refine yv (op_loads (B := natC x)) (k := ?_); refine yv (op_callFV (he := hen) (fst := []) (cap := []) (hc := fun w' X hk hh => hf w')) (k := ?_); refine y_assign ?_) | fail)
  exact ret1 rfl (resTmp rfl) SubR.nil ⟨rfl, rfl⟩
theorem all_fn (p q l f n c ab ao : Nat) (xs : List Nat) (cond : Nat → Bool) (w : World) (hn : xs.length = n) (hn2 : n ≤ 1000) (hen : ∀ args w, (callFunc f args).run Tryz.prog w = .ok (.enter f args) w)
    (hf : ∀ x ∈ xs, ∀ w', Sy.Fn Tryz.prog f [safeV p q l, natV x] w' No (Gives (.bool (cond x)))) (hs : w.rangeAt ab ao (rowN xs)) :
    Sy.Fn Tryz.prog 78 [safeV p q l, .func (.func f) #[] #[], .slice (some ⟨ab, ao, none⟩) n c] w No (Gives (.int .i64 (if xs.all cond then 0 else 3))) := by
  refine fn_enter Tryz.func78 rfl Tryz.ntmps78 (by simp) Holds.nil ?_
  have lS := safeC_len p q l
  repeat' (first | refine sy_seqC ?_ | refine syl_nil ?_ | refine sy_block ?_ | refine syx_then ?_ | refine syx_go ?_ | (refine sy_region (id := 0) ?_; (refine y_new ?_; intro _); (refine y_new ?_; intro _); refine y_assign ?_) | (refine sy_region (id := 1) ?_; refine y_makeFunc ?_; refine y_assign ?_) | (refine sy_region (id := 2) ?_; refine y_move ?_; refine y_len ?_; refine y_move ?_) | fail)
  rename_i b3 b4
  refine sy_loop (γ := Nat) (fun k => [(7, .func (.func 104) #[] #[.pointer (some ⟨b4, 0, none⟩), .pointer (some ⟨b3, 0, none⟩)]), (11, .slice (some ⟨ab, ao, none⟩) n c), (12, .int .i64 n), (13, .int .i64 k)])
    (fun _ => [.blk b4 93 [.func (.func f) #[] #[]], .blk b3 79 (safeC p q l)])
    (fun k => k ≤ n ∧ (xs.take k).all cond = true) (fun k => n - k) 0 ⟨Nat.zero_le _, rfl⟩ ?_ ?_ ?_
  · exact Sub.go
  · exact SubR.go2
  rintro k ⟨hk, hall⟩
  rcases Nat.lt_or_ge k n with h | h
  · obtain ⟨x, hx⟩ : ∃ x, xs[k]? = some x := ⟨_, List.getElem?_eq_getElem (by omega)⟩
    have hrow : w.rangeAt ab (ao + k * 16) (natC x) := fun j v hj => by
      have := hs (k * 16 + j) v (rowN_seg hx j v hj)
      rwa [← Nat.add_assoc] at this
    have hfx := hf x (List.mem_of_getElem? hx)
    have lx := natC_len x
    have hlt : decide ((k : Int) < (n : Int)) = true := decide_eq_true (by omega)
    have htk : xs.take (k + 1) = xs.take k ++ [x] := by
      rw [List.take_succ, hx]; rfl
    cases hcx : cond x with
    | true =>
      rw [hcx] at hfx
      repeat' (first | refine sy_seqC ?_ | refine syl_nil ?_ | refine sy_if_t rfl ?_ | refine sy_if_f rfl ?_ | refine sy_block ?_ | refine sy_skip ?_ | refine syx_then ?_ | refine syx_go ?_ | (refine sy_region (id := 3) ?_; refine yv (op_lss (hr := hlt)) (k := ?_)) | (refine sy_region (id := 4) ?_; refine yv (op_indexN (j := k)) (k := ?_); refine yv (op_loads_old (B := natC x) (hv := hrow)) (k := ?_); (refine y_new ?_; intro _); refine yn (op_storeNat (n := x)) (k := ?_)) | (refine sy_region (id := 5) ?_; refine y_move ?_; refine yv (op_loads (B := natC x)) (k := ?_); refine yv (op_callFV (fst := []) (cap := [.pointer (some ⟨b4, 0, none⟩), .pointer (some ⟨b3, 0, none⟩)]) (hc := fun w' X hk hh => all1_fn p q l x b4 b3 f true w' hen hfx (blk_range (hh.has (r := .blk b4 93 [.func (.func f) #[] #[]]) (by exact Has.append Has.go)) Seg.all 0 _ rfl) (blk_range (hh.has (r := .blk b3 79 (safeC p q l)) (by exact Has.append Has.go)) Seg.all))) (k := ?_); refine y_unOp ?_) | (refine sy_region (id := 7) ?_; refine y_add ?_; refine y_move ?_) | fail)
      refine syx_back (k + 1) ⟨h, by rw [htk, List.all_append, hall, List.all_cons, hcx]; rfl⟩ ?_ ?_ ?_
      · show n - (k + 1) < n - k; omega
      · exact Sub.go
      · exact SubR.go2
    | false =>
      rw [hcx] at hfx
      have hno : xs.all cond = false := by
        rw [List.all_eq_false]; exact ⟨x, List.mem_of_getElem? hx, by rw [hcx]; decide⟩
      rw [hno]
      repeat' (first | refine sy_seqC ?_ | refine syl_nil ?_ | refine sy_if_t rfl ?_ | refine sy_block ?_ | refine sy_skip ?_ | refine sy_ret ?_ | refine syx_then ?_ | refine syx_go ?_ | refine syx_then_ret ?_ | refine syx_in_ret ?_ | (refine sy_region (id := 3) ?_; refine yv (op_lss (hr := hlt)) (k := ?_)) | (refine sy_region (id := 4) ?_; refine yv (op_indexN (j := k)) (k := ?_); refine yv (op_loads_old (B := natC x) (hv := hrow)) (k := ?_); (refine y_new ?_; intro _); refine yn (op_storeNat (n := x)) (k := ?_)) | (refine sy_region (id := 5) ?_; refine y_move ?_; refine yv (op_loads (B := natC x)) (k := ?_); refine yv (op_callFV (fst := []) (cap := [.pointer (some ⟨b4, 0, none⟩), .pointer (some ⟨b3, 0, none⟩)]) (hc := fun w' X hk hh => all1_fn p q l x b4 b3 f false w' hen hfx (blk_range (hh.has (r := .blk b4 93 [.func (.func f) #[] #[]]) (by exact Has.append Has.go)) Seg.all 0 _ rfl) (blk_range (hh.has (r := .blk b3 79 (safeC p q l)) (by exact Has.append Has.go)) Seg.all))) (k := ?_); refine y_unOp ?_) | (refine sy_region (id := 6) ?_; refine y_assign ?_) | fail)
      exact ret1 rfl (resTmp rfl) SubR.nil ⟨rfl, rfl⟩
  · obtain rfl : k = n := by omega
    rw [List.take_of_length_le (by omega)] at hall
    have hlt : decide ((k : Int) < (k : Int)) = false := decide_eq_false (by omega)
    rw [hall]
    repeat' (first | refine sy_seqC ?_ | refine syl_nil ?_ | refine sy_if_f rfl ?_ | refine sy_ret ?_ | refine sy_exit ?_ | refine syx_then ?_ | refine syx_go ?_ | (refine sy_region (id := 3) ?_; refine yv (op_lss (hr := hlt)) (k := ?_)) | (refine sy_region (id := 8) ?_; refine y_assign ?_) | fail)
    exact ret1 rfl (resTmp rfl) SubR.nil ⟨rfl, rfl⟩
theorem fixed_fn (p q l x : Nat) (w : World) (hx : x < 18446744073709551616 ^ 16) (hl : nd 256 x ≤ l) (hl2 : l ≤ 1000) :
    Sy.Fn Tryz.prog 103 [safeV p q l, natV x] w No (RowOf 5 l ((fixB l x).map v8)) := by
  refine fn_enter Tryz.func103 rfl Tryz.ntmps103 (by simp) Holds.nil ?_
  have lS := safeC_len p q l
  have lx := natC_len x
  have hsl := safe_l p q l
  have hby := fun w' => bytes_fn x w' hx
  have hbl := byt_len x
  have hys : List.replicate (l - nd 256 x) (Value.int IntKind.u8 0) ++ (byt x).map v8 = (fixB l x).map v8 := by
    unfold fixB; rw [List.map_append, List.map_replicate]; rfl
  generalize fixB l x = F at *
  generalize byt x = D at *
  generalize nd 256 x = n at *
  have hsub : IntKind.i64.wrap ((l : Int) - (n : Int)) = ((l - n : Nat) : Int) := by rw [IntWalk.i64_in _ (by omega)]; omega
  have hsplit : List.replicate l (Value.int IntKind.u8 0) = List.replicate (l - n) (Value.int IntKind.u8 0) ++ List.replicate n (Value.int IntKind.u8 0) := by
    rw [List.replicate_append_replicate]; congr 1; omega
  unfold RowOf
  repeat' (first | refine sy_seqC ?_ | refine syl_nil ?_ | refine syx_then ?_ | refine syx_go ?_ | (refine sy_region (id := 0) ?_; (refine y_new ?_; intro _); (refine y_new ?_; intro _); refine y_assign ?_) | (refine sy_region (id := 1) ?_; refine yv (op_loads (B := natC x)) (k := ?_); (refine ys (op_call0 (f := 121) (hc := fun w' X hk hh => hby w')) (k := ?_); rintro _ _ ⟨R, rfl, bB, rfl, rfl⟩); refine y_assign ?_) | (refine sy_region (id := 2) ?_; refine y_fieldAddr ?_; refine yv (op_load (hv := hsl)) (k := ?_); refine y_move ?_; refine y_len ?_; refine yv (op_sub (hr := hsub)) (k := ?_); refine y_fieldAddr ?_; refine yv (op_load (hv := hsl)) (k := ?_)) | fail)
  refine ys (op_makeCap (n := l - n) (c' := l) (Nat.sub_le _ _)) (k := ?_)
  rintro _ _ ⟨bz, rfl, rfl⟩
  rw [hsplit]
  repeat' (first | refine syl_nil ?_ | refine sy_ret ?_ | refine syx_then ?_ | refine syx_go ?_ | (refine syl_id ?_; first | (refine ys (OpT.conv (conv_shutJ (n := l - n) (c := l) (s := 1) Rem.here (by rw [List.length_append, List.length_replicate, List.length_replicate]; omega) (Nat.sub_le _ _) (by unfold maxLen; omega) (by rw [List.length_replicate, Nat.mul_one])) (op_append (k := l - n) (m := n) (km := l) (hL := Rem.here) (hr := Rd.of (Reads.blk (C := D.map v8) (T := 5) Has.go Seg.all)) (hn := by rw [List.length_map, hbl, Nat.mul_one]) (hkm := by omega) (hys := hys))) (k := ?_); rintro _ _ ⟨rfl, aD, cD, rfl⟩) | refine y_assign ?_ | refine y_move ?_ | fail) | fail)
  exact ret1 rfl (resTmp rfl) (by exact SubR.go2) ⟨_, _, rfl, rfl⟩
end Go.Proofs.YtaeddmcoanefhaaGreatDoor
end
