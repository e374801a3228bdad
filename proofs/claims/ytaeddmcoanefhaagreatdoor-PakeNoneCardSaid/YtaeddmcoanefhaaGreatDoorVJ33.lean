/- Layer pake, walked: the points of both sides. -/
import Derived.Test.YtaeddmcoanefhaaGreatDoorVJ32
import Derived.Test.YtaeddmcoanefhaaGreatDoorVJ29
import Derived.Test.YtaeddmcoanefhaaGreatDoorVJ17
import Derived.Test.YtaeddmcoanefhaaGreatDoorVJ31
set_option linter.all false
section
namespace Go.Proofs.YtaeddmcoanefhaaGreatDoor
open Go Go.Sy Go.Sh Go.Nt Go.RowKit
attribute [local irreducible] Sy SyL SyX Sy.Fn callFunc natC rowN gP gQ gL memB safeC fixB Sh.sum glen HashIs pkPt pkH pkQ
set_option maxRecDepth 10000
theorem pkLab_len (s : Bool) : (pkLab s).length ≤ 1000 := by cases s <;> decide
section
attribute [local irreducible] pkLab
set_option maxHeartbeats 1000000 in
theorem point_fn (i : Nat) (s : Bool) (w : World) (h0 : 1 ≤ i) (h5 : i ≤ 4) (hT : Tab w No) (hG : GT w) :
    Sy.Fn Tryz.prog 76 [.int .i64 (i : Int), .string (str (pkLab s))] w No (Gives (.tuple #[natV (pkPt i s), .int .i64 0])) := by
  refine fn_enter Tryz.func76 rfl Tryz.ntmps76 (by simp) Holds.nil ?_
  have hpr := fun w' (hk : Keep No w w') => gprime_fn i w' h0 h5 (hG.to hk)
  have hl : (pkLab s).length ≤ 1000 := pkLab_len s
  have hone := (pkPt_ok i s h0 h5).1
  have hW := Nat.lt_trans (pkPt_ok i s h0 h5).2.2.1 (gP_W i h0 h5)
  have hps := fun w' (hk : Keep No w w') bl bi bp h1 h2 h3 => psq_fn i 0 bl bi bp (pkLab s) w' h0 h5 (by decide) hl (hT.no hk) h1 h2 h3
  rw [pkQ_pt] at hps
  have hnu := fun w' => pnum_fn 1 w' (by decide)
  have hcm := fun w' => compare_fn (pkPt i s) 1 w' hW (by decide)
  rw [cmpI_gt hone] at hcm
  generalize pkPt i s = r at *
  generalize gP i = p at *
  generalize pkLab s = lab at *
  have lp := natC_len p
  have lr := natC_len r
  repeat' (first | refine sy_seqC ?_ | refine syl_nil ?_ | refine sy_if_f rfl ?_ | refine sy_block ?_ | refine sy_skip ?_ | refine sy_label ?_ | refine syx_then ?_ | refine syx_go ?_ | refine sy_scope ?_ | (refine sy_region (id := 0) ?_; (refine y_new ?_; intro _); (refine y_new ?_; intro _); (refine y_new ?_; intro _); refine y_assign ?_) | (refine sy_region (id := 1) ?_; refine y_load ?_; refine yv (op_callV (f := 101) (hc := fun w' X hk hh => hpr w' hk)) (k := ?_); refine y_move ?_; refine y_extract ?_; refine y_extract ?_; (refine y_new ?_; intro _); refine yn (op_storeNat (n := p)) (k := ?_); refine y_assign ?_) | (refine sy_region (id := 2) ?_; refine y_move ?_; refine y_neq ?_) | (refine sy_region (id := 4) ?_; refine y_makeFunc ?_; refine y_assign ?_) | (refine sy_region (id := 5) ?_; (refine y_new ?_; intro _)) | (refine sy_region (id := 6) ?_; refine y_assign ?_) | (refine sy_region (id := 7) ?_; refine y_move ?_) | fail)
  rename_i b2 b3 b4 b6 b9
  refine sy_loop (γ := Unit) (fun _ => [(23, .int .i64 0), (9, .pointer (some ⟨b9, 0, none⟩)), (8, .func (.func 102) #[] #[.pointer (some ⟨b3, 0, none⟩), .pointer (some ⟨b2, 0, none⟩), .pointer (some ⟨b6, 0, none⟩)]), (4, .pointer (some ⟨b4, 0, none⟩))])
    (fun _ => [.blk b9 44 (List.replicate 16 (.int .u64 0)), .blk b6 44 (natC p), .blk b4 44 (List.replicate 16 (.int .u64 0)), .blk b3 9 [.string (str lab)], .blk b2 3 [.int .i64 (i : Int)]])
    (fun _ => True) (fun _ => 0) () trivial ?_ ?_ ?_
  · exact Sub.go
  · exact SubR.go2
  rintro ⟨⟩ -
  repeat' (first | refine sy_seqC ?_ | refine syl_nil ?_ | refine sy_if_t rfl ?_ | refine sy_if_f rfl ?_ | refine sy_block ?_ | refine sy_skip ?_ | refine sy_ret ?_ | refine sy_exit ?_ | refine syx_then ?_ | refine syx_go ?_ | refine syx_ng_r ?_ | (refine sy_region (id := 8) ?_; refine y_lss ?_) | (refine sy_region (id := 9) ?_; refine y_move ?_; refine y_assign ?_) | (refine sy_region (id := 10) ?_; refine y_move ?_; refine y_move ?_; refine yv (op_callFV (fst := []) (cap := [.pointer (some ⟨b3, 0, none⟩), .pointer (some ⟨b2, 0, none⟩), .pointer (some ⟨b6, 0, none⟩)]) (hc := fun w' X hk hh => hps w' hk b3 b2 b6 (blk_range (hh.has (r := .blk b3 9 [.string (str lab)]) (by exact Has.append Has.go)) Seg.all 0 _ rfl) (blk_range (hh.has (r := .blk b2 3 [.int .i64 (i : Int)]) (by exact Has.append Has.go)) Seg.all 0 _ rfl) (blk_range (hh.has (r := .blk b6 44 (natC p)) (by exact Has.append Has.go)) Seg.all))) (k := ?_); refine y_move ?_; refine y_extract ?_; refine y_extract ?_; (refine y_new ?_; intro _); refine yn (op_storeNat (n := r)) (k := ?_); refine y_assign ?_) | (refine sy_region (id := 11) ?_; refine y_move ?_; refine y_neq ?_; refine y_assign ?_) | (refine sy_draw (id := 13) 2 [[], [], [0, 1], [0, 1, 2], [0, 1, 2, 3]] mixed ?_ ?_; kernel_rfl; refine dc (fun _ _ => op_loads (B := natC r)) (k := ?_); refine dc (fun _ _ => op_callV (hc := fun _ _ _ _ => (hnu _))) (k := ?_); refine dh_0n ?_; refine yv (op_callV (hc := fun _ _ _ _ => (hcm _))) (k := ?_); refine y_gtr ?_; refine y_assign ?_) | (refine sy_region (id := 14) ?_; refine yv (op_loads (B := natC r)) (k := ?_); refine yn (op_storeNat (n := r)) (k := ?_); refine y_assign ?_) | (refine sy_region (id := 16) ?_; refine yv (op_loads (B := natC r)) (k := ?_); refine y_move ?_; refine yn (op_storeNat (n := r)) (k := ?_); refine y_assign ?_) | fail)
  exact ret2 rfl (resCells (B := natC r) rfl (ty rfl) rfl Has.go Seg.all (natC_len _).symm) (resTmp rfl) SubR.nil ⟨rfl, rfl⟩
end
theorem points_fn (i : Nat) (w : World) (h0 : 1 ≤ i) (h5 : i ≤ 4) (hT : Tab w No) (hG : GT w) :
    Sy.Fn Tryz.prog 49 [.int .i64 (i : Int)] w No (Gives (.tuple #[natV (pkPt i true), natV (pkPt i false), .int .i64 0])) := by
  refine fn_enter Tryz.func49 rfl Tryz.ntmps49 (by simp) Holds.nil ?_
  have h1 := fun w' (hk : Keep No w w') => point_fn i true w' h0 h5 (hT.no hk) (hG.to hk)
  have h2 := fun w' (hk : Keep No w w') => point_fn i false w' h0 h5 (hT.no hk) (hG.to hk)
  generalize pkPt i true = p at *
  generalize pkPt i false = q at *
  have lp := natC_len p
  have lq := natC_len q
  rw [show (str (pkLab true)) = str [119, 97, 116, 99, 104, 119, 111, 114, 100, 32, 112, 97, 107, 101, 32, 99, 108, 105, 101, 110, 116] from rfl] at h1
  rw [show (str (pkLab false)) = str [119, 97, 116, 99, 104, 119, 111, 114, 100, 32, 112, 97, 107, 101, 32, 115, 101, 114, 118, 101, 114] from rfl] at h2
  repeat' (first | refine sy_seqC ?_ | refine syl_nil ?_ | refine sy_if_f rfl ?_ | refine sy_skip ?_ | refine syx_then ?_ | refine syx_go ?_ | (refine sy_region (id := 0) ?_; (refine y_new ?_; intro _); (refine y_new ?_; intro _); refine y_assign ?_) | (refine sy_region (id := 1) ?_; refine y_move ?_; refine yv (op_callV (f := 76) (hc := fun w' X hk hh => h1 w' hk)) (k := ?_); refine y_move ?_; refine y_extract ?_; refine y_extract ?_; refine yn (op_storeNat (n := p)) (k := ?_); refine y_assign ?_) | (refine sy_region (id := 2) ?_; refine y_move ?_; refine y_neq ?_) | (refine sy_region (id := 4) ?_; refine y_move ?_; refine yv (op_callV (f := 76) (hc := fun w' X hk hh => h2 w' hk)) (k := ?_); refine y_move ?_; refine y_extract ?_; refine y_extract ?_; refine yn (op_storeNat (n := q)) (k := ?_); refine y_assign ?_) | (refine sy_region (id := 5) ?_; refine y_move ?_; refine y_neq ?_) | (refine sy_draw (id := 7) 3 [[], [], [0], [0, 1, 2], [0, 1, 2, 3]] mixed ?_ ?_; kernel_rfl; refine dc (fun _ _ => op_loads (B := natC p)) (k := ?_); refine dc (fun _ _ => op_loads (B := natC q)) (k := ?_)) | fail)
  refine dcn (fun _ _ => op_storeNat (n := p)) (k := ?_)
  repeat' (first | refine syl_nil ?_ | refine sy_ret ?_ | refine syx_then ?_ | refine syx_go ?_ | (refine syl_id ?_; first | refine yn (op_storeNat (n := q)) (k := ?_) | refine y_assign ?_ | fail) | refine dh_0n ?_ | fail)
  exact ret3 rfl (resCells (B := natC p) rfl (ty rfl) rfl Has.go Seg.all (natC_len _).symm) (resCells (B := natC q) rfl (ty rfl) rfl Has.go Seg.all (natC_len _).symm) (resTmp rfl) SubR.nil ⟨rfl, rfl⟩
end Go.Proofs.YtaeddmcoanefhaaGreatDoor
end
section
namespace Go.Sy
open Go
section
variable {P : Program} {f : FuncId} {args : List Value} {w : World} {b T : Nat} {C : List Value} {post post' : Value → List Res → Prop}
theorem holds_own (hC : (Res.blk b T C).holds w) : Holds w.heap.size (fun x => x = b) [.blk b T C] w :=
  Holds.cons Holds.nil hC (fun _ h => absurd h List.not_mem_nil) (fun x hx => .inr (show x = b from Eq.symm hx))
theorem Fn.still (hC : (Res.blk b T C).holds w) (h : Fn P f args w (fun x => x = b) post) (hp : ∀ v R, post v R → ∃ R', R = .blk b T C :: R' ∧ post' v R') : Fn P f args w No post' :=
  Calls.mono h fun _ _ ⟨v, R, e, hv, hk, hh⟩ => by
    obtain ⟨R', rfl, hp'⟩ := hp v R hv
    have hb := hh.all _ List.mem_cons_self
    refine ⟨v, R', e, hp', ⟨hk.os, hk.tape, hk.output, hk.size, fun k hlt _ => ?_⟩, hh.tail.all, hh.tail.apart, fun r hr x hx => ?_⟩
    · by_cases hkb : k = b
      · subst hkb
        have h1 : w.heap[k]? = some (.cells C.toArray T (0, 0)) := hC
        have h2 := hb
        rw [h1]; exact h2
      · exact hk.block k hlt hkb
    · rcases hh.tail.mine r hr x hx with h1 | h1
      · exact .inl h1
      · exact absurd hx ((List.pairwise_cons.1 hh.apart).1 r hr x (show (Res.blk b T C).own x from Eq.symm h1))
end
end Go.Sy
end
section
namespace Go.Proofs.YtaeddmcoanefhaaGreatDoor
open Go Go.Sy Go.Sh Go.Nt Go.RowKit
attribute [local irreducible] Sy SyL SyX Sy.Fn callFunc natC rowN gP gQ gL memB safeC fixB Sh.sum glen HashIs pkPt pkH pkQ pkLab
set_option maxRecDepth 10000
abbrev CalcIs (i b : Nat) (w : World) : Prop := (Res.blk b 61 [.int .i64 (i : Int), .int .i64 0]).holds w
def tup (v : Value) (k : Nat) : Value := match v with | .tuple vs => (vs[k]?).getD v | v => v
theorem note_fn (i b x : Nat) (w : World) (hC : CalcIs i b w) :
    Sy.Fn Tryz.prog 45 [.pointer (some ⟨b, 0, none⟩), natV x, .int .i64 0] w No (Gives (natV x)) := by
  refine Fn.still (post := fun v R => R = [.blk b 61 [.int .i64 (i : Int), .int .i64 0]] ∧ v = natV x) hC ?_ (fun v R h => ⟨[], h.1, h.2, rfl⟩)
  refine fn_enter Tryz.func45 rfl Tryz.ntmps45 (by simp) (holds_own hC) ?_
  have lx := natC_len x
  repeat' (first | refine sy_seqC ?_ | refine syl_nil ?_ | refine sy_if_t rfl ?_ | refine sy_ret ?_ | refine syx_then ?_ | refine syx_go ?_ | (refine sy_region (id := 0) ?_; (refine y_new ?_; intro _); (refine y_new ?_; intro _)) | (refine sy_region (id := 1) ?_; refine y_move ?_; refine y_nilCheck ?_; refine y_fieldAddr ?_; refine y_load ?_; refine y_eql ?_) | (refine sy_region (id := 2) ?_; refine y_move ?_; refine y_move ?_; refine y_nilCheck ?_; refine y_fieldAddr ?_; refine yn (op_store (v := .int .i64 0) (C := [.int .i64 (i : Int), .int .i64 0]) (C' := [.int .i64 (i : Int), .int .i64 0]) (hC := ⟨Nat.lt_succ_self 1, rfl⟩)) (k := ?_)) | (refine sy_region (id := 3) ?_; refine yv (op_loads (B := natC x)) (k := ?_); refine yn (op_storeNat (n := x)) (k := ?_)) | fail)
  exact ret1 rfl (resCells (B := natC x) rfl (ty rfl) rfl Has.go Seg.all (natC_len _).symm) (by exact SubR.go) ⟨rfl, rfl⟩
theorem CalcIs.to {i b : Nat} {w w' : World} (h : CalcIs i b w) (hk : Keep No w w') : CalcIs i b w' :=
  (hk.block b (Array.getElem?_eq_some_iff.1 h).1 (fun h => h)).trans h
theorem CalcIs.cell {i b : Nat} {w : World} (h : CalcIs i b w) : w.cell? ⟨b, 0 + 0, none⟩ = some (.int .i64 (i : Int)) := by
  rw [Sy.blk_cell h]; rfl
theorem cmul_fn (i b x y : Nat) (w : World) (h0 : 1 ≤ i) (h5 : i ≤ 4) (hG : GT w) (hC : CalcIs i b w) (hx : x < 18446744073709551616 ^ 16) (hy : y < 18446744073709551616 ^ 16) (hc : (memB (gP i) (gQ i) x && memB (gP i) (gQ i) y) = true) :
    Sy.Fn Tryz.prog 25 [.pointer (some ⟨b, 0, none⟩), natV x, natV y] w No (Gives (natV (x * y % gP i))) := by
  refine fn_enter Tryz.func25 rfl Tryz.ntmps25 (by simp) Holds.nil ?_
  have hci := hC.cell
  have hm := fun w' (hk : Keep No w w') => gmul_fn i x y w' h0 h5 (hG.to hk) hx hy hc
  have hn := fun w' (hk : Keep No w w') => note_fn i b (x * y % gP i) w' (hC.to hk)
  generalize x * y % gP i = r at *
  have lx := natC_len x
  have ly := natC_len y
  have lr := natC_len r
  repeat' (first | refine sy_seqC ?_ | refine syl_nil ?_ | refine sy_ret ?_ | refine syx_then ?_ | refine syx_go ?_ | (refine sy_region (id := 0) ?_; (refine y_new ?_; intro _); (refine y_new ?_; intro _); (refine y_new ?_; intro _)) | (refine sy_draw (id := 1) 10 [[], [], [1], [1, 2], [1, 2, 3], [], [], [1, 2, 3, 4, 5, 6], [1, 2, 3, 4, 5, 6, 7], [1, 2, 3, 4, 5, 6, 7], [0, 1, 2, 3, 4, 5, 6, 7, 8, 9], [0, 1, 2, 3, 4, 5, 6, 7, 8, 9, 10]] mixed ?_ ?_; kernel_rfl; refine d_move ?_; refine d_move ?_; refine d_nilCheck ?_; refine d_fieldAddr ?_; refine dc (fun _ _ => op_load_old (hv := hci)) (k := ?_); refine dc (fun _ _ => op_loads (B := natC x)) (k := ?_); refine dc (fun _ _ => op_loads (B := natC y)) (k := ?_); refine dc (fun _ _ => op_callV (f := 51) (hc := fun w' X hk hh => hm w' hk)) (k := ?_); refine d_extract ?_; refine d_extract ?_; refine dh_0n ?_; refine yv (op_callV (f := 45) (hc := fun w' X hk hh => hn w' hk)) (k := ?_); refine yn (op_storeNat (n := r)) (k := ?_)) | fail)
  exact ret1 rfl (resCells (B := natC r) rfl (ty rfl) rfl Has.go Seg.all (natC_len _).symm) SubR.nil ⟨rfl, rfl⟩
theorem cexp_fn (i b x e : Nat) (w : World) (h0 : 1 ≤ i) (h5 : i ≤ 4) (hG : GT w) (hC : CalcIs i b w) (hx : x < 18446744073709551616 ^ 16) (he : e < 18446744073709551616 ^ 16) (hc : memB (gP i) (gQ i) x = true) (hd : e < gQ i) :
    Sy.Fn Tryz.prog 27 [.pointer (some ⟨b, 0, none⟩), natV x, natV e] w No (Gives (natV (x ^ e % gP i))) := by
  refine fn_enter Tryz.func27 rfl Tryz.ntmps27 (by simp) Holds.nil ?_
  have hci := hC.cell
  have hm := fun w' (hk : Keep No w w') => gexp_fn i x e w' h0 h5 (hG.to hk) hx he hc hd
  have hn := fun w' (hk : Keep No w w') => note_fn i b (x ^ e % gP i) w' (hC.to hk)
  generalize x ^ e % gP i = r at *
  have lx := natC_len x
  have le := natC_len e
  have lr := natC_len r
  repeat' (first | refine sy_seqC ?_ | refine syl_nil ?_ | refine sy_ret ?_ | refine syx_then ?_ | refine syx_go ?_ | (refine sy_region (id := 0) ?_; (refine y_new ?_; intro _); (refine y_new ?_; intro _); (refine y_new ?_; intro _)) | (refine sy_draw (id := 1) 10 [[], [], [1], [1, 2], [1, 2, 3], [], [], [1, 2, 3, 4, 5, 6], [1, 2, 3, 4, 5, 6, 7], [1, 2, 3, 4, 5, 6, 7], [0, 1, 2, 3, 4, 5, 6, 7, 8, 9], [0, 1, 2, 3, 4, 5, 6, 7, 8, 9, 10]] mixed ?_ ?_; kernel_rfl; refine d_move ?_; refine d_move ?_; refine d_nilCheck ?_; refine d_fieldAddr ?_; refine dc (fun _ _ => op_load_old (hv := hci)) (k := ?_); refine dc (fun _ _ => op_loads (B := natC x)) (k := ?_); refine dc (fun _ _ => op_loads (B := natC e)) (k := ?_); refine dc (fun _ _ => op_callV (f := 53) (hc := fun w' X hk hh => hm w' hk)) (k := ?_); refine d_extract ?_; refine d_extract ?_; refine dh_0n ?_; refine yv (op_callV (f := 45) (hc := fun w' X hk hh => hn w' hk)) (k := ?_); refine yn (op_storeNat (n := r)) (k := ?_)) | fail)
  exact ret1 rfl (resCells (B := natC r) rfl (ty rfl) rfl Has.go Seg.all (natC_len _).symm) SubR.nil ⟨rfl, rfl⟩
theorem cpower_fn (i b e : Nat) (w : World) (h0 : 1 ≤ i) (h5 : i ≤ 4) (hG : GT w) (hC : CalcIs i b w) (he : e < 18446744073709551616 ^ 16) (hd : e < gQ i) :
    Sy.Fn Tryz.prog 26 [.pointer (some ⟨b, 0, none⟩), natV e] w No (Gives (natV (4 ^ e % gP i))) := by
  refine fn_enter Tryz.func26 rfl Tryz.ntmps26 (by simp) Holds.nil ?_
  have hci := hC.cell
  have hm := fun w' (hk : Keep No w w') => gpower_fn i e w' h0 h5 (hG.to hk) he hd
  have hn := fun w' (hk : Keep No w w') => note_fn i b (4 ^ e % gP i) w' (hC.to hk)
  generalize 4 ^ e % gP i = r at *
  have le := natC_len e
  have lr := natC_len r
  repeat' (first | refine sy_seqC ?_ | refine syl_nil ?_ | refine sy_ret ?_ | refine syx_then ?_ | refine syx_go ?_ | (refine sy_region (id := 0) ?_; (refine y_new ?_; intro _); (refine y_new ?_; intro _)) | (refine sy_draw (id := 1) 9 [[], [], [1], [1, 2], [1, 2, 3], [], [1, 2, 3, 4, 5], [1, 2, 3, 4, 5, 6], [1, 2, 3, 4, 5, 6], [0, 1, 2, 3, 4, 5, 6, 7, 8], [0, 1, 2, 3, 4, 5, 6, 7, 8, 9]] mixed ?_ ?_; kernel_rfl; refine d_move ?_; refine d_move ?_; refine d_nilCheck ?_; refine d_fieldAddr ?_; refine dc (fun _ _ => op_load_old (hv := hci)) (k := ?_); refine dc (fun _ _ => op_loads (B := natC e)) (k := ?_); refine dc (fun _ _ => op_callV (f := 52) (hc := fun w' X hk hh => hm w' hk)) (k := ?_); refine d_extract ?_; refine d_extract ?_; refine dh_0n ?_; refine yv (op_callV (f := 45) (hc := fun w' X hk hh => hn w' hk)) (k := ?_); refine yn (op_storeNat (n := r)) (k := ?_)) | fail)
  exact ret1 rfl (resCells (B := natC r) rfl (ty rfl) rfl Has.go Seg.all (natC_len _).symm) SubR.nil ⟨rfl, rfl⟩
theorem cinv_fn (i b x : Nat) (w : World) (h0 : 1 ≤ i) (h5 : i ≤ 4) (hG : GT w) (hC : CalcIs i b w) (hx : x < 18446744073709551616 ^ 16) (hc : memB (gP i) (gQ i) x = true) :
    Sy.Fn Tryz.prog 33 [.pointer (some ⟨b, 0, none⟩), natV x] w No (Gives (natV (inv (gP i) x).2)) := by
  refine fn_enter Tryz.func33 rfl Tryz.ntmps33 (by simp) Holds.nil ?_
  have hci := hC.cell
  have hm := fun w' (hk : Keep No w w') => ginv_fn i x w' h0 h5 (hG.to hk) hx hc
  have hn := fun w' (hk : Keep No w w') => note_fn i b (inv (gP i) x).2 w' (hC.to hk)
  generalize (inv (gP i) x).2 = r at *
  have lx := natC_len x
  have lr := natC_len r
  repeat' (first | refine sy_seqC ?_ | refine syl_nil ?_ | refine sy_ret ?_ | refine syx_then ?_ | refine syx_go ?_ | (refine sy_region (id := 0) ?_; (refine y_new ?_; intro _); (refine y_new ?_; intro _)) | (refine sy_draw (id := 1) 9 [[], [], [1], [1, 2], [1, 2, 3], [], [1, 2, 3, 4, 5], [1, 2, 3, 4, 5, 6], [1, 2, 3, 4, 5, 6], [0, 1, 2, 3, 4, 5, 6, 7, 8], [0, 1, 2, 3, 4, 5, 6, 7, 8, 9]] mixed ?_ ?_; kernel_rfl; refine d_move ?_; refine d_move ?_; refine d_nilCheck ?_; refine d_fieldAddr ?_; refine dc (fun _ _ => op_load_old (hv := hci)) (k := ?_); refine dc (fun _ _ => op_loads (B := natC x)) (k := ?_); refine dc (fun _ _ => op_callV (f := 58) (hc := fun w' X hk hh => hm w' hk)) (k := ?_); refine d_extract ?_; refine d_extract ?_; refine dh_0n ?_; refine yv (op_callV (f := 45) (hc := fun w' X hk hh => hn w' hk)) (k := ?_); refine yn (op_storeNat (n := r)) (k := ?_)) | fail)
  exact ret1 rfl (resCells (B := natC r) rfl (ty rfl) rfl Has.go Seg.all (natC_len _).symm) SubR.nil ⟨rfl, rfl⟩
theorem cpoints_fn (i b : Nat) (w : World) (h0 : 1 ≤ i) (h5 : i ≤ 4) (hT : Tab w No) (hG : GT w) (hC : CalcIs i b w) :
    Sy.Fn Tryz.prog 23 [.pointer (some ⟨b, 0, none⟩)] w No (Gives (.tuple #[natV (pkPt i true), natV (pkPt i false)])) := by
  refine fn_enter Tryz.func23 rfl Tryz.ntmps23 (by simp) Holds.nil ?_
  have hci := hC.cell
  have hm := fun w' (hk : Keep No w w') => points_fn i w' h0 h5 (hT.no hk) (hG.to hk)
  have hn := fun w' (hk : Keep No w w') => note_fn i b (pkPt i true) w' (hC.to hk)
  generalize pkPt i true = p at *
  generalize pkPt i false = q at *
  have lp := natC_len p
  have lq := natC_len q
  repeat' (first | refine sy_seqC ?_ | refine syl_nil ?_ | refine syx_then ?_ | refine syx_go ?_ | (refine sy_region (id := 0) ?_; (refine y_new ?_; intro _); (refine y_new ?_; intro _)) | (refine sy_region (id := 1) ?_; refine y_move ?_; refine y_nilCheck ?_; refine y_fieldAddr ?_; refine yv (op_load_old (hv := hci)) (k := ?_); refine yv (op_callV (f := 49) (hc := fun w' X hk hh => hm w' hk)) (k := ?_); refine y_move ?_; refine y_extract ?_; refine y_extract ?_; refine y_extract ?_; refine yn (op_storeNat (n := p)) (k := ?_); refine yn (op_storeNat (n := q)) (k := ?_); refine y_assign ?_) | (refine sy_draw (id := 2) 6 [[], [], [], [0, 1, 2], [], [0, 1, 2, 3], [0, 1, 2, 3, 4, 5]] mixed ?_ ?_; kernel_rfl; refine d_move ?_; refine dc (fun _ _ => op_loads (B := natC p)) (k := ?_); refine d_move ?_; refine dc (fun _ _ => op_callV (f := 45) (hc := fun w' X hk hh => hn w' hk)) (k := ?_); refine dc (fun _ _ => op_loads (B := natC q)) (k := ?_)) | fail)
  refine dcn (fun _ _ => op_storeNat (n := p)) (k := ?_)
  repeat' (first | refine syl_nil ?_ | refine sy_ret ?_ | refine syx_then ?_ | refine syx_go ?_ | (refine syl_id ?_; first | refine yn (op_storeNat (n := q)) (k := ?_) | fail) | refine dh_0n ?_ | fail)
  exact ret2 rfl (resCells (B := natC p) rfl (ty rfl) rfl Has.go Seg.all (natC_len _).symm) (resCells (B := natC q) rfl (ty rfl) rfl Has.go Seg.all (natC_len _).symm) SubR.nil ⟨rfl, rfl⟩
theorem cprivate_fn (i b : Nat) (a : Option Addr) (n c : Nat) (bl : List UInt8) (w : World) (h0 : 1 ≤ i) (h5 : i ≤ 4) (hG : GT w) (hC : CalcIs i b w) (hl : bl.length = n) (hcap : n ≤ c) (hc2 : n < 1000000) (hb : SlA w a (bl.map v8)) :
    Sy.Fn Tryz.prog 22 [.pointer (some ⟨b, 0, none⟩), .slice a n c] w No (Gives (natV (pkX i bl))) := by
  refine fn_enter Tryz.func22 rfl Tryz.ntmps22 (by simp) Holds.nil ?_
  have hci := hC.cell
  have hm := fun w' (hk : Keep No w w') => gscalar_fn i a n c bl w' h0 h5 (hG.to hk) hl hcap hc2 ((SlF.of hb).to (Mi := No) hk (fun _ h => .inr h)).sla
  have hn := fun w' (hk : Keep No w w') => note_fn i b (bev 256 (bn bl) % gQ i) w' (hC.to hk)
  have hW : bev 256 (bn bl) % gQ i < 18446744073709551616 ^ 16 := Nat.lt_trans (Nat.mod_lt _ (Nat.lt_of_lt_of_le (by decide) (gQ_low i h0 h5))) (gQ_W i h0 h5)
  have hz := fun w' => isZero_fn (bev 256 (bn bl) % gQ i) w' hW
  have hx : pkX i bl = if bev 256 (bn bl) % gQ i = 0 then 1 else bev 256 (bn bl) % gQ i := rfl
  have h1 := fun w' => pnum_fn 1 w' (by decide)
  rw [hx]
  generalize bev 256 (bn bl) % gQ i = r at *
  have lr := natC_len r
  have l1 := natC_len 1
  by_cases h : r = 0
  · rw [if_pos h]
    simp only [h, decide_true] at hz
    subst h
    repeat' (first | refine sy_seqC ?_ | refine syl_nil ?_ | refine sy_if_t rfl ?_ | refine sy_ret ?_ | refine syx_then ?_ | refine syx_go ?_ | refine syx_then_ret ?_ | (refine sy_region (id := 0) ?_; (refine y_new ?_; intro _)) | (refine sy_region (id := 1) ?_; refine y_move ?_; refine y_move ?_; refine y_nilCheck ?_; refine y_fieldAddr ?_; refine yv (op_load_old (hv := hci)) (k := ?_); refine y_move ?_; refine yv (op_callV (f := 47) (hc := fun w' X hk hh => hm w' hk)) (k := ?_); refine y_extract ?_; refine y_extract ?_; refine yv (op_callV (f := 45) (hc := fun w' X hk hh => hn w' hk)) (k := ?_); (refine y_new ?_; intro _); refine yn (op_storeNat (n := 0)) (k := ?_)) | (refine sy_region (id := 2) ?_; refine yv (op_loads (B := natC 0)) (k := ?_); refine yv (op_callV (hc := fun _ _ _ _ => (hz _))) (k := ?_)) | (refine sy_region (id := 3) ?_; refine yv (op_callV (hc := fun _ _ _ _ => (h1 _))) (k := ?_); refine yn (op_storeNat (n := 1)) (k := ?_)) | fail)
    exact ret1 rfl (resCells (B := natC 1) rfl (ty rfl) rfl Has.go Seg.all (natC_len _).symm) SubR.nil ⟨rfl, rfl⟩
  · rw [if_neg h]
    simp only [h, decide_false] at hz
    repeat' (first | refine sy_seqC ?_ | refine syl_nil ?_ | refine sy_if_f rfl ?_ | refine sy_skip ?_ | refine sy_ret ?_ | refine syx_then ?_ | refine syx_go ?_ | (refine sy_region (id := 0) ?_; (refine y_new ?_; intro _)) | (refine sy_region (id := 1) ?_; refine y_move ?_; refine y_move ?_; refine y_nilCheck ?_; refine y_fieldAddr ?_; refine yv (op_load_old (hv := hci)) (k := ?_); refine y_move ?_; refine yv (op_callV (f := 47) (hc := fun w' X hk hh => hm w' hk)) (k := ?_); refine y_extract ?_; refine y_extract ?_; refine yv (op_callV (f := 45) (hc := fun w' X hk hh => hn w' hk)) (k := ?_); (refine y_new ?_; intro _); refine yn (op_storeNat (n := r)) (k := ?_)) | (refine sy_region (id := 2) ?_; refine yv (op_loads (B := natC r)) (k := ?_); refine yv (op_callV (hc := fun _ _ _ _ => (hz _))) (k := ?_)) | (refine sy_region (id := 4) ?_; refine yv (op_loads (B := natC r)) (k := ?_); refine yn (op_storeNat (n := r)) (k := ?_)) | fail)
    exact ret1 rfl (resCells (B := natC r) rfl (ty rfl) rfl Has.go Seg.all (natC_len _).symm) SubR.nil ⟨rfl, rfl⟩
theorem cbytes_fn (i b x : Nat) (w : World) (h0 : 1 ≤ i) (h5 : i ≤ 4) (hG : GT w) (hC : CalcIs i b w) (hx : x < 18446744073709551616 ^ 16) (hc : memB (gP i) (gQ i) x = true) :
    Sy.Fn Tryz.prog 24 [.pointer (some ⟨b, 0, none⟩), natV x] w No (fun v R => ∃ a c, v = .slice a (gL i) c ∧ R = [.row (.slice a (gL i) c) 5 1 (gL i) ((fixB (gL i) x).map v8)]) := by
  refine fn_enter Tryz.func24 rfl Tryz.ntmps24 (by simp) Holds.nil ?_
  have hci := hC.cell
  have hm := fun w' (hk : Keep No w w') => gbytes_fn i x w' h0 h5 (hG.to hk) hx hc
  have hn := fun w' (hk : Keep No w w') => note_fn i b x w' (hC.to hk)
  have lx := natC_len x
  repeat' (first | refine sy_seqC ?_ | refine syl_nil ?_ | refine syx_then ?_ | refine syx_go ?_ | (refine sy_region (id := 0) ?_; (refine y_new ?_; intro _); refine y_assign ?_) | fail)
  rename_i b3
  unfold FixG at hm
  refine sy_drawA (id := 1) mixed ?_
  (refine sye_part 10 10 [[], [0], [0, 1], [0, 1, 2], [], [0, 1, 2, 3, 4], [0, 1, 2, 3, 4, 5], [0, 1, 2, 3, 4, 5, 6], [0, 1, 2, 3, 4, 5, 6], [0, 1, 2, 3, 4, 5, 6, 7], [0, 1, 2, 3, 4, 5, 6, 7, 8, 9]] [[], [], [], [], [], [], [], [], [], [], []] none rfl ?_ ?_ ?_; kernel_rfl; kernel_rfl; refine e_move ?_; refine e_nilCheck ?_; refine e_fieldAddr ?_; refine dcE (fun _ _ => op_load_old (hv := hci)) (k := ?_); refine dcE (fun _ _ => op_loads (B := natC x)) (k := ?_); try refine dh_0nE (h := ?_))
  refine dh_rE (R := fun _ => FixG i x) (fun _ _ _ => rfl) (fun ρ hρ => op_call0 (f := 50) (hc := fun w' X hk hh => hm w' hk)) (h := ?_)
  refine dh_vE (u := fun ρ => (ρ 5).1) (fun ρ hρ => op_move) (fun _ => rfl) rfl (fun ρ ρ' h => by rw [h 5 (by decide)]) (h := ?_)
  refine dh_vE (u := fun ρ => tup (ρ 5).1 0) (fun ρ hρ => ?_) (fun _ => rfl) rfl (fun ρ ρ' h => by rw [h 5 (by decide)]) (h := ?_)
  · obtain ⟨⟨a, c, e1, e2⟩, -⟩ := hρ
    refine OpT.mono (op_extract (vs := #[.slice a (gL i) c, .int .i64 0]) (hx := by show some (ρ 5).1 = _; rw [e1])) fun v L' h => ?_
    obtain ⟨rfl, rfl⟩ := h
    exact ⟨by rw [e1]; rfl, rfl⟩
  refine dcE (u := .int .i64 0) (fun ρ hρ => ?_) (k := ?_)
  · obtain ⟨⟨a, c, e1, e2⟩, -⟩ := hρ
    exact op_extract (vs := #[.slice a (gL i) c, .int .i64 0]) (hx := by show some (ρ 5).1 = _; rw [e1])
  refine dh_vE (u := fun ρ => tup (ρ 5).1 0) (fun ρ hρ => op_assign) (fun _ => rfl) rfl (fun ρ ρ' h => by rw [h 5 (by decide)]) (h := ?_)
  refine dh_0E (h := ?_)
  rintro ρ ⟨⟨aF, cF, e1, e2⟩, -⟩
  (refine sya_list [[], [0], [0, 1], [0, 1, 2], [], [0, 1, 2, 3, 4], [0, 1, 2, 3, 4, 5], [0, 1, 2, 3, 4, 5, 6], [0, 1, 2, 3, 4, 5, 6], [0, 1, 2, 3, 4, 5, 6, 7], [0, 1, 2, 3, 4, 5, 6, 7, 8, 9]] ?_ ?_; kernel_rfl)
  have e3 : tup (ρ 5).1 0 = .slice aF (gL i) cF := by rw [e1]; rfl
  refine SyL.weaken (fr' := [(15, .int .i64 0), (5, .slice aF (gL i) cF), (0, .pointer (some ⟨b, 0, none⟩)), (3, .pointer (some ⟨b3, 0, none⟩)), (4, .slice none 0 0)]) (L' := [.row (.slice aF (gL i) cF) 5 1 (gL i) ((fixB (gL i) x).map v8), .blk b3 44 (natC x)]) ?_ (by simp only [e3]; exact Sub.go) ?_
  rotate_left
  · show SubR _ ((ρ 5).2 ++ _)
    rw [e2]
    exact SubR.go2
  repeat' (first | refine sy_seqC ?_ | refine syl_nil ?_ | refine sy_ret ?_ | refine syx_then ?_ | refine syx_go ?_ | (refine sy_region (id := 2) ?_; refine y_move ?_; refine yv (op_loads (B := natC x)) (k := ?_); refine y_move ?_; refine yv (op_callV (f := 45) (hc := fun w' X hk hh => hn w' hk)) (k := ?_)) | (refine sy_region (id := 3) ?_; refine y_move ?_; refine y_assign ?_) | (refine syl_id ?_; first | refine y_assign ?_ | fail) | fail)
  exact ret1 rfl (resTmp rfl) (by exact SubR.go2) ⟨_, _, rfl, rfl⟩
theorem cscalar_fn (i b x : Nat) (w : World) (h0 : 1 ≤ i) (h5 : i ≤ 4) (hG : GT w) (hC : CalcIs i b w) (hx : x < 18446744073709551616 ^ 16) (hc : decide (x < gQ i) = true) :
    Sy.Fn Tryz.prog 34 [.pointer (some ⟨b, 0, none⟩), natV x] w No (fun v R => ∃ a c, v = .slice a (gL i) c ∧ R = [.row (.slice a (gL i) c) 5 1 (gL i) ((fixB (gL i) x).map v8)]) := by
  refine fn_enter Tryz.func34 rfl Tryz.ntmps34 (by simp) Holds.nil ?_
  have hci := hC.cell
  have hm := fun w' (hk : Keep No w w') => gsbytes_fn i x w' h0 h5 (hG.to hk) hx hc
  have hn := fun w' (hk : Keep No w w') => note_fn i b x w' (hC.to hk)
  have lx := natC_len x
  repeat' (first | refine sy_seqC ?_ | refine syl_nil ?_ | refine syx_then ?_ | refine syx_go ?_ | (refine sy_region (id := 0) ?_; (refine y_new ?_; intro _); refine y_assign ?_) | fail)
  rename_i b3
  unfold FixG at hm
  refine sy_drawA (id := 1) mixed ?_
  (refine sye_part 10 10 [[], [0], [0, 1], [0, 1, 2], [], [0, 1, 2, 3, 4], [0, 1, 2, 3, 4, 5], [0, 1, 2, 3, 4, 5, 6], [0, 1, 2, 3, 4, 5, 6], [0, 1, 2, 3, 4, 5, 6, 7], [0, 1, 2, 3, 4, 5, 6, 7, 8, 9]] [[], [], [], [], [], [], [], [], [], [], []] none rfl ?_ ?_ ?_; kernel_rfl; kernel_rfl; refine e_move ?_; refine e_nilCheck ?_; refine e_fieldAddr ?_; refine dcE (fun _ _ => op_load_old (hv := hci)) (k := ?_); refine dcE (fun _ _ => op_loads (B := natC x)) (k := ?_); try refine dh_0nE (h := ?_))
  refine dh_rE (R := fun _ => FixG i x) (fun _ _ _ => rfl) (fun ρ hρ => op_call0 (f := 59) (hc := fun w' X hk hh => hm w' hk)) (h := ?_)
  refine dh_vE (u := fun ρ => (ρ 5).1) (fun ρ hρ => op_move) (fun _ => rfl) rfl (fun ρ ρ' h => by rw [h 5 (by decide)]) (h := ?_)
  refine dh_vE (u := fun ρ => tup (ρ 5).1 0) (fun ρ hρ => ?_) (fun _ => rfl) rfl (fun ρ ρ' h => by rw [h 5 (by decide)]) (h := ?_)
  · obtain ⟨⟨a, c, e1, e2⟩, -⟩ := hρ
    refine OpT.mono (op_extract (vs := #[.slice a (gL i) c, .int .i64 0]) (hx := by show some (ρ 5).1 = _; rw [e1])) fun v L' h => ?_
    obtain ⟨rfl, rfl⟩ := h
    exact ⟨by rw [e1]; rfl, rfl⟩
  refine dcE (u := .int .i64 0) (fun ρ hρ => ?_) (k := ?_)
  · obtain ⟨⟨a, c, e1, e2⟩, -⟩ := hρ
    exact op_extract (vs := #[.slice a (gL i) c, .int .i64 0]) (hx := by show some (ρ 5).1 = _; rw [e1])
  refine dh_vE (u := fun ρ => tup (ρ 5).1 0) (fun ρ hρ => op_assign) (fun _ => rfl) rfl (fun ρ ρ' h => by rw [h 5 (by decide)]) (h := ?_)
  refine dh_0E (h := ?_)
  rintro ρ ⟨⟨aF, cF, e1, e2⟩, -⟩
  (refine sya_list [[], [0], [0, 1], [0, 1, 2], [], [0, 1, 2, 3, 4], [0, 1, 2, 3, 4, 5], [0, 1, 2, 3, 4, 5, 6], [0, 1, 2, 3, 4, 5, 6], [0, 1, 2, 3, 4, 5, 6, 7], [0, 1, 2, 3, 4, 5, 6, 7, 8, 9]] ?_ ?_; kernel_rfl)
  have e3 : tup (ρ 5).1 0 = .slice aF (gL i) cF := by rw [e1]; rfl
  refine SyL.weaken (fr' := [(15, .int .i64 0), (5, .slice aF (gL i) cF), (0, .pointer (some ⟨b, 0, none⟩)), (3, .pointer (some ⟨b3, 0, none⟩)), (4, .slice none 0 0)]) (L' := [.row (.slice aF (gL i) cF) 5 1 (gL i) ((fixB (gL i) x).map v8), .blk b3 44 (natC x)]) ?_ (by simp only [e3]; exact Sub.go) ?_
  rotate_left
  · show SubR _ ((ρ 5).2 ++ _)
    rw [e2]
    exact SubR.go2
  repeat' (first | refine sy_seqC ?_ | refine syl_nil ?_ | refine sy_ret ?_ | refine syx_then ?_ | refine syx_go ?_ | (refine sy_region (id := 2) ?_; refine y_move ?_; refine yv (op_loads (B := natC x)) (k := ?_); refine y_move ?_; refine yv (op_callV (f := 45) (hc := fun w' X hk hh => hn w' hk)) (k := ?_)) | (refine sy_region (id := 3) ?_; refine y_move ?_; refine y_assign ?_) | (refine syl_id ?_; first | refine y_assign ?_ | fail) | fail)
  exact ret1 rfl (resTmp rfl) (by exact SubR.go2) ⟨_, _, rfl, rfl⟩
end Go.Proofs.YtaeddmcoanefhaaGreatDoor
end
