/- Layer pake, walked: Start with valid arguments. -/
import Derived.Test.YtaeddmcoanefhaaGreatDoorVJ41
set_option linter.all false
section
namespace Go.Proofs.YtaeddmcoanefhaaGreatDoor
open Go Go.Sy Go.Sh Go.Nt Go.RowKit
attribute [local irreducible] Sy SyL SyX Sy.Fn callFunc natC rowN gP gQ gL memB safeC fixB Sh.sum HashIs pkPt pkH firstN dblock hmac pkDer pkDig pkC selA ordF pkW pkX pkZ zG
set_option maxRecDepth 10000
def XRes (bx i : Nat) (ac ao : Option Addr) (n kc ko : Nat) (ctx : List UInt8) (d : Bool) (G : List Value) (s : Bool) (x wv : Nat) : List Res :=
  [.blk bx 46 (pkC i ⟨ac, n, kc, ctx⟩ d G s x wv ⟨ao, gL i, ko, fixB (gL i) (pkOwn s i wv x)⟩), .row (.slice ac n kc) 5 1 n (ctx.map v8), .row (.slice ao (gL i) ko) 5 1 (gL i) ((fixB (gL i) (pkOwn s i wv x)).map v8)]
set_option maxHeartbeats 2000000 in
theorem xstart_fn (s : Bool) (i : Nat) (a1 a2 a3 : Option Addr) (n1 n2 c1 c2 c3 : Nat) (sec ctx prv : List UInt8) (w : World) (h0 : 1 ≤ i) (h5 : i ≤ 4) (hT : Tab w No) (hG : GT w)
    (h1 : (⟨a1, n1, c1, sec⟩ : Bs).ok w) (h2 : (⟨a2, n2, c2, ctx⟩ : Bs).ok w) (h3 : (⟨a3, 32, c3, prv⟩ : Bs).ok w) (g1 : n1 ≠ 0) (g2 : n1 ≤ 256) (g3 : n2 ≤ 4096) :
    Sy.Fn Tryz.prog 8 [.int .i64 (sideI s), .int .i64 (i : Int), .slice a1 n1 c1, .slice a2 n2 c2, .slice a3 32 c3] w No (fun v R => ∃ bx ac ao kc ko, v = .tuple #[.pointer (some ⟨bx, 0, none⟩), .int .i64 0] ∧ R = XRes bx i ac ao n2 kc ko ctx false zG s (pkX i prv) (pkW i sec)) := by
  refine fn_enter Tryz.func8 rfl Tryz.ntmps8 (by simp) Holds.nil ?_
  obtain ⟨p1, p2, p3, p4⟩ := h1
  obtain ⟨q1, q2, q3, q4⟩ := h2
  obtain ⟨r1, r2, r3, r4⟩ := h3
  dsimp only at p1 p2 p3 p4 q1 q2 q3 q4 r1 r2 r3 r4
  have hgl := (gL_le i h0 h5)
  have hlen := fun w' (hk : Keep No w w') => glen_fn i w' h0 h5 (hG.to hk)
  have e1 : decide (((gL i : Nat) : Int) = (0 : Int)) = false := decide_eq_false (by omega)
  have e2 : decide (((n1 : Nat) : Int) = (0 : Int)) = false := decide_eq_false (by omega)
  have e3 : decide ((256 : Int) < ((n1 : Nat) : Int)) = false := decide_eq_false (by omega)
  have e4 : decide ((4096 : Int) < ((n2 : Nat) : Int)) = false := decide_eq_false (by omega)
  have hcl := fun w' (hk : Keep No w w') => sclone_fn a2 n2 c2 ctx w' q1 (by omega) ((SlF.of q3).to (Mi := No) hk (fun _ h => .inr h)).sla (fun h => ⟨q4 h, by have := q4 h; omega⟩)
  repeat' (first | refine sy_seqC ?_ | refine syl_nil ?_ | refine sy_if_f rfl ?_ | refine sy_skip ?_ | refine syx_then ?_ | refine syx_go ?_ | (refine sy_region (id := 0) ?_; refine y_assign ?_; refine y_assign ?_) | (refine sy_region (id := 1) ?_; (refine ys (op_call0 (f := 18) (hc := fun w' X hk hh => sides_fn w')) (k := ?_); rintro _ _ ⟨R, rfl, bm, rfl, rfl⟩); refine y_move ?_; refine yv (op_sideOk s) (k := ?_); refine y_move ?_; refine y_extract ?_; refine y_extract ?_; (refine y_new ?_; intro _); refine y_store ?_; refine y_assign ?_) | (refine sy_region (id := 2) ?_; refine y_move ?_; refine y_unOp ?_; refine y_move ?_; refine y_move ?_; refine yv (op_callV (f := 19) (hc := fun w' X hk hh => hlen w' hk)) (k := ?_); refine yv (op_eql (hr := e1)) (k := ?_); refine y_pick ?_; refine y_move ?_; refine y_move ?_; refine y_len ?_; refine yv (op_eql (hr := e2)) (k := ?_); refine y_pick ?_; refine y_move ?_; refine y_move ?_; refine y_len ?_; refine yv (op_gtr (hr := e3)) (k := ?_); refine y_pick ?_; refine y_move ?_; refine y_move ?_; refine y_len ?_; refine yv (op_gtr (hr := e4)) (k := ?_); refine y_pick ?_; refine y_move ?_; refine y_move ?_; refine y_len ?_; refine y_neq ?_; refine y_pick ?_) | (refine sy_region (id := 4) ?_; refine y_move ?_; refine yv op_buildC (k := ?_); (refine y_new ?_; intro _); refine y_store ?_) | fail)
  rename_i b12 b14
  refine Sy.weaken (fr' := [(14, .pointer (some ⟨b14, 0, none⟩)), (12, .pointer (some ⟨b12, 0, none⟩)), (4, .slice a3 32 c3), (3, .slice a2 n2 c2), (2, .slice a1 n1 c1), (1, .int .i64 (i : Int)), (0, .int .i64 (sideI s))]) (L' := [.blk b14 61 [.int .i64 (i : Int), .int .i64 0], .blk b12 55 (aggL s)]) ?_ (by exact Sub.go) (by exact SubR.go2)
  clear e1 e2 e3 e4 hlen
  repeat' (first | refine sy_seqC ?_ | refine syl_nil ?_ | refine syx_then ?_ | refine syx_go ?_ | (refine sy_region (id := 5) ?_; refine y_move ?_; refine y_move ?_; (refine ys (op_call0 (f := 20) (hc := fun w' X hk hh => hcl w' hk)) (k := ?_); rintro _ _ ⟨R, rfl, ac, kc, rfl, rfl⟩); refine yv (op_buildT rfl) (k := ?_); refine y_move ?_; refine yv op_buildE (k := ?_); (refine y_new ?_; intro _); refine y_assign ?_) | fail)
  rename_i bx
  have hzc : pkZ i (.slice ac n2 kc) (sideI s) = _ := pkZ_C i ⟨ac, n2, kc, ctx⟩ s
  rw [hzc]
  have hz32 : zG.length = 32 := by unfold zG; rfl
  have hsec := fun w' (hk : Keep No w w') (hC : CalcIs i b14 w') => csecret_fn i b14 a1 n1 c1 sec w' h0 h5 (hT.no hk) (hG.to hk) hC p1 p2 (by omega) ((SlF.of p3).to (Mi := No) hk (fun _ h => .inr h)).sla
  have hprv := fun w' (hk : Keep No w w') (hC : CalcIs i b14 w') => cprivate_fn i b14 a3 32 c3 prv w' h0 h5 (hG.to hk) hC r1 r2 (by decide) ((SlF.of r3).to (Mi := No) hk (fun _ h => .inr h)).sla
  have hpts := fun w' (hk : Keep No w w') (hC : CalcIs i b14 w') => cpoints_fn i b14 w' h0 h5 (hT.no hk) (hG.to hk) hC
  have hqw : pkW i sec < gQ i := by unfold pkW; exact Nat.mod_lt _ (Nat.lt_of_lt_of_le (by decide) (gQ_low i h0 h5))
  have hqx : pkX i prv < gQ i := by
    have hq := gQ_low i h0 h5
    unfold pkX
    by_cases h : bev 256 (bn prv) % gQ i = 0
    · rw [if_pos h]; omega
    · rw [if_neg h]; exact Nat.mod_lt _ (by omega)
  generalize pkW i sec = wv at *
  generalize pkX i prv = x at *
  have hp36 := fun wv => pkC_put36 (i := i) (sx := ⟨ac, n2, kc, ctx⟩) (d := false) (s := s) (x := 0) (wv := wv) (so := ⟨none, 0, 0, []⟩) x hz32
  have hp52 := pkC_put52 (i := i) (sx := ⟨ac, n2, kc, ctx⟩) (d := false) (s := s) (x := 0) (wv := 0) (so := ⟨none, 0, 0, []⟩) wv hz32
  have hCl := fun x wv so => pkC_len (i := i) (sx := ⟨ac, n2, kc, ctx⟩) (d := false) (s := s) (x := x) (wv := wv) (so := so) hz32
  have lx := natC_len x
  have lw := natC_len wv
  repeat' (first | refine sy_seqC ?_ | refine syl_nil ?_ | refine syx_then ?_ | refine syx_go ?_ | (refine sy_region (id := 6) ?_; refine y_move ?_; refine y_move ?_; refine yv (op_callV (f := 21) (hc := fun w' X hk hh => hsec w' hk (hh.has (Has.append (by exact Has.go))))) (k := ?_); refine y_nilCheck ?_; refine y_fieldAddr ?_; refine yn (op_stores (B := natC wv) (h1 := lw.symm) (hv := natC_one wv) (hL := by rw [hp52]; exact (by repeat (first | exact Upd.here | apply Upd.there))) (hC := by rw [hCl, lw]; decide)) (k := ?_)) | (refine sy_region (id := 7) ?_; refine y_move ?_; refine y_move ?_; refine yv (op_callV (f := 22) (hc := fun w' X hk hh => hprv w' hk (hh.has (Has.append (by exact Has.go))))) (k := ?_); refine y_nilCheck ?_; refine y_fieldAddr ?_; refine yn (op_stores (B := natC x) (h1 := lx.symm) (hv := natC_one x) (hL := by rw [hp36]; exact (by repeat (first | exact Upd.here | apply Upd.there))) (hC := by rw [hCl, lx]; decide)) (k := ?_)) | fail)
  refine Sy.weaken (fr' := [(15, .pointer (some ⟨bx, 0, none⟩)), (14, .pointer (some ⟨b14, 0, none⟩)), (12, .pointer (some ⟨b12, 0, none⟩))]) (L' := [.blk bx 46 (pkC i ⟨ac, n2, kc, ctx⟩ false zG s x wv ⟨none, 0, 0, []⟩), .blk b14 61 [.int .i64 (i : Int), .int .i64 0], .blk b12 55 (aggL s), .row (.slice ac n2 kc) 5 1 n2 (ctx.map v8)]) ?_ (by exact Sub.go) (by exact SubR.go2)
  clear hsec hprv hcl hzc hp36 hp52 p3 q3 r3
  have lp1 := natC_len (pkPt i true)
  have lp2 := natC_len (pkPt i false)
  repeat' (first | refine sy_seqC ?_ | refine syl_nil ?_ | refine syx_then ?_ | refine syx_go ?_ | (refine sy_region (id := 8) ?_; refine yv (op_callV (f := 23) (hc := fun w' X hk hh => hpts w' hk (hh.has (Has.append (by exact Has.go))))) (k := ?_); refine y_move ?_; refine y_extract ?_; refine y_extract ?_; (refine y_new ?_; intro _); (refine y_new ?_; intro _); refine yn (op_storeNat (n := pkPt i true)) (k := ?_); refine yn (op_storeNat (n := pkPt i false)) (k := ?_)) | fail)
  rename_i b16 b17
  refine Sy.weaken (fr' := [(17, .pointer (some ⟨b17, 0, none⟩)), (16, .pointer (some ⟨b16, 0, none⟩)), (15, .pointer (some ⟨bx, 0, none⟩)), (14, .pointer (some ⟨b14, 0, none⟩)), (12, .pointer (some ⟨b12, 0, none⟩))]) (L' := [.blk bx 46 (pkC i ⟨ac, n2, kc, ctx⟩ false zG s x wv ⟨none, 0, 0, []⟩), .blk b14 61 [.int .i64 (i : Int), .int .i64 0], .blk b12 55 (aggL s), .blk b17 44 (natC (pkPt i false)), .blk b16 44 (natC (pkPt i true)), .row (.slice ac n2 kc) 5 1 n2 (ctx.map v8)]) ?_ (by exact Sub.go) (by exact SubR.go2)
  have s36 := pkC_36 (i := i) (sx := ⟨ac, n2, kc, ctx⟩) (d := false) (s := s) (x := x) (wv := wv) (so := ⟨none, 0, 0, []⟩) hz32
  have s52 := pkC_52 (i := i) (sx := ⟨ac, n2, kc, ctx⟩) (d := false) (s := s) (x := x) (wv := wv) (so := ⟨none, 0, 0, []⟩) hz32
  have s68 := fun so' => pkC_put68 (i := i) (sx := ⟨ac, n2, kc, ctx⟩) (d := false) (s := s) (x := x) (wv := wv) (so := ⟨none, 0, 0, []⟩) so' hz32
  have mp := pk_pt i s h0 h5
  have mh := pk_powx h0 h5 mp wv
  have m4 := pk_four i x h0 h5
  have mo := pk_own s i wv x h0 h5
  have hsel := fun w' => selA_fn s (pkPt i) w'
  have hpow := fun w' (hk : Keep No w w') (hC : CalcIs i b14 w') => cpower_fn i b14 x w' h0 h5 (hG.to hk) hC (Nat.lt_trans hqx (gQ_W i h0 h5)) hqx
  have hexp := fun w' (hk : Keep No w w') (hC : CalcIs i b14 w') => cexp_fn i b14 (pkPt i s) wv w' h0 h5 (hG.to hk) hC (pk_W h0 h5 mp) (Nat.lt_trans hqw (gQ_W i h0 h5)) mp hqw
  have hmul := fun w' (hk : Keep No w w') (hC : CalcIs i b14 w') => cmul_fn i b14 (4 ^ x % gP i) (pkPt i s ^ wv % gP i) w' h0 h5 (hG.to hk) hC (pk_W h0 h5 m4) (pk_W h0 h5 mh) (by rw [m4, mh]; rfl)
  rw [show 4 ^ x % gP i * (pkPt i s ^ wv % gP i) % gP i = pkOwn s i wv x from rfl] at hmul
  have hbyt := fun w' (hk : Keep No w w') (hC : CalcIs i b14 w') => cbytes_fn i b14 (pkOwn s i wv x) w' h0 h5 (hG.to hk) hC (pk_W h0 h5 mo) mo
  generalize hov : pkOwn s i wv x = ov at *
  generalize 4 ^ x % gP i = gx at *
  generalize pkPt i s ^ wv % gP i = hv at *
  generalize pkPt i s = ps at *
  generalize pkPt i true = pt at *
  generalize pkPt i false = pf at *
  have lps := natC_len ps
  have lgx := natC_len gx
  have lhv := natC_len hv
  have lov := natC_len ov
  refine sy_drawA (id := 9) mixed ?_
  (refine sye_part 18 18 [[], [], [1], [1, 2], [1, 2, 3], [1, 2, 3, 4], [], [6], [], [], [1, 2, 3, 4, 5, 6, 7, 8, 9], [], [11], [11, 12], [11, 12, 13], [1, 2, 3, 4, 5, 6, 7, 8, 9, 10, 11, 12, 13, 14], [1, 2, 3, 4, 5, 6, 7, 8, 9, 10, 11, 12, 13, 14, 15], [1, 2, 3, 4, 5, 6, 7, 8, 9, 10, 11, 12, 13, 14, 15, 16], [0, 1, 2, 3, 4, 5, 6, 7, 8, 9, 10, 11, 12, 13, 14, 15, 16, 17], [0, 1, 2, 3, 4, 5, 6, 7, 8, 9, 10, 11, 12, 13, 14, 15, 16, 17, 18], [0, 1, 2, 3, 4, 5, 6, 7, 8, 9, 10, 11, 12, 13, 14, 15, 16, 17, 18, 19]] [[], [], [], [], [], [], [], [], [], [], [], [], [], [], [], [], [], [], [], [], []] none rfl ?_ ?_ ?_; kernel_rfl; kernel_rfl; refine e_move ?_; refine e_move ?_; refine e_nilCheck ?_; refine e_fieldAddr ?_; refine dcE (fun _ _ => op_loads (B := natC x) (hv := s36)) (k := ?_); refine dcE (fun _ _ => op_callV (f := 26) (hc := fun w' X hk hh => hpow w' hk (hh.has (Has.append (by exact Has.go))))) (k := ?_); refine e_fieldAddr ?_; refine dcE (fun _ _ => op_load (v := .func (.func (selA s)) #[] #[]) (hv := rfl)) (k := ?_); refine dcE (fun _ _ => op_loads (B := natC pt)) (k := ?_); refine dcE (fun _ _ => op_loads (B := natC pf)) (k := ?_); refine dcE (fun _ _ => op_callFV (he := selA_en s) (fst := []) (cap := []) (hc := fun w' X hk hh => hsel w')) (k := ?_); refine e_move ?_; refine e_nilCheck ?_; refine e_fieldAddr ?_; refine dcE (fun _ _ => op_loads (B := natC wv) (hv := s52)) (k := ?_); refine dcE (fun _ _ => op_callV (f := 27) (hc := fun w' X hk hh => hexp w' hk (hh.has (Has.append (by exact Has.go))))) (k := ?_); refine dcE (fun _ _ => op_callV (f := 25) (hc := fun w' X hk hh => hmul w' hk (hh.has (Has.append (by exact Has.go))))) (k := ?_); try refine dh_0nE (h := ?_))
  refine dh_rE (R := fun _ v Nw => ∃ a c, v = .slice a (gL i) c ∧ Nw = [.row (.slice a (gL i) c) 5 1 (gL i) ((fixB (gL i) ov).map v8)]) (fun _ _ _ => rfl) (fun ρ hρ => op_call0 (f := 24) (hc := fun w' X hk hh => hbyt w' hk (hh.has (Has.append (by exact Has.go))))) (h := ?_)
  refine dh_0E (h := ?_)
  rintro ρ ⟨⟨ao, ko, e1, e2⟩, -⟩
  (refine sya_list [[], [], [1], [1, 2], [1, 2, 3], [1, 2, 3, 4], [], [6], [], [], [1, 2, 3, 4, 5, 6, 7, 8, 9], [], [11], [11, 12], [11, 12, 13], [1, 2, 3, 4, 5, 6, 7, 8, 9, 10, 11, 12, 13, 14], [1, 2, 3, 4, 5, 6, 7, 8, 9, 10, 11, 12, 13, 14, 15], [1, 2, 3, 4, 5, 6, 7, 8, 9, 10, 11, 12, 13, 14, 15, 16], [0, 1, 2, 3, 4, 5, 6, 7, 8, 9, 10, 11, 12, 13, 14, 15, 16, 17], [0, 1, 2, 3, 4, 5, 6, 7, 8, 9, 10, 11, 12, 13, 14, 15, 16, 17, 18], [0, 1, 2, 3, 4, 5, 6, 7, 8, 9, 10, 11, 12, 13, 14, 15, 16, 17, 18, 19]] ?_ ?_; kernel_rfl)
  refine SyL.weaken (fr' := [(91, .slice ao (gL i) ko), (74, .pointer (some ⟨bx, 0, none⟩)), (15, .pointer (some ⟨bx, 0, none⟩)), (14, .pointer (some ⟨b14, 0, none⟩))])
    (L' := [.blk bx 46 (pkC i ⟨ac, n2, kc, ctx⟩ false zG s x wv ⟨none, 0, 0, []⟩), .blk b14 61 [.int .i64 (i : Int), .int .i64 0], .row (.slice ac n2 kc) 5 1 n2 (ctx.map v8), .row (.slice ao (gL i) ko) 5 1 (gL i) ((fixB (gL i) ov).map v8)]) ?_ ?_ ?_
  rotate_left
  · (repeat' (first | exact Sub.nil | refine Sub.cons rfl ?_ ?_ | rfl))
    exact e1
  · show SubR _ ((ρ 17).2 ++ _)
    rw [e2]
    exact SubR.go2
  repeat' (first | refine sy_seqC ?_ | refine syl_nil ?_ | refine sy_if_f rfl ?_ | refine sy_skip ?_ | refine sy_ret ?_ | refine syx_then ?_ | refine syx_go ?_ | (refine sy_region (id := 10) ?_; refine y_fieldAddr ?_; refine y_load ?_; refine y_neq ?_) | (refine sy_region (id := 12) ?_; refine y_move ?_; refine y_assign ?_; refine y_assign ?_) | (refine syl_id ?_; first | refine yn (op_store (v := .slice ao (gL i) ko) (hC := s68 ⟨ao, gL i, ko, fixB (gL i) ov⟩)) (k := ?_) | refine y_fieldAddr ?_ | refine y_nilCheck ?_ | fail) | fail)
  exact ret2 rfl (resTmp rfl) (resTmp rfl) (R := [.blk bx 46 (pkC i ⟨ac, n2, kc, ctx⟩ false zG s x wv ⟨ao, gL i, ko, fixB (gL i) ov⟩), .row (.slice ac n2 kc) 5 1 n2 (ctx.map v8), .row (.slice ao (gL i) ko) 5 1 (gL i) ((fixB (gL i) ov).map v8)]) (by exact SubR.go2) ⟨bx, ac, ao, kc, ko, rfl, by unfold XRes; rw [hov]⟩
end Go.Proofs.YtaeddmcoanefhaaGreatDoor
end
section
namespace Go.Proofs.YtaeddmcoanefhaaGreatDoor
open Go Go.Sy Go.Sh Go.Nt Go.RowKit
attribute [local irreducible] Sy SyL SyX Sy.Fn callFunc natC
set_option maxRecDepth 10000
def NoX (a : Option Addr) (w : World) : Prop := a = none ∨ ∃ b, a = some ⟨b, 0, none⟩ ∧ w.cell? ⟨b, 35, none⟩ = some (.int .i64 0)
theorem NoX.to {a : Option Addr} {w w' : World} (h : NoX a w) (hk : Keep No w w') : NoX a w' := h.imp id fun ⟨b, h1, h2⟩ => ⟨b, h1, cell_to h2 hk⟩
theorem existsN_fn (a : Option Addr) (w : World) (h : NoX a w) : Sy.Fn Tryz.prog 29 [.pointer a] w No (Gives (.int .i64 1)) := by
  refine fn_enter Tryz.func29 rfl Tryz.ntmps29 (by simp) Holds.nil ?_
  rcases h with rfl | ⟨b, rfl, hc⟩
  · repeat' (first | refine sy_seqC ?_ | refine syl_nil ?_ | refine sy_if_t rfl ?_ | refine sy_ret ?_ | refine syx_then ?_ | refine syx_go ?_ | refine syx_then_ret ?_ | (refine sy_region (id := 0) ?_; refine y_assign ?_) | (refine sy_region (id := 1) ?_; refine y_move ?_; refine y_eql ?_; refine y_move ?_; refine syl_skip rfl rfl rfl ?_; refine syl_skip rfl rfl rfl ?_; refine syl_skip rfl rfl rfl ?_; refine syl_skip rfl rfl rfl ?_; refine syl_skip rfl rfl rfl ?_; refine y_pick ?_) | (refine sy_region (id := 2) ?_; refine y_assign ?_) | fail)
    exact ret1 rfl (resTmp rfl) SubR.nil ⟨rfl, rfl⟩
  · repeat' (first | refine sy_seqC ?_ | refine syl_nil ?_ | refine sy_if_t rfl ?_ | refine sy_ret ?_ | refine syx_then ?_ | refine syx_go ?_ | refine syx_then_ret ?_ | (refine sy_region (id := 0) ?_; refine y_assign ?_) | (refine sy_region (id := 1) ?_; refine y_move ?_; refine y_eql ?_; refine y_move ?_; refine y_move ?_; refine y_nilCheck ?_; refine y_fieldAddr ?_; refine yv (op_load_old (hv := hc)) (k := ?_); refine y_eql ?_; refine y_pick ?_) | (refine sy_region (id := 2) ?_; refine y_assign ?_) | fail)
    exact ret1 rfl (resTmp rfl) SubR.nil ⟨rfl, rfl⟩
theorem completeN_fn (b : Nat) (w : World) (hc : w.cell? ⟨b, 2, none⟩ = some (.bool false)) : Sy.Fn Tryz.prog 36 [.pointer (some ⟨b, 0, none⟩)] w No (Gives (.int .i64 8)) := by
  refine fn_enter Tryz.func36 rfl Tryz.ntmps36 (by simp) Holds.nil ?_
  have hf := fun w' (hk : Keep No w w') => finished_fn b false w' (cell_to hc hk)
  repeat' (first | refine sy_seqC ?_ | refine syl_nil ?_ | refine sy_if_t rfl ?_ | refine sy_ret ?_ | refine syx_then ?_ | refine syx_go ?_ | refine syx_then_ret ?_ | (refine sy_region (id := 0) ?_; refine y_assign ?_) | (refine sy_region (id := 1) ?_; refine y_move ?_; refine y_nilCheck ?_; refine y_fieldAddr ?_; refine yv (op_callV (f := 54) (hc := fun w' X hk hh => hf w' hk)) (k := ?_); refine y_unOp ?_) | (refine sy_region (id := 2) ?_; refine y_assign ?_) | fail)
  exact ret1 rfl (resTmp rfl) SubR.nil ⟨rfl, rfl⟩
theorem openN_fn (b : Nat) (w : World) (hc : w.cell? ⟨b, 2, none⟩ = some (.bool true)) : Sy.Fn Tryz.prog 30 [.pointer (some ⟨b, 0, none⟩)] w No (Gives (.int .i64 8)) := by
  refine fn_enter Tryz.func30 rfl Tryz.ntmps30 (by simp) Holds.nil ?_
  have hf := fun w' (hk : Keep No w w') => finished_fn b true w' (cell_to hc hk)
  repeat' (first | refine sy_seqC ?_ | refine syl_nil ?_ | refine sy_if_t rfl ?_ | refine sy_ret ?_ | refine syx_then ?_ | refine syx_go ?_ | refine syx_then_ret ?_ | (refine sy_region (id := 0) ?_; refine y_assign ?_) | (refine sy_region (id := 1) ?_; refine y_move ?_; refine y_nilCheck ?_; refine y_fieldAddr ?_; refine yv (op_callV (f := 54) (hc := fun w' X hk hh => hf w' hk)) (k := ?_)) | (refine sy_region (id := 2) ?_; refine y_assign ?_) | fail)
  exact ret1 rfl (resTmp rfl) SubR.nil ⟨rfl, rfl⟩
theorem pcheckE_fn (a : Option Addr) (b1 f0 f1 : Nat) (one : Bool) (e : Int) (w : World) (he : e ≠ 0) (en0 : ∀ args w, (callFunc f0 args).run Tryz.prog w = .ok (.enter f0 args) w) (en1 : ∀ args w, (callFunc f1 args).run Tryz.prog w = .ok (.enter f1 args) w)
    (h0 : ∀ w', Keep No w w' → Sy.Fn Tryz.prog f0 [.pointer a] w' No (Gives (.int .i64 (if one then e else 0)))) (h1 : one = false → ∀ w', Keep No w w' → Sy.Fn Tryz.prog f1 [.pointer a] w' No (Gives (.int .i64 e)))
    (hs : w.rangeAt b1 0 [.func (.func f0) #[.pointer a] #[], .func (.func f1) #[.pointer a] #[]]) :
    Sy.Fn Tryz.prog 28 [.slice (some ⟨b1, 0, none⟩) 2 2] w No (Gives (.int .i64 e)) := by
  refine fn_enter Tryz.func28 rfl Tryz.ntmps28 (by simp) Holds.nil ?_
  have c0 : w.cell? ⟨b1, 0 + 0, none⟩ = some (.func (.func f0) #[.pointer a] #[]) := hs 0 _ rfl
  have c1 : w.cell? ⟨b1, 0 + 1, none⟩ = some (.func (.func f1) #[.pointer a] #[]) := hs 1 _ rfl
  have ge : decide (e ≠ (0 : Int)) = true := decide_eq_true he
  repeat' (first | refine sy_seqC ?_ | refine syl_nil ?_ | refine sy_block ?_ | refine syx_then ?_ | refine syx_go ?_ | (refine sy_region (id := 0) ?_; refine y_assign ?_) | (refine sy_region (id := 1) ?_; refine y_move ?_; refine y_len ?_; refine y_move ?_) | fail)
  refine sy_loop (γ := Nat) (fun k => [(6, .slice (some ⟨b1, 0, none⟩) 2 2), (7, .int .i64 2), (8, .int .i64 k)]) (fun _ => []) (fun k => k = 0 ∨ (k = 1 ∧ one = false)) (fun k => 2 - k) 0 (.inl rfl) ?_ ?_ ?_
  · exact Sub.go
  · exact SubR.go2
  rintro k hk
  rcases hk with rfl | ⟨rfl, ho⟩
  · have hlt : decide (((0 : Nat) : Int) < (2 : Int)) = true := rfl
    cases one
    · repeat' (first | refine sy_seqC ?_ | refine syl_nil ?_ | refine sy_if_t rfl ?_ | refine sy_if_f rfl ?_ | refine sy_block ?_ | refine sy_skip ?_ | refine syx_then ?_ | refine syx_go ?_ | (refine sy_region (id := 2) ?_; refine yv (op_lss (hr := hlt)) (k := ?_)) | (refine sy_region (id := 3) ?_; refine yv (op_indexAddr1 (j := 0)) (k := ?_); refine yv (op_load_old (hv := c0)) (k := ?_); refine y_assign ?_) | (refine sy_region (id := 4) ?_; refine y_move ?_; refine yv (op_callFV (he := en0) (fst := [.pointer a]) (cap := []) (hc := fun w' X hk hh => h0 w' hk)) (k := ?_); refine y_assign ?_) | (refine sy_region (id := 5) ?_; refine y_move ?_; refine y_neq ?_) | (refine sy_region (id := 7) ?_; refine y_add ?_; refine y_move ?_) | fail)
      refine syx_back 1 (.inr ⟨rfl, rfl⟩) ?_ ?_ ?_
      · show 2 - 1 < 2 - 0; omega
      · exact Sub.go
      · exact SubR.go2
    · repeat' (first | refine sy_seqC ?_ | refine syl_nil ?_ | refine sy_if_t rfl ?_ | refine sy_block ?_ | refine sy_skip ?_ | refine sy_ret ?_ | refine syx_then ?_ | refine syx_go ?_ | refine syx_then_ret ?_ | refine syx_in_ret ?_ | (refine sy_region (id := 2) ?_; refine yv (op_lss (hr := hlt)) (k := ?_)) | (refine sy_region (id := 3) ?_; refine yv (op_indexAddr1 (j := 0)) (k := ?_); refine yv (op_load_old (hv := c0)) (k := ?_); refine y_assign ?_) | (refine sy_region (id := 4) ?_; refine y_move ?_; refine yv (op_callFV (he := en0) (fst := [.pointer a]) (cap := []) (hc := fun w' X hk hh => h0 w' hk)) (k := ?_); refine y_assign ?_) | (refine sy_region (id := 5) ?_; refine y_move ?_; refine yv (op_neq (hr := ge)) (k := ?_)) | (refine sy_region (id := 6) ?_; refine y_move ?_; refine y_assign ?_) | fail)
      exact ret1 rfl (resTmp rfl) SubR.nil ⟨rfl, rfl⟩
  · have h1 := h1 ho
    have hlt : decide (((1 : Nat) : Int) < (2 : Int)) = true := rfl
    repeat' (first | refine sy_seqC ?_ | refine syl_nil ?_ | refine sy_if_t rfl ?_ | refine sy_block ?_ | refine sy_skip ?_ | refine sy_ret ?_ | refine syx_then ?_ | refine syx_go ?_ | refine syx_then_ret ?_ | refine syx_in_ret ?_ | (refine sy_region (id := 2) ?_; refine yv (op_lss (hr := hlt)) (k := ?_)) | (refine sy_region (id := 3) ?_; refine yv (op_indexAddr1 (j := 1)) (k := ?_); refine yv (op_load_old (hv := c1)) (k := ?_); refine y_assign ?_) | (refine sy_region (id := 4) ?_; refine y_move ?_; refine yv (op_callFV (he := en1) (fst := [.pointer a]) (cap := []) (hc := fun w' X hk hh => h1 w' hk)) (k := ?_); refine y_assign ?_) | (refine sy_region (id := 5) ?_; refine y_move ?_; refine yv (op_neq (hr := ge)) (k := ?_)) | (refine sy_region (id := 6) ?_; refine y_move ?_; refine y_assign ?_) | fail)
    exact ret1 rfl (resTmp rfl) SubR.nil ⟨rfl, rfl⟩
def ChkE (a : Option Addr) (f0 f1 : Nat) (e : Int) (w : World) : Prop := ∀ w' b1, Keep No w w' → w'.rangeAt b1 0 [.func (.func f0) #[.pointer a] #[], .func (.func f1) #[.pointer a] #[]] → Sy.Fn Tryz.prog 28 [.slice (some ⟨b1, 0, none⟩) 2 2] w' No (Gives (.int .i64 e))
theorem chk_none (a : Option Addr) (f1 : Nat) (w : World) (h : NoX a w) (en1 : ∀ args w, (callFunc f1 args).run Tryz.prog w = .ok (.enter f1 args) w) : ChkE a 29 f1 1 w := fun w' b1 hk hr =>
  pcheckE_fn a b1 _ f1 true 1 w' (by decide) (en rfl) en1 (fun w'' hk2 => existsN_fn a w'' ((h.to hk).to hk2)) (fun h => by cases h) hr
theorem chk_state (b : Nat) (s : Bool) (w : World) (hc : w.cell? ⟨b, 35, none⟩ = some (.int .i64 (sideI s))) (hd : w.cell? ⟨b, 2, none⟩ = some (.bool false)) : ChkE (some ⟨b, 0, none⟩) 29 36 8 w := fun w' b1 hk hr =>
  pcheckE_fn _ b1 _ _ false 8 w' (by decide) (en rfl) (en rfl) (fun w'' hk2 => exists_fn b (sideI s) w'' (side_ne s) (cell_to (cell_to hc hk) hk2)) (fun _ w'' hk2 => completeN_fn b w'' (cell_to (cell_to hd hk) hk2)) hr
theorem chk_open (b : Nat) (s : Bool) (w : World) (hc : w.cell? ⟨b, 35, none⟩ = some (.int .i64 (sideI s))) (hd : w.cell? ⟨b, 2, none⟩ = some (.bool true)) : ChkE (some ⟨b, 0, none⟩) 29 30 8 w := fun w' b1 hk hr =>
  pcheckE_fn _ b1 _ _ false 8 w' (by decide) (en rfl) (en rfl) (fun w'' hk2 => exists_fn b (sideI s) w'' (side_ne s) (cell_to (cell_to hc hk) hk2)) (fun _ w'' hk2 => openN_fn b w'' (cell_to (cell_to hd hk) hk2)) hr
theorem xkeyE_fn (a : Option Addr) (e : Int) (w : World) (he : e ≠ 0) (h : ChkE a 29 36 e w) : Sy.Fn Tryz.prog 12 [.pointer a] w No (Gives (.tuple #[.slice none 0 0, .int .i64 e])) := by
  refine fn_enter Tryz.func12 rfl Tryz.ntmps12 (by simp) Holds.nil ?_
  have ge : decide (e ≠ (0 : Int)) = true := decide_eq_true he
  repeat' (first | refine sy_seqC ?_ | refine syl_nil ?_ | refine sy_if_t rfl ?_ | refine sy_ret ?_ | refine syx_then ?_ | refine syx_go ?_ | refine syx_then_ret ?_ | (refine sy_region (id := 0) ?_; refine y_assign ?_; refine y_assign ?_) | (refine sy_region (id := 1) ?_; refine y_move ?_; refine y_makeFunc ?_; refine y_move ?_; refine y_makeFunc ?_; (refine ys op_buildSlice (k := ?_); rintro _ _ ⟨_, rfl, rfl⟩); refine yv (op_callV (f := 28) (hc := fun w' X hk hh => h w' _ hk (blk_range (hh.has (Has.append Has.here)) Seg.all))) (k := ?_); refine y_assign ?_) | (refine sy_region (id := 2) ?_; refine y_move ?_; refine yv (op_neq (hr := ge)) (k := ?_)) | (refine sy_region (id := 3) ?_; refine y_move ?_; refine y_assign ?_; refine y_assign ?_) | fail)
  exact ret2 rfl (resTmp rfl) (resTmp rfl) SubR.nil ⟨rfl, rfl⟩
theorem xconfirmE_fn (a : Option Addr) (e : Int) (w : World) (he : e ≠ 0) (h : ChkE a 29 36 e w) : Sy.Fn Tryz.prog 13 [.pointer a] w No (Gives (.tuple #[.slice none 0 0, .int .i64 e])) := by
  refine fn_enter Tryz.func13 rfl Tryz.ntmps13 (by simp) Holds.nil ?_
  have ge : decide (e ≠ (0 : Int)) = true := decide_eq_true he
  repeat' (first | refine sy_seqC ?_ | refine syl_nil ?_ | refine sy_if_t rfl ?_ | refine sy_ret ?_ | refine syx_then ?_ | refine syx_go ?_ | refine syx_then_ret ?_ | (refine sy_region (id := 0) ?_; refine y_assign ?_; refine y_assign ?_) | (refine sy_region (id := 1) ?_; refine y_move ?_; refine y_makeFunc ?_; refine y_move ?_; refine y_makeFunc ?_; (refine ys op_buildSlice (k := ?_); rintro _ _ ⟨_, rfl, rfl⟩); refine yv (op_callV (f := 28) (hc := fun w' X hk hh => h w' _ hk (blk_range (hh.has (Has.append Has.here)) Seg.all))) (k := ?_); refine y_assign ?_) | (refine sy_region (id := 2) ?_; refine y_move ?_; refine yv (op_neq (hr := ge)) (k := ?_)) | (refine sy_region (id := 3) ?_; refine y_move ?_; refine y_assign ?_; refine y_assign ?_) | fail)
  exact ret2 rfl (resTmp rfl) (resTmp rfl) SubR.nil ⟨rfl, rfl⟩
theorem xverifyE_fn (a : Option Addr) (e : Int) (v : Value) (w : World) (he : e ≠ 0) (h : ChkE a 29 36 e w) : Sy.Fn Tryz.prog 14 [.pointer a, v] w No (Gives (.int .i64 e)) := by
  refine fn_enter Tryz.func14 rfl Tryz.ntmps14 (by simp) Holds.nil ?_
  have ge : decide (e ≠ (0 : Int)) = true := decide_eq_true he
  repeat' (first | refine sy_seqC ?_ | refine syl_nil ?_ | refine sy_if_t rfl ?_ | refine sy_ret ?_ | refine syx_then ?_ | refine syx_go ?_ | refine syx_then_ret ?_ | (refine sy_region (id := 0) ?_; refine y_assign ?_) | (refine sy_region (id := 1) ?_; refine y_move ?_; refine y_makeFunc ?_; refine y_move ?_; refine y_makeFunc ?_; (refine ys op_buildSlice (k := ?_); rintro _ _ ⟨_, rfl, rfl⟩); refine yv (op_callV (f := 28) (hc := fun w' X hk hh => h w' _ hk (blk_range (hh.has (Has.append Has.here)) Seg.all))) (k := ?_); refine y_assign ?_) | (refine sy_region (id := 2) ?_; refine y_move ?_; refine yv (op_neq (hr := ge)) (k := ?_)) | (refine sy_region (id := 3) ?_; refine y_move ?_; refine y_assign ?_) | fail)
  exact ret1 rfl (resTmp rfl) SubR.nil ⟨rfl, rfl⟩
theorem xfinE_fn (a : Option Addr) (e : Int) (v : Value) (w : World) (he : e ≠ 0) (h : ChkE a 29 30 e w) : Sy.Fn Tryz.prog 10 [.pointer a, v] w No (Gives (.int .i64 e)) := by
  refine fn_enter Tryz.func10 rfl Tryz.ntmps10 (by simp) Holds.nil ?_
  have ge : decide (e ≠ (0 : Int)) = true := decide_eq_true he
  repeat' (first | refine sy_seqC ?_ | refine syl_nil ?_ | refine sy_if_t rfl ?_ | refine sy_ret ?_ | refine syx_then ?_ | refine syx_go ?_ | refine syx_then_ret ?_ | (refine sy_region (id := 0) ?_; refine y_assign ?_) | (refine sy_region (id := 1) ?_; refine y_move ?_; refine y_makeFunc ?_; refine y_move ?_; refine y_makeFunc ?_; (refine ys op_buildSlice (k := ?_); rintro _ _ ⟨_, rfl, rfl⟩); refine yv (op_callV (f := 28) (hc := fun w' X hk hh => h w' _ hk (blk_range (hh.has (Has.append Has.here)) Seg.all))) (k := ?_); refine y_assign ?_) | (refine sy_region (id := 2) ?_; refine y_move ?_; refine yv (op_neq (hr := ge)) (k := ?_)) | (refine sy_region (id := 3) ?_; refine y_move ?_; refine y_assign ?_) | fail)
  exact ret1 rfl (resTmp rfl) SubR.nil ⟨rfl, rfl⟩
theorem xelementN_fn (a : Option Addr) (w : World) (h : NoX a w) : Sy.Fn Tryz.prog 11 [.pointer a] w No (Gives (.slice none 0 0)) := by
  refine fn_enter Tryz.func11 rfl Tryz.ntmps11 (by simp) Holds.nil ?_
  have he := fun w' (hk : Keep No w w') => existsN_fn a w' (h.to hk)
  repeat' (first | refine sy_seqC ?_ | refine syl_nil ?_ | refine sy_if_t rfl ?_ | refine sy_ret ?_ | refine syx_then ?_ | refine syx_go ?_ | refine syx_then_ret ?_ | (refine sy_region (id := 0) ?_; refine y_assign ?_) | (refine sy_region (id := 1) ?_; refine y_move ?_; refine yv (op_callV (f := 29) (hc := fun w' X hk hh => he w' hk)) (k := ?_); refine y_neq ?_) | (refine sy_region (id := 2) ?_; refine y_assign ?_) | fail)
  exact ret1 rfl (resTmp rfl) SubR.nil ⟨rfl, rfl⟩
theorem xcopyN_fn (a : Option Addr) (w : World) (h : NoX a w) : Sy.Fn Tryz.prog 15 [.pointer a] w No (Gives (.pointer none)) := by
  refine fn_enter Tryz.func15 rfl Tryz.ntmps15 (by simp) Holds.nil ?_
  have he := fun w' (hk : Keep No w w') => existsN_fn a w' (h.to hk)
  repeat' (first | refine sy_seqC ?_ | refine syl_nil ?_ | refine sy_if_t rfl ?_ | refine sy_ret ?_ | refine syx_then ?_ | refine syx_go ?_ | refine syx_then_ret ?_ | (refine sy_region (id := 0) ?_; refine y_assign ?_) | (refine sy_region (id := 1) ?_; refine y_move ?_; refine yv (op_callV (f := 29) (hc := fun w' X hk hh => he w' hk)) (k := ?_); refine y_neq ?_) | (refine sy_region (id := 2) ?_; refine y_assign ?_) | fail)
  exact ret1 rfl (resTmp rfl) SubR.nil ⟨rfl, rfl⟩
end Go.Proofs.YtaeddmcoanefhaaGreatDoor
end
