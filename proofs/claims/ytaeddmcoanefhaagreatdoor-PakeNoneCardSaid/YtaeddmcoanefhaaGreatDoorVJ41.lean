/- Layer pake, walked: Finish with an element of the group. -/
import Derived.Test.YtaeddmcoanefhaaGreatDoorVJ40
set_option linter.all false
section
namespace Go.Proofs.YtaeddmcoanefhaaGreatDoor
open Go Go.Sy Go.Sh Go.Nt Go.RowKit
attribute [local irreducible] Sy SyL SyX Sy.Fn callFunc natC rowN gP gQ gL memB safeC fixB Sh.sum HashIs pkPt pkH firstN dblock hmac pkDer pkDig pkC selA ordF
set_option maxRecDepth 10000
set_option maxHeartbeats 2000000 in
theorem xfin_fn (b i : Nat) (sx : Bs) (G : List Value) (s : Bool) (x wv y : Nat) (so sp : Bs) (w : World) (h0 : 1 ≤ i) (h5 : i ≤ 4) (hG : G.length = 32) (hX : XIs b i sx false G s x wv so w) (hy1 : y ≠ 1) (hy : memB (gP i) (gQ i) y = true) (hx : x < gQ i) (hw : wv < gQ i)
    (hel : ∀ w', Keep (fun z => z = b) w w' → Sy.Fn Tryz.prog 31 [.int .i64 (i : Int), sp.val] w' No (Gives (.tuple #[natV y, .int .i64 0])))
    (hps : ∀ t ∈ [sx, so, sp], SlF w (fun z => z = b) t.a (t.l.map v8) ∧ t.l.length = t.n ∧ t.n ≤ t.c ∧ (t.a = none → t.c = 0) ∧ t.n ≤ 10000) (hT : Tab w (fun z => z = b)) (hGT : ∀ w', Keep (fun z => z = b) w w' → GT w') :
    Sy.Fn Tryz.prog 10 [.pointer (some ⟨b, 0, none⟩), sp.val] w (fun z => z = b) (fun v R => v = .int .i64 0 ∧
      R = [.blk b 46 (pkC i sx true ((pkDig i sx.l (if s then so else sp).l (if s then sp else so).l (fixB (gL i) (pkSh s i wv x y)) (fixB (gL i) wv)).map v8) s x wv so)]) := by
  refine fn_enter Tryz.func10 rfl Tryz.ntmps10 (by simp) (holds_own hX) ?_
  have c0 : (pkC i sx false G s x wv so)[0]? = _ := pkC_0
  have c35 : (pkC i sx false G s x wv so)[35]? = _ := pkC_35 hG
  have c68 : (pkC i sx false G s x wv so)[68]? = _ := pkC_68 hG
  have s36 : Seg (pkC i sx false G s x wv so) 36 (natC x) := pkC_36 hG
  have s52 : Seg (pkC i sx false G s x wv so) 52 (natC wv) := pkC_52 hG
  have hch := fun w' (hX' : XIs b i sx false G s x wv so w') b9 h => chkO_fn b b9 s w' (hX'.c35 hG) (hX'.c2) h
  have ly := natC_len y
  have h1 := fun w' => pnum_fn 1 w' (by decide)
  have hyW := pk_W h0 h5 hy
  have g1 : decide (y = 1) = false := decide_eq_false hy1
  repeat' (first | refine sy_seqC ?_ | refine syl_nil ?_ | refine sy_if_f rfl ?_ | refine sy_skip ?_ | refine syx_then ?_ | refine syx_go ?_ | (refine sy_region (id := 0) ?_; refine y_assign ?_) | (refine sy_region (id := 1) ?_; refine y_move ?_; refine y_makeFunc ?_; refine y_move ?_; refine y_makeFunc ?_; (refine ys op_buildSlice (k := ?_); rintro _ _ ⟨_, rfl, rfl⟩); refine yv (op_callV (f := 28) (hc := fun w' X hk hh => hch w' (hh.has (Has.there Has.here)) _ (blk_range (hh.has (Has.append Has.here)) Seg.all))) (k := ?_); refine y_assign ?_) | (refine sy_region (id := 2) ?_; refine y_move ?_; refine y_neq ?_) | (refine sy_region (id := 4) ?_; refine y_move ?_; refine y_nilCheck ?_; refine y_fieldAddr ?_; refine y_fieldAddr ?_; refine yv (op_load (hv := c0)) (k := ?_); refine y_move ?_; refine yv (op_callV (f := 31) (hc := fun w' X hk hh => hel w' hk)) (k := ?_); refine y_move ?_; refine y_extract ?_; refine y_extract ?_; (refine y_new ?_; intro _); refine yn (op_storeNat (n := y)) (k := ?_); refine y_assign ?_) | (refine sy_draw (id := 5) 5 [[], [0], [0, 1], [0, 1, 2], [0, 1, 2], [0, 1, 2, 3, 4], [0, 1, 2, 3, 4, 5]] mixed ?_ ?_; kernel_rfl; refine d_move ?_; refine d_neq ?_; refine d_move ?_; refine dc (fun _ _ => op_loads (B := natC y)) (k := ?_); refine dc (fun _ _ => op_callV (hc := fun _ _ _ _ => (h1 _))) (k := ?_); refine dh_0n ?_; refine yv (op_eqNat (a := y) (b := 1) (r := false) natTy hyW (by decide) g1) (k := ?_); refine y_pick ?_) | fail)
  rename_i b21 b6
  refine Sy.weaken (fr' := [(6, .pointer (some ⟨b6, 0, none⟩)), (1, sp.val), (0, .pointer (some ⟨b, 0, none⟩))]) (L' := [.blk b6 44 (natC y), .blk b 46 (pkC i sx false G s x wv so)]) ?_ (by exact Sub.go) (by exact SubR.go)
  refine sy_drawA (id := 7) mixed ?_
  (refine sye_part 7 7 [[], [], [1], [1, 2], [1, 2, 3], [0, 1, 2, 3, 4], [], [0, 1, 2, 3, 4, 5, 6]] [[], [], [], [], [], [], [], []] none rfl ?_ ?_ ?_; kernel_rfl; kernel_rfl; try refine dh_0nE (h := ?_))
  refine dh_rE (R := fun _ v Nw => ∃ b, v = .map (some b) ∧ Nw = [mapR b pkMap 2]) (fun _ _ _ => rfl) (fun ρ hρ => op_call0 (f := 18) (hc := fun w' X hk hh => sides_fn w')) (h := ?_)
  (skip; refine e_move ?_; refine e_nilCheck ?_; refine e_fieldAddr ?_; refine dcE (fun _ _ => op_load (hv := c35)) (k := ?_); try refine dh_0nE (h := ?_))
  refine dcE (u := .agg (aggL s).toArray) (fun ρ hρ => ?_) (k := ?_)
  · obtain ⟨⟨bm, e1, e2⟩, -⟩ := hρ
    exact op_sideL (b := bm) s (hm := by show some (ρ 0).1 = _; rw [e1]) (hL := by show Has ((ρ 0).2 ++ _) _; rw [e2]; exact Has.here)
  refine dh_rE (R := fun _ v Nw => ∃ b C, C.length = 4 ∧ v = .pointer (some ⟨b, 0, none⟩) ∧ Nw = [.blk b 55 C]) (fun _ _ _ => rfl) (fun ρ hρ => OpT.mono op_alloc fun v L' h => ?_) (h := ?_)
  · obtain ⟨b, rfl, rfl⟩ := h
    exact ⟨[_], rfl, b, _, rfl, rfl, rfl⟩
  refine dh_0E (h := ?_)
  rintro ρ ⟨⟨b8, C8, l8, e8, f8⟩, ⟨bm, -, f0⟩, -⟩
  (refine sya_list [[], [], [1], [1, 2], [1, 2, 3], [0, 1, 2, 3, 4], [], [0, 1, 2, 3, 4, 5, 6]] ?_ ?_; kernel_rfl)
  refine SyL.weaken (fr' := [(48, .agg (aggL s).toArray), (8, .pointer (some ⟨b8, 0, none⟩)), (6, .pointer (some ⟨b6, 0, none⟩)), (1, sp.val), (0, .pointer (some ⟨b, 0, none⟩))]) (L' := [.blk b8 55 C8, .blk b6 44 (natC y), .blk b 46 (pkC i sx false G s x wv so)]) ?_ ?_ ?_
  rotate_left
  · (repeat' (first | exact Sub.nil | refine Sub.cons rfl ?_ ?_ | rfl))
    exact e8
  · show SubR _ ((ρ 6).2 ++ ((ρ 0).2 ++ _))
    rw [f8, f0]
    exact SubR.go2
  clear e8 f8 f0
  have lp1 := natC_len (pkPt i true)
  have lp2 := natC_len (pkPt i false)
  have hcp := fun b9 w' (hk : Keep (fun z => z = b) w w') (hC : CalcIs i b9 w') => cpoints_fn i b9 w' h0 h5 (hT.no hk) (hGT w' hk) hC
  repeat' (first | refine sy_seqC ?_ | refine syl_nil ?_ | refine syx_then ?_ | refine syx_go ?_ | (refine sy_region (id := 8) ?_; refine y_move ?_; refine y_nilCheck ?_; refine y_fieldAddr ?_; refine y_fieldAddr ?_; refine yv (op_load (hv := c0)) (k := ?_); refine yv op_buildC (k := ?_); (refine y_new ?_; intro _); refine y_store ?_) | (refine sy_region (id := 9) ?_; refine yv (op_callV (f := 23) (hc := fun w' X hk hh => hcp _ w' hk (hh.has (Has.append Has.here)))) (k := ?_); refine y_move ?_; refine y_extract ?_; refine y_extract ?_; (refine y_new ?_; intro _); (refine y_new ?_; intro _); refine yn (op_storeNat (n := pkPt i true)) (k := ?_); refine yn (op_storeNat (n := pkPt i false)) (k := ?_)) | (refine syl_id ?_; first | refine yn (op_storesAll (B := aggL s) (hC := l8)) (k := ?_) | fail) | fail)
  rename_i b9 b10 b11
  refine Sy.weaken (fr' := [(11, .pointer (some ⟨b11, 0, none⟩)), (10, .pointer (some ⟨b10, 0, none⟩)), (9, .pointer (some ⟨b9, 0, none⟩)), (8, .pointer (some ⟨b8, 0, none⟩)), (6, .pointer (some ⟨b6, 0, none⟩)), (1, sp.val), (0, .pointer (some ⟨b, 0, none⟩))])
    (L' := [.blk b9 61 [.int .i64 (i : Int), .int .i64 0], .blk b11 44 (natC (pkPt i false)), .blk b10 44 (natC (pkPt i true)), .blk b8 55 (aggL s), .blk b6 44 (natC y), .blk b 46 (pkC i sx false G s x wv so)]) ?_ (by exact Sub.go) (by exact SubR.go)
  have hmp := pk_pt i (!s) h0 h5
  have hmh := pk_powx h0 h5 hmp wv
  have hsel := fun w' => selA_fn (!s) (pkPt i) w'
  have hexp := fun w' (hk : Keep (fun z => z = b) w w') (hC : CalcIs i b9 w') => cexp_fn i b9 (pkPt i (!s)) wv w' h0 h5 (hGT w' hk) hC (pk_W h0 h5 hmp) (Nat.lt_trans hw (gQ_W i h0 h5)) hmp hw
  have hsh : pkSh s i wv x y = (y * (inv (gP i) (pkPt i (!s) ^ wv % gP i)).2 % gP i) ^ x % gP i := rfl
  generalize pkPt i (!s) ^ wv % gP i = hd at *
  generalize hpn : pkPt i (!s) = pn at *
  generalize pkPt i true = pt at *
  generalize pkPt i false = pf at *
  have lh := natC_len hd
  have lpn := natC_len pn
  have lw := natC_len wv
  refine sy_drawA (id := 10) mixed ?_
  (refine sye_part 11 11 [[], [0], [], [], [0, 1, 2, 3], [], [5], [5, 6], [5, 6, 7], [0, 1, 2, 3, 4, 5, 6, 7, 8], [], [0, 1, 2, 3, 4, 5, 6, 7, 8, 9, 10]] [[], [], [], [], [], [], [], [], [], [], [], []] none rfl ?_ ?_ ?_; kernel_rfl; kernel_rfl; refine e_fieldAddr ?_; refine dcE (fun _ _ => op_load (v := .func (.func (selA (!s))) #[] #[]) (hv := rfl)) (k := ?_); refine dcE (fun _ _ => op_loads (B := natC pt)) (k := ?_); refine dcE (fun _ _ => op_loads (B := natC pf)) (k := ?_); refine dcE (fun _ _ => op_callFV (he := selA_en (!s)) (fst := []) (cap := []) (hc := fun w' X hk hh => hsel w')) (k := ?_); refine e_move ?_; refine e_nilCheck ?_; refine e_fieldAddr ?_; refine dcE (fun _ _ => op_loads (B := natC wv) (hv := s52)) (k := ?_); refine dcE (fun _ _ => op_callV (f := 27) (hc := fun w' X hk hh => hexp w' hk (hh.has (Has.append Has.here)))) (k := ?_); try refine dh_0nE (h := ?_))
  refine dh_rE (R := fun _ => PtrOf 44 (List.replicate 16 (.int .u64 0))) (fun _ _ _ => rfl) (fun ρ hρ => OpT.mono op_alloc fun v L' h => ?_) (h := ?_)
  · obtain ⟨b, rfl, rfl⟩ := h
    exact ⟨[_], rfl, b, rfl, rfl⟩
  refine dh_0E (h := ?_)
  rintro ρ ⟨⟨b12, e12, f12⟩, -⟩
  (refine sya_list [[], [0], [], [], [0, 1, 2, 3], [], [5], [5, 6], [5, 6, 7], [0, 1, 2, 3, 4, 5, 6, 7, 8], [], [0, 1, 2, 3, 4, 5, 6, 7, 8, 9, 10]] ?_ ?_; kernel_rfl)
  refine SyL.weaken (fr' := [(68, natV hd), (12, .pointer (some ⟨b12, 0, none⟩)), (9, .pointer (some ⟨b9, 0, none⟩)), (8, .pointer (some ⟨b8, 0, none⟩)), (6, .pointer (some ⟨b6, 0, none⟩)), (1, sp.val), (0, .pointer (some ⟨b, 0, none⟩))])
    (L' := [.blk b12 44 (List.replicate 16 (.int .u64 0)), .blk b9 61 [.int .i64 (i : Int), .int .i64 0], .blk b8 55 (aggL s), .blk b6 44 (natC y), .blk b 46 (pkC i sx false G s x wv so)]) ?_ ?_ ?_
  rotate_left
  · (repeat' (first | exact Sub.nil | refine Sub.cons rfl ?_ ?_ | rfl))
    exact e12
  · show SubR _ ((ρ 10).2 ++ _)
    rw [f12]
    exact SubR.go2
  clear e12 f12
  repeat' (first | refine sy_seqC ?_ | refine syl_nil ?_ | refine syx_then ?_ | refine syx_go ?_ | (refine syl_id ?_; first | refine yn (op_storeNat (n := hd)) (k := ?_) | fail) | fail)
  have hmi := pk_inv h0 h5 hmh
  have hmm := pk_mul h0 h5 hy hmi
  have hms := pk_powx h0 h5 hmm x
  have hinv := fun w' (hk : Keep (fun z => z = b) w w') (hC : CalcIs i b9 w') => cinv_fn i b9 hd w' h0 h5 (hGT w' hk) hC (pk_W h0 h5 hmh) hmh
  have hmul := fun w' (hk : Keep (fun z => z = b) w w') (hC : CalcIs i b9 w') => cmul_fn i b9 y (inv (gP i) hd).2 w' h0 h5 (hGT w' hk) hC hyW (pk_W h0 h5 hmi) (by rw [hy, hmi]; rfl)
  have hexp2 := fun w' (hk : Keep (fun z => z = b) w w') (hC : CalcIs i b9 w') => cexp_fn i b9 (y * (inv (gP i) hd).2 % gP i) x w' h0 h5 (hGT w' hk) hC (pk_W h0 h5 hmm) (Nat.lt_trans hx (gQ_W i h0 h5)) hmm hx
  rw [← hsh] at hexp2 hms
  have hbyt := fun w' (hk : Keep (fun z => z = b) w w') (hC : CalcIs i b9 w') => cbytes_fn i b9 (pkSh s i wv x y) w' h0 h5 (hGT w' hk) hC (pk_W h0 h5 hms) hms
  have hsca := fun w' (hk : Keep (fun z => z = b) w w') (hC : CalcIs i b9 w') => cscalar_fn i b9 wv w' h0 h5 (hGT w' hk) hC (Nat.lt_trans hw (gQ_W i h0 h5)) (decide_eq_true hw)
  clear hsh hexp
  have ln1 : nd 256 (pkSh s i wv x y) ≤ gL i := gP_nd h0 h5 (memB_mem.1 hms).2.1
  generalize pkSh s i wv x y = sv at *
  generalize y * (inv (gP i) hd).2 % gP i = mv at *
  generalize (inv (gP i) hd).2 = iv at *
  have lx := natC_len x
  have li := natC_len iv
  have lm := natC_len mv
  have lsv := natC_len sv
  refine sy_drawA (id := 11) mixed ?_
  (refine sye_part 11 11 [[], [], [1], [0, 1, 2], [], [4], [4, 5], [4, 5, 6], [0, 1, 2, 3, 4, 5, 6, 7], [0, 1, 2, 3, 4, 5, 6, 7, 8], [0, 1, 2, 3, 4, 5, 6, 7, 8, 9]] [[], [], [], [], [], [], [], [], [], [], []] none rfl ?_ ?_ ?_; kernel_rfl; kernel_rfl; refine dcE (fun _ _ => op_loads (B := natC y)) (k := ?_); refine dcE (fun _ _ => op_loads (B := natC hd)) (k := ?_); refine dcE (fun _ _ => op_callV (f := 33) (hc := fun w' X hk hh => hinv w' hk (hh.has (Has.append (by exact Has.go))))) (k := ?_); refine dcE (fun _ _ => op_callV (f := 25) (hc := fun w' X hk hh => hmul w' hk (hh.has (Has.append (by exact Has.go))))) (k := ?_); refine e_move ?_; refine e_nilCheck ?_; refine e_fieldAddr ?_; refine dcE (fun _ _ => op_loads (B := natC x) (hv := s36)) (k := ?_); refine dcE (fun _ _ => op_callV (f := 27) (hc := fun w' X hk hh => hexp2 w' hk (hh.has (Has.append (by exact Has.go))))) (k := ?_); try refine dh_0nE (h := ?_))
  refine dh_rE (R := fun _ v Nw => ∃ a c, v = .slice a (gL i) c ∧ Nw = [.row (.slice a (gL i) c) 5 1 (gL i) ((fixB (gL i) sv).map v8)]) (fun _ _ _ => rfl) (fun ρ hρ => op_call0 (f := 24) (hc := fun w' X hk hh => hbyt w' hk (hh.has (Has.append (by exact Has.go))))) (h := ?_)
  refine dh_vE (u := fun ρ => (ρ 9).1) (fun ρ hρ => op_assign) (fun _ => rfl) rfl (fun ρ ρ' h => by rw [h 9 (by decide)]) (h := ?_)
  refine dh_0E (h := ?_)
  rintro ρ ⟨⟨aS, cS, e1, e2⟩, -⟩
  (refine sya_list [[], [], [1], [0, 1, 2], [], [4], [4, 5], [4, 5, 6], [0, 1, 2, 3, 4, 5, 6, 7], [0, 1, 2, 3, 4, 5, 6, 7, 8], [0, 1, 2, 3, 4, 5, 6, 7, 8, 9]] ?_ ?_; kernel_rfl)
  refine SyL.weaken (fr' := [(13, .slice aS (gL i) cS), (9, .pointer (some ⟨b9, 0, none⟩)), (8, .pointer (some ⟨b8, 0, none⟩)), (1, sp.val), (0, .pointer (some ⟨b, 0, none⟩))])
    (L' := [.row (.slice aS (gL i) cS) 5 1 (gL i) ((fixB (gL i) sv).map v8), .blk b9 61 [.int .i64 (i : Int), .int .i64 0], .blk b8 55 (aggL s), .blk b 46 (pkC i sx false G s x wv so)]) ?_ ?_ ?_
  rotate_left
  · (repeat' (first | exact Sub.nil | refine Sub.cons rfl ?_ ?_ | rfl))
    exact e1
  · show SubR _ ((ρ 9).2 ++ _)
    rw [e2]
    exact SubR.go2
  clear e1 e2
  have hf1 := fixB_len (gL i) sv ln1
  have hf2 := fixB_len (gL i) wv (gQ_nd h0 h5 hw)
  have hgl := (gL_le i h0 h5).2
  repeat' (first | refine sy_seqC ?_ | refine syl_nil ?_ | refine sy_if_f rfl ?_ | refine sy_skip ?_ | refine syx_then ?_ | refine syx_go ?_ | (refine sy_region (id := 12) ?_; refine y_move ?_; refine y_nilCheck ?_; refine y_fieldAddr ?_; refine yv (op_loads (B := natC wv) (hv := s52)) (k := ?_); (refine ys (op_call0 (f := 34) (hc := fun w' X hk hh => hsca w' hk (hh.has (Has.append (by exact Has.go))))) (k := ?_); rintro _ _ ⟨R, rfl, aV, cV, rfl, rfl⟩); refine y_assign ?_) | (refine sy_region (id := 13) ?_; refine y_fieldAddr ?_; refine y_load ?_; refine y_neq ?_) | (refine sy_draw (id := 15) 12 [[], [0], [], [2], [2, 3], [2, 3, 4], [], [0, 1, 2, 3, 4, 5, 6], [0, 1, 2, 3, 4, 5, 6, 7], [0, 1, 2, 3, 4, 5, 6, 7, 8], [0, 1, 2, 3, 4, 5, 6, 7, 8], [0, 1, 2, 3, 4, 5, 6, 7, 8, 9], [0, 1, 2, 3, 4, 5, 6, 7, 8, 9, 10, 11]] mixed ?_ ?_; kernel_rfl; refine d_fieldAddr ?_; refine dc (fun _ _ => op_load (v := .func (.func (ordF s)) #[] #[]) (hv := rfl)) (k := ?_); refine d_move ?_; refine d_nilCheck ?_; refine d_fieldAddr ?_; refine dc (fun _ _ => op_load (hv := c68)) (k := ?_); refine d_move ?_; refine dc (fun _ _ => op_callFV (he := ordF_en s) (fst := []) (cap := []) (hc := fun w' X hk hh => ordF_fn s so sp w')) (k := ?_); refine d_move ?_; refine d_extract ?_; refine d_extract ?_; refine d_assign ?_; refine dh_0n ?_; refine y_assign ?_) | fail)
  refine Sy.weaken (fr' := [(16, (if s then sp else so).val), (15, (if s then so else sp).val), (14, .slice aV (gL i) cV), (13, .slice aS (gL i) cS), (0, .pointer (some ⟨b, 0, none⟩))])
    (L' := [.row (.slice aV (gL i) cV) 5 1 (gL i) ((fixB (gL i) wv).map v8), .row (.slice aS (gL i) cS) 5 1 (gL i) ((fixB (gL i) sv).map v8), .blk b 46 (pkC i sx false G s x wv so)]) ?_ (by exact Sub.go) (by exact SubR.go2)
  have hfin : ∀ w' X, Keep (fun z => z = b) w w' → Holds w.heap.size (fun z => z = b) ([.row (.slice aV (gL i) cV) 5 1 (gL i) ((fixB (gL i) wv).map v8), .row (.slice aS (gL i) cS) 5 1 (gL i) ((fixB (gL i) sv).map v8), .blk b 46 (pkC i sx false G s x wv so)] ++ X) w' →
      Sy.Fn Tryz.prog 35 [.pointer (some ⟨b, 0, none⟩), (if s then so else sp).val, (if s then sp else so).val, .slice aS (gL i) cS, .slice aV (gL i) cV] w' (fun z => z = b) (fun v R => v = .tuple #[] ∧
        R = [.blk b 46 (pkC i sx true ((pkDig i sx.l (if s then so else sp).l (if s then sp else so).l (fixB (gL i) sv) (fixB (gL i) wv)).map v8) s x wv so)]) := fun w' X hk hh => by
    have hold : ∀ t ∈ [sx, so, sp], SlF w' (fun z => z = b) t.a (t.l.map v8) ∧ t.l.length = t.n ∧ t.n ≤ t.c ∧ (t.a = none → t.c = 0) ∧ t.n ≤ 10000 := fun t ht => by
      obtain ⟨h1, h2⟩ := hps t ht
      exact ⟨h1.to hk (fun _ h => .inr h), h2⟩
    have hb : (Res.blk b 46 (pkC i sx false G s x wv so)).holds w' := hh.has (Has.append (Has.there (Has.there Has.here)))
    have hr1 := Row.nil hh (Has.append Has.here)
    have hr2 := Row.nil hh (Has.append (Has.there Has.here))
    have hc1 := Row.cap hh (Has.append Has.here)
    have hc2 := Row.cap hh (Has.append (Has.there Has.here))
    have hs1 := SlF.rowB hh (Has.there (Has.there Has.here)) Has.here
    have hs2 := SlF.rowB hh (Has.there (Has.there Has.here)) (Has.there Has.here)
    unfold pkC at hb ⊢
    refine xfinish_fn b 46 i false G (.int .i64 (sideI s) :: (natC x ++ (natC wv ++ [so.val]))) hG sx (if s then so else sp) (if s then sp else so) ⟨aS, gL i, cS, fixB (gL i) sv⟩ ⟨aV, gL i, cV, fixB (gL i) wv⟩ w' (by omega) hb (fun t ht => ?_) (hT.to hk (fun _ h => .inr h))
    simp only [List.mem_cons, List.not_mem_nil, or_false] at ht
    rcases ht with rfl | rfl | rfl | rfl | rfl
    · exact hold _ (by simp)
    · cases s
      · exact hold _ (by simp)
      · exact hold _ (by simp)
    · cases s
      · exact hold _ (by simp)
      · exact hold _ (by simp)
    · exact ⟨hs2, hf1, hc2, fun h => (hr2 h).1, by show gL i ≤ 10000; omega⟩
    · exact ⟨hs1, hf2, hc1, fun h => (hr1 h).1, by show gL i ≤ 10000; omega⟩
  repeat' (first | refine sy_seqC ?_ | refine syl_nil ?_ | refine sy_ret ?_ | refine syx_then ?_ | refine syx_go ?_ | (refine sy_region (id := 16) ?_; refine y_move ?_; refine y_nilCheck ?_; refine y_fieldAddr ?_; refine y_move ?_; refine y_move ?_; refine y_move ?_; refine y_move ?_; refine yv (op_callB (b := b) (f := 35) (T := 46) (C := pkC i sx false G s x wv so) (hc := fun w' X hk hh => hfin w' X hk hh)) (k := ?_)) | (refine sy_region (id := 17) ?_; refine y_assign ?_) | fail)
  exact ret1 rfl (resTmp rfl) (by exact SubR.go2) ⟨rfl, rfl⟩
end Go.Proofs.YtaeddmcoanefhaaGreatDoor
end
section
namespace Go.Proofs.YtaeddmcoanefhaaGreatDoor
open Go Go.Sy Go.Sh Go.Nt Go.RowKit
theorem setSeg_at {C A B B' R : List Value} {k : Nat} (h : C = A ++ (B ++ R)) (hk : A.length = k) (hl : B.length = B'.length) : setSeg C k B' = A ++ (B' ++ R) := by
  subst hk
  unfold setSeg
  rw [h, List.take_left' rfl, ← List.append_assoc A B R, List.drop_left' (by rw [List.length_append, hl]), List.append_assoc]
section
variable {i : Nat} {sx : Bs} {d : Bool} {G : List Value} {s : Bool} {x wv : Nat} {so : Bs}
theorem pkC_put36 (r : Nat) (h : G.length = 32) : setSeg (pkC i sx d G s x wv so) 36 (natC r) = pkC i sx d G s r wv so := by
  rw [setSeg_at (A := .int .i64 (i : Int) :: sx.val :: .bool d :: (G ++ [.int .i64 (sideI s)])) (B := natC x) (R := natC wv ++ [so.val]) (by unfold pkC; simp) (by simp [h]) (by rw [natC_len, natC_len])]
  unfold pkC; simp
theorem pkC_put52 (r : Nat) (h : G.length = 32) : setSeg (pkC i sx d G s x wv so) 52 (natC r) = pkC i sx d G s x r so := by
  rw [setSeg_at (A := .int .i64 (i : Int) :: sx.val :: .bool d :: (G ++ (.int .i64 (sideI s) :: natC x))) (B := natC wv) (R := [so.val]) (by unfold pkC; simp) (by simp [h, natC_len]) (by rw [natC_len, natC_len])]
  unfold pkC; simp
theorem pkC_len (h : G.length = 32) : (pkC i sx d G s x wv so).length = 69 := by unfold pkC; simp [h, natC_len]
theorem pkC_put68 (so' : Bs) (h : G.length = 32) : SetAt (pkC i sx d G s x wv so) 68 so'.val (pkC i sx d G s x wv so') := by
  refine ⟨by rw [pkC_len h]; decide, ?_⟩
  have e : ∀ so : Bs, pkC i sx d G s x wv so = (.int .i64 (i : Int) :: sx.val :: .bool d :: (G ++ (.int .i64 (sideI s) :: (natC x ++ natC wv)))) ++ [so.val] := fun so => by unfold pkC; simp
  have l : (.int .i64 (i : Int) :: sx.val :: .bool d :: (G ++ (.int .i64 (sideI s) :: (natC x ++ natC wv)))).length = 68 := by simp [h, natC_len]
  rw [e so, e so', ← l]
  simp
end
def zG : List Value := List.replicate 32 (.int .u8 0)
def pkZ (i : Nat) (v : Value) (s : Int) : List Value := .int .i64 (i : Int) :: v :: .bool false :: (List.replicate 32 (.int .u8 0) ++ (.int .i64 s :: (List.replicate 32 (.int .u64 0) ++ [.slice none 0 0])))
theorem pkZ_C (i : Nat) (sx : Bs) (s : Bool) : pkZ i sx.val (sideI s) = pkC i sx false zG s 0 0 ⟨none, 0, 0, []⟩ := by
  unfold pkC
  rw [← natC0]; rfl
section
variable {ro : Option Nat} {N : Nat} {w0 : World} {M : Nat → Prop} {ds : List Deferred} {g : Nat → Option Value} {L : List Res} {o : Oper} {z z' : Operand}
theorem op_buildT {i : Int} {v : Value} (hv : v.cells = #[v]) (ho : o.op = .build 39 #[(0, z), (1, z')] := by exact rfl) (hz : ev g z = some (.int .i64 i) := by exact rfl) (hz' : ev g z' = some v := by exact rfl) :
    OpT Tryz.prog ro N w0 M ds o g L (Det (.agg (.int .i64 i :: v :: .bool false :: List.replicate 32 (.int .u8 0)).toArray) L) :=
  op_buildP (parts := #[(0, z), (1, z')]) (vs := [.int .i64 i, v]) (C := .int .i64 i :: v :: .bool false :: List.replicate 32 (.int .u8 0)) (.cons (cs := [.int .i64 i]) (off := 0) (n := 1) rfl rfl rfl (Nat.le_of_ble_eq_true rfl) (.cons (cs := [v]) (off := 1) (n := 1) hv rfl rfl (Nat.le_of_ble_eq_true rfl) .nil)) ho (by simp [evs, hz, hz']) (ty rfl) rfl rfl (zc rfl)
theorem op_buildE {i : Nat} {v : Value} {s : Int} (ho : o.op = .build 46 #[(0, z), (1, z')] := by exact rfl) (hz : ev g z = some (.agg (.int .i64 (i : Int) :: v :: .bool false :: List.replicate 32 (.int .u8 0)).toArray) := by exact rfl) (hz' : ev g z' = some (.int .i64 s) := by exact rfl) :
    OpT Tryz.prog ro N w0 M ds o g L (Det (.agg (pkZ i v s).toArray) L) :=
  op_buildP (parts := #[(0, z), (1, z')]) (vs := [.agg (.int .i64 (i : Int) :: v :: .bool false :: List.replicate 32 (.int .u8 0)).toArray, .int .i64 s]) (C := pkZ i v s) (.cons (cs := .int .i64 (i : Int) :: v :: .bool false :: List.replicate 32 (.int .u8 0)) (off := 0) (n := 35) rfl rfl rfl (Nat.le_of_ble_eq_true rfl) (.cons (cs := [.int .i64 s]) (off := 35) (n := 1) rfl rfl rfl (Nat.le_of_ble_eq_true rfl) .nil)) ho (by simp [evs, hz, hz']) (ty rfl) rfl rfl (zc rfl)
end
end Go.Proofs.YtaeddmcoanefhaaGreatDoor
end
