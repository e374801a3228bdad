/- PakeHolds: two sides with the same secret and context that finish with each other's elements have the same key, and verify each other's confirmations. -/
import Derived.Test.YtaeddmcoanefhaaGreatDoorVJ43
set_option linter.all false
section
namespace Go.Proofs.YtaeddmcoanefhaaGreatDoor
open Go Go.Sy Go.Sh Go.Nt Go.RowKit
attribute [local irreducible] Sy SyL SyX Sy.Fn callFunc natC rowN gP gQ gL memB safeC fixB Sh.sum HashIs pkPt pkH firstN dblock hmac pkDer pkDig pkC selA ordF pkW pkX pkOwn pkSh gCells zG pkD pkKey pkName
set_option maxRecDepth 10000
theorem pkD_true (i : Nat) (ctx own peer shared scalar : List UInt8) : pkD i ctx true own peer shared scalar = pkDig i ctx own peer shared scalar := by unfold pkD; rfl
theorem pkD_false (i : Nat) (ctx own peer shared scalar : List UInt8) : pkD i ctx false own peer shared scalar = pkDig i ctx peer own shared scalar := by unfold pkD; rfl
theorem pkX_lt {i : Nat} (h0 : 1 ≤ i) (h5 : i ≤ 4) (l : List UInt8) : pkX i l < gQ i := by
  have hq := gQ_low i h0 h5
  unfold pkX
  by_cases h : bev 256 (bn l) % gQ i = 0
  · rw [if_pos h]; omega
  · rw [if_neg h]; exact Nat.mod_lt _ (by omega)
theorem pkW_lt {i : Nat} (h0 : 1 ≤ i) (h5 : i ≤ 4) (l : List UInt8) : pkW i l < gQ i := by unfold pkW; exact Nat.mod_lt _ (Nat.lt_of_lt_of_le (by decide) (gQ_low i h0 h5))
set_option maxHeartbeats 4000000 in
theorem pakeHolds_fn (hkn : ∀ w, GT w → Tab w No → Sy.Fn Tryz.prog 7 [] w No (Gives (.bool true))) (z : Int) (a1 a2 a3 a4 : Option Addr) (n1 n2 n3 n4 c1 c2 c3 c4 : Nat) (sec ctx prv snd : List UInt8) (w : World) (hT : Tab w No) (hG : GT w)
    (k1 : (⟨a1, n1, c1, sec⟩ : Bs).ok w) (k2 : (⟨a2, n2, c2, ctx⟩ : Bs).ok w) (k3 : (⟨a3, n3, c3, prv⟩ : Bs).ok w) (k4 : (⟨a4, n4, c4, snd⟩ : Bs).ok w) :
    Sy.Fn Tryz.prog 3 [.int .i64 z, .slice a1 n1 c1, .slice a2 n2 c2, .slice a3 n3 c3, .slice a4 n4 c4] w No (Gives (.bool true)) := by
  refine fn_enter Tryz.func3 rfl Tryz.ntmps3 (by simp) Holds.nil ?_
  have hl := fun w' => large33_fn (.int .i64 z) a1 a2 a3 n1 n2 n3 c1 c2 c3 w'
  have hv := fun w' => valid33_fn z a1 a2 a3 n1 n2 n3 c1 c2 c3 w'
  have hkn' := fun w' (hk : Keep No w w') => hkn w' (hG.to hk) (hT.no hk)
  by_cases hP : 300 < n1 ∨ 40 < n3 ∨ (300 < n2 ∧ n2 ≤ 4096) ∨ 5000 < n2
  · simp only [hP, decide_true] at hl
    repeat' (first | refine sy_seqC ?_ | refine syl_nil ?_ | refine sy_if_t rfl ?_ | refine sy_ret ?_ | refine syx_then ?_ | refine syx_go ?_ | refine syx_then_ret ?_ | (refine sy_region (id := 0) ?_; refine y_assign ?_) | (refine sy_region (id := 1) ?_; refine y_move ?_; refine y_move ?_; refine y_move ?_; refine y_move ?_; refine yv (op_callV (hc := fun _ _ _ _ => (hl _))) (k := ?_); refine y_move ?_; refine syl_skip rfl rfl rfl ?_; refine syl_skip rfl rfl rfl ?_; refine syl_skip rfl rfl rfl ?_; refine y_pick ?_; refine y_move ?_; refine syl_skip rfl rfl rfl ?_; refine syl_skip rfl rfl rfl ?_; refine syl_skip rfl rfl rfl ?_; refine syl_skip rfl rfl rfl ?_; refine syl_skip rfl rfl rfl ?_; refine syl_skip rfl rfl rfl ?_; refine y_pick ?_) | (refine sy_region (id := 2) ?_; refine yv (op_callV (f := 7) (hc := fun w' X hk hh => hkn' w' hk)) (k := ?_); refine y_assign ?_) | fail)
    exact ret1 rfl (resTmp rfl) SubR.nil ⟨rfl, rfl⟩
  simp only [hP, decide_false] at hl
  by_cases h4 : n4 ≠ 32
  · have g1 : decide (((n4 : Nat) : Int) ≠ (32 : Int)) = true := decide_eq_true (by omega)
    repeat' (first | refine sy_seqC ?_ | refine syl_nil ?_ | refine sy_if_t rfl ?_ | refine sy_ret ?_ | refine syx_then ?_ | refine syx_go ?_ | refine syx_then_ret ?_ | (refine sy_region (id := 0) ?_; refine y_assign ?_) | (refine sy_region (id := 1) ?_; refine y_move ?_; refine y_move ?_; refine y_move ?_; refine y_move ?_; refine yv (op_callV (hc := fun _ _ _ _ => (hl _))) (k := ?_); refine y_move ?_; refine y_move ?_; refine y_len ?_; refine yv (op_neq (hr := g1)) (k := ?_); refine y_pick ?_; refine y_move ?_; refine syl_skip rfl rfl rfl ?_; refine syl_skip rfl rfl rfl ?_; refine syl_skip rfl rfl rfl ?_; refine syl_skip rfl rfl rfl ?_; refine syl_skip rfl rfl rfl ?_; refine syl_skip rfl rfl rfl ?_; refine y_pick ?_) | (refine sy_region (id := 2) ?_; refine yv (op_callV (f := 7) (hc := fun w' X hk hh => hkn' w' hk)) (k := ?_); refine y_assign ?_) | fail)
    exact ret1 rfl (resTmp rfl) SubR.nil ⟨rfl, rfl⟩
  obtain rfl : n4 = 32 := Decidable.not_not.1 h4
  by_cases hV : ¬ ((1 ≤ z ∧ z ≤ 4) ∧ 1 ≤ n1 ∧ n1 ≤ 256 ∧ n2 ≤ 4096 ∧ n3 = 32)
  · simp only [hV, decide_false] at hv
    repeat' (first | refine sy_seqC ?_ | refine syl_nil ?_ | refine sy_if_t rfl ?_ | refine sy_ret ?_ | refine syx_then ?_ | refine syx_go ?_ | refine syx_then_ret ?_ | (refine sy_region (id := 0) ?_; refine y_assign ?_) | (refine sy_region (id := 1) ?_; refine y_move ?_; refine y_move ?_; refine y_move ?_; refine y_move ?_; refine yv (op_callV (hc := fun _ _ _ _ => (hl _))) (k := ?_); refine y_move ?_; refine y_move ?_; refine y_len ?_; refine y_neq ?_; refine y_pick ?_; refine y_move ?_; refine y_move ?_; refine y_move ?_; refine y_move ?_; refine y_move ?_; refine yv (op_callV (hc := fun _ _ _ _ => (hv _))) (k := ?_); refine y_unOp ?_; refine y_pick ?_) | (refine sy_region (id := 2) ?_; refine yv (op_callV (f := 7) (hc := fun w' X hk hh => hkn' w' hk)) (k := ?_); refine y_assign ?_) | fail)
    exact ret1 rfl (resTmp rfl) SubR.nil ⟨rfl, rfl⟩
  have hV := Decidable.not_not.1 hV
  simp only [hV, decide_true] at hv
  obtain ⟨⟨hz1, hz4⟩, v1, v2, v3, rfl⟩ := hV
  obtain ⟨i, rfl⟩ := Int.eq_ofNat_of_zero_le (show 0 ≤ z by omega)
  have h0 : 1 ≤ i := by omega
  have h5 : i ≤ 4 := by omega
  have hs1 := fun w' (hk : Keep No w w') => xstart_fn true i a1 a2 a3 n1 n2 c1 c2 c3 sec ctx prv w' h0 h5 (hT.no hk) (hG.to hk) (k1.keep hk) (k2.keep hk) (k3.keep hk) (by omega) v2 v3
  have hs2 := fun w' (hk : Keep No w w') => xstart_fn false i a1 a2 a4 n1 n2 c1 c2 c4 sec ctx snd w' h0 h5 (hT.no hk) (hG.to hk) (k1.keep hk) (k2.keep hk) (k4.keep hk) (by omega) v2 v3
  unfold XRes at hs1 hs2
  have n33 := fun z w' => num33_fn z w'
  have q1 : ctx.length = n2 := k2.len
  have hqx := pkX_lt h0 h5 prv
  have hqy := pkX_lt h0 h5 snd
  have hqw := pkW_lt h0 h5 sec
  have hz32 : zG.length = 32 := by unfold zG; rfl
  generalize pkX i prv = x at *
  generalize pkX i snd = y at *
  generalize pkW i sec = wv at *
  repeat' (first | refine sy_seqC ?_ | refine syl_nil ?_ | refine sy_if_f rfl ?_ | refine sy_skip ?_ | refine syx_then ?_ | refine syx_go ?_ | (refine sy_region (id := 0) ?_; refine y_assign ?_) | (refine sy_region (id := 1) ?_; refine y_move ?_; refine y_move ?_; refine y_move ?_; refine y_move ?_; refine yv (op_callV (hc := fun _ _ _ _ => (hl _))) (k := ?_); refine y_move ?_; refine y_move ?_; refine y_len ?_; refine y_neq ?_; refine y_pick ?_; refine y_move ?_; refine y_move ?_; refine y_move ?_; refine y_move ?_; refine y_move ?_; refine yv (op_callV (hc := fun _ _ _ _ => (hv _))) (k := ?_); refine y_unOp ?_; refine y_pick ?_) | (refine sy_region (id := 3) ?_; refine y_move ?_; refine y_move ?_; refine y_move ?_; refine y_move ?_; (refine ys (op_call0 (f := 8) (hc := fun w' X hk hh => hs1 w' hk)) (k := ?_); rintro _ _ ⟨R, rfl, bc, acc, aoc, kcc, koc, rfl, rfl⟩); refine y_move ?_; refine y_extract ?_; refine y_extract ?_; refine y_assign ?_; refine y_assign ?_) | (refine sy_region (id := 4) ?_; refine y_move ?_; refine y_move ?_; refine y_move ?_; refine y_move ?_; (refine ys (op_call0 (f := 8) (hc := fun w' X hk hh => hs2 w' hk)) (k := ?_); rintro _ _ ⟨R, rfl, bs, acs, aos, kcs, kos, rfl, rfl⟩); refine y_move ?_; refine y_extract ?_; refine y_extract ?_; refine y_assign ?_; refine y_assign ?_) | (refine sy_region (id := 5) ?_; refine y_move ?_; refine yv (op_callV (hc := fun _ _ _ _ => (n33 _ _))) (k := ?_); refine y_move ?_; refine yv (op_callV (hc := fun _ _ _ _ => (n33 _ _))) (k := ?_); refine y_add ?_; refine y_neq ?_; refine y_move ?_; refine y_move ?_; refine y_eql ?_; refine y_pick ?_; refine y_move ?_; refine y_move ?_; refine y_eql ?_; refine y_pick ?_) | fail)
  clear hs1 hs2 hl hv
  have mc := pk_own true i wv x h0 h5
  have ms := pk_own false i wv y h0 h5
  have lc := fixB_len _ _ (own_nd true i wv x h0 h5)
  have ls := fixB_len _ _ (own_nd false i wv y h0 h5)
  have hgl := (gL_le i h0 h5).2
  refine Sy.weaken (fr' := [(13, .pointer (some ⟨bs, 0, none⟩)), (11, .pointer (some ⟨bc, 0, none⟩))])
    (L' := [.blk bc 46 (pkC i ⟨acc, n2, kcc, ctx⟩ false zG true x wv ⟨aoc, gL i, koc, fixB (gL i) (pkOwn true i wv x)⟩), .row (.slice acc n2 kcc) 5 1 n2 (ctx.map v8), .row (.slice aoc (gL i) koc) 5 1 (gL i) ((fixB (gL i) (pkOwn true i wv x)).map v8),
      .blk bs 46 (pkC i ⟨acs, n2, kcs, ctx⟩ false zG false y wv ⟨aos, gL i, kos, fixB (gL i) (pkOwn false i wv y)⟩), .row (.slice acs n2 kcs) 5 1 n2 (ctx.map v8), .row (.slice aos (gL i) kos) 5 1 (gL i) ((fixB (gL i) (pkOwn false i wv y)).map v8)]) ?_ (by exact Sub.go) (by exact SubR.go2)
  have heS := fun {L X w'} (hh : Holds w.heap.size No (L ++ X) w') {d G} (hG : G.length = 32) hX hro => xelem_at (bx := bs) (i := i) (d := d) (G := G) (s := false) (x := y) (wv := wv) (ao := aos) (n := gL i) (ko := kos) (l := fixB (gL i) (pkOwn false i wv y)) (sx := ⟨acs, n2, kcs, ctx⟩) (X := X) (L := L) hh hG hX hro ls (by omega)
  have heC := fun {L X w'} (hh : Holds w.heap.size No (L ++ X) w') {d G} (hG : G.length = 32) hX hro => xelem_at (bx := bc) (i := i) (d := d) (G := G) (s := true) (x := x) (wv := wv) (ao := aoc) (n := gL i) (ko := koc) (l := fixB (gL i) (pkOwn true i wv x)) (sx := ⟨acc, n2, kcc, ctx⟩) (X := X) (L := L) hh hG hX hro lc (by omega)
  by_cases hYs : pkOwn false i wv y = 1
  · have hf := fun {L X w' ap kp} (hk : Keep No w w') (hh : Holds w.heap.size No (L ++ X) w') hX hrp => xfin_one (bx := bc) (i := i) (G := zG) (s := true) (x := x) (wv := wv) (y := pkOwn false i wv y) (ap := ap) (kp := kp) (sx := ⟨acc, n2, kcc, ctx⟩) (so := ⟨aoc, gL i, koc, fixB (gL i) (pkOwn true i wv x)⟩) (X := X) (L := L) hk hh hG h0 h5 hz32 hX hrp ms hYs
    repeat' (first | refine sy_seqC ?_ | refine syl_nil ?_ | refine sy_if_t rfl ?_ | refine sy_ret ?_ | refine syx_then ?_ | refine syx_go ?_ | refine syx_then_ret ?_ | (refine sy_region (id := 7) ?_; refine y_move ?_; refine y_move ?_; (refine ys (op_call0 (f := 11) (hc := fun w' X hk hh => heS hh hz32 (by exact Has.go) (by exact Has.go))) (k := ?_); rintro _ _ ⟨R, rfl, ap, kp, rfl, rfl⟩); refine yv (op_callV (f := 10) (hc := fun w' X hk hh => hf hk hh (by exact Has.go) (by exact Has.go))) (k := ?_); refine yv (op_callV (hc := fun _ _ _ _ => (n33 _ _))) (k := ?_); refine y_neq ?_; refine y_move ?_; refine syl_skip rfl rfl rfl ?_; refine syl_skip rfl rfl rfl ?_; refine syl_skip rfl rfl rfl ?_; refine syl_skip rfl rfl rfl ?_; refine syl_skip rfl rfl rfl ?_; refine syl_skip rfl rfl rfl ?_; refine y_pick ?_) | (refine sy_region (id := 8) ?_; refine yv (op_callV (f := 7) (hc := fun w' X hk hh => hkn' w' hk)) (k := ?_); refine y_assign ?_) | fail)
    exact ret1 rfl (resTmp rfl) SubR.nil ⟨rfl, rfl⟩
  have hfc := fun {L X w' ap kp} (hk : Keep No w w') (hh : Holds w.heap.size No (L ++ X) w') hX hrc hro hrp => xfin_at (bx := bc) (i := i) (s := true) (x := x) (wv := wv) (y := pkOwn false i wv y) (ap := ap) (kp := kp) (ac := acc) (n := n2) (kc := kcc) (ctx := ctx) (ao := aoc) (ko := koc) (X := X) (L := L) hk hh hG hT h0 h5 hqx hqw q1 v3 hX hrc hro hrp ms hYs
  have hfs := fun {L X w' ap kp} (hYc : pkOwn true i wv x ≠ 1) (hk : Keep No w w') (hh : Holds w.heap.size No (L ++ X) w') hX hrc hro hrp => xfin_at (bx := bs) (i := i) (s := false) (x := y) (wv := wv) (y := pkOwn true i wv x) (ap := ap) (kp := kp) (ac := acs) (n := n2) (kc := kcs) (ctx := ctx) (ao := aos) (ko := kos) (X := X) (L := L) hk hh hG hT h0 h5 hqy hqw q1 v3 hX hrc hro hrp mc hYc
  have hf1 := fun {L X w' ap kp} (hYc : pkOwn true i wv x = 1) (hk : Keep No w w') (hh : Holds w.heap.size No (L ++ X) w') hX hrp => xfin_one (bx := bs) (i := i) (G := zG) (s := false) (x := y) (wv := wv) (y := pkOwn true i wv x) (ap := ap) (kp := kp) (sx := ⟨acs, n2, kcs, ctx⟩) (so := ⟨aos, gL i, kos, fixB (gL i) (pkOwn false i wv y)⟩) (X := X) (L := L) hk hh hG h0 h5 hz32 hX hrp mc hYc
  have hDD : pkD i ctx false (fixB (gL i) (pkOwn false i wv y)) (fixB (gL i) (pkOwn true i wv x)) (fixB (gL i) (pkSh false i wv y (pkOwn true i wv x))) (fixB (gL i) wv) = pkD i ctx true (fixB (gL i) (pkOwn true i wv x)) (fixB (gL i) (pkOwn false i wv y)) (fixB (gL i) (pkSh true i wv x (pkOwn false i wv y))) (fixB (gL i) wv) := by
    rw [← pkSh_eq h0 h5 wv x y, pkD_true, pkD_false]
  rw [hDD] at hfs
  have hDl := pkD_len i ctx true (fixB (gL i) (pkOwn true i wv x)) (fixB (gL i) (pkOwn false i wv y)) (fixB (gL i) (pkSh true i wv x (pkOwn false i wv y))) (fixB (gL i) wv)
  generalize pkD i ctx true (fixB (gL i) (pkOwn true i wv x)) (fixB (gL i) (pkOwn false i wv y)) (fixB (gL i) (pkSh true i wv x (pkOwn false i wv y))) (fixB (gL i) wv) = D at *
  have hDm : (D.map v8).length = 32 := by rw [List.length_map, hDl]
  clear hDD
  by_cases hYc : pkOwn true i wv x = 1
  · have hf1 := @hf1
    repeat' (first | refine sy_seqC ?_ | refine syl_nil ?_ | refine sy_if_t rfl ?_ | refine sy_ret ?_ | refine syx_then ?_ | refine syx_go ?_ | refine syx_then_ret ?_ | (refine sy_region (id := 7) ?_; refine y_move ?_; refine y_move ?_; (refine ys (op_call0 (f := 11) (hc := fun w' X hk hh => heS hh hz32 (by exact Has.go) (by exact Has.go))) (k := ?_); rintro _ _ ⟨R, rfl, ap, kp, rfl, rfl⟩); refine yv (op_callB (b := bc) (f := 10) (hc := fun w' X hk hh => hfc hk hh (by exact Has.go) (by exact Has.go) (by exact Has.go) (by exact Has.go))) (k := ?_); refine yv (op_callV (hc := fun _ _ _ _ => (n33 _ _))) (k := ?_); refine y_neq ?_; refine y_move ?_; refine y_move ?_; refine y_move ?_; (refine ys (op_call0 (f := 11) (hc := fun w' X hk hh => heC hh hDm (by exact Has.go) (by exact Has.go))) (k := ?_); rintro _ _ ⟨R, rfl, ap2, kp2, rfl, rfl⟩); refine yv (op_callV (f := 10) (hc := fun w' X hk hh => hf1 hYc hk hh (by exact Has.go) (by exact Has.go))) (k := ?_); refine yv (op_callV (hc := fun _ _ _ _ => (n33 _ _))) (k := ?_); refine y_neq ?_; refine y_pick ?_) | (refine sy_region (id := 8) ?_; refine yv (op_callV (f := 7) (hc := fun w' X hk hh => hkn' w' hk)) (k := ?_); refine y_assign ?_) | fail)
    exact ret1 rfl (resTmp rfl) SubR.nil ⟨rfl, rfl⟩
  have hfs := fun {L X w' ap kp} => @hfs L X w' ap kp hYc
  clear hf1
  repeat' (first | refine sy_seqC ?_ | refine syl_nil ?_ | refine sy_if_f rfl ?_ | refine sy_skip ?_ | refine syx_then ?_ | refine syx_go ?_ | (refine sy_region (id := 7) ?_; refine y_move ?_; refine y_move ?_; (refine ys (op_call0 (f := 11) (hc := fun w' X hk hh => heS hh hz32 (by exact Has.go) (by exact Has.go))) (k := ?_); rintro _ _ ⟨R, rfl, ap, kp, rfl, rfl⟩); refine yv (op_callB (b := bc) (f := 10) (hc := fun w' X hk hh => hfc hk hh (by exact Has.go) (by exact Has.go) (by exact Has.go) (by exact Has.go))) (k := ?_); refine yv (op_callV (hc := fun _ _ _ _ => (n33 _ _))) (k := ?_); refine y_neq ?_; refine y_move ?_; refine y_move ?_; refine y_move ?_; (refine ys (op_call0 (f := 11) (hc := fun w' X hk hh => heC hh hDm (by exact Has.go) (by exact Has.go))) (k := ?_); rintro _ _ ⟨R, rfl, ap2, kp2, rfl, rfl⟩); refine yv (op_callB (b := bs) (f := 10) (hc := fun w' X hk hh => hfs hk hh (by exact Has.go) (by exact Has.go) (by exact Has.go) (by exact Has.go))) (k := ?_); refine yv (op_callV (hc := fun _ _ _ _ => (n33 _ _))) (k := ?_); refine y_neq ?_; refine y_pick ?_) | fail)
  refine Sy.weaken (fr' := [(13, .pointer (some ⟨bs, 0, none⟩)), (11, .pointer (some ⟨bc, 0, none⟩)), (85, .bool false)])
    (L' := [.blk bc 46 (pkC i ⟨acc, n2, kcc, ctx⟩ true (D.map v8) true x wv ⟨aoc, gL i, koc, fixB (gL i) (pkOwn true i wv x)⟩), .blk bs 46 (pkC i ⟨acs, n2, kcs, ctx⟩ true (D.map v8) false y wv ⟨aos, gL i, kos, fixB (gL i) (pkOwn false i wv y)⟩)]) ?_ (by exact Sub.go) (by exact SubR.go2)
  clear hfc hfs heS heC
  generalize fixB (gL i) (pkOwn true i wv x) = oc at *
  generalize fixB (gL i) (pkOwn false i wv y) = os at *
  have hkc := fun {L X w'} (hk : Keep No w w') (hh : Holds w.heap.size No (L ++ X) w') hX => xkey_at (bx := bc) (i := i) (s := true) (x := x) (wv := wv) (D := D) (sx := ⟨acc, n2, kcc, ctx⟩) (so := ⟨aoc, gL i, koc, oc⟩) (X := X) (L := L) hk hh hT hDl hX
  have hks := fun {L X w'} (hk : Keep No w w') (hh : Holds w.heap.size No (L ++ X) w') hX => xkey_at (bx := bs) (i := i) (s := false) (x := y) (wv := wv) (D := D) (sx := ⟨acs, n2, kcs, ctx⟩) (so := ⟨aos, gL i, kos, os⟩) (X := X) (L := L) hk hh hT hDl hX
  have hcc := fun {L X w'} (hk : Keep No w w') (hh : Holds w.heap.size No (L ++ X) w') hX => xconf_at (bx := bc) (i := i) (s := true) (x := x) (wv := wv) (D := D) (sx := ⟨acc, n2, kcc, ctx⟩) (so := ⟨aoc, gL i, koc, oc⟩) (X := X) (L := L) hk hh hT hDl hX
  have hcs := fun {L X w'} (hk : Keep No w w') (hh : Holds w.heap.size No (L ++ X) w') hX => xconf_at (bx := bs) (i := i) (s := false) (x := y) (wv := wv) (D := D) (sx := ⟨acs, n2, kcs, ctx⟩) (so := ⟨aos, gL i, kos, os⟩) (X := X) (L := L) hk hh hT hDl hX
  have hvc := fun {L X w' ap kp} (hk : Keep No w w') (hh : Holds w.heap.size No (L ++ X) w') hX hrp => xver_at (bx := bc) (i := i) (s := true) (s2 := false) (x := x) (wv := wv) (D := D) (ap := ap) (kp := kp) (sx := ⟨acc, n2, kcc, ctx⟩) (so := ⟨aoc, gL i, koc, oc⟩) (X := X) (L := L) hk hh hT hDl hX hrp
  have hvs := fun {L X w' ap kp} (hk : Keep No w w') (hh : Holds w.heap.size No (L ++ X) w') hX hrp => xver_at (bx := bs) (i := i) (s := false) (s2 := true) (x := y) (wv := wv) (D := D) (ap := ap) (kp := kp) (sx := ⟨acs, n2, kcs, ctx⟩) (so := ⟨aos, gL i, kos, os⟩) (X := X) (L := L) hk hh hT hDl hX hrp
  simp only [Bool.not_true, Bool.not_false, if_true] at hvc hvs
  have lk := der_len D pkKey
  generalize pkDer D pkKey = K at *
  generalize pkDer D (pkName true) = Nc at *
  generalize pkDer D (pkName false) = Ns at *
  repeat' (first | refine sy_seqC ?_ | refine syl_nil ?_ | refine syx_then ?_ | refine syx_go ?_ | (refine sy_region (id := 9) ?_; refine y_move ?_; (refine ys (op_call0 (f := 12) (hc := fun w' X hk hh => hkc hk hh (by exact Has.go))) (k := ?_); rintro _ _ ⟨R, rfl, ap, kp, rfl, rfl⟩); refine y_move ?_; refine y_extract ?_; refine y_extract ?_; refine y_assign ?_; refine y_assign ?_) | (refine sy_region (id := 10) ?_; refine y_move ?_; (refine ys (op_call0 (f := 12) (hc := fun w' X hk hh => hks hk hh (by exact Has.go))) (k := ?_); rintro _ _ ⟨R, rfl, ap, kp, rfl, rfl⟩); refine y_move ?_; refine y_extract ?_; refine y_extract ?_; refine y_assign ?_; refine y_assign ?_) | (refine sy_region (id := 11) ?_; refine y_move ?_; (refine ys (op_call0 (f := 13) (hc := fun w' X hk hh => hcc hk hh (by exact Has.go))) (k := ?_); rintro _ _ ⟨R, rfl, ap, kp, rfl, rfl⟩); refine y_move ?_; refine y_extract ?_; refine y_extract ?_; refine y_assign ?_; refine y_assign ?_) | (refine sy_region (id := 12) ?_; refine y_move ?_; (refine ys (op_call0 (f := 13) (hc := fun w' X hk hh => hcs hk hh (by exact Has.go))) (k := ?_); rintro _ _ ⟨R, rfl, ap, kp, rfl, rfl⟩); refine y_move ?_; refine y_extract ?_; refine y_extract ?_; refine y_assign ?_; refine y_assign ?_) | fail)
  rename_i a15 k15 a17 k17 a19 k19
  refine Sy.weaken (fr' := [(22, .int .i64 0), (21, .slice ap 32 kp), (20, .int .i64 0), (19, .slice a19 32 k19), (18, .int .i64 0), (17, .slice a17 32 k17), (16, .int .i64 0), (15, .slice a15 32 k15), (13, .pointer (some ⟨bs, 0, none⟩)), (11, .pointer (some ⟨bc, 0, none⟩))])
    (L' := [.blk bc 46 (pkC i ⟨acc, n2, kcc, ctx⟩ true (D.map v8) true x wv ⟨aoc, gL i, koc, oc⟩), .blk bs 46 (pkC i ⟨acs, n2, kcs, ctx⟩ true (D.map v8) false y wv ⟨aos, gL i, kos, os⟩), .row (.slice ap 32 kp) 5 1 32 (Ns.map v8), .row (.slice a19 32 k19) 5 1 32 (Nc.map v8), .row (.slice a17 32 k17) 5 1 32 (K.map v8), .row (.slice a15 32 k15) 5 1 32 (K.map v8)]) ?_ (by exact Sub.go) (by exact SubR.go2)
  clear hkc hks hcc hcs
  repeat' (first | refine syl_nil ?_ | refine sy_ret ?_ | refine syx_then ?_ | refine syx_go ?_ | (refine sy_region (id := 13) ?_; refine y_move ?_; refine yv (op_callV (hc := fun _ _ _ _ => (n33 _ _))) (k := ?_); refine y_move ?_; refine yv (op_callV (hc := fun _ _ _ _ => (n33 _ _))) (k := ?_); refine y_add ?_; refine y_move ?_; refine yv (op_callV (hc := fun _ _ _ _ => (n33 _ _))) (k := ?_); refine y_add ?_; refine y_move ?_; refine yv (op_callV (hc := fun _ _ _ _ => (n33 _ _))) (k := ?_); refine y_add ?_; refine y_eql ?_; refine y_move ?_; refine y_move ?_; refine y_len ?_; refine y_eql ?_; refine y_pick ?_; refine y_move ?_; refine y_move ?_; refine yv (op_toStrD (l := K) (hr := Rd.row Has.go) (hn := lk)) (k := ?_); refine y_move ?_; refine yv (op_toStrD (l := K) (hr := Rd.row Has.go) (hn := lk)) (k := ?_); refine yv (op_eqStr (hr := decide_eq_true rfl)) (k := ?_); refine y_pick ?_; refine y_move ?_; refine y_move ?_; refine y_move ?_; refine yv (op_callV (f := 14) (hc := fun w' X hk hh => hvc hk hh (by exact Has.go) (by exact Has.go))) (k := ?_); refine yv (op_callV (hc := fun _ _ _ _ => (n33 _ _))) (k := ?_); refine y_move ?_; refine y_move ?_; refine yv (op_callV (f := 14) (hc := fun w' X hk hh => hvs hk hh (by exact Has.go) (by exact Has.go))) (k := ?_); refine yv (op_callV (hc := fun _ _ _ _ => (n33 _ _))) (k := ?_); refine y_add ?_; refine y_eql ?_; refine y_pick ?_; refine y_move ?_; refine yv (op_callV (f := 7) (hc := fun w' X hk hh => hkn' w' hk)) (k := ?_); refine y_pick ?_; refine y_assign ?_) | fail)
  exact ret1 rfl (resTmp rfl) SubR.nil ⟨rfl, rfl⟩
end Go.Proofs.YtaeddmcoanefhaaGreatDoor
end
section
namespace Go.Proofs.YtaeddmcoanefhaaGreatDoor
open Go Go.Sy Go.Sh Go.Nt Go.RowKit
attribute [local irreducible] Sy SyL SyX Sy.Fn callFunc natC rowN gP gQ memB safeC fixB Sh.sum HashIs pkPt pkH firstN dblock hmac pkDer pkDig pkC selA ordF pkW pkX pkOwn pkSh gCells zG pkD pkKey pkName fx exD exC exS exSh
set_option maxRecDepth 10000
theorem e3 {x : Nat} (h : x < gQ 3) : x < 2 ^ gE 3 := Nat.lt_trans h (gQ_lt 3 (by decide) (by decide))
theorem ex_own (s : Bool) (x : Nat) (hx : x < gQ 3) : pkOwn s 3 (pkW 3 pkSec) x = pw 3 4 x * pw 3 (pkPt 3 s) exW % gP 3 := by
  have hw := pkW_lt (i := 3) (by decide) (by decide) pkSec
  unfold exW pkOwn
  rw [pw_ok (e3 hx), pw_ok (e3 hw)]
theorem ex_C : pkOwn true 3 (pkW 3 pkSec) (pkX 3 (pkFill 3)) = exC := by rw [ex_own true _ (pkX_lt (by decide) (by decide) _)]; unfold exC; rfl
theorem ex_S : pkOwn false 3 (pkW 3 pkSec) (pkX 3 (pkFill 5)) = exS := by rw [ex_own false _ (pkX_lt (by decide) (by decide) _)]; unfold exS; rfl
theorem ex_Sh : pkSh true 3 (pkW 3 pkSec) (pkX 3 (pkFill 3)) exS = exSh := by
  rw [← ex_S, show pkOwn false = pkOwn (!true) from rfl, pkSh_own true (by decide) (by decide)]
  unfold exSh
  rw [pw_ok (e3 (pkX_lt (by decide) (by decide) _)), pw_ok (e3 (pkX_lt (by decide) (by decide) _)), Nat.pow_mul, ← Nat.pow_mod]
theorem ex_mC : memB (gP 3) (gQ 3) exC = true := by rw [← ex_C]; exact pk_own _ _ _ _ (by decide) (by decide)
theorem ex_mS : memB (gP 3) (gQ 3) exS = true := by rw [← ex_S]; exact pk_own _ _ _ _ (by decide) (by decide)
theorem ex_mSh : memB (gP 3) (gQ 3) exSh = true := by
  have h := pkSh_own (i := 3) true (by decide) (by decide) (pkW 3 pkSec) (pkX 3 (pkFill 3)) (pkX 3 (pkFill 5))
  rw [show pkOwn (!true) = pkOwn false from rfl, ex_S, ex_Sh] at h
  rw [h]; exact pk_four _ _ (by decide) (by decide)
theorem gL3 : gL 3 = 4 := rfl
theorem ex_D : pkD 3 [] true (fixB (gL 3) exC) (fixB (gL 3) exS) (fixB (gL 3) exSh) (fixB (gL 3) (pkW 3 pkSec)) = exD := by
  have n3 : ∀ {x}, memB (gP 3) (gQ 3) x = true → nd 256 x ≤ gL 3 := fun h => gP_nd (by decide) (by decide) (memB_mem.1 h).2.1
  rw [pkD_true, fix_fx (n3 ex_mC), fix_fx (n3 ex_mS), fix_fx (n3 ex_mSh), fix_fx (gQ_nd (i := 3) (by decide) (by decide) (pkW_lt (by decide) (by decide) pkSec)), gL3]
  unfold exD
  rw [show exW = pkW 3 pkSec from rfl]
end Go.Proofs.YtaeddmcoanefhaaGreatDoor
end
