/- The chapter's examples of layer pake, walked. -/
import Derived.Test.YtaeddmcoanefhaaGreatDoorVJ44
set_option linter.all false
section
namespace Go.Proofs.YtaeddmcoanefhaaGreatDoor
open Go Go.Sy Go.Sh Go.Nt Go.RowKit
attribute [local irreducible] Sy SyL SyX Sy.Fn callFunc natC rowN gP gQ memB safeC fixB Sh.sum HashIs pkPt pkH firstN dblock hmac pkDer pkDig pkC selA ordF pkW pkX pkOwn pkSh gCells zG pkD pkKey pkName fx exD exC exS exSh exW
set_option maxRecDepth 10000
set_option maxHeartbeats 4000000 in
theorem known33_fn (w : World) (hG : GT w) (hT : Tab w No) : Sy.Fn Tryz.prog 7 [] w No (Gives (.bool true)) := by
  refine fn_enter Tryz.func7 rfl Tryz.ntmps7 (by simp) Holds.nil ?_
  have n33 := fun z w' => num33_fn z w'
  have f3 := fun w' => fill33_fn 3 w'
  have f5 := fun w' => fill33_fn 5 w'
  have hz32 : zG.length = 32 := by unfold zG; rfl
  have nilOk : ∀ w', (⟨none, 0, 0, []⟩ : Bs).ok w' := fun w' => ⟨rfl, Nat.le_refl _, .inl rfl, fun _ => rfl⟩
  have fillOk : ∀ {w' b} {x : UInt8}, w'.rangeAt b 0 ((pkFill x).map v8) → (⟨some ⟨b, 0, none⟩, 32, 32, pkFill x⟩ : Bs).ok w' := fun {w' b x} h => ⟨by unfold pkFill; exact List.length_replicate .., Nat.le_refl _, .inr ⟨b, 0, rfl, h⟩, fun h => by cases h⟩
  have secOk : ∀ {w' b}, SlA w' (some ⟨b, 0, none⟩) (pkSec.map v8) → (⟨some ⟨b, 0, none⟩, 6, 6, pkSec⟩ : Bs).ok w' := fun {w' b} h => ⟨rfl, Nat.le_refl _, h, fun h => by cases h⟩
  have hs1 := fun w' b c (hk : Keep No w w') (h1 : SlA w' (some ⟨b, 0, none⟩) (pkSec.map v8)) (h3 : w'.rangeAt c 0 ((pkFill 3).map v8)) => xstart_fn true 3 (some ⟨b, 0, none⟩) none (some ⟨c, 0, none⟩) 6 0 6 0 32 pkSec [] (pkFill 3) w' (by decide) (by decide) (hT.no hk) (hG.to hk) (secOk h1) (nilOk w') (fillOk h3) (by decide) (by decide) (by decide)
  have hs2 := fun w' b c (hk : Keep No w w') (h1 : SlA w' (some ⟨b, 0, none⟩) (pkSec.map v8)) (h3 : w'.rangeAt c 0 ((pkFill 5).map v8)) => xstart_fn false 3 (some ⟨b, 0, none⟩) none (some ⟨c, 0, none⟩) 6 0 6 0 32 pkSec [] (pkFill 5) w' (by decide) (by decide) (hT.no hk) (hG.to hk) (secOk h1) (nilOk w') (fillOk h3) (by decide) (by decide) (by decide)
  unfold XRes at hs1 hs2
  rw [ex_C] at hs1
  rw [ex_S] at hs2
  have hx := pkX_lt (i := 3) (by decide) (by decide) (pkFill 3)
  have hy := pkX_lt (i := 3) (by decide) (by decide) (pkFill 5)
  have hw := pkW_lt (i := 3) (by decide) (by decide) pkSec
  have hC := ex_C
  have hS := ex_S
  have hSh := ex_Sh
  have hD := ex_D
  have hSS := pkSh_eq (i := 3) (by decide) (by decide) (pkW 3 pkSec) (pkX 3 (pkFill 3)) (pkX 3 (pkFill 5))
  rw [hS, hC, hSh] at hSS
  generalize pkX 3 (pkFill 3) = x at *
  generalize pkX 3 (pkFill 5) = y at *
  generalize pkW 3 pkSec = wv at *
  repeat' (first | refine sy_seqC ?_ | refine syl_nil ?_ | refine syx_then ?_ | refine syx_go ?_ | (refine sy_region (id := 0) ?_; refine y_assign ?_) | (refine sy_region (id := 1) ?_; (refine ys op_buildSlice (k := ?_); rintro _ _ ⟨_, rfl, rfl⟩); refine y_convert ?_; (refine ys (op_call0 (f := 17) (hc := fun w' X hk hh => f3 w')) (k := ?_); rintro _ _ ⟨R, rfl, b22, rfl, rfl⟩)) | fail)
  rename_i b20
  refine ys (op_call0 (f := 8) (hc := fun w' X hk hh => hs1 w' b20 b22 hk ((Rd.of (Reads.obj (Has.there Has.here) Seg.all)) w' X hk hh) (blk_range (hh.has (Has.append Has.here)) Seg.all))) (k := ?_)
  rintro _ _ ⟨R, rfl, bc, acc, aoc, kcc, koc, rfl, rfl⟩
  repeat' (first | refine sy_seqC ?_ | refine syl_nil ?_ | refine syx_then ?_ | refine syx_go ?_ | (refine syl_id ?_; first | refine y_assign ?_ | refine y_extract ?_ | refine y_move ?_ | fail) | fail)
  refine Sy.weaken (fr' := [(2, .int .i64 0), (1, .pointer (some ⟨bc, 0, none⟩))]) (L' := [.blk bc 46 (pkC 3 ⟨acc, 0, kcc, []⟩ false zG true x wv ⟨aoc, gL 3, koc, fixB (gL 3) exC⟩), .row (.slice acc 0 kcc) 5 1 0 ([].map v8), .row (.slice aoc (gL 3) koc) 5 1 (gL 3) ((fixB (gL 3) exC).map v8)]) ?_ (by exact Sub.go) (by exact SubR.go2)
  repeat' (first | (refine sy_region (id := 2) ?_; (refine ys op_buildSlice (k := ?_); rintro _ _ ⟨_, rfl, rfl⟩); refine y_convert ?_; (refine ys (op_call0 (f := 17) (hc := fun w' X hk hh => f5 w')) (k := ?_); rintro _ _ ⟨R, rfl, b29, rfl, rfl⟩)) | fail)
  rename_i b27
  refine ys (op_call0 (f := 8) (hc := fun w' X hk hh => hs2 w' b27 b29 hk ((Rd.of (Reads.obj (Has.there Has.here) Seg.all)) w' X hk hh) (blk_range (hh.has (Has.append Has.here)) Seg.all))) (k := ?_)
  rintro _ _ ⟨R, rfl, bs, acs, aos, kcs, kos, rfl, rfl⟩
  repeat' (first | refine sy_seqC ?_ | refine syl_nil ?_ | refine sy_if_f rfl ?_ | refine sy_skip ?_ | refine syx_then ?_ | refine syx_go ?_ | (refine sy_region (id := 3) ?_; refine y_move ?_; refine yv (op_callV (hc := fun _ _ _ _ => (n33 _ _))) (k := ?_); refine y_move ?_; refine yv (op_callV (hc := fun _ _ _ _ => (n33 _ _))) (k := ?_); refine y_add ?_; refine y_neq ?_; refine y_move ?_; refine y_move ?_; refine y_eql ?_; refine y_pick ?_; refine y_move ?_; refine y_move ?_; refine y_eql ?_; refine y_pick ?_) | (refine syl_id ?_; first | refine y_assign ?_ | refine y_extract ?_ | refine y_move ?_ | fail) | fail)
  refine Sy.weaken (fr' := [(3, .pointer (some ⟨bs, 0, none⟩)), (1, .pointer (some ⟨bc, 0, none⟩))]) (L' := [.blk bc 46 (pkC 3 ⟨acc, 0, kcc, []⟩ false zG true x wv ⟨aoc, gL 3, koc, fixB (gL 3) exC⟩), .row (.slice acc 0 kcc) 5 1 0 ([].map v8), .row (.slice aoc (gL 3) koc) 5 1 (gL 3) ((fixB (gL 3) exC).map v8), .blk bs 46 (pkC 3 ⟨acs, 0, kcs, []⟩ false zG false y wv ⟨aos, gL 3, kos, fixB (gL 3) exS⟩), .row (.slice acs 0 kcs) 5 1 0 ([].map v8), .row (.slice aos (gL 3) kos) 5 1 (gL 3) ((fixB (gL 3) exS).map v8)]) ?_ (by exact Sub.go) (by exact SubR.go2)
  clear hs1 hs2 f5
  have lc : (fixB (gL 3) exC).length = gL 3 := by rw [← ex_C]; exact fixB_len _ _ (own_nd true 3 _ _ (by decide) (by decide))
  have ls : (fixB (gL 3) exS).length = gL 3 := by rw [← ex_S]; exact fixB_len _ _ (own_nd false 3 _ _ (by decide) (by decide))
  have hDl : exD.length = 32 := by rw [← hD]; exact pkD_len _ _ _ _ _ _ _
  have hDm : (exD.map v8).length = 32 := by rw [List.length_map, hDl]
  have heS := fun {L X w'} (hh : Holds w.heap.size No (L ++ X) w') {d G} (hG : G.length = 32) hX hro => xelem_at (bx := bs) (i := 3) (d := d) (G := G) (s := false) (x := y) (wv := wv) (ao := aos) (n := gL 3) (ko := kos) (l := fixB (gL 3) exS) (sx := ⟨acs, 0, kcs, []⟩) (X := X) (L := L) hh hG hX hro ls (by decide)
  have heC := fun {L X w'} (hh : Holds w.heap.size No (L ++ X) w') {d G} (hG : G.length = 32) hX hro => xelem_at (bx := bc) (i := 3) (d := d) (G := G) (s := true) (x := x) (wv := wv) (ao := aoc) (n := gL 3) (ko := koc) (l := fixB (gL 3) exC) (sx := ⟨acc, 0, kcc, []⟩) (X := X) (L := L) hh hG hX hro lc (by decide)
  have hk8 := fun {L X w'} (hh : Holds w.heap.size No (L ++ X) w') (hX : Has L (.blk bc 46 (pkC 3 ⟨acc, 0, kcc, []⟩ false zG true x wv ⟨aoc, gL 3, koc, fixB (gL 3) exC⟩))) =>
    have hx : XIs bc 3 ⟨acc, 0, kcc, []⟩ false zG true x wv ⟨aoc, gL 3, koc, fixB (gL 3) exC⟩ w' := hh.has (Has.append hX)
    xkeyE_fn (some ⟨bc, 0, none⟩) 8 w' (by decide) (chk_state bc true w' (hx.c35 hz32) hx.c2)
  have mem0 : memB (gP 3) (gQ 3) (bev 256 (bn [0, 0, 0, 0])) = false := by
    rw [show bev 256 (bn [0, 0, 0, 0]) = 0 from rfl]; unfold memB
    exact decide_eq_false (fun h => absurd h.1 (Nat.lt_irrefl 0))
  have hz6 := fun {L X w'} b (hk : Keep No w w') (hh : Holds w.heap.size No (L ++ X) w') (hX : Has L (.blk bc 46 (pkC 3 ⟨acc, 0, kcc, []⟩ false zG true x wv ⟨aoc, gL 3, koc, fixB (gL 3) exC⟩))) (hb : Has L (.blk b 5 [.int .u8 0, .int .u8 0, .int .u8 0, .int .u8 0])) =>
    xfin_no bc 3 ⟨acc, 0, kcc, []⟩ zG true x wv 0 3 ⟨aoc, gL 3, koc, fixB (gL 3) exC⟩ ⟨some ⟨b, 0, none⟩, 4, 4, [0, 0, 0, 0]⟩ w' hz32 (hh.has (Has.append hX)) (Nat.pow_pos (by decide)) (.inl (by decide)) (fun w2 hk2 => gelement_no 3 (some ⟨b, 0, none⟩) 4 4 [0, 0, 0, 0] w2 (by decide) (by decide) ((hG.to hk).to hk2) rfl rfl (Nat.le_refl _) (.inr ⟨b, 0, rfl, range_keep (blk_range (hh.has (Has.append hb)) Seg.all) hk2 (fun h => h)⟩) mem0)
  have hfc := fun {L X w' ap kp} (hk : Keep No w w') (hh : Holds w.heap.size No (L ++ X) w') hX hrc hro hrp => xfin_at (bx := bc) (i := 3) (s := true) (x := x) (wv := wv) (y := exS) (ap := ap) (kp := kp) (ac := acc) (n := 0) (kc := kcc) (ctx := []) (ao := aoc) (ko := koc) (X := X) (L := L) hk hh hG hT (by decide) (by decide) hx hw rfl (by decide) hX hrc hro hrp ex_mS ex_ne.2
  have hfs := fun {L X w' ap kp} (hk : Keep No w w') (hh : Holds w.heap.size No (L ++ X) w') hX hrc hro hrp => xfin_at (bx := bs) (i := 3) (s := false) (x := y) (wv := wv) (y := exC) (ap := ap) (kp := kp) (ac := acs) (n := 0) (kc := kcs) (ctx := []) (ao := aos) (ko := kos) (X := X) (L := L) hk hh hG hT (by decide) (by decide) hy hw rfl (by decide) hX hrc hro hrp ex_mC ex_ne.1
  rw [hC, hSh, hD] at hfc
  rw [hS, ← hSS, pkD_false, ← pkD_true, hD] at hfs
  repeat' (first | refine sy_seqC ?_ | refine syl_nil ?_ | refine syx_then ?_ | refine syx_go ?_ | (refine sy_region (id := 5) ?_; refine y_move ?_; refine yv (op_callV (f := 12) (hc := fun w' X hk hh => hk8 hh (by exact Has.go))) (k := ?_); refine y_move ?_; refine y_extract ?_; refine y_extract ?_; refine y_assign ?_; refine y_assign ?_) | fail)
  repeat' (first | refine sy_seqC ?_ | refine syl_nil ?_ | refine syx_then ?_ | refine syx_go ?_ | (refine sy_region (id := 6) ?_; refine y_move ?_; (refine ys op_buildSlice (k := ?_); rintro _ _ ⟨_, rfl, rfl⟩); refine yv (op_callV (f := 10) (hc := fun w' X hk hh => hz6 _ hk hh (by exact Has.go) (by exact Has.go))) (k := ?_); refine y_move ?_; refine y_move ?_; (refine ys (op_call0 (f := 11) (hc := fun w' X hk hh => heS hh hz32 (by exact Has.go) (by exact Has.go))) (k := ?_); rintro _ _ ⟨R, rfl, ap, kp, rfl, rfl⟩); refine yv (op_callB (b := bc) (f := 10) (hc := fun w' X hk hh => hfc hk hh (by exact Has.go) (by exact Has.go) (by exact Has.go) (by exact Has.go))) (k := ?_); refine y_assign ?_; refine y_assign ?_) | fail)
  refine Sy.weaken (fr' := [(8, .int .i64 0), (7, .int .i64 6), (6, .int .i64 8), (3, .pointer (some ⟨bs, 0, none⟩)), (1, .pointer (some ⟨bc, 0, none⟩))]) (L' := [.blk bc 46 (pkC 3 ⟨acc, 0, kcc, []⟩ true (exD.map v8) true x wv ⟨aoc, gL 3, koc, fixB (gL 3) exC⟩), .row (.slice acc 0 kcc) 5 1 0 ([].map v8), .row (.slice aoc (gL 3) koc) 5 1 (gL 3) ((fixB (gL 3) exC).map v8), .blk bs 46 (pkC 3 ⟨acs, 0, kcs, []⟩ false zG false y wv ⟨aos, gL 3, kos, fixB (gL 3) exS⟩), .row (.slice acs 0 kcs) 5 1 0 ([].map v8), .row (.slice aos (gL 3) kos) 5 1 (gL 3) ((fixB (gL 3) exS).map v8)]) ?_ (by exact Sub.go) (by exact SubR.go2)
  have hE8 := fun {L X w'} v (hh : Holds w.heap.size No (L ++ X) w') (hX : Has L (.blk bc 46 (pkC 3 ⟨acc, 0, kcc, []⟩ true (exD.map v8) true x wv ⟨aoc, gL 3, koc, fixB (gL 3) exC⟩))) =>
    have hx : XIs bc 3 ⟨acc, 0, kcc, []⟩ true (exD.map v8) true x wv ⟨aoc, gL 3, koc, fixB (gL 3) exC⟩ w' := hh.has (Has.append hX)
    xfinE_fn (some ⟨bc, 0, none⟩) 8 v w' (by decide) (chk_open bc true w' (hx.c35 hDm) hx.c2)
  repeat' (first | refine sy_seqC ?_ | refine syl_nil ?_ | refine syx_then ?_ | refine syx_go ?_ | (refine sy_region (id := 7) ?_; refine y_move ?_; refine y_move ?_; (refine ys (op_call0 (f := 11) (hc := fun w' X hk hh => heS hh hz32 (by exact Has.go) (by exact Has.go))) (k := ?_); rintro _ _ ⟨R, rfl, ap, kp, rfl, rfl⟩); refine yv (op_callV (f := 10) (hc := fun w' X hk hh => hE8 _ hh (by exact Has.go))) (k := ?_); refine y_move ?_; refine y_move ?_; (refine ys (op_call0 (f := 11) (hc := fun w' X hk hh => heC hh hDm (by exact Has.go) (by exact Has.go))) (k := ?_); rintro _ _ ⟨R, rfl, ap2, kp2, rfl, rfl⟩); refine yv (op_callB (b := bs) (f := 10) (hc := fun w' X hk hh => hfs hk hh (by exact Has.go) (by exact Has.go) (by exact Has.go) (by exact Has.go))) (k := ?_); refine y_assign ?_; refine y_assign ?_) | fail)
  repeat' (first | refine sy_seqC ?_ | refine syl_nil ?_ | refine sy_if_f rfl ?_ | refine sy_skip ?_ | refine syx_then ?_ | refine syx_go ?_ | (refine sy_region (id := 8) ?_; refine y_move ?_; refine y_neq ?_; refine y_move ?_; refine y_move ?_; refine y_neq ?_; refine y_pick ?_; refine y_move ?_; refine y_move ?_; refine yv (op_callV (hc := fun _ _ _ _ => (n33 _ _))) (k := ?_); refine y_neq ?_; refine y_pick ?_; refine y_move ?_; refine y_move ?_; refine y_neq ?_; refine y_pick ?_; refine y_move ?_; refine y_move ?_; refine yv (op_callV (hc := fun _ _ _ _ => (n33 _ _))) (k := ?_); refine y_neq ?_; refine y_pick ?_) | fail)
  refine Sy.weaken (fr' := [(3, .pointer (some ⟨bs, 0, none⟩)), (1, .pointer (some ⟨bc, 0, none⟩))])
    (L' := [.blk bc 46 (pkC 3 ⟨acc, 0, kcc, []⟩ true (exD.map v8) true x wv ⟨aoc, gL 3, koc, fixB (gL 3) exC⟩), .blk bs 46 (pkC 3 ⟨acs, 0, kcs, []⟩ true (exD.map v8) false y wv ⟨aos, gL 3, kos, fixB (gL 3) exS⟩)]) ?_ (by exact Sub.go) (by exact SubR.go2)
  clear hfc hfs heS heC hz6 hk8 hE8 mem0
  generalize fixB (gL 3) exC = oc at *
  generalize fixB (gL 3) exS = os at *
  have hne := ex_conf
  generalize exD = D at *
  have hkc := fun {L X w'} (hk : Keep No w w') (hh : Holds w.heap.size No (L ++ X) w') hX => xkey_at (bx := bc) (i := 3) (s := true) (x := x) (wv := wv) (D := D) (sx := ⟨acc, 0, kcc, []⟩) (so := ⟨aoc, gL 3, koc, oc⟩) (X := X) (L := L) hk hh hT hDl hX
  have hks := fun {L X w'} (hk : Keep No w w') (hh : Holds w.heap.size No (L ++ X) w') hX => xkey_at (bx := bs) (i := 3) (s := false) (x := y) (wv := wv) (D := D) (sx := ⟨acs, 0, kcs, []⟩) (so := ⟨aos, gL 3, kos, os⟩) (X := X) (L := L) hk hh hT hDl hX
  have hcc := fun {L X w'} (hk : Keep No w w') (hh : Holds w.heap.size No (L ++ X) w') hX => xconf_at (bx := bc) (i := 3) (s := true) (x := x) (wv := wv) (D := D) (sx := ⟨acc, 0, kcc, []⟩) (so := ⟨aoc, gL 3, koc, oc⟩) (X := X) (L := L) hk hh hT hDl hX
  have hcs := fun {L X w'} (hk : Keep No w w') (hh : Holds w.heap.size No (L ++ X) w') hX => xconf_at (bx := bs) (i := 3) (s := false) (x := y) (wv := wv) (D := D) (sx := ⟨acs, 0, kcs, []⟩) (so := ⟨aos, gL 3, kos, os⟩) (X := X) (L := L) hk hh hT hDl hX
  have hv0 := fun {L X w' ap kp} (hk : Keep No w w') (hh : Holds w.heap.size No (L ++ X) w') hX hrp => xver_at (bx := bc) (i := 3) (s := true) (s2 := false) (x := x) (wv := wv) (D := D) (ap := ap) (kp := kp) (sx := ⟨acc, 0, kcc, []⟩) (so := ⟨aoc, gL 3, koc, oc⟩) (X := X) (L := L) hk hh hT hDl hX hrp
  have hv1 := fun {L X w' ap kp} (hk : Keep No w w') (hh : Holds w.heap.size No (L ++ X) w') hX hrp => xver_at (bx := bc) (i := 3) (s := true) (s2 := true) (x := x) (wv := wv) (D := D) (ap := ap) (kp := kp) (sx := ⟨acc, 0, kcc, []⟩) (so := ⟨aoc, gL 3, koc, oc⟩) (X := X) (L := L) hk hh hT hDl hX hrp
  simp only [Bool.not_true, if_true] at hv0
  simp only [Bool.not_true, if_neg (Ne.symm hne)] at hv1
  have lk := der_len D pkKey
  generalize pkDer D pkKey = K at *
  generalize pkDer D (pkName true) = Nc at *
  generalize pkDer D (pkName false) = Ns at *
  repeat' (first | refine sy_seqC ?_ | refine syl_nil ?_ | refine syx_then ?_ | refine syx_go ?_ | (refine sy_region (id := 10) ?_; refine y_move ?_; (refine ys (op_call0 (f := 12) (hc := fun w' X hk hh => hkc hk hh (by exact Has.go))) (k := ?_); rintro _ _ ⟨R, rfl, ap, kp, rfl, rfl⟩); refine y_move ?_; refine y_extract ?_; refine y_extract ?_; refine y_assign ?_; refine y_assign ?_) | (refine sy_region (id := 11) ?_; refine y_move ?_; (refine ys (op_call0 (f := 12) (hc := fun w' X hk hh => hks hk hh (by exact Has.go))) (k := ?_); rintro _ _ ⟨R, rfl, ap, kp, rfl, rfl⟩); refine y_move ?_; refine y_extract ?_; refine y_extract ?_; refine y_assign ?_; refine y_assign ?_) | (refine sy_region (id := 12) ?_; refine y_move ?_; (refine ys (op_call0 (f := 13) (hc := fun w' X hk hh => hcs hk hh (by exact Has.go))) (k := ?_); rintro _ _ ⟨R, rfl, ap, kp, rfl, rfl⟩); refine y_move ?_; refine y_extract ?_; refine y_extract ?_; refine y_assign ?_; refine y_assign ?_) | (refine sy_region (id := 13) ?_; refine y_move ?_; (refine ys (op_call0 (f := 13) (hc := fun w' X hk hh => hcc hk hh (by exact Has.go))) (k := ?_); rintro _ _ ⟨R, rfl, ap, kp, rfl, rfl⟩); refine y_move ?_; refine y_extract ?_; refine y_extract ?_; refine y_assign ?_; refine y_assign ?_) | fail)
  rename_i a11 k11 a13 k13 a15 k15
  refine Sy.weaken (fr' := [(18, .int .i64 0), (17, .slice ap 32 kp), (16, .int .i64 0), (15, .slice a15 32 k15), (14, .int .i64 0), (13, .slice a13 32 k13), (12, .int .i64 0), (11, .slice a11 32 k11), (1, .pointer (some ⟨bc, 0, none⟩))])
    (L' := [.blk bc 46 (pkC 3 ⟨acc, 0, kcc, []⟩ true (D.map v8) true x wv ⟨aoc, gL 3, koc, oc⟩), .row (.slice ap 32 kp) 5 1 32 (Nc.map v8), .row (.slice a15 32 k15) 5 1 32 (Ns.map v8), .row (.slice a13 32 k13) 5 1 32 (K.map v8), .row (.slice a11 32 k11) 5 1 32 (K.map v8)]) ?_ (by exact Sub.go) (by exact SubR.go2)
  clear hkc hks hcc hcs
  have gf : decide (K ≠ K) = false := decide_eq_false (fun h => h rfl)
  repeat' (first | refine sy_seqC ?_ | refine syl_nil ?_ | refine sy_if_f rfl ?_ | refine sy_skip ?_ | refine syx_then ?_ | refine syx_go ?_ | (refine sy_region (id := 14) ?_; refine y_move ?_; refine yv (op_callV (hc := fun _ _ _ _ => (n33 _ _))) (k := ?_); refine y_move ?_; refine yv (op_callV (hc := fun _ _ _ _ => (n33 _ _))) (k := ?_); refine y_add ?_; refine y_move ?_; refine yv (op_callV (hc := fun _ _ _ _ => (n33 _ _))) (k := ?_); refine y_add ?_; refine y_move ?_; refine yv (op_callV (hc := fun _ _ _ _ => (n33 _ _))) (k := ?_); refine y_add ?_; refine y_neq ?_; refine y_move ?_; refine y_move ?_; refine y_len ?_; refine y_neq ?_; refine y_pick ?_; refine y_move ?_; refine y_move ?_; refine yv (op_toStrD (l := K) (hr := Rd.row Has.go) (hn := lk)) (k := ?_); refine y_move ?_; refine yv (op_toStrD (l := K) (hr := Rd.row Has.go) (hn := lk)) (k := ?_); refine yv (op_neStr (hr := gf)) (k := ?_); refine y_pick ?_; refine y_move ?_; refine y_move ?_; refine y_move ?_; refine yv (op_callV (f := 14) (hc := fun w' X hk hh => hv0 hk hh (by exact Has.go) (by exact Has.go))) (k := ?_); refine yv (op_callV (hc := fun _ _ _ _ => (n33 _ _))) (k := ?_); refine y_neq ?_; refine y_pick ?_; refine y_move ?_; refine y_move ?_; refine y_move ?_; refine yv (op_callV (f := 14) (hc := fun w' X hk hh => hv1 hk hh (by exact Has.go) (by exact Has.go))) (k := ?_); refine y_neq ?_; refine y_pick ?_) | fail)
  refine Sy.weaken (fr' := []) (L' := []) ?_ (by exact Sub.go) (by exact SubR.go2)
  have b1 := fun w' (hk : Keep No w w') a1 a2 a3 c1 c2 c3 => xstart_no true 5 a1 a2 a3 6 0 32 c1 c2 c3 w' (hG.to hk) (by decide) (by decide) (.inl (by unfold glen; rfl))
  have b2 := fun w' a1 a2 a3 c1 c2 c3 => xstart_side (.int .i64 1) a1 a2 a3 6 0 32 c1 c2 c3 w'
  have b3 := fun w' (hk : Keep No w w') a1 a2 a3 c1 c2 c3 => xstart_no true 1 a1 a2 a3 6 0 31 c1 c2 c3 w' (hG.to hk) (by decide) (by decide) (.inr (.inr (by decide)))
  have b4 := fun w' (hk : Keep No w w') a1 a2 a3 c1 c2 c3 => xstart_no true 1 a1 a2 a3 0 0 32 c1 c2 c3 w' (hG.to hk) (by decide) (by decide) (.inr (.inl rfl))
  repeat' (first | refine sy_seqC ?_ | refine syl_nil ?_ | refine sy_ret ?_ | refine syx_then ?_ | refine syx_go ?_ | (refine sy_region (id := 16) ?_; (refine ys op_buildSlice (k := ?_); rintro _ _ ⟨_, rfl, rfl⟩); refine y_convert ?_; (refine ys (op_call0 (f := 17) (hc := fun w' X hk hh => f3 w')) (k := ?_); rintro _ _ ⟨R, rfl, b22, rfl, rfl⟩); refine yv (op_callV (f := 8) (hc := fun w' X hk hh => b1 w' hk _ _ _ _ _ _)) (k := ?_); refine y_move ?_; refine y_extract ?_; refine y_extract ?_; refine y_assign ?_) | (refine sy_region (id := 17) ?_; (refine ys op_buildSlice (k := ?_); rintro _ _ ⟨_, rfl, rfl⟩); refine y_convert ?_; (refine ys (op_call0 (f := 17) (hc := fun w' X hk hh => f3 w')) (k := ?_); rintro _ _ ⟨R, rfl, b22, rfl, rfl⟩); refine yv (op_callV (f := 8) (hc := fun w' X hk hh => b2 w' _ _ _ _ _ _)) (k := ?_); refine y_move ?_; refine y_extract ?_; refine y_extract ?_; refine y_assign ?_) | (refine sy_region (id := 18) ?_; (refine ys op_buildSlice (k := ?_); rintro _ _ ⟨_, rfl, rfl⟩); refine y_convert ?_; (refine ys (op_call0 (f := 17) (hc := fun w' X hk hh => f3 w')) (k := ?_); rintro _ _ ⟨R, rfl, b22, rfl, rfl⟩); refine y_slice ?_; refine yv (op_callV (f := 8) (hc := fun w' X hk hh => b3 w' hk _ _ _ _ _ _)) (k := ?_); refine y_move ?_; refine y_extract ?_; refine y_extract ?_; refine y_assign ?_) | (refine sy_region (id := 19) ?_; (refine ys (op_call0 (f := 17) (hc := fun w' X hk hh => f3 w')) (k := ?_); rintro _ _ ⟨R, rfl, b22, rfl, rfl⟩); refine yv (op_callV (f := 8) (hc := fun w' X hk hh => b4 w' hk _ _ _ _ _ _)) (k := ?_); refine y_move ?_; refine y_extract ?_; refine y_extract ?_; refine y_assign ?_) | (refine sy_region (id := 20) ?_; refine y_move ?_; refine y_eql ?_; refine y_move ?_; refine y_move ?_; refine y_eql ?_; refine y_pick ?_; refine y_move ?_; refine y_move ?_; refine y_eql ?_; refine y_pick ?_; refine y_move ?_; refine y_move ?_; refine y_eql ?_; refine y_pick ?_; refine y_assign ?_) | fail)
  exact ret1 rfl (resTmp rfl) SubR.nil ⟨rfl, rfl⟩
end Go.Proofs.YtaeddmcoanefhaaGreatDoor
end
