/- The specification of layer sign, walked: Verify and Parts. -/
import Derived.Test.YtjidkoabdmjgkaaGreatDoorVJ45
import Derived.Test.YtjidkoabdmjgkaaGreatDoorVJ47
set_option linter.all false
section
namespace Go.Proofs.YtjidkoabdmjgkaaGreatDoor
open Go Go.Sy Go.Nt Go.RowKit
attribute [local irreducible] Sy SyL SyX Sy.Fn callFunc natC rowN refC iC gP gQ gL memB safeC fixB gnum gel gsca chal Sh.sum glen
set_option maxRecDepth 10000
set_option maxHeartbeats 2000000 in
theorem zjP (z : Int) (pa ma sa : Option Addr) (pn pc mn mc sn sc kb ko kc : Nat) (pl ml sl : List UInt8) (w : World) (hR : RTab w No kb ko kc) (hp : (⟨pa, pn, pc, pl⟩ : Bs).ok w) (hm : (⟨ma, mn, mc, ml⟩ : Bs).ok w) (hs : (⟨sa, sn, sc, sl⟩ : Bs).ok w) (hpn : pn ≤ 1000) (hmn : mn ≤ 100000) (hsn : sn ≤ 1000) :
    Sy.Fn Tryz.prog 14 [.int .i64 z, .slice pa pn pc, .slice ma mn mc, .slice sa sn sc] w No (Gives (.int .i64 (sVer z pl ml sl))) := by
  refine zq Tryz.func14 rfl Tryz.ntmps14 (by simp) Holds.nil ?_
  have hpu := fun w' (hk : Keep No w w') => zf7 z pa pn pc pl w' hp.len (hp.keep hk).sla
  have hml : ml.length = mn := hm.len
  have hsl : sl.length = sn := hs.len
  unfold RefB at hpu
  by_cases hw : (gel z pl).2 ≠ 0 ∨ 65536 < ml.length
  · rw [ziL hw]
    by_cases he : (gel z pl).2 = 0
    · have gm : decide (65536 < (mn : Int)) = true := decide_eq_true (by have := hw.resolve_left (fun h => h he); omega)
      rw [decide_eq_true he] at hpu
      generalize (rnum z pl).1 = x at *
      repeat' (first | refine zg ?_ | refine zf ?_ | refine zu rfl ?_ | refine zo ?_ | refine ze ?_ | refine zj ?_ | refine zx ?_ | (refine za (id := 0) ?_; refine zd ?_) | (refine za (id := 1) ?_; refine zb ?_; refine zb ?_; (refine ys (zy (f := 56) (hc := fun w' X hk hh => hpu w' hk)) (k := ?_); rintro _ _ ⟨R, rfl, aY, cY, rfl, rfl⟩); refine zb ?_; refine zk ?_; refine zk ?_; refine zd ?_; refine zd ?_) | (refine za (id := 2) ?_; refine zb ?_; refine z4 ?_; refine zb ?_; refine zb ?_; refine zB ?_; refine yv (zac (hr := gm)) (k := ?_); refine zz ?_) | (refine za (id := 3) ?_; refine zd ?_) | fail)
      exact ret1 rfl (resTmp rfl) SubR.nil ⟨rfl, rfl⟩
    · rw [decide_eq_false he] at hpu
      generalize (rnum z pl).1 = x at *
      repeat' (first | refine zg ?_ | refine zf ?_ | refine zu rfl ?_ | refine zo ?_ | refine ze ?_ | refine zj ?_ | refine zx ?_ | (refine za (id := 0) ?_; refine zd ?_) | (refine za (id := 1) ?_; refine zb ?_; refine zb ?_; (refine ys (zy (f := 56) (hc := fun w' X hk hh => hpu w' hk)) (k := ?_); rintro _ _ ⟨R, rfl, aY, cY, rfl, rfl⟩); refine zb ?_; refine zk ?_; refine zk ?_; refine zd ?_; refine zd ?_) | (refine za (id := 2) ?_; refine zb ?_; refine z4 ?_; refine zb ?_; refine zp rfl rfl rfl ?_; refine zp rfl rfl rfl ?_; refine zp rfl rfl rfl ?_; refine zz ?_) | (refine za (id := 3) ?_; refine zd ?_) | fail)
      exact ret1 rfl (resTmp rfl) SubR.nil ⟨rfl, rfl⟩
  have he : (gel z pl).2 = 0 := Classical.byContradiction fun h => hw (.inl h)
  have hmy := zgn he
  obtain ⟨i, rfl, hi, h0, h5⟩ := za4 hmy.1
  rw [hi] at hmy
  have hy : memB (gP i) (gQ i) (gel (i : Int) pl).1 = true := by rw [hmy.2.2.2]; exact hmy.2.2.1
  rw [decide_eq_true he, znS he] at hpu
  have hle := fun w' => zfh i w' h0 h5
  have hgl96 := zbP hmy.1
  rw [hi] at hgl96
  have gm : decide (65536 < (mn : Int)) = false := decide_eq_false (fun h => hw (.inr (by omega)))
  have hm2 : IntKind.i64.wrap (2 * ((gL i : Nat) : Int)) = ((2 * gL i : Nat) : Int) := by rw [IntWalk.i64_in _ (by omega)]; omega
  by_cases hlen : sl.length = 2 * gL i
  rotate_left
  · rw [zfJ hw (by rw [hi]; exact hlen)]
    have g2 : decide ((sn : Int) ≠ ((2 * gL i : Nat) : Int)) = true := decide_eq_true (fun h => hlen (by omega))
    generalize (gel (i : Int) pl).1 = y at *
    generalize gL i = len at *
    repeat' (first | refine zg ?_ | refine zf ?_ | refine zu rfl ?_ | refine zw rfl ?_ | refine zt ?_ | refine zo ?_ | refine ze ?_ | refine zj ?_ | refine zx ?_ | (refine za (id := 0) ?_; refine zd ?_) | (refine za (id := 1) ?_; refine zb ?_; refine zb ?_; (refine ys (zy (f := 56) (hc := fun w' X hk hh => hpu w' hk)) (k := ?_); rintro _ _ ⟨R, rfl, aY, cY, rfl, rfl⟩); refine zb ?_; refine zk ?_; refine zk ?_; refine zd ?_; refine zd ?_) | (refine za (id := 2) ?_; refine zb ?_; refine z4 ?_; refine zb ?_; refine zb ?_; refine zB ?_; refine yv (zac (hr := gm)) (k := ?_); refine zz ?_) | (refine za (id := 4) ?_; refine zb ?_; refine yv (zi (hc := fun _ _ _ _ => (hle _))) (k := ?_); refine zd ?_) | (refine za (id := 5) ?_; refine zb ?_; refine zB ?_; refine zb ?_; refine yv (zab (hr := hm2)) (k := ?_); refine yv (zaB (hr := g2)) (k := ?_)) | (refine za (id := 6) ?_; refine zd ?_) | fail)
    exact ret1 rfl (resTmp rfl) SubR.nil ⟨rfl, rfl⟩
  have g2 : decide ((sn : Int) ≠ ((2 * gL i : Nat) : Int)) = false := decide_eq_false (fun h => h (by omega))
  obtain ⟨x0, e0⟩ : ∃ x, x = bev 256 (bn (sl.take (gL i))) := ⟨_, rfl⟩
  obtain ⟨x1, e1⟩ : ∃ x, x = bev 256 (bn (sl.drop (gL i))) := ⟨_, rfl⟩
  rw [zjF hw hlen e0 e1]
  have hx0W : x0 < 18446744073709551616 ^ 16 := by rw [e0]; exact bevW' (by rw [List.length_take]; omega)
  have hx1W : x1 < 18446744073709551616 ^ 16 := by rw [e1]; exact bevW' (by rw [List.length_drop]; omega)
  have hcap : sn ≤ sc := hs.cap
  obtain ⟨a2, ha2⟩ : ∃ a2, a2 = movA sa (gL i) sc 1 := ⟨_, rfl⟩
  have hf0 := fun w' (hk : Keep No w w') => zfs sa (gL i) sc (sl.take (gL i)) w' (by rw [List.length_take]; omega) (by rw [List.map_take]; exact (hs.keep hk).sla.take _) (by omega)
  have hf1 := fun w' (hk : Keep No w w') => zfs a2 (gL i) (sc - gL i) (sl.drop (gL i)) w' (by rw [List.length_drop]; omega) (by rw [List.map_drop, ha2]; exact (hs.keep hk).sla.mov (by rw [List.length_map]; show sl.length ≤ sc; omega)) (by omega)
  rw [← e0] at hf0
  rw [← e1] at hf1
  have hW := zao i h0 h5
  have hQ0 : 0 < gQ i := Nat.lt_of_lt_of_le (by decide) (zag i h0 h5)
  have hyW := Nat.lt_trans (zaM hy) (zav i h0 h5)
  generalize (gel (i : Int) pl).1 = y at *
  have hsnl : sn = 2 * gL i := by omega
  have hmm : sn - gL i = gL i := by omega
  have hlsc : gL i ≤ sc := by omega
  unfold RefG at hf0 hf1
  generalize gL i = len at *
  repeat' (first | refine zg ?_ | refine zf ?_ | refine zw rfl ?_ | refine zt ?_ | refine ze ?_ | refine zj ?_ | (refine za (id := 0) ?_; refine zd ?_) | (refine za (id := 1) ?_; refine zb ?_; refine zb ?_; (refine ys (zy (f := 56) (hc := fun w' X hk hh => hpu w' hk)) (k := ?_); rintro _ _ ⟨R, rfl, aY, cY, rfl, rfl⟩); refine zb ?_; refine zk ?_; refine zk ?_; refine zd ?_; refine zd ?_) | (refine za (id := 2) ?_; refine zb ?_; refine z4 ?_; refine zb ?_; refine zb ?_; refine zB ?_; refine yv (zac (hr := gm)) (k := ?_); refine zz ?_) | (refine za (id := 4) ?_; refine zb ?_; refine yv (zi (hc := fun _ _ _ _ => (hle _))) (k := ?_); refine zd ?_) | (refine za (id := 5) ?_; refine zb ?_; refine zB ?_; refine zb ?_; refine yv (zab (hr := hm2)) (k := ?_); refine yv (zaB (hr := g2)) (k := ?_)) | fail)
  refine zbc (id := 7) mixed ?_
  (refine zbe 8 8 [[], [], [0, 1], [0, 1, 2], [], [], [4, 5], [0, 1, 2, 3, 4, 5, 6], [0, 1, 2, 3, 4, 5, 6, 7], [0, 1, 2, 3, 4, 5, 6, 7, 8]] [[], [], [], [], [], [], [], [], [], []] none rfl ?_ ?_ ?_; kernel_rfl; kernel_rfl; refine zam ?_; refine zam ?_; refine dcE (fun _ _ => zaQ (h := len) (n' := len) (c' := sc) (a' := sa)) (k := ?_); try refine dh_0nE (h := ?_))
  refine zb9 (R := fun _ => RefG x0) (fun _ _ _ => rfl) (fun ρ hρ => zy (f := 58) (hc := fun w' X hk hh => hf0 w' hk)) (h := ?_)
  (skip; refine zam ?_; refine zam ?_; refine dcE (fun _ _ => zaQ (l := len) (a' := a2) (ha := ha2.symm) (n' := len) (hn' := hmm)) (k := ?_); try refine dh_0nE (h := ?_))
  refine zb9 (R := fun _ => RefG x1) (fun _ _ _ => rfl) (fun ρ hρ => zy (f := 58) (hc := fun w' X hk hh => hf1 w' hk)) (h := ?_)
  refine zcd (h := ?_)
  rintro ρ ⟨⟨aS, cS, f3, f4⟩, ⟨aE, cE, f1, f2⟩, -⟩
  have f2 : (ρ 3).2 = [.row (.slice aE (nd 65536 x0) cE) 3 1 (nd 65536 x0) (refC x0)] := f2
  have f4 : (ρ 7).2 = [.row (.slice aS (nd 65536 x1) cS) 3 1 (nd 65536 x1) (refC x1)] := f4
  (refine zbd [[], [], [0, 1], [0, 1, 2], [], [], [4, 5], [0, 1, 2, 3, 4, 5, 6], [0, 1, 2, 3, 4, 5, 6, 7], [0, 1, 2, 3, 4, 5, 6, 7, 8]] ?_ ?_; kernel_rfl)
  refine SyL.weaken (fr' := [(39, .slice aE (nd 65536 x0) cE), (43, .slice aS (nd 65536 x1) cS), (0, .int .i64 (i : Int)), (1, .slice pa pn pc), (2, .slice ma mn mc), (9, .slice aY (nd 65536 y) cY)]) (L' := [.row (.slice aE (nd 65536 x0) cE) 3 1 (nd 65536 x0) (refC x0), .row (.slice aS (nd 65536 x1) cS) 3 1 (nd 65536 x1) (refC x1), .row (.slice aY (nd 65536 y) cY) 3 1 (nd 65536 y) (refC y)]) ?_ ?_ ?_
  rotate_left
  · (repeat' (first | exact Sub.nil | refine Sub.cons rfl ?_ ?_ | rfl))
    · exact f1
    · exact f3
  · show SubR _ ((ρ 7).2 ++ ((ρ 3).2 ++ _))
    rw [f2, f4]
    exact SubR.go2
  repeat' (first | refine zg ?_ | refine zf ?_ | refine ze ?_ | refine zj ?_ | (refine zV ?_; first | refine zd ?_ | fail) | fail)
  have his0 := fun w' a c (h : SlA w' a (refC x0)) => zdu i a c x0 w' h0 h5 h (za2 hx0W)
  have his1 := fun w' a c (h : SlA w' a (refC x1)) => zdu i a c x1 w' h0 h5 h (za2 hx1W)
  by_cases hi0 : x0 < gQ i
  rotate_left
  · rw [show ([true, decide (x0 < gQ i), decide (x1 < gQ i), decide (chal i pl (sR i y x0 x1) ml = x0)].all id) = false by simp [hi0]]
    rw [decide_eq_false hi0] at his0
    repeat' (first | refine zg ?_ | refine zf ?_ | refine zu rfl ?_ | refine zo ?_ | refine ze ?_ | refine zj ?_ | refine zx ?_ | (refine za (id := 8) ?_; refine zb ?_; refine zb ?_; refine yv (zi (f := 59) (hc := fun w' X hk hh => his0 w' _ _ (zD hh (by exact Has.append Has.go)))) (k := ?_); refine z4 ?_; refine zb ?_; refine zp rfl rfl rfl ?_; refine zp rfl rfl rfl ?_; refine zp rfl rfl rfl ?_; refine zp rfl rfl rfl ?_; refine zz ?_) | (refine za (id := 9) ?_; refine zd ?_) | fail)
    exact ret1 rfl (resTmp rfl) SubR.nil ⟨rfl, rfl⟩
  by_cases hi1 : x1 < gQ i
  rotate_left
  · rw [show ([true, decide (x0 < gQ i), decide (x1 < gQ i), decide (chal i pl (sR i y x0 x1) ml = x0)].all id) = false by simp [hi1]]
    rw [decide_eq_true hi0] at his0
    rw [decide_eq_false hi1] at his1
    repeat' (first | refine zg ?_ | refine zf ?_ | refine zu rfl ?_ | refine zo ?_ | refine ze ?_ | refine zj ?_ | refine zx ?_ | (refine za (id := 8) ?_; refine zb ?_; refine zb ?_; refine yv (zi (f := 59) (hc := fun w' X hk hh => his0 w' _ _ (zD hh (by exact Has.append Has.go)))) (k := ?_); refine z4 ?_; refine zb ?_; refine zb ?_; refine zb ?_; refine yv (zi (f := 59) (hc := fun w' X hk hh => his1 w' _ _ (zD hh (by exact Has.append Has.go)))) (k := ?_); refine z4 ?_; refine zz ?_) | (refine za (id := 9) ?_; refine zd ?_) | fail)
    exact ret1 rfl (resTmp rfl) SubR.nil ⟨rfl, rfl⟩
  rw [show ([true, decide (x0 < gQ i), decide (x1 < gQ i), decide (chal i pl (sR i y x0 x1) ml = x0)].all id) = decide (chal i pl (sR i y x0 x1) ml = x0) by simp [hi0, hi1]]
  rw [decide_eq_true hi0] at his0
  rw [decide_eq_true hi1] at his1
  have hord := fun w' => zcq i w' h0 h5
  have hof := fun w' => zen 0 w' (by decide)
  have hpow := fun w' a c (h : SlA w' a (refC x1)) => zdx i a c x1 w' h0 h5 h (za2 hx1W)
  have hsub := fun w' a c a1 c1 (h : SlA w' a (refC (gQ i))) (h1 : SlA w' a1 (refC x0)) => zfp a a1 c c1 (gQ i) x0 w' h h1 (Nat.lt_trans (za2 hW) (by decide)) (Nat.le_of_lt hi0)
  have hne : gQ i - x0 < 18446744073709551616 ^ 16 := Nat.lt_of_le_of_lt (Nat.sub_le _ _) hW
  have hadd := fun w' a c a1 c1 (h : SlA w' a (refC (gQ i - x0))) (h1 : SlA w' a1 (refC 0)) => ziD i a a1 c c1 (gQ i - x0) 0 w' h0 h5 h h1 (za2 hne) (by rw [zaL]; decide)
  rw [Nat.add_zero] at hadd
  have heq : (gQ i - x0) % gQ i < gQ i := Nat.mod_lt _ hQ0
  have hexp := fun w' a c a1 c1 (h : SlA w' a (refC y)) (h1 : SlA w' a1 (refC ((gQ i - x0) % gQ i))) => zjp i a a1 c c1 y _ w' h0 h5 h h1 (za2 hyW) (za2 (Nat.lt_trans heq hW))
  have hmb : memB (gP i) (gQ i) (y ^ ((gQ i - x0) % gQ i) % gP i) = true := zaF.2 (zio h0 h5 (zaF.1 hy) _)
  have hmp : memB (gP i) (gQ i) (4 ^ x1 % gP i) = true := zaF.2 (zcn h0 h5 _)
  have hmul := fun w' a c a1 c1 (h : SlA w' a (refC (4 ^ x1 % gP i))) (h1 : SlA w' a1 (refC (y ^ ((gQ i - x0) % gQ i) % gP i))) => znp i a a1 c c1 _ _ w' h0 h5 h h1 (za2 (Nat.lt_trans (zaM hmp) (zav i h0 h5))) (za2 (Nat.lt_trans (zaM hmb) (zav i h0 h5)))
  have hmr : memB (gP i) (gQ i) (sR i y x0 x1) = true := zaF.2 (zjo h0 h5 (zaF.1 hmp) (zaF.1 hmb))
  have hRR : sR i y x0 x1 = (4 ^ x1 % gP i) * (y ^ ((gQ i - x0) % gQ i) % gP i) % gP i := rfl
  rw [← hRR] at hmul
  have hch := fun w' (hk : Keep No w w') ra rc (hr : SlA w' ra (refC (sR i y x0 x1))) => zex i pa ma ra pn pc mn mc rc (sR i y x0 x1) kb ko kc pl ml w' h0 h5 (hR.no hk) (hp.keep hk) (hm.keep hk) hr hpn hmn hmr
  have hcq : chal i pl (sR i y x0 x1) ml < gQ i := zdc h0 h5 _ _ _
  have hcm := fun w' a c a1 c1 (h : SlA w' a (refC (chal i pl (sR i y x0 x1) ml))) (h1 : SlA w' a1 (refC x0)) => zb6 a a1 c c1 _ _ w' h h1 (Nat.lt_trans (za2 (Nat.lt_trans hcq hW)) (by decide)) (Nat.lt_trans (za2 hx0W) (by decide))
  have hcz : decide (cmpI (chal i pl (sR i y x0 x1) ml) x0 ≠ 0) = !decide (chal i pl (sR i y x0 x1) ml = x0) := by
    rw [← zir]; by_cases h : cmpI (chal i pl (sR i y x0 x1) ml) x0 = 0 <;> simp [h]
  unfold RefG at hord hof hpow hsub hadd hexp hmul hch
  generalize chal i pl (sR i y x0 x1) ml = e at *
  generalize sR i y x0 x1 = r at *
  generalize 4 ^ x1 % gP i = ps at *
  generalize y ^ ((gQ i - x0) % gQ i) % gP i = back at *
  generalize (gQ i - x0) % gQ i = ne at *
  generalize gQ i - x0 = dq at *
  generalize gQ i = q at *
  repeat' (first | refine zg ?_ | refine zf ?_ | refine zw rfl ?_ | refine zt ?_ | refine ze ?_ | refine zj ?_ | (refine za (id := 8) ?_; refine zb ?_; refine zb ?_; refine yv (zi (f := 59) (hc := fun w' X hk hh => his0 w' _ _ (zD hh (by exact Has.append Has.go)))) (k := ?_); refine z4 ?_; refine zb ?_; refine zb ?_; refine zb ?_; refine yv (zi (f := 59) (hc := fun w' X hk hh => his1 w' _ _ (zD hh (by exact Has.append Has.go)))) (k := ?_); refine z4 ?_; refine zz ?_) | fail)
  repeat' (first | refine zg ?_ | refine zf ?_ | refine ze ?_ | refine zj ?_ | (refine za (id := 10) ?_; refine zb ?_; refine zb ?_; (refine ys (zy (f := 61) (hc := fun w' X hk hh => hord w')) (k := ?_); rintro _ _ ⟨R, rfl, aQ, cQ, rfl, rfl⟩); refine zb ?_; (refine ys (zy (f := 60) (hc := fun w' X hk hh => hsub w' _ _ _ _ (zD hh (by exact Has.append Has.go)) (zD hh (by exact Has.append Has.go)))) (k := ?_); rintro _ _ ⟨R, rfl, aD, cD, rfl, rfl⟩); (refine ys (zy (f := 62) (hc := fun w' X hk hh => hof w')) (k := ?_); rintro _ _ ⟨R, rfl, aO, cO, rfl, rfl⟩); (refine ys (zy (f := 43) (hc := fun w' X hk hh => hadd w' _ _ _ _ (zD hh (by exact Has.append Has.go)) (zD hh (by exact Has.append Has.go)))) (k := ?_); rintro _ _ ⟨R, rfl, aN, cN, rfl, rfl⟩); refine zd ?_) | fail)
  repeat' (first | refine zg ?_ | refine zf ?_ | refine ze ?_ | refine zj ?_ | (refine za (id := 11) ?_; refine zb ?_; refine zb ?_; refine zb ?_; (refine ys (zy (f := 41) (hc := fun w' X hk hh => hpow w' _ _ (zD hh (by exact Has.append Has.go)))) (k := ?_); rintro _ _ ⟨R, rfl, aP, cP, rfl, rfl⟩); refine zb ?_; refine zb ?_; refine zb ?_; (refine ys (zy (f := 64) (hc := fun w' X hk hh => hexp w' _ _ _ _ (zD hh (by exact Has.append Has.go)) (zD hh (by exact Has.append Has.go)))) (k := ?_); rintro _ _ ⟨R, rfl, aB, cB, rfl, rfl⟩); (refine ys (zy (f := 63) (hc := fun w' X hk hh => hmul w' _ _ _ _ (zD hh (by exact Has.append Has.go)) (zD hh (by exact Has.append Has.go)))) (k := ?_); rintro _ _ ⟨R, rfl, aR, cR, rfl, rfl⟩); refine zd ?_) | fail)
  by_cases hee : e = x0
  · rw [decide_eq_true hee] at hcz ⊢
    repeat' (first | refine zg ?_ | refine zf ?_ | refine zw rfl ?_ | refine zt ?_ | refine zo ?_ | refine ze ?_ | refine zj ?_ | (refine za (id := 12) ?_; refine zb ?_; refine zb ?_; refine zb ?_; refine zb ?_; (refine ys (zy (f := 42) (hc := fun w' X hk hh => hch w' hk _ _ (zD hh (by exact Has.append Has.go)))) (k := ?_); rintro _ _ ⟨R, rfl, aC, cC, rfl, rfl⟩); refine zb ?_; refine yv (zi (f := 65) (hc := fun w' X hk hh => hcm w' _ _ _ _ (zD hh (by exact Has.append Has.go)) (zD hh (by exact Has.append Has.go)))) (k := ?_); refine yv (zaB (hr := hcz)) (k := ?_)) | (refine za (id := 14) ?_; refine zd ?_) | fail)
    exact ret1 rfl (resTmp rfl) SubR.nil ⟨rfl, rfl⟩
  · rw [decide_eq_false hee] at hcz ⊢
    repeat' (first | refine zg ?_ | refine zf ?_ | refine zu rfl ?_ | refine zo ?_ | refine ze ?_ | refine zj ?_ | refine zx ?_ | (refine za (id := 12) ?_; refine zb ?_; refine zb ?_; refine zb ?_; refine zb ?_; (refine ys (zy (f := 42) (hc := fun w' X hk hh => hch w' hk _ _ (zD hh (by exact Has.append Has.go)))) (k := ?_); rintro _ _ ⟨R, rfl, aC, cC, rfl, rfl⟩); refine zb ?_; refine yv (zi (f := 65) (hc := fun w' X hk hh => hcm w' _ _ _ _ (zD hh (by exact Has.append Has.go)) (zD hh (by exact Has.append Has.go)))) (k := ?_); refine yv (zaB (hr := hcz)) (k := ?_)) | (refine za (id := 13) ?_; refine zd ?_) | fail)
    exact ret1 rfl (resTmp rfl) SubR.nil ⟨rfl, rfl⟩
end Go.Proofs.YtjidkoabdmjgkaaGreatDoor
end
section
namespace Go.Proofs.YtjidkoabdmjgkaaGreatDoor
open Go Go.Sy Go.Nt Go.RowKit
attribute [local irreducible] Sy SyL SyX Sy.Fn callFunc natC rowN refC iC gP gQ gL memB safeC fixB gnum gel gsca chal Sh.sum glen
set_option maxRecDepth 10000
def BRx (l : List UInt8) (n : Nat) (e : Int) (v : Value) (R : List Res) : Prop := ∃ a c, v = .tuple #[.slice a n c, .int .i64 e] ∧ R = [.row (.slice a n c) 5 1 n (l.map v8)]
theorem zcc {o : Option (List UInt8)} {l : List UInt8} {n : Nat} {e : Int} (h : o.getD [] = l) (hn : l.length = n) (he : (if o.isSome then (0 : Int) else 2) = e) (v : Value) (R : List Res) (hb : BR o v R) : BRx l n e v R := by
  obtain ⟨a, m, c, rfl, rfl, rfl⟩ := hb
  subst h; subst hn; subst he
  exact ⟨a, c, rfl, rfl⟩
theorem zea (e : Int) (w : World) : Sy.Fn Tryz.prog 12 [.int .i64 e] w No (Gives (.int .i64 e)) := by
  refine zq Tryz.func12 rfl Tryz.ntmps12 (by simp) Holds.nil ?_
  repeat' (first | refine zg ?_ | refine zf ?_ | refine zo ?_ | refine ze ?_ | refine zj ?_ | (refine za (id := 0) ?_; refine zd ?_) | (refine za (id := 1) ?_; refine zb ?_; refine zd ?_) | fail)
  exact ret1 rfl (resTmp rfl) SubR.nil ⟨rfl, rfl⟩
theorem zdv {B0 : Nat} {w : World} {M : Nat → Prop} {E b n : Nat} {l : List UInt8} {L : List Res} (hh : Holds B0 M L w) (hl : l.length = n) (hL : Has L (.blk b E (l.map v8))) : (⟨some ⟨b, 0, none⟩, n, n, l⟩ : Bs).ok w :=
  ⟨hl, Nat.le_refl _, .inr ⟨b, 0, rfl, zN (hh.has hL) Seg.all⟩, fun h => by cases h⟩
theorem zh7 {w w' : World} {L X : List Res} {E b n : Nat} {l : List UInt8} (hk : Keep No w w') (hh : Holds w.heap.size No (L ++ X) w') (hl : l.length = n) (hL : Has L (objB E b l)) : (⟨some ⟨b, 0, none⟩, n, n, l⟩ : Bs).ok w' :=
  ⟨hl, Nat.le_refl _, (Rd.objB hL) w' X hk hh, fun h => by cases h⟩
theorem znn {B0 : Nat} {w : World} {M : Nat → Prop} {E n m c : Nat} {a : Option Addr} {l : List UInt8} {L : List Res} (hh : Holds B0 M L w) (hl : l.length = n) (hm : m ≤ n) (hL : Has L (.row (.slice a n c) E 1 n (l.map v8))) : (⟨a, m, c, l.take m⟩ : Bs).ok w :=
  ⟨by show (l.take m).length = m; rw [List.length_take]; omega, Nat.le_trans hm (Row.cap hh hL), by show SlA w a ((l.take m).map v8); rw [List.map_take]; exact (zD hh hL).take m, fun h => (Row.nil hh hL h).1⟩
end Go.Proofs.YtjidkoabdmjgkaaGreatDoor
namespace Go.Proofs.YtjidkoabdmjgkaaGreatDoor
open Go Go.Sy Go.Nt Go.RowKit
attribute [local irreducible] Sy SyL SyX Sy.Fn callFunc natC rowN refC iC memB safeC chal Sh.sum
set_option maxRecDepth 10000
theorem zl2 {z : Int} {key nonce m s : List UInt8} (hs : sSig z key nonce m = some s) : s.length = 2 * gL z.toNat := by
  unfold sSig at hs
  split at hs
  · rename_i hk
    obtain ⟨hk, -, -, -⟩ := hk
    cases hs
    unfold skey at hk
    rw [Bool.and_eq_true, decide_eq_true_eq] at hk
    obtain ⟨i, -, hi, h0, h5⟩ := za4 (zcQ hk.1).1
    rw [hi]
    have hQ0 : 0 < gQ i := Nat.lt_of_lt_of_le (by decide) (zag i h0 h5)
    have hE : sE i (gnum z key).1 (gsca z nonce).1 m < gQ i := zdc h0 h5 _ _ _
    have hS : sS i (gnum z key).1 (gsca z nonce).1 m < gQ i := Nat.mod_lt _ hQ0
    rw [List.length_append, zaI _ _ (zca h0 h5 hE), zaI _ _ (zca h0 h5 hS)]
    omega
  · cases hs
theorem fix2 (a b : Nat) (ha : a < 256) (hb : 0 < b ∧ b < 256) : fixB 2 (a * 256 + b) = [UInt8.ofNat a, UInt8.ofNat b] := by
  by_cases h0 : a = 0
  · subst h0
    have n1 : nd 256 (0 * 256 + b) = 1 := zba 256 _ 1 (by decide) (by omega) (fun _ => by omega)
    unfold fixB byt be cd
    rw [n1]
    simp [dg, Nat.mod_eq_of_lt hb.2]
  · have n2 : nd 256 (a * 256 + b) = 2 := zba 256 _ 2 (by decide) (by omega) (fun _ => by omega)
    unfold fixB byt be cd
    rw [n2]
    have h1 : (a * 256 + b) % 256 = b := by omega
    have h2 : (a * 256 + b) / 256 % 256 = a := by omega
    simp [dg, h1, h2]
theorem zjC : sPriv 1 [6] = some [0, 6] := by
  have hg : gsca 1 [6] = (6, 0) := by unfold gsca; rw [if_pos (by decide)]; decide +kernel
  unfold sPriv
  rw [hg, if_pos ⟨rfl, by decide⟩]
  have := fix2 0 6 (by decide) (by decide)
  exact congrArg some this
theorem ziH : skey 1 [0, 6] = true ∧ (gnum 1 [0, 6]).1 = 6 := by
  have hg : gnum 1 [0, 6] = (6, 0) := by decide +kernel
  unfold skey
  rw [hg]; exact ⟨rfl, rfl⟩
theorem zgi : sPub 1 [0, 6] = some [4, 193] := by
  unfold sPub
  rw [if_pos ziH.1, ziH.2]
  have h : 4 ^ 6 % gP (1 : Int).toNat = 4 * 256 + 193 := by decide +kernel
  rw [h]
  exact congrArg some (fix2 4 193 (by decide) (by decide))
theorem zi9 : sPriv 1 [5, 159] = none := by
  have hg : gsca 1 [5, 159] = (0, 0) := by unfold gsca; rw [if_pos (by decide)]; decide +kernel
  unfold sPriv
  rw [hg, if_neg (fun h => h.2 rfl)]
theorem zkk : sPub 1 [6] = none := by
  have hg : gnum 1 [6] = (0, 4) := by decide +kernel
  unfold sPub skey
  rw [hg, if_neg (by decide)]
theorem zkE : sPub 9 [0, 6] = none := by
  have hg : gnum 9 [0, 6] = (0, 2) := by unfold gnum; rw [if_neg (by decide)]
  unfold sPub skey
  rw [hg, if_neg (by decide)]
theorem zot (m : List UInt8) (hm : m.length ≤ 65536) : ∃ s : List UInt8, sSig 1 [0, 6] [7] m = some s ∧ s.length = 4 ∧ sVer 1 [4, 193] m s = 0 ∧ sVer 1 [4, 193] m (s.take 3) = 10 := by
  have hg : gsca 1 [7] = (7, 0) := by unfold gsca; rw [if_pos (by decide)]; decide +kernel
  have hs := zeG (z := 1) (pl := [0, 6]) (nl := [7]) (ml := m) ziH.1 (by rw [hg]) (by rw [hg]; decide) hm
  have hl := zl2 hs
  refine ⟨_, hs, hl, znm zgi hs, zfJ ?_ ?_⟩
  · rintro (h | h)
    · rw [zjw zgi] at h; exact h rfl
    · omega
  · rw [List.length_take, hl]; decide
end Go.Proofs.YtjidkoabdmjgkaaGreatDoor
end
