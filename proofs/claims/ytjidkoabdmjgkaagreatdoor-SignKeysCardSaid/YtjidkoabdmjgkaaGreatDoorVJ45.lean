/- The specification of layer sign, walked: the challenge and Sign. -/
import Derived.Test.YtjidkoabdmjgkaaGreatDoorVJ43
import Derived.Test.YtjidkoabdmjgkaaGreatDoorVJ37
set_option linter.all false
section
namespace Go.Proofs.YtjidkoabdmjgkaaGreatDoor
open Go Go.Sy Go.Nt Go.RowKit
attribute [local irreducible] Sy SyL SyX Sy.Fn callFunc natC rowN refC iC gP gQ gL memB safeC fixB gnum gel gsca chal Sh.sum
set_option maxRecDepth 10000
theorem za2 {x : Nat} (h : x < 18446744073709551616 ^ 16) : nd 65536 x < 20000 := Nat.lt_of_le_of_lt (ndW h) (by decide)
set_option maxHeartbeats 1000000 in
theorem zex (i : Nat) (pa ma ra : Option Addr) (pn pc mn mc rc r kb ko kc : Nat) (pl ml : List UInt8) (w : World) (h0 : 1 ≤ i) (h5 : i ≤ 4) (hR : RTab w No kb ko kc) (hp : (⟨pa, pn, pc, pl⟩ : Bs).ok w) (hm : (⟨ma, mn, mc, ml⟩ : Bs).ok w) (hsr : SlA w ra (refC r)) (hpn : pn ≤ 1000) (hmn : mn ≤ 100000) (hr : memB (gP i) (gQ i) r = true) :
    Sy.Fn Tryz.prog 42 [.int .i64 (i : Int), .slice pa pn pc, .slice ra (nd 65536 r) rc, .slice ma mn mc] w No (RefG (chal i pl r ml)) := by
  refine zq Tryz.func42 rfl Tryz.ntmps42 (by simp) Holds.nil ?_
  have hu := zjB i h5
  have hnr := za2 (Nat.lt_trans (zaM hr) (zav i h0 h5))
  have hby := fun w' (hk : Keep No w w') => zct i ra rc r w' h0 h5 (hsr.to hk (fun _ h => .inr h)).sla hnr (zdb h0 h5 (zaM hr))
  have hfl := zaI (gL i) r (zdb h0 h5 (zaM hr))
  have hgl : gL i ≤ 96 := by have := zbP (z := (i : Int)) ⟨by omega, by omega⟩; rwa [Int.toNat_natCast] at this
  have hpl : pl.length = pn := hp.len
  have hml : ml.length = mn := hm.len
  have hps := hp.sla
  have hms := hm.sla
  have hpnil : pa = none → pc = 0 := hp.nil
  have hmnil : ma = none → mc = 0 := hm.nil
  dsimp only at hps hms
  rw [zjy]
  have hBl : (chalB i pl r ml).length = 1 + pn + gL i + mn := by
    unfold chalB
    rw [List.length_cons, List.length_append, List.length_append, hfl, hpl, hml]; omega
  have hsum := fun w' (hk : Keep No w w') a c (hs : SlA w' a ((chalB i pl r ml).map v8)) (hn : a = none → c = 0) => zl6 a (1 + pn + gL i + mn) c kb ko kc (chalB i pl r ml) w' hBl (by omega) hs hn (hR.no hk).cell (hR.no hk).row
  have hs32 := zjq (chalB i pl r ml)
  have hsc := fun w' b (h : w'.rangeAt b 0 ((Sh.sum (chalB i pl r ml)).map v8)) => zeu i (some ⟨b, 0, none⟩) 32 32 (Sh.sum (chalB i pl r ml)) w' h0 h5 hs32 (.inr ⟨b, 0, rfl, h⟩) (by decide)
  generalize Sh.sum (chalB i pl r ml) = H at *
  have hX : Value.int .u8 (Wd.n8 (UInt8.ofNat i)) :: (((List.append [] (pl.map v8)).append ((fixB (gL i) r).map v8)).append (ml.map v8)) = (chalB i pl r ml).map v8 := by
    unfold chalB
    rw [List.map_cons, List.map_append, List.map_append, ← List.append_assoc]; rfl
  generalize chalB i pl r ml = B at *
  generalize fixB (gL i) r = lb at *
  generalize gL i = len at *
  repeat' (first | refine zg ?_ | refine zf ?_ | refine ze ?_ | refine zj ?_ | (refine za (id := 0) ?_; refine zd ?_) | (refine za (id := 1) ?_; refine zb ?_; refine yv (zaD (hr := hu)) (k := ?_); (refine ys zR (k := ?_); rintro _ _ ⟨_, rfl, rfl⟩); refine zb ?_; (refine ys zcH (k := ?_); rintro _ _ ⟨rfl, _, _, rfl⟩); refine zd ?_) | (refine za (id := 2) ?_; refine zb ?_; refine zb ?_; refine zb ?_; (refine ys (zy (f := 40) (hc := fun w' X hk hh => hby w' hk)) (k := ?_); rintro _ _ ⟨R, rfl, aB, cB, rfl, rfl⟩; refine zdl (fun w' hh => (Row.none hh (a := aB) (n := len) (c := cB) Has.go : aB = none → cB = 0)) fun hnB => ?_); (refine ys zap (k := ?_); rintro _ _ ⟨rfl, _, _, rfl⟩); refine zb ?_; (refine ys zap (k := ?_); rintro _ _ ⟨rfl, _, _, rfl⟩); refine zd ?_) | fail)
  rw [hX]
  repeat' (first | refine zg ?_ | refine zf ?_ | refine zo ?_ | refine ze ?_ | refine zj ?_ | (refine za (id := 3) ?_; refine zb ?_; refine yv (zi (f := 89) (hc := fun w' X hk hh => hsum w' hk _ _ (zD hh (by exact Has.append Has.go)) (Row.none hh (by exact Has.append Has.go)))) (k := ?_); (refine zm ?_; intro _); refine zS ?_) | (refine za (id := 4) ?_; refine zb ?_; refine zbp ?_; (refine ys (zy (f := 39) (hc := fun w' X hk hh => hsc w' _ (zN (hh.has (by exact Has.append Has.go)) Seg.all))) (k := ?_); rintro _ _ ⟨R, rfl, aS, cS, rfl, rfl⟩); refine zd ?_) | fail)
  exact ret1 rfl (resTmp rfl) (by exact SubR.go2) ⟨_, _, rfl, rfl⟩
set_option maxHeartbeats 2000000 in
theorem zl8 (z : Int) (pa na ma : Option Addr) (pn pc nn nc mn mc kb ko kc : Nat) (pl nl ml : List UInt8) (w : World) (hR : RTab w No kb ko kc) (hp : (⟨pa, pn, pc, pl⟩ : Bs).ok w) (hn : (⟨na, nn, nc, nl⟩ : Bs).ok w) (hm : (⟨ma, mn, mc, ml⟩ : Bs).ok w) (hnn : nn ≤ 1000) (hmn : mn ≤ 100000) :
    Sy.Fn Tryz.prog 11 [.int .i64 z, .slice pa pn pc, .slice na nn nc, .slice ma mn mc] w No (BR (sSig z pl nl ml)) := by
  refine zq Tryz.func11 rfl Tryz.ntmps11 (by simp) Holds.nil ?_
  have hpr := fun w' (hk : Keep No w w') => zfA z pa pn pc pl w' hp.len (hp.keep hk).sla
  have hndx := zfr z pl
  have hml : ml.length = mn := hm.len
  unfold RefB at hpr
  cases hk : skey z pl with
  | false =>
    rw [show sSig z pl nl ml = none from if_neg (fun h => by rw [hk] at h; exact Bool.noConfusion h.1)]
    rw [hk] at hpr
    generalize (rnum z pl).1 = x at *
    repeat' (first | refine zg ?_ | refine zf ?_ | refine zu rfl ?_ | refine zo ?_ | refine ze ?_ | refine zj ?_ | refine zx ?_ | (refine za (id := 0) ?_; refine zd ?_; refine zd ?_) | (refine za (id := 1) ?_; refine zb ?_; refine zb ?_; (refine ys (zy (f := 37) (hc := fun w' X hk hh => hpr w' hk)) (k := ?_); rintro _ _ ⟨R, rfl, aX, cX, rfl, rfl⟩); refine zb ?_; refine zk ?_; refine zk ?_; refine zd ?_; refine zd ?_) | (refine za (id := 2) ?_; refine zb ?_; refine z4 ?_; refine zb ?_; refine zp rfl rfl rfl ?_; refine zp rfl rfl rfl ?_; refine zp rfl rfl rfl ?_; refine zp rfl rfl rfl ?_; refine zz ?_; refine zb ?_; refine zp rfl rfl rfl ?_; refine zp rfl rfl rfl ?_; refine zp rfl rfl rfl ?_; refine zz ?_) | (refine za (id := 3) ?_; refine zd ?_; refine zd ?_) | fail)
    refine zaw (zaq 5 1) ?_
    exact ret2 rfl (resTmp rfl) (resTmp rfl) (by exact SubR.go2) ⟨_, _, _, rfl, rfl, rfl⟩
  | true =>
    have hkey := hk
    have hrk := ziK hk
    obtain ⟨i, rfl, hi, h0, h5, hxq⟩ := zff hk
    rw [hk] at hpr
    have hg := zhN h0 h5 nl
    have hscal := fun w' (hk : Keep No w w') => zeu i na nn nc nl w' h0 h5 hn.len (hn.keep hk).sla (by omega)
    have hQ0 : 0 < gQ i := Nat.lt_of_lt_of_le (by decide) (zag i h0 h5)
    have hkq : bev 256 (bn nl) % gQ i < gQ i := Nat.mod_lt _ hQ0
    unfold RefG at hscal
    by_cases hk0 : bev 256 (bn nl) % gQ i = 0
    · rw [show sSig (i : Int) pl nl ml = none from if_neg (fun h => h.2.2.1 (by rw [hg]; exact hk0))]
      have hzr := fun w' a1 c1 (h : SlA w' a1 (refC (bev 256 (bn nl) % gQ i))) => zek a1 c1 _ w' h (za2 (Nat.lt_trans hkq (zao i h0 h5)))
      rw [decide_eq_true hk0] at hzr
      clear hg
      generalize bev 256 (bn nl) % gQ i = k at *
      generalize (rnum (i : Int) pl).1 = x at *
      repeat' (first | refine zg ?_ | refine zf ?_ | refine zu rfl ?_ | refine zo ?_ | refine ze ?_ | refine zj ?_ | refine zx ?_ | (refine za (id := 0) ?_; refine zd ?_; refine zd ?_) | (refine za (id := 1) ?_; refine zb ?_; refine zb ?_; (refine ys (zy (f := 37) (hc := fun w' X hk hh => hpr w' hk)) (k := ?_); rintro _ _ ⟨R, rfl, aX, cX, rfl, rfl⟩); refine zb ?_; refine zk ?_; refine zk ?_; refine zd ?_; refine zd ?_) | (refine za (id := 2) ?_; refine zb ?_; refine z4 ?_; refine zb ?_; refine zb ?_; refine zb ?_; (refine ys (zy (f := 39) (hc := fun w' X hk hh => hscal w' hk)) (k := ?_); rintro _ _ ⟨R, rfl, aK, cK, rfl, rfl⟩); refine yv (zi (f := 38) (hc := fun w' X hk hh => hzr w' _ _ (zD hh (by exact Has.append Has.go)))) (k := ?_); refine zz ?_; refine zb ?_; refine zp rfl rfl rfl ?_; refine zp rfl rfl rfl ?_; refine zp rfl rfl rfl ?_; refine zz ?_) | (refine za (id := 3) ?_; refine zd ?_; refine zd ?_) | fail)
      refine zaw (zaq 5 1) ?_
      exact ret2 rfl (resTmp rfl) (resTmp rfl) (by exact SubR.go2) ⟨_, _, _, rfl, rfl, rfl⟩
    have hzr := fun w' a1 c1 (h : SlA w' a1 (refC (bev 256 (bn nl) % gQ i))) => zek a1 c1 _ w' h (za2 (Nat.lt_trans hkq (zao i h0 h5)))
    rw [decide_eq_false hk0] at hzr
    by_cases hlong : 65536 < mn
    · rw [show sSig (i : Int) pl nl ml = none from if_neg (fun h => by have := h.2.2.2; omega)]
      have gm : decide (65536 < (mn : Int)) = true := decide_eq_true (by omega)
      clear hg
      generalize bev 256 (bn nl) % gQ i = k at *
      generalize (rnum (i : Int) pl).1 = x at *
      repeat' (first | refine zg ?_ | refine zf ?_ | refine zu rfl ?_ | refine zo ?_ | refine ze ?_ | refine zj ?_ | refine zx ?_ | (refine za (id := 0) ?_; refine zd ?_; refine zd ?_) | (refine za (id := 1) ?_; refine zb ?_; refine zb ?_; (refine ys (zy (f := 37) (hc := fun w' X hk hh => hpr w' hk)) (k := ?_); rintro _ _ ⟨R, rfl, aX, cX, rfl, rfl⟩); refine zb ?_; refine zk ?_; refine zk ?_; refine zd ?_; refine zd ?_) | (refine za (id := 2) ?_; refine zb ?_; refine z4 ?_; refine zb ?_; refine zb ?_; refine zb ?_; (refine ys (zy (f := 39) (hc := fun w' X hk hh => hscal w' hk)) (k := ?_); rintro _ _ ⟨R, rfl, aK, cK, rfl, rfl⟩); refine yv (zi (f := 38) (hc := fun w' X hk hh => hzr w' _ _ (zD hh (by exact Has.append Has.go)))) (k := ?_); refine zz ?_; refine zb ?_; refine zb ?_; refine zB ?_; refine yv (zac (hr := gm)) (k := ?_); refine zz ?_) | (refine za (id := 3) ?_; refine zd ?_; refine zd ?_) | fail)
      refine zaw (zaq 5 1) ?_
      exact ret2 rfl (resTmp rfl) (resTmp rfl) (by exact SubR.go2) ⟨_, _, _, rfl, rfl, rfl⟩
    have gm : decide (65536 < (mn : Int)) = false := decide_eq_false (by omega)
    rw [zeG hkey (by rw [hg]) (by rw [hg]; exact hk0) (by omega), hi, hg]
    dsimp only
    rw [← hrk] at hxq ⊢
    generalize bev 256 (bn nl) % gQ i = k at *
    generalize (rnum (i : Int) pl).1 = x at *
    have hxW := Nat.lt_trans hxq (zao i h0 h5)
    have hkW := Nat.lt_trans hkq (zao i h0 h5)
    have hpx := fun w' a1 c1 (h : SlA w' a1 (refC x)) => zdx i a1 c1 x w' h0 h5 h (za2 hxW)
    have hpk := fun w' a1 c1 (h : SlA w' a1 (refC k)) => zdx i a1 c1 k w' h0 h5 h (za2 hkW)
    have mx : memB (gP i) (gQ i) (4 ^ x % gP i) = true := zaF.2 (zcn h0 h5 _)
    have mk : memB (gP i) (gQ i) (4 ^ k % gP i) = true := zaF.2 (zcn h0 h5 _)
    have hby := fun w' a1 c1 (h : SlA w' a1 (refC (4 ^ x % gP i))) => zct i a1 c1 _ w' h0 h5 h (za2 (Nat.lt_trans (zaM mx) (zav i h0 h5))) (zdb h0 h5 (zaM mx))
    have hfl := zaI (gL i) (4 ^ x % gP i) (zdb h0 h5 (zaM mx))
    have hgl : gL i ≤ 96 := by have := zbP (z := (i : Int)) ⟨by omega, by omega⟩; rwa [Int.toNat_natCast] at this
    have hE : sE i x k ml = chal i (fixB (gL i) (4 ^ x % gP i)) (4 ^ k % gP i) ml := rfl
    have heq : sE i x k ml < gQ i := zdc h0 h5 _ _ _
    have hsq : sS i x k ml < gQ i := Nat.mod_lt _ hQ0
    have hS : sS i x k ml = (k + sE i x k ml * x % gQ i) % gQ i := rfl
    have hch := fun w' (hk : Keep No w w') a c ra rc (hb : (⟨a, gL i, c, fixB (gL i) (4 ^ x % gP i)⟩ : Bs).ok w') (hr : SlA w' ra (refC (4 ^ k % gP i))) => zex i a ma ra (gL i) c mn mc rc (4 ^ k % gP i) kb ko kc (fixB (gL i) (4 ^ x % gP i)) ml w' h0 h5 (hR.no hk) hb (hm.keep hk) hr (by omega) hmn mk
    rw [← hE] at hch
    generalize sE i x k ml = e at *
    have heW := Nat.lt_trans heq (zao i h0 h5)
    have hmul := fun w' a c a1 c1 (h : SlA w' a (refC e)) (h1 : SlA w' a1 (refC x)) => zmv i a a1 c c1 e x w' h0 h5 h h1 (za2 heW) (za2 hxW)
    have hxe : e * x % gQ i < gQ i := Nat.mod_lt _ hQ0
    have hadd := fun w' a c a1 c1 (h : SlA w' a (refC k)) (h1 : SlA w' a1 (refC (e * x % gQ i))) => ziD i a a1 c c1 k (e * x % gQ i) w' h0 h5 h h1 (za2 hkW) (za2 (Nat.lt_trans hxe (zao i h0 h5)))
    rw [← hS] at hadd
    generalize sS i x k ml = s at *
    have hbe := fun w' a1 c1 (h : SlA w' a1 (refC e)) => zct i a1 c1 _ w' h0 h5 h (za2 heW) (zca h0 h5 heq)
    have hbs := fun w' a1 c1 (h : SlA w' a1 (refC s)) => zct i a1 c1 _ w' h0 h5 h (za2 (Nat.lt_trans hsq (zao i h0 h5))) (zca h0 h5 hsq)
    have hfe := zaI (gL i) e (zca h0 h5 heq)
    have hfs := zaI (gL i) s (zca h0 h5 hsq)
    unfold RefG at hpx hpk hch hmul hadd
    generalize fixB (gL i) (4 ^ x % gP i) = lb at *
    generalize fixB (gL i) e = lE at *
    generalize fixB (gL i) s = lS at *
    generalize 4 ^ x % gP i = yx at *
    generalize 4 ^ k % gP i = yk at *
    generalize e * x % gQ i = em at *
    generalize gL i = len at *
    repeat' (first | refine zg ?_ | refine zf ?_ | refine zw rfl ?_ | refine zt ?_ | refine ze ?_ | refine zj ?_ | (refine za (id := 0) ?_; refine zd ?_; refine zd ?_) | (refine za (id := 1) ?_; refine zb ?_; refine zb ?_; (refine ys (zy (f := 37) (hc := fun w' X hk hh => hpr w' hk)) (k := ?_); rintro _ _ ⟨R, rfl, aX, cX, rfl, rfl⟩); refine zb ?_; refine zk ?_; refine zk ?_; refine zd ?_; refine zd ?_) | (refine za (id := 2) ?_; refine zb ?_; refine z4 ?_; refine zb ?_; refine zb ?_; refine zb ?_; (refine ys (zy (f := 39) (hc := fun w' X hk hh => hscal w' hk)) (k := ?_); rintro _ _ ⟨R, rfl, aK, cK, rfl, rfl⟩); refine yv (zi (f := 38) (hc := fun w' X hk hh => hzr w' _ _ (zD hh (by exact Has.append Has.go)))) (k := ?_); refine zz ?_; refine zb ?_; refine zb ?_; refine zB ?_; refine yv (zac (hr := gm)) (k := ?_); refine zz ?_) | (refine za (id := 4) ?_; refine zb ?_; refine zb ?_; (refine ys (zy (f := 39) (hc := fun w' X hk hh => hscal w' hk)) (k := ?_); rintro _ _ ⟨R, rfl, aK, cK, rfl, rfl⟩); refine zd ?_) | fail)
    repeat' (first | refine zg ?_ | refine zf ?_ | refine ze ?_ | refine zj ?_ | (refine za (id := 5) ?_; refine zb ?_; refine zb ?_; refine zb ?_; (refine ys (zy (f := 41) (hc := fun w' X hk hh => hpx w' _ _ (zD hh (by exact Has.append Has.go)))) (k := ?_); rintro _ _ ⟨R, rfl, aY, cY, rfl, rfl⟩); (refine ys (zy (f := 40) (hc := fun w' X hk hh => hby w' _ _ (zD hh (by exact Has.append Has.go)))) (k := ?_); rintro _ _ ⟨R, rfl, aB, cB, rfl, rfl⟩); refine zd ?_) | fail)
    repeat' (first | refine zg ?_ | refine zf ?_ | refine ze ?_ | refine zj ?_ | (refine za (id := 6) ?_; refine zb ?_; refine zb ?_; refine zb ?_; refine zb ?_; (refine ys (zy (f := 41) (hc := fun w' X hk hh => hpk w' _ _ (zD hh (by exact Has.append Has.go)))) (k := ?_); rintro _ _ ⟨R, rfl, aR, cR, rfl, rfl⟩); refine zb ?_; (refine ys (zy (f := 42) (hc := fun w' X hk hh => hch w' hk aB cB _ _ (zdR (E := 5) hh hfl (by exact Has.append Has.go)) (zD hh (by exact Has.append Has.go)))) (k := ?_); rintro _ _ ⟨R, rfl, aE, cE, rfl, rfl⟩); refine zd ?_) | fail)
    repeat' (first | refine zg ?_ | refine zf ?_ | refine ze ?_ | refine zj ?_ | (refine za (id := 7) ?_; refine zb ?_; refine zb ?_; refine zb ?_; refine zb ?_; refine zb ?_; (refine ys (zy (f := 44) (hc := fun w' X hk hh => hmul w' _ _ _ _ (zD hh (by exact Has.append Has.go)) (zD hh (by exact Has.append Has.go)))) (k := ?_); rintro _ _ ⟨R, rfl, aM, cM, rfl, rfl⟩); (refine ys (zy (f := 43) (hc := fun w' X hk hh => hadd w' _ _ _ _ (zD hh (by exact Has.append Has.go)) (zD hh (by exact Has.append Has.go)))) (k := ?_); rintro _ _ ⟨R, rfl, aS, cS, rfl, rfl⟩); refine zd ?_) | fail)
    repeat' (first | refine zf ?_ | refine zo ?_ | refine ze ?_ | refine zj ?_ | (refine za (id := 8) ?_; refine zb ?_; refine zb ?_; (refine ys (zy (f := 40) (hc := fun w' X hk hh => hbe w' _ _ (zD hh (by exact Has.append Has.go)))) (k := ?_); rintro _ _ ⟨R, rfl, aF, cF, rfl, rfl⟩); refine zb ?_; refine zb ?_; (refine ys (zy (f := 40) (hc := fun w' X hk hh => hbs w' _ _ (zD hh (by exact Has.append Has.go)))) (k := ?_); rintro _ _ ⟨R, rfl, aG, cG, rfl, rfl⟩; refine zdl (fun w' hh => (Row.none hh (a := aG) (n := len) (c := cG) Has.go : aG = none → cG = 0)) fun hnG => ?_); (refine ys zap (k := ?_); rintro _ _ ⟨rfl, _, _, rfl⟩); refine zd ?_; refine zd ?_) | fail)
    have hap : (lE.map v8).append (lS.map v8) = (lE ++ lS).map v8 := List.map_append.symm
    rw [hap]
    exact ret2 rfl (resTmp rfl) (resTmp rfl) (by exact SubR.go2) ⟨_, _, _, rfl, by show len + len = (lE ++ lS).length; rw [List.length_append, hfe, hfs], rfl⟩
end Go.Proofs.YtjidkoabdmjgkaaGreatDoor
end
