/- Layer sign, walked: Verify, whole. -/
import Derived.Test.YtjidkoabdmjgkaaGreatDoorXJ46
set_option linter.all false
section
namespace Go.Proofs.YtjidkoabdmjgkaaGreatDoor
open Go Go.Sy Go.Nt Go.RowKit
attribute [local irreducible] Sy SyL SyX Sy.Fn callFunc natC rowN refC iC gP gQ gL memB safeC fixB gnum gel gsca chal Sh.sum glen
set_option maxRecDepth 10000
theorem zk8 (l : List Nat) : (rowN l).all (·.oneCell') = true := by
  induction l with
  | nil => rw [List.length_eq_zero_iff.1 (show (rowN []).length = 0 from zcE [])]; rfl
  | cons x l ih => rw [zdi, List.all_append, zcA, ih]; rfl
theorem zkm : rowN [] = [] := List.length_eq_zero_iff.1 (show (rowN []).length = 0 from zcE [])
def vfs (b4 b5 b6 b9 b10 b12 : Nat) : List Value :=
  [.func (.func 48) #[] #[.pointer (some ⟨b9, 0, none⟩)], .func (.func 49) #[] #[.pointer (some ⟨b9, 0, none⟩), .pointer (some ⟨b12, 0, none⟩)], .func (.func 51) #[] #[.pointer (some ⟨b9, 0, none⟩), .pointer (some ⟨b12, 0, none⟩)], .func (.func 52) #[] #[.pointer (some ⟨b4, 0, none⟩), .pointer (some ⟨b10, 0, none⟩), .pointer (some ⟨b9, 0, none⟩), .pointer (some ⟨b12, 0, none⟩), .pointer (some ⟨b5, 0, none⟩), .pointer (some ⟨b6, 0, none⟩)]]
theorem zj1 (bF b4 b5 b6 b9 b10 b12 cP : Nat) (aP : Option Addr) (w : World) (h9 : w.cell? ⟨b9, 0, none⟩ = some (.slice aP 0 cP)) (hF : w.rangeAt bF 0 (vfs b4 b5 b6 b9 b10 b12)) :
    Sy.Fn Tryz.prog 47 [.slice (some ⟨bF, 0, none⟩) 4 4] w No (Gives (.bool false)) := by
  refine ziL bF 4 4 _ [false, false, false, false] w rfl rfl (by decide) hF ?_
  intro k v hv ht
  rcases k with _ | k
  · obtain rfl : false = v := Option.some.inj hv
    exact ⟨_, [.pointer (some ⟨b9, 0, none⟩)], rfl, en rfl, fun w' hk => ziz b9 0 cP aP w' (hk.cell h9 (fun h => h))⟩
  · rw [List.take_succ_cons, List.all_cons] at ht
    exact absurd ht (by simp)
theorem zmp (i bF b4 b5 b6 b9 b10 b12 bP cP x0 x1 y pn pc mn mc : Nat) (pa ma : Option Addr) (pl ml : List UInt8) (w : World) (h0 : 1 ≤ i) (h5 : i ≤ 4) (hG : GT w) (hT : Tab w No) (h4 : w.cell? ⟨b4, 0, none⟩ = some (.int .i64 (i : Int))) (h10 : w.rangeAt b10 0 (natC y))
    (h9 : w.cell? ⟨b9, 0, none⟩ = some (.slice (some ⟨bP, 0, none⟩) 2 cP)) (hr : w.rangeAt bP 0 (rowN [x0, x1])) (h12 : w.rangeAt b12 0 (natC (gQ i))) (hp5 : w.cell? ⟨b5, 0, none⟩ = some (.slice pa pn pc)) (hm6 : w.cell? ⟨b6, 0, none⟩ = some (.slice ma mn mc))
    (hp : (⟨pa, pn, pc, pl⟩ : Bs).ok w) (hm : (⟨ma, mn, mc, ml⟩ : Bs).ok w) (hpn : pn ≤ 1000) (hmn : mn ≤ 100000) (hx0 : x0 < 18446744073709551616 ^ 16) (hx1 : x1 < 18446744073709551616 ^ 16) (hy : memB (gP i) (gQ i) y = true) (hF : w.rangeAt bF 0 (vfs b4 b5 b6 b9 b10 b12)) :
    Sy.Fn Tryz.prog 47 [.slice (some ⟨bF, 0, none⟩) 4 4] w No (Gives (.bool ([true, decide (x0 < gQ i), decide (x1 < gQ i), decide (chal i pl (sR i y x0 x1) ml = x0)].all id))) := by
  have hW := zaE i h0 h5
  refine ziL bF 4 4 _ _ w rfl rfl (by decide) hF ?_
  intro k v hv ht
  rcases k with _ | _ | _ | _ | k
  · obtain rfl := Option.some.inj hv
    exact ⟨_, [.pointer (some ⟨b9, 0, none⟩)], rfl, en rfl, fun w' hk => ziz b9 2 cP _ w' (hk.cell h9 (fun h => h))⟩
  · obtain rfl := Option.some.inj hv
    exact ⟨_, [.pointer (some ⟨b9, 0, none⟩), .pointer (some ⟨b12, 0, none⟩)], rfl, en rfl, fun w' hk => zl4 b9 bP 0 cP b12 x0 x1 _ w' (hk.cell h9 (fun h => h)) (zaw hr hk (fun h => h)) (zaw h12 hk (fun h => h)) hx0 hW⟩
  · obtain rfl := Option.some.inj hv
    exact ⟨_, [.pointer (some ⟨b9, 0, none⟩), .pointer (some ⟨b12, 0, none⟩)], rfl, en rfl, fun w' hk => zml b9 bP 0 cP b12 x0 x1 _ w' (hk.cell h9 (fun h => h)) (zaw hr hk (fun h => h)) (zaw h12 hk (fun h => h)) hx1 hW⟩
  · obtain rfl := Option.some.inj hv
    have ht' : (true && (decide (x0 < gQ i) && (decide (x1 < gQ i) && true))) = true := ht
    rw [Bool.true_and, Bool.and_true, Bool.and_eq_true, decide_eq_true_eq, decide_eq_true_eq] at ht'
    exact ⟨_, [.pointer (some ⟨b4, 0, none⟩), .pointer (some ⟨b10, 0, none⟩), .pointer (some ⟨b9, 0, none⟩), .pointer (some ⟨b12, 0, none⟩), .pointer (some ⟨b5, 0, none⟩), .pointer (some ⟨b6, 0, none⟩)], rfl, en rfl, fun w' hk =>
      zl7 i b4 b10 b9 bP 0 cP b12 b5 b6 x0 x1 y pn pc mn mc pa ma pl ml w' h0 h5 (hG.to hk) (hT.no hk) (hk.cell h4 (fun h => h)) (zaw h10 hk (fun h => h)) (hk.cell h9 (fun h => h)) (zaw hr hk (fun h => h)) (zaw h12 hk (fun h => h)) (hk.cell hp5 (fun h => h)) (hk.cell hm6 (fun h => h)) (hp.keep hk) (hm.keep hk) hpn hmn ht'.1 ht'.2 hy⟩
  · cases hv
theorem zkC {i : Nat} (h0 : 1 ≤ i) (h5 : i ≤ 4) : 1 ≤ gL i := za7 (p := fun i => 1 ≤ gL i) (by decide +kernel) (by decide +kernel) (by decide +kernel) (by decide +kernel) i h0 h5
theorem zg3 {z : Int} {pl ml sl : List UInt8} (h : (gel z pl).2 ≠ 0 ∨ 65536 < ml.length) : sVer z pl ml sl = 2 := if_pos h
theorem zg0 {z : Int} {pl ml sl : List UInt8} (h : ¬ ((gel z pl).2 ≠ 0 ∨ 65536 < ml.length)) (hl : sl.length ≠ 2 * gL z.toNat) : sVer z pl ml sl = 10 := by
  unfold sVer; rw [if_neg h, if_pos hl]
theorem zmD {i : Nat} {pl ml sl : List UInt8} (h : ¬ ((gel (i : Int) pl).2 ≠ 0 ∨ 65536 < ml.length)) (hl : sl.length = 2 * gL i) {x0 x1 : Nat} (e0 : x0 = bev 256 (bn (sl.take (gL i)))) (e1 : x1 = bev 256 (bn (sl.drop (gL i)))) :
    sVer (i : Int) pl ml sl = if ([true, decide (x0 < gQ i), decide (x1 < gQ i), decide (chal i pl (sR i (gel (i : Int) pl).1 x0 x1) ml = x0)].all id) = true then 0 else 10 := by
  unfold sVer
  rw [if_neg h, Int.toNat_natCast, if_neg (by omega), ← e0, ← e1]
  simp only [List.all_cons, List.all_nil, id, Bool.and_eq_true, decide_eq_true_eq, and_true, true_and]
  by_cases h0 : gQ i ≤ x0 ∨ gQ i ≤ x1
  · rw [if_pos h0, if_neg (by omega)]
  · rw [if_neg h0]
    by_cases hc : chal i pl (sR i (gel (i : Int) pl).1 x0 x1) ml = x0
    · rw [if_pos hc, if_pos (by omega)]
    · rw [if_neg hc, if_neg (fun h => hc h.2.2)]
set_option maxHeartbeats 2000000 in
theorem zcV (z : Int) (pa ma sa : Option Addr) (pn pc mn mc sn sc : Nat) (pl ml sl : List UInt8) (w : World) (hG : GT w) (hT : Tab w No) (hS : ST w) (hp : (⟨pa, pn, pc, pl⟩ : Bs).ok w) (hm : (⟨ma, mn, mc, ml⟩ : Bs).ok w) (hs : (⟨sa, sn, sc, sl⟩ : Bs).ok w) (hpn : pn ≤ 1000) (hmn : mn ≤ 100000) (hsn : sn ≤ 1000) :
    Sy.Fn Tryz.prog 13 [.int .i64 z, .slice pa pn pc, .slice ma mn mc, .slice sa sn sc] w No (Gives (.int .i64 (sVer z pl ml sl))) := by
  refine zq Tryz.func13 rfl Tryz.ntmps13 (by simp) Holds.nil ?_
  have hel := fun w' (hk : Keep No w w') => zka z pa pn pc pl w' (hG.to hk) hp.len hp.cap (hp.keep hk).sla
  have hor := fun w' (hk : Keep No w w') => zmr z w' (hG.to hk)
  have hml : ml.length = mn := hm.len
  have hsl : sl.length = sn := hs.len
  have hly := zg (gel z pl).1
  by_cases hw : (gel z pl).2 ≠ 0 ∨ 65536 < ml.length
  · rw [zg3 hw]
    have hlq := zg (gord z).1
    repeat' (first | refine zh ?_ | refine zf ?_ | refine ze ?_ | refine zj ?_ | (refine za (id := 0) ?_; (refine zm ?_; intro _); (refine zm ?_; intro _); (refine zm ?_; intro _); refine zd ?_) | fail)
    refine zeX (γ := Unit) 0 (fun _ => []) (fun _ => []) (fun _ => True) rfl ?_ (fun _ _ => ?_)
    rotate_left
    · repeat' (first | refine zh ?_ | refine zf ?_ | refine zr ?_ | refine zp ?_ | refine ze ?_ | refine zj ?_ | refine zbB ?_ | (refine za (id := 12) ?_; refine zd ?_) | fail)
      exact ret1 rfl (resTmp rfl) SubR.nil ⟨rfl, rfl⟩
    by_cases he : (gel z pl).2 = 0
    · have g1 : decide ((gel z pl).2 ≠ 0) = false := decide_eq_false (fun h => h he)
      have gm : decide (65536 < (mn : Int)) = true := decide_eq_true (by have := hw.resolve_left (fun h => h he); omega)
      generalize (gel z pl).1 = y at *
      generalize (gel z pl).2 = e at *
      generalize (gord z).1 = q at *
      generalize (gord z).2 = e' at *
      repeat' (first | refine zh ?_ | refine zf ?_ | refine zw rfl ?_ | refine zt rfl ?_ | refine zr ?_ | refine ze ?_ | refine zj ?_ | refine zc1 ?_ | refine zbo ?_ | refine zcF ?_ | (refine za (id := 1) ?_; (refine zm ?_; intro _)) | (refine za (id := 2) ?_; refine zz ?_; refine zz ?_; refine yv (zi (f := 45) (hc := fun w' _ hk _ => hel w' hk)) (k := ?_); refine zb ?_; refine zk ?_; refine zk ?_; (refine zm ?_; intro _); refine yn (zn (n := y)) (k := ?_); refine zd ?_) | (refine za (id := 3) ?_; refine zz ?_; refine yv (zi (f := 46) (hc := fun w' _ hk _ => hor w' hk)) (k := ?_); refine zb ?_; refine zk ?_; refine zk ?_; (refine zm ?_; intro _); refine yn (zn (n := q)) (k := ?_); refine zd ?_) | (refine za (id := 4) ?_; refine zb ?_; refine yv (zax (hr := g1)) (k := ?_)) | (refine za (id := 5) ?_; refine zz ?_; refine zA ?_; refine yv (zae (hr := gm)) (k := ?_)) | fail)
      exact zU () trivial Sub.nil SubR.nil
    · have g1 : decide ((gel z pl).2 ≠ 0) = true := decide_eq_true he
      generalize (gel z pl).1 = y at *
      generalize (gel z pl).2 = e at *
      generalize (gord z).1 = q at *
      generalize (gord z).2 = e' at *
      repeat' (first | refine zh ?_ | refine zf ?_ | refine zw rfl ?_ | refine ze ?_ | refine zj ?_ | refine zc1 ?_ | refine zbo ?_ | refine zcF ?_ | (refine za (id := 1) ?_; (refine zm ?_; intro _)) | (refine za (id := 2) ?_; refine zz ?_; refine zz ?_; refine yv (zi (f := 45) (hc := fun w' _ hk _ => hel w' hk)) (k := ?_); refine zb ?_; refine zk ?_; refine zk ?_; (refine zm ?_; intro _); refine yn (zn (n := y)) (k := ?_); refine zd ?_) | (refine za (id := 3) ?_; refine zz ?_; refine yv (zi (f := 46) (hc := fun w' _ hk _ => hor w' hk)) (k := ?_); refine zb ?_; refine zk ?_; refine zk ?_; (refine zm ?_; intro _); refine yn (zn (n := q)) (k := ?_); refine zd ?_) | (refine za (id := 4) ?_; refine zb ?_; refine yv (zax (hr := g1)) (k := ?_)) | fail)
      exact zU () trivial Sub.nil SubR.nil
  have he : (gel z pl).2 = 0 := Classical.byContradiction fun h => hw (.inl h)
  have hmy := zjx he
  obtain ⟨i, rfl, hi, h0, h5⟩ := zbc hmy.1
  rw [hi] at hmy
  have hy : memB (gP i) (gQ i) (gel (i : Int) pl).1 = true := by rw [hmy.2.2.2]; exact hmy.2.2.1
  have hgo : gord (i : Int) = (gQ i, 0) := by unfold gord; rw [if_pos hmy.1, hi]
  rw [hgo] at hor
  rw [he] at hel
  have hlq := zg (gQ i)
  have gm : decide (65536 < (mn : Int)) = false := decide_eq_false (fun h => hw (.inr (by omega)))
  have hgl : glen (i : Int) = gL i := by unfold glen; rw [if_pos hmy.1, hi]
  have hgl96 := zcO hmy.1
  rw [hi] at hgl96
  have hxW : ∀ x ∈ sParts (i : Int) sl, x < 18446744073709551616 ^ 16 := by
    unfold sParts
    split
    · intro x hx; cases hx
    · rename_i h
      rw [hgl] at h ⊢
      intro x hx
      simp only [List.mem_cons, List.not_mem_nil, or_false] at hx
      rcases hx with rfl | rfl
      · exact bevW' (by rw [List.length_take]; omega)
      · exact bevW' (by rw [List.length_drop]; omega)
  have hl2 : (sParts (i : Int) sl).length ≤ 2 := by unfold sParts; split <;> simp
  repeat' (first | refine zh ?_ | refine zf ?_ | refine zt rfl ?_ | refine zu ?_ | refine zr ?_ | refine ze ?_ | refine zj ?_ | refine zdN ?_ | (refine za (id := 0) ?_; (refine zm ?_; intro _); (refine zm ?_; intro _); (refine zm ?_; intro _); refine zd ?_) | (refine za (id := 1) ?_; (refine zm ?_; intro _)) | (refine za (id := 2) ?_; refine zz ?_; refine zz ?_; refine yv (zi (f := 45) (hc := fun w' _ hk _ => hel w' hk)) (k := ?_); refine zb ?_; refine zk ?_; refine zk ?_; (refine zm ?_; intro _); refine yn (zn (n := (gel (i : Int) pl).1)) (k := ?_); refine zd ?_) | (refine za (id := 3) ?_; refine zz ?_; refine yv (zi (f := 46) (hc := fun w' _ hk _ => hor w' hk)) (k := ?_); refine zb ?_; refine zk ?_; refine zk ?_; (refine zm ?_; intro _); refine yn (zn (n := gQ i)) (k := ?_); refine zd ?_) | (refine za (id := 4) ?_; refine zb ?_; refine zW ?_) | (refine za (id := 5) ?_; refine zz ?_; refine zA ?_; refine yv (zae (hr := gm)) (k := ?_)) | (refine za (id := 6) ?_; refine zz ?_; refine zb ?_; (refine ys (zF (f := 15) (hc := fun w' X hk hh => zg5 (i : Int) sa sn sc sl w' (hs.keep hk) (by omega))) (k := ?_); rintro _ _ ⟨R, rfl, bI, bS, aS, cS, rfl, rfl⟩)) | fail)
  rename_i b4 b5 b6 b9 b10 b12
  refine zbv (zaS 43 16) ?_
  unfold PRes
  have hr0 : rowN ((sParts (i : Int) sl).take 0) = [] := by rw [List.take_zero]; exact zkm
  refine zb6 (γ := Nat × Option Addr × Nat) (xs := sParts (i : Int) sl) (Arg := ArgV) za3 rfl (en rfl) rfl (fun k s => s.1 = k) (fun _ _ _ => False)
    (fun s => [.blk b9 69 [.slice s.2.1 s.1 s.2.2], .row (.slice s.2.1 s.1 s.2.2) 43 16 s.1 (rowN ((sParts (i : Int) sl).take s.1))])
    [.blk bS 22 [.slice aS sn cS], .blk bI 3 [.int .i64 (i : Int)], .row (.slice aS sn cS) 5 1 sn (sl.map v8)]
    [.blk b12 43 (natC (gQ i)), .blk b10 43 (natC (gel (i : Int) pl).1), .blk b6 22 [.slice ma mn mc], .blk b5 22 [.slice pa pn pc], .blk b4 3 [.int .i64 (i : Int)]] (0, none, 0) rfl ?_ ?_ ?_ ?_ ?_ ?_
  · dsimp only
    rw [hr0]
    ((try simp only [List.cons_append, List.nil_append, List.append_nil]); (repeat' (first | exact List.Perm.nil | exact List.Perm.refl _ | (apply permr; with_reducible (focus ((repeat (first | exact Rem.here | apply Rem.there)); done))) | (apply permr; (focus ((repeat (first | exact Rem.here | apply Rem.there)); done))))))
  · intro w' Mi X hk hmi _ _
    obtain ⟨q1, q2⟩ := zbl (M := No) hG (by unfold gCells; simp) (fun h => h) hk hmi
    obtain ⟨q3, q4⟩ := zbl (M := No) hS (List.cons_ne_nil _ _) (fun h => h) hk hmi
    exact zeG bI bS (i : Int) aS sn cS sl w' Mi hs.len q1 q2 q3 q4
  · rintro O x vs RA w' ⟨rfl, _⟩; rfl
  · rintro lq k hk ⟨k0, aP, cP⟩ vs RA W rec hrec hk0 ⟨rfl, rfl⟩ hkW hmine
    dsimp only at hk0 ⊢
    subst hk0
    have htk : rowN ((sParts (i : Int) sl).take k0) ++ rowN [(sParts (i : Int) sl)[k0]] = rowN ((sParts (i : Int) sl).take (k0 + 1)) := by
      rw [← zfm, List.take_succ, List.getElem?_eq_getElem hk]; rfl
    have hlx := zg (sParts (i : Int) sl)[k0]
    have hk2 : k0 < 2 := by omega
    generalize (sParts (i : Int) sl)[k0] = x at *
    obtain ⟨Rn, hRn⟩ : ∃ r, r = rowN ((sParts (i : Int) sl).take (k0 + 1)) := ⟨_, rfl⟩
    rw [← hRn] at htk
    generalize rowN ((sParts (i : Int) sl).take k0) = Ro at *
    repeat' (first | refine zf ?_ | refine zu ?_ | refine ze ?_ | refine zaq ?_ | (apply zbh; (focus ((repeat (first | exact Rem.here | apply Rem.there)); done)); assumption) | (refine za (id := 7) ?_; (refine zm ?_; intro _); refine yn (zn (n := x)) (k := ?_)) | (refine za (id := 8) ?_; refine zz ?_; refine yv (zl (B := natC x)) (k := ?_)) | (refine ys (zao (x := x)) (k := ?_); rintro _ _ ⟨bN, rfl, rfl⟩) | (refine zT ?_; first | (refine ys (zaA (m := 1) (size := 16) (xs := Ro) (news := rowN [x]) (ys := Rn) (km := k0 + 1) (hn := zcE [x]) (h1 := zk8 [x]) (hkm := rfl) (hys := htk)) (k := ?_); rintro _ _ ⟨rfl, aQ, cQ, rfl⟩) | refine zH ?_ | fail) | fail)
    refine zbY (k0 + 1, aQ, cQ) rfl ?_
    dsimp only
    rw [← hRn]
    exact SubR.go2
  · rintro ⟨k0, aP, cP⟩ hk0
    dsimp only at hk0 ⊢
    subst hk0
    rw [List.take_length]
    repeat' (first | refine zh ?_ | refine zj ?_ | fail)
    by_cases hlen : sl.length = 2 * gL i
    · have hxs : sParts (i : Int) sl = [bev 256 (bn (sl.take (gL i))), bev 256 (bn (sl.drop (gL i)))] := by
        unfold sParts
        have := zkC h0 h5
        rw [hgl, if_neg (by omega)]
      obtain ⟨x0, e0⟩ : ∃ x, x = bev 256 (bn (sl.take (gL i))) := ⟨_, rfl⟩
      obtain ⟨x1, e1⟩ : ∃ x, x = bev 256 (bn (sl.drop (gL i))) := ⟨_, rfl⟩
      rw [← e0, ← e1] at hxs
      rw [zmD hw hlen e0 e1]
      have hx0 := hxW x0 (by rw [hxs]; simp)
      have hx1 := hxW x1 (by rw [hxs]; simp)
      have hl : (sParts (i : Int) sl).length = 2 := by rw [hxs]; rfl
      rw [hl, hxs]
      refine ziN (a := aP) (n := 2) (cp := cP) (s := 16) (E := 43) (xs := rowN [x0, x1]) (by exact Rem.there Rem.here) (by decide) fun bP J ha _ _ _ _ => ?_
      subst ha
      repeat' (first | (refine za (id := 9) ?_; refine zag ?_; refine zag ?_; refine zag ?_; refine zag ?_; (refine ys zJ (k := ?_); rintro _ _ ⟨_, rfl, rfl⟩)) | fail)
      rename_i bF
      refine yv (zi (f := 47) (hc := fun w' X hk hh => zmp i bF b4 b5 b6 b9 b10 b12 bP cP x0 x1 (gel (i : Int) pl).1 pn pc mn mc pa ma pl ml w' h0 h5 (hG.to hk) (hT.no hk) (zL (hh.has (r := .blk b4 3 [.int .i64 (i : Int)]) (by exact Has.append Has.go)) Seg.all 0 _ rfl) (zL (hh.has (r := .blk b10 43 (natC (gel (i : Int) pl).1)) (by exact Has.append Has.go)) Seg.all) (zL (hh.has (r := .blk b9 69 [.slice (some ⟨bP, 0, none⟩) 2 cP]) (by exact Has.append Has.go)) Seg.all 0 _ rfl) (zL (hh.has (r := .blk bP 43 (rowN [x0, x1] ++ J)) (by exact Has.append Has.go)) zhz) (zL (hh.has (r := .blk b12 43 (natC (gQ i))) (by exact Has.append Has.go)) Seg.all) (zL (hh.has (r := .blk b5 22 [.slice pa pn pc]) (by exact Has.append Has.go)) Seg.all 0 _ rfl) (zL (hh.has (r := .blk b6 22 [.slice ma mn mc]) (by exact Has.append Has.go)) Seg.all 0 _ rfl) (hp.keep hk) (hm.keep hk) hpn hmn hx0 hx1 hy (zL (hh.has (r := .blk bF 23 (vfs b4 b5 b6 b9 b10 b12)) (by exact Has.append Has.go)) Seg.all))) (k := ?_)
      generalize ([true, decide (x0 < gQ i), decide (x1 < gQ i), decide (chal i pl (sR i (gel (i : Int) pl).1 x0 x1) ml = x0)].all id) = r
      cases r with
      | true =>
        repeat' (first | refine zh ?_ | refine zf ?_ | refine zw rfl ?_ | refine zp ?_ | refine ze ?_ | refine zj ?_ | refine zy ?_ | refine zbB ?_ | (refine za (id := 10) ?_; refine zd ?_) | fail)
        exact ret1 rfl (resTmp rfl) SubR.nil ⟨rfl, rfl⟩
      | false =>
        repeat' (first | refine zh ?_ | refine zf ?_ | refine zt rfl ?_ | refine zr ?_ | refine zp ?_ | refine ze ?_ | refine zj ?_ | refine zy ?_ | refine zbB ?_ | (refine za (id := 11) ?_; refine zd ?_) | fail)
        exact ret1 rfl (resTmp rfl) SubR.nil ⟨rfl, rfl⟩
    · have hxs : sParts (i : Int) sl = [] := by
        unfold sParts
        rw [hgl, if_pos (.inr hlen)]
      have hl : (sParts (i : Int) sl).length = 0 := by rw [hxs]; rfl
      rw [zg0 hw (by rw [hi]; exact hlen), hl]
      repeat' (first | (refine za (id := 9) ?_; refine zag ?_; refine zag ?_; refine zag ?_; refine zag ?_; (refine ys zJ (k := ?_); rintro _ _ ⟨_, rfl, rfl⟩)) | fail)
      rename_i bF
      refine yv (zi (f := 47) (hc := fun w' X hk hh => zj1 bF b4 b5 b6 b9 b10 b12 cP aP w' (zL (hh.has (r := .blk b9 69 [.slice aP 0 cP]) (by exact Has.append Has.go)) Seg.all 0 _ rfl) (zL (hh.has (r := .blk bF 23 (vfs b4 b5 b6 b9 b10 b12)) (by exact Has.append Has.go)) Seg.all))) (k := ?_)
      repeat' (first | refine zh ?_ | refine zf ?_ | refine zt rfl ?_ | refine zr ?_ | refine zp ?_ | refine ze ?_ | refine zj ?_ | refine zy ?_ | refine zbB ?_ | (refine za (id := 11) ?_; refine zd ?_) | fail)
      exact ret1 rfl (resTmp rfl) SubR.nil ⟨rfl, rfl⟩
  · exact fun _ _ _ _ h => h.elim
end Go.Proofs.YtjidkoabdmjgkaaGreatDoor
end
section
namespace Go.Proofs.YtjidkoabdmjgkaaGreatDoor
open Go Go.Sy Go.Nt Go.RowKit
attribute [local irreducible] Sy SyL SyX Sy.Fn callFunc natC rowN refC iC gP gQ gL memB safeC fixB gnum gel gsca chal Sh.sum glen
set_option maxRecDepth 10000
end Go.Proofs.YtjidkoabdmjgkaaGreatDoor
end
