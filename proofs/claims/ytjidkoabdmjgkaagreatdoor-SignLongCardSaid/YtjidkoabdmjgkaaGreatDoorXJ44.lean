/- Layer sign, walked: Sign. -/
import Derived.Test.YtjidkoabdmjgkaaGreatDoorXJ43
set_option linter.all false
section
namespace Go.Sy
def tup (v : Value) (k : Nat) : Value := match v with | .tuple vs => (vs[k]?).getD v | v => v
end Go.Sy
namespace Go.Proofs.YtjidkoabdmjgkaaGreatDoor
open Go Go.Sy Go.Nt Go.RowKit
attribute [local irreducible] Sy SyL SyX Sy.Fn callFunc natC rowN refC iC gP gQ gL memB safeC fixB gnum gel gsca chal Sh.sum
set_option maxRecDepth 10000
def FixR (n : Nat) (l : List UInt8) (v : Value) (R : List Res) : Prop := ∃ a c, v = .tuple #[.slice a n c, .int .i64 0] ∧ R = [.row (.slice a n c) 5 1 n (l.map v8)]
theorem zgE {z : Int} {pl nl ml : List UInt8} (hk : skey z pl = true) (he : (gsca z nl).2 = 0) (h0 : (gsca z nl).1 ≠ 0) (hm : ml.length ≤ 65536) :
    sSig z pl nl ml = some (fixB (gL z.toNat) (sE z.toNat (gnum z pl).1 (gsca z nl).1 ml) ++ fixB (gL z.toNat) (sS z.toNat (gnum z pl).1 (gsca z nl).1 ml)) := if_pos ⟨hk, he, h0, hm⟩
set_option maxHeartbeats 2000000 in
theorem zf1 (z : Int) (pa na ma : Option Addr) (pn pc nn nc mn mc : Nat) (pl nl ml : List UInt8) (w : World) (hG : GT w) (hT : Tab w No) (hp : (⟨pa, pn, pc, pl⟩ : Bs).ok w) (hn : (⟨na, nn, nc, nl⟩ : Bs).ok w) (hm : (⟨ma, mn, mc, ml⟩ : Bs).ok w) (hnn : nn ≤ 1000) (hmn : mn ≤ 100000) :
    Sy.Fn Tryz.prog 10 [.int .i64 z, .slice pa pn pc, .slice na nn nc, .slice ma mn mc] w No (BR (sSig z pl nl ml)) := by
  refine zq Tryz.func10 rfl Tryz.ntmps10 (by simp) Holds.nil ?_
  have hsec := fun w' (hk : Keep No w w') => zgy z pa pn pc pl w' (hG.to hk) hp.len hp.cap (hp.keep hk).sla
  have hsc := fun w' (hk : Keep No w w') => zin z na nn nc nl w' (hG.to hk) hn.len hn.cap (by omega) (hn.keep hk).sla
  have hlx := zg (gnum z pl).1
  have hlk := zg (gsca z nl).1
  have hxW := zga z pl
  have hkW := ziQ z nl
  have hz := fun w' => zbq (gsca z nl).1 w' hkW
  have hml : ml.length = mn := hm.len
  by_cases hall : skey z pl = true ∧ (gsca z nl).2 = 0 ∧ (gsca z nl).1 ≠ 0 ∧ ml.length ≤ 65536
  · obtain ⟨hk, he, hk0, hmx⟩ := hall
    rw [zgE hk he hk0 hmx]
    obtain ⟨i, rfl, hi, h0, h5, hxq⟩ := ziv hk
    rw [hi]
    have hkq : (gsca (i : Int) nl).1 < gQ i := by rw [zhd h0 h5]; exact Nat.mod_lt _ (Nat.lt_of_lt_of_le (by decide) (zak i h0 h5))
    rw [hk] at hsec
    rw [he] at hsc
    have gz : decide ((gsca (i : Int) nl).1 = 0) = false := decide_eq_false hk0
    rw [gz] at hz
    generalize (gnum (i : Int) pl).1 = x at *
    generalize (gsca (i : Int) nl).1 = k at *
    have gm : decide (65536 < (mn : Int)) = false := decide_eq_false (by omega)
    have hpx := fun w' (hk : Keep No w w') => zdg i x w' h0 h5 (hG.to hk) hxW hxq
    have hpk := fun w' (hk : Keep No w w') => zdg i k w' h0 h5 (hG.to hk) hkW hkq
    have mx : memB (gP i) (gQ i) (4 ^ x % gP i) = true := zbs.2 (zdw h0 h5 _)
    have mk : memB (gP i) (gQ i) (4 ^ k % gP i) = true := zbs.2 (zdw h0 h5 _)
    have hby := fun w' (hk : Keep No w w') => zeJ i (4 ^ x % gP i) w' h0 h5 (hG.to hk) (Nat.lt_trans (zbE mx) (zaH i h0 h5)) mx
    have hfl := za5 (gL i) (4 ^ x % gP i) (zfw h0 h5 (zbE mx))
    have hd := fun a n c w' => zhV a n c 0 w'
    have hdx := fun w' => zbk (4 ^ x % gP i) 0 w'
    have hdk := fun w' => zbk (4 ^ k % gP i) 0 w'
    have hgl : gL i ≤ 96 := by have := zcO (z := (i : Int)) ⟨by omega, by omega⟩; rwa [Int.toNat_natCast] at this
    have hQ0 : 0 < gQ i := Nat.lt_of_lt_of_le (by decide) (zak i h0 h5)
    have hE : sE i x k ml = chal i (fixB (gL i) (4 ^ x % gP i)) (4 ^ k % gP i) ml := rfl
    have heq : sE i x k ml < gQ i := zeO h0 h5 _ _ _
    have hsq : sS i x k ml < gQ i := Nat.mod_lt _ hQ0
    have hS : sS i x k ml = (k + sE i x k ml * x % gQ i) % gQ i := rfl
    have hch := fun w' (hk : Keep No w w') a c (hb : (⟨a, gL i, c, fixB (gL i) (4 ^ x % gP i)⟩ : Bs).ok w') => zeE i a ma (gL i) c mn mc (4 ^ k % gP i) (fixB (gL i) (4 ^ x % gP i)) ml w' h0 h5 (hG.to hk) (hT.no hk) hb (hm.keep hk) (by omega) hmn mk
    rw [← hE] at hch
    generalize sE i x k ml = e at *
    have hmul := fun w' (hk : Keep No w w') => zln i e x w' h0 h5 (hG.to hk) (Nat.lt_trans heq (zaE i h0 h5)) hxW (by simp [heq, hxq])
    have hxe : e * x % gQ i < gQ i := Nat.mod_lt _ hQ0
    have hadd := fun w' (hk : Keep No w w') => zlp i k (e * x % gQ i) w' h0 h5 (hG.to hk) hkW (Nat.lt_trans hxe (zaE i h0 h5)) (by simp [hkq, hxe])
    rw [← hS] at hadd
    generalize sS i x k ml = s at *
    have hdm := fun w' => zbk (e * x % gQ i) 0 w'
    have hds := fun w' => zbk s 0 w'
    have hle := zg e
    have hls := zg s
    have hbe := fun w' (hk : Keep No w w') => zdW i e w' h0 h5 (hG.to hk) (Nat.lt_trans heq (zaE i h0 h5)) (decide_eq_true heq)
    have hbs := fun w' (hk : Keep No w w') => zdW i s w' h0 h5 (hG.to hk) (Nat.lt_trans hsq (zaE i h0 h5)) (decide_eq_true hsq)
    have hfe := za5 (gL i) e (zdl h0 h5 heq)
    have hfs := za5 (gL i) s (zdl h0 h5 hsq)
    unfold FixG at hby hbe hbs
    generalize fixB (gL i) (4 ^ x % gP i) = lb at *
    generalize fixB (gL i) e = lE at *
    generalize fixB (gL i) s = lS at *
    generalize 4 ^ x % gP i = yx at *
    generalize 4 ^ k % gP i = yk at *
    generalize e * x % gQ i = em at *
    generalize gL i = len at *
    repeat' (first | refine zh ?_ | refine zf ?_ | refine zt rfl ?_ | refine zr ?_ | refine ze ?_ | refine zj ?_ | refine zdN ?_ | (refine za (id := 0) ?_; refine zd ?_; refine zd ?_) | (refine za (id := 1) ?_; (refine zm ?_; intro _); (refine zm ?_; intro _)) | (refine za (id := 2) ?_; refine zd ?_) | (refine za (id := 3) ?_; refine zb ?_; refine zb ?_; refine yv (zi (f := 26) (hc := fun w' _ hk _ => hsec w' hk)) (k := ?_); refine zb ?_; refine zk ?_; refine zk ?_; (refine zm ?_; intro _); refine yn (zn (n := x)) (k := ?_); refine zd ?_) | (refine za (id := 4) ?_; refine zb ?_; refine zb ?_; refine yv (zi (f := 27) (hc := fun w' _ hk _ => hsc w' hk)) (k := ?_); refine zb ?_; refine zk ?_; refine zk ?_; (refine zm ?_; intro _); refine yn (zn (n := k)) (k := ?_); refine zd ?_) | (refine za (id := 5) ?_; refine zb ?_; refine zau ?_; refine zb ?_; refine zb ?_; refine zW ?_; refine zx ?_; refine zb ?_; refine yv (zl (B := natC k)) (k := ?_); refine yv (zi (hc := fun _ _ _ _ => (hz _))) (k := ?_); refine zx ?_) | (refine za (id := 6) ?_; refine zb ?_; refine zA ?_; refine yv (zae (hr := gm)) (k := ?_)) | fail)
    rename_i b10 b11 b13 b15
    refine zaV (id := 7) mixed ?_
    (refine zaT 19 19 [[], [], [], [], [2, 3], [2, 3, 4], [2, 3, 4], [2, 3, 4, 5, 6], [1, 2, 3, 4, 5, 6, 7], [1, 2, 3, 4, 5, 6, 7, 8], [1, 2, 3, 4, 5, 6, 7, 8], [1, 2, 3, 4, 5, 6, 7, 8, 9, 10], [], [], [1, 2, 3, 4, 5, 6, 7, 8, 9, 10, 11, 12, 13], [1, 2, 3, 4, 5, 6, 7, 8, 9, 10, 11, 12, 13, 14], [1, 2, 3, 4, 5, 6, 7, 8, 9, 10, 11, 12, 13, 14], [1, 2, 3, 4, 5, 6, 7, 8, 9, 10, 11, 12, 13, 14, 15, 16], [], [0, 1, 2, 3, 4, 5, 6, 7, 8, 9, 10, 11, 12, 13, 14, 15, 16, 17, 18], [0, 1, 2, 3, 4, 5, 6, 7, 8, 9, 10, 11, 12, 13, 14, 15, 16, 17, 18, 19]] [[], [], [], [], [], [], [], [], [], [], [], [], [], [], [], [], [], [], [], [], []] none rfl ?_ ?_ ?_; kernel_rfl; kernel_rfl; refine zac ?_; refine zac ?_; refine zac ?_; refine dcE (fun _ _ => zl (B := natC x)) (k := ?_); refine dcE (fun _ _ => zi (f := 33) (hc := fun w' _ hk _ => hpx w' hk)) (k := ?_); refine zar ?_; refine zar ?_; refine dcE (fun _ _ => zi (hc := fun _ _ _ _ => (hdx _))) (k := ?_); try refine dh_0nE (h := ?_))
    refine zbu (R := fun _ => FixR len lb) (fun _ _ _ => rfl) (fun ρ hρ => zF (f := 31) (hc := fun w' X hk hh => hby w' hk)) (h := ?_)
    refine zi1 (u := fun ρ => tup (ρ 8).1 0) (fun ρ hρ => ?_) (fun _ => rfl) rfl (fun ρ ρ' h => by rw [h 8 (by decide)]) (h := ?_)
    · obtain ⟨⟨a, c, e1, e2⟩, -⟩ := hρ
      refine OpT.mono (zct (vs := #[.slice a len c, .int .i64 0]) (hx := by show some (ρ 8).1 = _; rw [e1])) fun v L' h => ?_
      obtain ⟨rfl, rfl⟩ := h
      exact ⟨by rw [e1]; rfl, rfl⟩
    refine dcE (u := .int .i64 0) (fun ρ hρ => ?_) (k := ?_)
    · obtain ⟨⟨a, c, e1, e2⟩, -⟩ := hρ
      exact zct (vs := #[.slice a len c, .int .i64 0]) (hx := by show some (ρ 8).1 = _; rw [e1])
    refine zi1 (u := fun ρ => tup (ρ 8).1 0) (fun ρ hρ => ?_) (fun _ => rfl) rfl (fun ρ ρ' h => by rw [h 8 (by decide)]) (h := ?_)
    · obtain ⟨⟨a, c, e1, e2⟩, -⟩ := hρ
      have e3 : tup (ρ 8).1 0 = .slice a len c := by rw [e1]; rfl
      rw [e3]
      exact zi (f := 30) (hc := fun w' X hk hh => hd _ _ _ w')
    (skip; refine zac ?_; refine dcE (fun _ _ => zl (B := natC k)) (k := ?_); refine dcE (fun _ _ => zi (f := 33) (hc := fun w' _ hk _ => hpk w' hk)) (k := ?_); refine zar ?_; refine zar ?_; refine dcE (fun _ _ => zi (hc := fun _ _ _ _ => (hdk _))) (k := ?_); refine zac ?_; try refine dh_0nE (h := ?_))
    refine zbI (h := ?_)
    rintro ρ ⟨⟨aF, cF, e1, e2⟩, -⟩
    (refine zaU [[], [], [], [], [2, 3], [2, 3, 4], [2, 3, 4], [2, 3, 4, 5, 6], [1, 2, 3, 4, 5, 6, 7], [1, 2, 3, 4, 5, 6, 7, 8], [1, 2, 3, 4, 5, 6, 7, 8], [1, 2, 3, 4, 5, 6, 7, 8, 9, 10], [], [], [1, 2, 3, 4, 5, 6, 7, 8, 9, 10, 11, 12, 13], [1, 2, 3, 4, 5, 6, 7, 8, 9, 10, 11, 12, 13, 14], [1, 2, 3, 4, 5, 6, 7, 8, 9, 10, 11, 12, 13, 14], [1, 2, 3, 4, 5, 6, 7, 8, 9, 10, 11, 12, 13, 14, 15, 16], [], [0, 1, 2, 3, 4, 5, 6, 7, 8, 9, 10, 11, 12, 13, 14, 15, 16, 17, 18], [0, 1, 2, 3, 4, 5, 6, 7, 8, 9, 10, 11, 12, 13, 14, 15, 16, 17, 18, 19]] ?_ ?_; kernel_rfl)
    have e3 : tup (ρ 8).1 0 = .slice aF len cF := by rw [e1]; rfl
    refine SyL.weaken (fr' := [(42, .int .i64 (i : Int)), (53, .slice aF len cF), (59, natV yk), (60, .slice ma mn mc), (0, .int .i64 (i : Int)), (10, .pointer (some ⟨b10, 0, none⟩)), (11, .pointer (some ⟨b11, 0, none⟩)), (12, .slice none 0 0), (13, .pointer (some ⟨b13, 0, none⟩)), (15, .pointer (some ⟨b15, 0, none⟩))])
      (L' := [.row (.slice aF len cF) 5 1 len (lb.map v8), .blk b15 43 (natC k), .blk b13 43 (natC x), .blk b11 43 (List.replicate 16 (.int .u64 0)), .blk b10 43 (List.replicate 16 (.int .u64 0))]) ?_ (by simp only [e3]; exact Sub.go) ?_
    rotate_left
    · show SubR _ ((ρ 8).2 ++ _)
      rw [e2]
      exact SubR.go2
    repeat' (first | refine zh ?_ | refine zf ?_ | refine zp ?_ | refine ze ?_ | refine zj ?_ | refine zy ?_ | refine zbB ?_ | (refine zV (id := 8) 12 [[], [], [], [], [], [2, 3, 4], [2, 3, 4, 5], [2, 3, 4, 5], [2, 3, 4, 5, 6, 7], [0, 1, 2, 3, 4, 5, 6, 7, 8], [0, 1, 2, 3, 4, 5, 6, 7, 8, 9], [0, 1, 2, 3, 4, 5, 6, 7, 8, 9], [0, 1, 2, 3, 4, 5, 6, 7, 8, 9, 10, 11], [0, 1, 2, 3, 4, 5, 6, 7, 8, 9, 10, 11, 12]] mixed ?_ ?_; kernel_rfl; refine zB ?_; refine dc (fun _ _ => zl (B := natC k)) (k := ?_); refine zB ?_; refine dc (fun _ _ => zl (B := natC e)) (k := ?_); refine dc (fun _ _ => zl (B := natC x)) (k := ?_); refine dc (fun _ _ => zi (f := 35) (hc := fun w' _ hk _ => hmul w' hk)) (k := ?_); refine zbx ?_; refine zbx ?_; refine dc (fun _ _ => zi (hc := fun _ _ _ _ => (hdm _))) (k := ?_); refine dc (fun _ _ => zi (f := 34) (hc := fun w' _ hk _ => hadd w' hk)) (k := ?_); refine zbx ?_; refine zbx ?_; refine z7 ?_; refine yv (zi (hc := fun _ _ _ _ => (hds _))) (k := ?_); refine yn (zn (n := s)) (k := ?_)) | (refine za (id := 9) ?_; refine zb ?_; refine zb ?_; refine yv (zl (B := natC e)) (k := ?_); (refine ys (zF (f := 36) (hc := fun w' X hk hh => hbe w' hk)) (k := ?_); rintro _ _ ⟨R, rfl, aE, cE, rfl, rfl⟩; refine zfc (fun w' hh => (Row.none hh (a := aE) (n := len) (c := cE) Has.go : aE = none → cE = 0)) fun hnE => ?_); refine zk ?_; refine zk ?_; refine yv (zi (hc := fun _ _ _ _ => (hd _ _ _ _))) (k := ?_); (refine ys zfI (k := ?_); rintro _ _ ⟨rfl, _, _, rfl⟩); refine zd ?_) | (refine za (id := 10) ?_; refine zb ?_; refine zb ?_; refine yv (zl (B := natC s)) (k := ?_); (refine ys (zF (f := 36) (hc := fun w' X hk hh => hbs w' hk)) (k := ?_); rintro _ _ ⟨R, rfl, aS, cS, rfl, rfl⟩; refine zfc (fun w' hh => (Row.none hh (a := aS) (n := len) (c := cS) Has.go : aS = none → cS = 0)) fun hnS => ?_); refine zk ?_; refine zk ?_; refine yv (zi (hc := fun _ _ _ _ => (hd _ _ _ _))) (k := ?_); (refine ys zaA (k := ?_); rintro _ _ ⟨rfl, _, _, rfl⟩); refine zd ?_) | (refine za (id := 11) ?_; refine zb ?_; refine zd ?_; refine zd ?_) | (refine zT ?_; first | refine yv (zi (f := 29) (hc := fun w' X hk hh => hch w' hk aF cF (zaD (E := 5) hh hfl (by exact Has.append Has.go)))) (k := ?_) | refine yn (zn (n := e)) (k := ?_) | fail) | fail)
    have hap : (lE.map v8).append (lS.map v8) = (lE ++ lS).map v8 := List.map_append.symm
    rw [hap]
    exact ret2 rfl (resTmp rfl) (resTmp rfl) (by exact SubR.go2) ⟨_, _, _, rfl, by show len + len = (lE ++ lS).length; rw [List.length_append, hfe, hfs], rfl⟩
  rw [show sSig z pl nl ml = none from if_neg hall]
  repeat' (first | refine zh ?_ | refine zf ?_ | refine ze ?_ | refine zj ?_ | (refine za (id := 0) ?_; refine zd ?_; refine zd ?_) | fail)
  refine zeX (γ := Unit) 0 (fun _ => []) (fun _ => []) (fun _ => True) rfl ?_ (fun _ _ => ?_)
  rotate_left
  · repeat' (first | refine zh ?_ | refine zf ?_ | refine zr ?_ | refine zp ?_ | refine ze ?_ | refine zj ?_ | refine zbB ?_ | (refine za (id := 12) ?_; refine zd ?_; refine zd ?_) | fail)
    refine za4 (zaS 5 1) ?_
    exact ret2 rfl (resTmp rfl) (resTmp rfl) (by exact SubR.go) ⟨_, _, _, rfl, rfl, rfl⟩
  cases hk : skey z pl with
  | false =>
    rw [hk] at hsec
    generalize (gnum z pl).1 = x at *
    generalize (gsca z nl).1 = k at *
    generalize (gsca z nl).2 = e at *
    repeat' (first | refine zh ?_ | refine zf ?_ | refine zw rfl ?_ | refine ze ?_ | refine zj ?_ | refine zc1 ?_ | refine zbo ?_ | refine zcF ?_ | (refine za (id := 1) ?_; (refine zm ?_; intro _); (refine zm ?_; intro _)) | (refine za (id := 2) ?_; refine zd ?_) | (refine za (id := 3) ?_; refine zb ?_; refine zb ?_; refine yv (zi (f := 26) (hc := fun w' _ hk _ => hsec w' hk)) (k := ?_); refine zb ?_; refine zk ?_; refine zk ?_; (refine zm ?_; intro _); refine yn (zn (n := x)) (k := ?_); refine zd ?_) | (refine za (id := 4) ?_; refine zb ?_; refine zb ?_; refine yv (zi (f := 27) (hc := fun w' _ hk _ => hsc w' hk)) (k := ?_); refine zb ?_; refine zk ?_; refine zk ?_; (refine zm ?_; intro _); refine yn (zn (n := k)) (k := ?_); refine zd ?_) | (refine za (id := 5) ?_; refine zb ?_; refine zau ?_; refine zb ?_; refine zo rfl rfl rfl ?_; refine zo rfl rfl rfl ?_; refine zx ?_; refine zb ?_; refine zo rfl rfl rfl ?_; refine zo rfl rfl rfl ?_; refine zx ?_) | fail)
    exact zU () trivial Sub.nil SubR.nil
  | true =>
    rw [hk] at hsec
    by_cases he : (gsca z nl).2 = 0
    · have g1 : decide ((gsca z nl).2 ≠ 0) = false := decide_eq_false (fun h => h he)
      by_cases hk0 : (gsca z nl).1 = 0
      · have gz : decide ((gsca z nl).1 = 0) = true := decide_eq_true hk0
        rw [gz] at hz
        generalize (gnum z pl).1 = x at *
        generalize (gsca z nl).1 = k at *
        generalize (gsca z nl).2 = e at *
        repeat' (first | refine zh ?_ | refine zf ?_ | refine zw rfl ?_ | refine ze ?_ | refine zj ?_ | refine zc1 ?_ | refine zbo ?_ | refine zcF ?_ | (refine za (id := 1) ?_; (refine zm ?_; intro _); (refine zm ?_; intro _)) | (refine za (id := 2) ?_; refine zd ?_) | (refine za (id := 3) ?_; refine zb ?_; refine zb ?_; refine yv (zi (f := 26) (hc := fun w' _ hk _ => hsec w' hk)) (k := ?_); refine zb ?_; refine zk ?_; refine zk ?_; (refine zm ?_; intro _); refine yn (zn (n := x)) (k := ?_); refine zd ?_) | (refine za (id := 4) ?_; refine zb ?_; refine zb ?_; refine yv (zi (f := 27) (hc := fun w' _ hk _ => hsc w' hk)) (k := ?_); refine zb ?_; refine zk ?_; refine zk ?_; (refine zm ?_; intro _); refine yn (zn (n := k)) (k := ?_); refine zd ?_) | (refine za (id := 5) ?_; refine zb ?_; refine zau ?_; refine zb ?_; refine zb ?_; refine yv (zax (hr := g1)) (k := ?_); refine zx ?_; refine zb ?_; refine yv (zl (B := natC k)) (k := ?_); refine yv (zi (hc := fun _ _ _ _ => (hz _))) (k := ?_); refine zx ?_) | fail)
        exact zU () trivial Sub.nil SubR.nil
      · have gz : decide ((gsca z nl).1 = 0) = false := decide_eq_false hk0
        rw [gz] at hz
        have gm : decide (65536 < (mn : Int)) = true := decide_eq_true (by
          have : ¬ ml.length ≤ 65536 := fun h => hall ⟨hk, he, hk0, h⟩
          omega)
        generalize (gnum z pl).1 = x at *
        generalize (gsca z nl).1 = k at *
        generalize (gsca z nl).2 = e at *
        repeat' (first | refine zh ?_ | refine zf ?_ | refine zw rfl ?_ | refine zt rfl ?_ | refine zr ?_ | refine ze ?_ | refine zj ?_ | refine zc1 ?_ | refine zbo ?_ | refine zcF ?_ | (refine za (id := 1) ?_; (refine zm ?_; intro _); (refine zm ?_; intro _)) | (refine za (id := 2) ?_; refine zd ?_) | (refine za (id := 3) ?_; refine zb ?_; refine zb ?_; refine yv (zi (f := 26) (hc := fun w' _ hk _ => hsec w' hk)) (k := ?_); refine zb ?_; refine zk ?_; refine zk ?_; (refine zm ?_; intro _); refine yn (zn (n := x)) (k := ?_); refine zd ?_) | (refine za (id := 4) ?_; refine zb ?_; refine zb ?_; refine yv (zi (f := 27) (hc := fun w' _ hk _ => hsc w' hk)) (k := ?_); refine zb ?_; refine zk ?_; refine zk ?_; (refine zm ?_; intro _); refine yn (zn (n := k)) (k := ?_); refine zd ?_) | (refine za (id := 5) ?_; refine zb ?_; refine zau ?_; refine zb ?_; refine zb ?_; refine yv (zax (hr := g1)) (k := ?_); refine zx ?_; refine zb ?_; refine yv (zl (B := natC k)) (k := ?_); refine yv (zi (hc := fun _ _ _ _ => (hz _))) (k := ?_); refine zx ?_) | (refine za (id := 6) ?_; refine zb ?_; refine zA ?_; refine yv (zae (hr := gm)) (k := ?_)) | fail)
        exact zU () trivial Sub.nil SubR.nil
    · have g1 : decide ((gsca z nl).2 ≠ 0) = true := decide_eq_true he
      generalize (gnum z pl).1 = x at *
      generalize (gsca z nl).1 = k at *
      generalize (gsca z nl).2 = e at *
      repeat' (first | refine zh ?_ | refine zf ?_ | refine zw rfl ?_ | refine ze ?_ | refine zj ?_ | refine zc1 ?_ | refine zbo ?_ | refine zcF ?_ | (refine za (id := 1) ?_; (refine zm ?_; intro _); (refine zm ?_; intro _)) | (refine za (id := 2) ?_; refine zd ?_) | (refine za (id := 3) ?_; refine zb ?_; refine zb ?_; refine yv (zi (f := 26) (hc := fun w' _ hk _ => hsec w' hk)) (k := ?_); refine zb ?_; refine zk ?_; refine zk ?_; (refine zm ?_; intro _); refine yn (zn (n := x)) (k := ?_); refine zd ?_) | (refine za (id := 4) ?_; refine zb ?_; refine zb ?_; refine yv (zi (f := 27) (hc := fun w' _ hk _ => hsc w' hk)) (k := ?_); refine zb ?_; refine zk ?_; refine zk ?_; (refine zm ?_; intro _); refine yn (zn (n := k)) (k := ?_); refine zd ?_) | (refine za (id := 5) ?_; refine zb ?_; refine zau ?_; refine zb ?_; refine zb ?_; refine yv (zax (hr := g1)) (k := ?_); refine zx ?_; refine zb ?_; refine zo rfl rfl rfl ?_; refine zo rfl rfl rfl ?_; refine zx ?_) | fail)
      exact zU () trivial Sub.nil SubR.nil
end Go.Proofs.YtjidkoabdmjgkaaGreatDoor
end
