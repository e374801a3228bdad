/- Layer sign, walked: the challenge, and its specification. -/
import Derived.Test.YtjidkoabdmjgkaaGreatDoorVJ31
import Derived.Test.YtjidkoabdmjgkaaGreatDoorVJ37
import Derived.Test.YtjidkoabdmjgkaaGreatDoorVJ42
import Derived.Test.YtjidkoabdmjgkaaGreatDoorVJ16
import Derived.ScopeJumps
set_option linter.all false
section
namespace Go.Proofs.YtjidkoabdmjgkaaGreatDoor
open Go Go.Sy Go.Nt Go.RowKit
attribute [local irreducible] Sy SyL SyX Sy.Fn callFunc natC rowN refC iC gP gQ gL memB safeC fixB gnum gel gsca chal Sh.sum
set_option maxRecDepth 10000
def chalB (i : Nat) (y : List UInt8) (r : Nat) (m : List UInt8) : List UInt8 := UInt8.ofNat i :: (y ++ (fixB (gL i) r ++ m))
theorem zjy (i : Nat) (y : List UInt8) (r : Nat) (m : List UInt8) : chal i y r m = bev 256 (bn (Sh.sum (chalB i y r m))) % gQ i := by unfold chal chalB; rfl
theorem zhN {i : Nat} (h0 : 1 ≤ i) (h5 : i ≤ 4) (l : List UInt8) : gsca (i : Int) l = (bev 256 (bn l) % gQ i, 0) := by
  unfold gsca; rw [if_pos ⟨by omega, by omega⟩, Int.toNat_natCast]
theorem zhS {A J : List Value} : Seg (A ++ J) 0 A := fun j v hj => by
  rw [Nat.zero_add, List.getElem?_append_left (List.getElem?_eq_some_iff.1 hj).1]; exact hj
theorem zdR {B0 : Nat} {w : World} {M : Nat → Prop} {E n c : Nat} {a : Option Addr} {l : List UInt8} {L : List Res} (hh : Holds B0 M L w) (hl : l.length = n) (hL : Has L (.row (.slice a n c) E 1 n (l.map v8))) : (⟨a, n, c, l⟩ : Bs).ok w :=
  ⟨hl, Row.cap hh hL, zD hh hL, fun h => (Row.nil hh hL h).1⟩
set_option maxHeartbeats 1000000 in
theorem zeV (i : Nat) (pa ma : Option Addr) (pn pc mn mc r : Nat) (pl ml : List UInt8) (w : World) (h0 : 1 ≤ i) (h5 : i ≤ 4) (hG : GT w) (hT : Tab w No) (hp : (⟨pa, pn, pc, pl⟩ : Bs).ok w) (hm : (⟨ma, mn, mc, ml⟩ : Bs).ok w) (hpn : pn ≤ 1000) (hmn : mn ≤ 100000) (hr : memB (gP i) (gQ i) r = true) :
    Sy.Fn Tryz.prog 29 [.int .i64 (i : Int), .slice pa pn pc, natV r, .slice ma mn mc] w No (Gives (natV (chal i pl r ml))) := by
  refine zq Tryz.func29 rfl Tryz.ntmps29 (by simp) Holds.nil ?_
  have hrW := Nat.lt_trans (zaM hr) (zav i h0 h5)
  have hlr := zh r
  have hu := zjB i h5
  have hby := fun w' (hk : Keep No w w') => ze2 i r w' h0 h5 (hG.to hk) hrW hr
  unfold FixG at hby
  have hfl := zaI (gL i) r (zdb h0 h5 (zaM hr))
  have hgl : gL i ≤ 96 := by have := zbP (z := (i : Int)) ⟨by omega, by omega⟩; rwa [Int.toNat_natCast] at this
  have hd := fun a n c w' => zhL a n c 0 w'
  have hcb : chalB i pl r ml = Bs.cat [⟨none, 1, 1, [UInt8.ofNat i]⟩, ⟨pa, pn, pc, pl⟩, ⟨none, gL i, 0, fixB (gL i) r⟩, ⟨ma, mn, mc, ml⟩] := by unfold chalB Bs.cat; simp
  have hcl : (chalB i pl r ml).length < 1000000 := by
    unfold chalB
    rw [List.length_cons, List.length_append, List.length_append, hfl, hp.len, hm.len]
    show pn + (gL i + mn) + 1 < 1000000
    omega
  have hj : ∀ w', Keep No w w' → ∀ b21 b12 aF cF, w'.rangeAt b12 0 ([UInt8.ofNat i].map v8) → (⟨aF, gL i, cF, fixB (gL i) r⟩ : Bs).ok w' → w'.rangeAt b21 0 [Value.slice (some ⟨b12, 0, none⟩) 1 1, .slice pa pn pc, .slice aF (gL i) cF, .slice ma mn mc] →
      Sy.Fn Tryz.prog 79 [.slice (some ⟨b21, 0, none⟩) 4 4, .slice none 0 0] w' No (HeadOf (chalB i pl r ml)) := by
    intro w' hk b21 b12 aF cF h12 hF h21
    have h := znF (some ⟨b21, 0, none⟩) 4 4 [⟨some ⟨b12, 0, none⟩, 1, 1, [UInt8.ofNat i]⟩, ⟨pa, pn, pc, pl⟩, ⟨aF, gL i, cF, fixB (gL i) r⟩, ⟨ma, mn, mc, ml⟩] w' rfl (by decide) (by decide) (by decide) (.inr ⟨b21, 0, rfl, h21⟩) (fun s hs => ?_) (by
        have : Bs.cat [⟨some ⟨b12, 0, none⟩, 1, 1, [UInt8.ofNat i]⟩, ⟨pa, pn, pc, pl⟩, ⟨aF, gL i, cF, fixB (gL i) r⟩, ⟨ma, mn, mc, ml⟩] = chalB i pl r ml := by rw [hcb]; rfl
        rw [this]; omega)
    · have e : Bs.cat [⟨some ⟨b12, 0, none⟩, 1, 1, [UInt8.ofNat i]⟩, ⟨pa, pn, pc, pl⟩, ⟨aF, gL i, cF, fixB (gL i) r⟩, ⟨ma, mn, mc, ml⟩] = chalB i pl r ml := by rw [hcb]; rfl
      rw [e] at h
      exact h
    · simp only [List.mem_cons, List.not_mem_nil, or_false] at hs
      rcases hs with rfl | rfl | rfl | rfl
      · exact ⟨rfl, Nat.le_refl _, .inr ⟨b12, 0, rfl, h12⟩, fun h => by cases h⟩
      · exact hp.keep hk
      · exact hF
      · exact hm.keep hk
  have hsum := fun w' b (hk : Keep No w w') (h : w'.rangeAt b 0 ((chalB i pl r ml).map v8)) => zlW (some ⟨b, 0, none⟩) (chalB i pl r ml).length (chalB i pl r ml).length (chalB i pl r ml) w' rfl (Nat.le_refl _) (by omega) (.inr ⟨b, 0, rfl, h⟩) (hT.no hk)
  have hs32 := zjq (chalB i pl r ml)
  have hsc := fun w' b (hk : Keep No w w') (h : w'.rangeAt b 0 ((Sh.sum (chalB i pl r ml)).map v8)) => zf5 i (some ⟨b, 0, none⟩) 32 32 (Sh.sum (chalB i pl r ml)) w' h0 h5 (hG.to hk) hs32 (Nat.le_refl _) (by decide) (.inr ⟨b, 0, rfl, h⟩)
  rw [← zjy] at hsc
  have hdn := fun w' => zbs (chal i pl r ml) 0 w'
  have hle := zh (chal i pl r ml)
  generalize Sh.sum (chalB i pl r ml) = H at *
  generalize chal i pl r ml = e at *
  generalize chalB i pl r ml = B at *
  generalize fixB (gL i) r = lb at *
  generalize gL i = len at *
  repeat' (first | refine zg ?_ | refine zf ?_ | refine ze ?_ | refine zj ?_ | (refine za (id := 0) ?_; (refine zm ?_; intro _); (refine zm ?_; intro _)) | (refine za (id := 1) ?_; refine zb ?_; refine yv (zaD (hr := hu)) (k := ?_); (refine ys zR (k := ?_); rintro _ _ ⟨_, rfl, rfl⟩); refine zb ?_; refine zb ?_; refine yv (zl (B := natC r)) (k := ?_); (refine ys (zy (f := 31) (hc := fun w' X hk hh => hby w' hk)) (k := ?_); rintro _ _ ⟨R, rfl, aF, cF, rfl, rfl⟩); refine zk ?_; refine zk ?_; refine yv (zi (hc := fun _ _ _ _ => (hd _ _ _ _))) (k := ?_); refine zb ?_; (refine ys zR (k := ?_); rintro _ _ ⟨_, rfl, rfl⟩)) | fail)
  rename_i b6 b8 b12 b21
  refine ys (zy (f := 79) (hc := fun w' X hk hh => hj w' hk b21 b12 aF cF (zN (hh.has (r := .blk b12 5 ([UInt8.ofNat i].map v8)) (by exact Has.append Has.go)) Seg.all) (zdR (E := 5) hh hfl (by exact Has.append Has.go)) (zN (hh.has (r := .blk b21 22 [Value.slice (some ⟨b12, 0, none⟩) 1 1, .slice pa pn pc, .slice aF len cF, .slice ma mn mc]) (by exact Has.append Has.go)) Seg.all))) (k := ?_)
  rintro _ _ ⟨R, rfl, bJ, J, rfl, rfl⟩
  repeat' (first | refine zg ?_ | refine zf ?_ | refine zo ?_ | refine ze ?_ | refine zj ?_ | (refine za (id := 2) ?_; refine zb ?_; refine zbp ?_; refine yv (zi (f := 27) (hc := fun w' X hk hh => hsc w' _ hk (zN (hh.has (by exact Has.append Has.go)) Seg.all))) (k := ?_); refine zk ?_; refine zk ?_; refine yv (zi (hc := fun _ _ _ _ => (hdn _))) (k := ?_); refine yn (zn (n := e)) (k := ?_)) | (refine zV ?_; first | refine yv (zi (f := 78) (hc := fun w' X hk hh => hsum w' bJ hk (zN (hh.has (r := .blk bJ 5 (B.map v8 ++ J)) (by exact Has.append Has.go)) zhS))) (k := ?_) | refine zS ?_ | (refine zm ?_; intro _) | fail) | fail)
  exact ret1 rfl (resCells (B := natC e) rfl (ty rfl) rfl Has.go Seg.all (zh _).symm) SubR.nil ⟨rfl, rfl⟩
end Go.Proofs.YtjidkoabdmjgkaaGreatDoor
end
section
namespace Go
section
variable {F : Fence} {n : Nat} {P : Program} {Q : Exit → Act → World → Prop} {a : Act} {w : World}
theorem zht {c rest : Code} (l : Nat) (J : Act → World → Prop) (hf : findLabel c l = some rest) (first : c.wpIn F n P (Exit.jump l J Q) a w)
    (pass : ∀ a w, J a w → rest.wpIn F n P (Exit.noGoto Q) a w) : (Code.scope c).wpIn F n P Q a w := by
  intro b k cs hro hb hr
  have h0 : (lone (b.atR a (.code (.scope c) :: k)) cs w).fenced P F := fenced_calm hb hr rfl
  have hg : gotoIn l (.inScope c :: k) = some (.code rest :: .inScope c :: k) := by simp [gotoIn, hf]
  have hx : ∀ id', exitTo id' (.inScope c :: k) = exitTo id' k := fun id' => by simp [exitTo]
  obtain ⟨e, a₁, w₁, hq, harr⟩ := first b (.inScope c :: k) cs hro hb hr
  cases e with
  | normal => exact ⟨.normal, a₁, w₁, hq, .head h0 zat (StepsIn.trans harr (.one (fenced_calm hb hr rfl) zcI))⟩
  | exit id' =>
    exact ⟨.exit id', a₁, w₁, hq, fun k' hk => .head h0 zat (harr.1 k' (by rw [hx]; exact hk)),
      fun hr' hk => let ⟨k₁, h1, h2⟩ := harr.2 hr' (by rw [hx]; exact hk); ⟨k₁, h1, .head h0 zat h2⟩⟩
  | goto l' =>
    obtain ⟨rfl, hJ⟩ := hq
    have hto := StepsIn.head h0 zat (harr.1 _ hg)
    obtain ⟨e, a₂, w₂, hq, har⟩ := pass a₁ w₁ hJ b (.inScope c :: k) cs hro hb hr
    cases e with
    | normal => exact ⟨.normal, a₂, w₂, hq, hto.trans (StepsIn.trans har (.one (fenced_calm hb hr rfl) zcI))⟩
    | exit id' =>
      exact ⟨.exit id', a₂, w₂, hq, fun k' hk => hto.trans (har.1 k' (by rw [hx]; exact hk)),
        fun hr' hk => let ⟨k₁, h1, h2⟩ := har.2 hr' (by rw [hx]; exact hk); ⟨k₁, h1, hto.trans h2⟩⟩
    | goto l => exact hq.elim
    | ret => exact ⟨_, a₂, w₂, hq, .of_steps hto har⟩
    | panic ch => exact ⟨_, a₂, w₂, hq, .of_steps hto har⟩
    | outgrown => exact ⟨_, a₂, w₂, hq, .of_steps hto har⟩
  | ret => exact ⟨_, a₁, w₁, hq, .of_steps (.one h0 zat) harr⟩
  | panic ch => exact ⟨_, a₁, w₁, hq, .of_steps (.one h0 zat) harr⟩
  | outgrown => exact ⟨_, a₁, w₁, hq, .of_steps (.one h0 zat) harr⟩
end
end Go
namespace Go.Sy
open Go
section
variable {P : Program} {ro : Option Nat} {N : Nat} {w0 : World} {M : Nat → Prop} {ds : List Deferred} {L : List Res} {fr : Fr} {Q : Exit → Act → World → Prop}
theorem zfv {γ : Type} (l : Nat) {c rest : Code} (f : γ → Fr) (R : γ → List Res) (I : γ → Prop) (hf : findLabel c l = some rest) (h : Sy P ro N w0 M ds c (Exit.jump l (CutK N w0 M ds f R I) Q) fr L)
    (h2 : ∀ g, I g → Sy P ro N w0 M ds rest (Exit.noGoto Q) (f g) (R g)) : Sy P ro N w0 M ds (.scope c) Q fr L :=
  fun a w hs => zht l _ hf (h a w hs) (fun a w hJ => by obtain ⟨g, hI, hst⟩ := hJ; exact h2 g hI a w hst)
theorem zcL {l : Nat} {J : Act → World → Prop} (h : SyX N w0 M ds J fr L) : SyX N w0 M ds (Exit.jump l J Q (.goto l)) fr L := fun a w hs => ⟨rfl, h a w hs⟩
end
end Go.Sy
end
section
namespace Go.Sy
def tup (v : Value) (k : Nat) : Value := match v with | .tuple vs => (vs[k]?).getD v | v => v
end Go.Sy
namespace Go.Proofs.YtjidkoabdmjgkaaGreatDoor
open Go Go.Sy Go.Nt Go.RowKit
attribute [local irreducible] Sy SyL SyX Sy.Fn callFunc natC rowN refC iC gP gQ gL memB safeC fixB gnum gel gsca chal Sh.sum
set_option maxRecDepth 10000
def FixR (n : Nat) (l : List UInt8) (v : Value) (R : List Res) : Prop := ∃ a c, v = .tuple #[.slice a n c, .int .i64 0] ∧ R = [.row (.slice a n c) 5 1 n (l.map v8)]
theorem zeG {z : Int} {pl nl ml : List UInt8} (hk : skey z pl = true) (he : (gsca z nl).2 = 0) (h0 : (gsca z nl).1 ≠ 0) (hm : ml.length ≤ 65536) :
    sSig z pl nl ml = some (fixB (gL z.toNat) (sE z.toNat (gnum z pl).1 (gsca z nl).1 ml) ++ fixB (gL z.toNat) (sS z.toNat (gnum z pl).1 (gsca z nl).1 ml)) := if_pos ⟨hk, he, h0, hm⟩
set_option maxHeartbeats 2000000 in
theorem zjH (z : Int) (pa na ma : Option Addr) (pn pc nn nc mn mc : Nat) (pl nl ml : List UInt8) (w : World) (hG : GT w) (hT : Tab w No) (hp : (⟨pa, pn, pc, pl⟩ : Bs).ok w) (hn : (⟨na, nn, nc, nl⟩ : Bs).ok w) (hm : (⟨ma, mn, mc, ml⟩ : Bs).ok w) (hnn : nn ≤ 1000) (hmn : mn ≤ 100000) :
    Sy.Fn Tryz.prog 10 [.int .i64 z, .slice pa pn pc, .slice na nn nc, .slice ma mn mc] w No (BR (sSig z pl nl ml)) := by
  refine zq Tryz.func10 rfl Tryz.ntmps10 (by simp) Holds.nil ?_
  have hsec := fun w' (hk : Keep No w w') => zhk z pa pn pc pl w' (hG.to hk) hp.len hp.cap (hp.keep hk).sla
  have hsc := fun w' (hk : Keep No w w') => zje z na nn nc nl w' (hG.to hk) hn.len hn.cap (by omega) (hn.keep hk).sla
  have hlx := zh (gnum z pl).1
  have hlk := zh (gsca z nl).1
  have hxW := zgQ z pl
  have hkW := zjt z nl
  have hz := fun w' => zbx (gsca z nl).1 w' hkW
  have hml : ml.length = mn := hm.len
  by_cases hall : skey z pl = true ∧ (gsca z nl).2 = 0 ∧ (gsca z nl).1 ≠ 0 ∧ ml.length ≤ 65536
  · obtain ⟨hk, he, hk0, hmx⟩ := hall
    rw [zeG hk he hk0 hmx]
    obtain ⟨i, rfl, hi, h0, h5, hxq⟩ := zff hk
    rw [hi]
    have hkq : (gsca (i : Int) nl).1 < gQ i := by rw [zhN h0 h5]; exact Nat.mod_lt _ (Nat.lt_of_lt_of_le (by decide) (zag i h0 h5))
    rw [hk] at hsec
    rw [he] at hsc
    have gz : decide ((gsca (i : Int) nl).1 = 0) = false := decide_eq_false hk0
    rw [gz] at hz
    generalize (gnum (i : Int) pl).1 = x at *
    generalize (gsca (i : Int) nl).1 = k at *
    have gm : decide (65536 < (mn : Int)) = false := decide_eq_false (by omega)
    have hpx := fun w' (hk : Keep No w w') => zdD i x w' h0 h5 (hG.to hk) hxW hxq
    have hpk := fun w' (hk : Keep No w w') => zdD i k w' h0 h5 (hG.to hk) hkW hkq
    have mx : memB (gP i) (gQ i) (4 ^ x % gP i) = true := zaF.2 (zcn h0 h5 _)
    have mk : memB (gP i) (gQ i) (4 ^ k % gP i) = true := zaF.2 (zcn h0 h5 _)
    have hby := fun w' (hk : Keep No w w') => ze2 i (4 ^ x % gP i) w' h0 h5 (hG.to hk) (Nat.lt_trans (zaM mx) (zav i h0 h5)) mx
    have hfl := zaI (gL i) (4 ^ x % gP i) (zdb h0 h5 (zaM mx))
    have hd := fun a n c w' => zhL a n c 0 w'
    have hdx := fun w' => zbs (4 ^ x % gP i) 0 w'
    have hdk := fun w' => zbs (4 ^ k % gP i) 0 w'
    have hgl : gL i ≤ 96 := by have := zbP (z := (i : Int)) ⟨by omega, by omega⟩; rwa [Int.toNat_natCast] at this
    have hQ0 : 0 < gQ i := Nat.lt_of_lt_of_le (by decide) (zag i h0 h5)
    have hE : sE i x k ml = chal i (fixB (gL i) (4 ^ x % gP i)) (4 ^ k % gP i) ml := rfl
    have heq : sE i x k ml < gQ i := zdc h0 h5 _ _ _
    have hsq : sS i x k ml < gQ i := Nat.mod_lt _ hQ0
    have hS : sS i x k ml = (k + sE i x k ml * x % gQ i) % gQ i := rfl
    have hch := fun w' (hk : Keep No w w') a c (hb : (⟨a, gL i, c, fixB (gL i) (4 ^ x % gP i)⟩ : Bs).ok w') => zeV i a ma (gL i) c mn mc (4 ^ k % gP i) (fixB (gL i) (4 ^ x % gP i)) ml w' h0 h5 (hG.to hk) (hT.no hk) hb (hm.keep hk) (by omega) hmn mk
    rw [← hE] at hch
    generalize sE i x k ml = e at *
    have hmul := fun w' (hk : Keep No w w') => zmJ i e x w' h0 h5 (hG.to hk) (Nat.lt_trans heq (zao i h0 h5)) hxW (by simp [heq, hxq])
    have hxe : e * x % gQ i < gQ i := Nat.mod_lt _ hQ0
    have hadd := fun w' (hk : Keep No w w') => zlT i k (e * x % gQ i) w' h0 h5 (hG.to hk) hkW (Nat.lt_trans hxe (zao i h0 h5)) (by simp [hkq, hxe])
    rw [← hS] at hadd
    generalize sS i x k ml = s at *
    have hdm := fun w' => zbs (e * x % gQ i) 0 w'
    have hds := fun w' => zbs s 0 w'
    have hle := zh e
    have hls := zh s
    have hbe := fun w' (hk : Keep No w w') => zeb i e w' h0 h5 (hG.to hk) (Nat.lt_trans heq (zao i h0 h5)) (decide_eq_true heq)
    have hbs := fun w' (hk : Keep No w w') => zeb i s w' h0 h5 (hG.to hk) (Nat.lt_trans hsq (zao i h0 h5)) (decide_eq_true hsq)
    have hfe := zaI (gL i) e (zca h0 h5 heq)
    have hfs := zaI (gL i) s (zca h0 h5 hsq)
    unfold FixG at hby hbe hbs
    generalize fixB (gL i) (4 ^ x % gP i) = lb at *
    generalize fixB (gL i) e = lE at *
    generalize fixB (gL i) s = lS at *
    generalize 4 ^ x % gP i = yx at *
    generalize 4 ^ k % gP i = yk at *
    generalize e * x % gQ i = em at *
    generalize gL i = len at *
    repeat' (first | refine zg ?_ | refine zf ?_ | refine zw rfl ?_ | refine zt ?_ | refine ze ?_ | refine zj ?_ | refine zeo ?_ | (refine za (id := 0) ?_; refine zd ?_; refine zd ?_) | (refine za (id := 1) ?_; (refine zm ?_; intro _); (refine zm ?_; intro _)) | (refine za (id := 2) ?_; refine zd ?_) | (refine za (id := 3) ?_; refine zb ?_; refine zb ?_; refine yv (zi (f := 26) (hc := fun w' _ hk _ => hsec w' hk)) (k := ?_); refine zb ?_; refine zk ?_; refine zk ?_; (refine zm ?_; intro _); refine yn (zn (n := x)) (k := ?_); refine zd ?_) | (refine za (id := 4) ?_; refine zb ?_; refine zb ?_; refine yv (zi (f := 27) (hc := fun w' _ hk _ => hsc w' hk)) (k := ?_); refine zb ?_; refine zk ?_; refine zk ?_; (refine zm ?_; intro _); refine yn (zn (n := k)) (k := ?_); refine zd ?_) | (refine za (id := 5) ?_; refine zb ?_; refine z4 ?_; refine zb ?_; refine zb ?_; refine z8 ?_; refine zz ?_; refine zb ?_; refine yv (zl (B := natC k)) (k := ?_); refine yv (zi (hc := fun _ _ _ _ => (hz _))) (k := ?_); refine zz ?_) | (refine za (id := 6) ?_; refine zb ?_; refine zB ?_; refine yv (zac (hr := gm)) (k := ?_)) | fail)
    rename_i b10 b11 b13 b15
    refine zbc (id := 7) mixed ?_
    (refine zbe 19 19 [[], [], [], [], [2, 3], [2, 3, 4], [2, 3, 4], [2, 3, 4, 5, 6], [1, 2, 3, 4, 5, 6, 7], [1, 2, 3, 4, 5, 6, 7, 8], [1, 2, 3, 4, 5, 6, 7, 8], [1, 2, 3, 4, 5, 6, 7, 8, 9, 10], [], [], [1, 2, 3, 4, 5, 6, 7, 8, 9, 10, 11, 12, 13], [1, 2, 3, 4, 5, 6, 7, 8, 9, 10, 11, 12, 13, 14], [1, 2, 3, 4, 5, 6, 7, 8, 9, 10, 11, 12, 13, 14], [1, 2, 3, 4, 5, 6, 7, 8, 9, 10, 11, 12, 13, 14, 15, 16], [], [0, 1, 2, 3, 4, 5, 6, 7, 8, 9, 10, 11, 12, 13, 14, 15, 16, 17, 18], [0, 1, 2, 3, 4, 5, 6, 7, 8, 9, 10, 11, 12, 13, 14, 15, 16, 17, 18, 19]] [[], [], [], [], [], [], [], [], [], [], [], [], [], [], [], [], [], [], [], [], []] none rfl ?_ ?_ ?_; kernel_rfl; kernel_rfl; refine zam ?_; refine zam ?_; refine zam ?_; refine dcE (fun _ _ => zl (B := natC x)) (k := ?_); refine dcE (fun _ _ => zi (f := 33) (hc := fun w' _ hk _ => hpx w' hk)) (k := ?_); refine zaE ?_; refine zaE ?_; refine dcE (fun _ _ => zi (hc := fun _ _ _ _ => (hdx _))) (k := ?_); try refine dh_0nE (h := ?_))
    refine zb9 (R := fun _ => FixR len lb) (fun _ _ _ => rfl) (fun ρ hρ => zy (f := 31) (hc := fun w' X hk hh => hby w' hk)) (h := ?_)
    refine zj2 (u := fun ρ => tup (ρ 8).1 0) (fun ρ hρ => ?_) (fun _ => rfl) rfl (fun ρ ρ' h => by rw [h 8 (by decide)]) (h := ?_)
    · obtain ⟨⟨a, c, e1, e2⟩, -⟩ := hρ
      refine OpT.mono (zcA (vs := #[.slice a len c, .int .i64 0]) (hx := by show some (ρ 8).1 = _; rw [e1])) fun v L' h => ?_
      obtain ⟨rfl, rfl⟩ := h
      exact ⟨by rw [e1]; rfl, rfl⟩
    refine dcE (u := .int .i64 0) (fun ρ hρ => ?_) (k := ?_)
    · obtain ⟨⟨a, c, e1, e2⟩, -⟩ := hρ
      exact zcA (vs := #[.slice a len c, .int .i64 0]) (hx := by show some (ρ 8).1 = _; rw [e1])
    refine zj2 (u := fun ρ => tup (ρ 8).1 0) (fun ρ hρ => ?_) (fun _ => rfl) rfl (fun ρ ρ' h => by rw [h 8 (by decide)]) (h := ?_)
    · obtain ⟨⟨a, c, e1, e2⟩, -⟩ := hρ
      have e3 : tup (ρ 8).1 0 = .slice a len c := by rw [e1]; rfl
      rw [e3]
      exact zi (f := 30) (hc := fun w' X hk hh => hd _ _ _ w')
    (skip; refine zam ?_; refine dcE (fun _ _ => zl (B := natC k)) (k := ?_); refine dcE (fun _ _ => zi (f := 33) (hc := fun w' _ hk _ => hpk w' hk)) (k := ?_); refine zaE ?_; refine zaE ?_; refine dcE (fun _ _ => zi (hc := fun _ _ _ _ => (hdk _))) (k := ?_); refine zam ?_; try refine dh_0nE (h := ?_))
    refine zcd (h := ?_)
    rintro ρ ⟨⟨aF, cF, e1, e2⟩, -⟩
    (refine zbd [[], [], [], [], [2, 3], [2, 3, 4], [2, 3, 4], [2, 3, 4, 5, 6], [1, 2, 3, 4, 5, 6, 7], [1, 2, 3, 4, 5, 6, 7, 8], [1, 2, 3, 4, 5, 6, 7, 8], [1, 2, 3, 4, 5, 6, 7, 8, 9, 10], [], [], [1, 2, 3, 4, 5, 6, 7, 8, 9, 10, 11, 12, 13], [1, 2, 3, 4, 5, 6, 7, 8, 9, 10, 11, 12, 13, 14], [1, 2, 3, 4, 5, 6, 7, 8, 9, 10, 11, 12, 13, 14], [1, 2, 3, 4, 5, 6, 7, 8, 9, 10, 11, 12, 13, 14, 15, 16], [], [0, 1, 2, 3, 4, 5, 6, 7, 8, 9, 10, 11, 12, 13, 14, 15, 16, 17, 18], [0, 1, 2, 3, 4, 5, 6, 7, 8, 9, 10, 11, 12, 13, 14, 15, 16, 17, 18, 19]] ?_ ?_; kernel_rfl)
    have e3 : tup (ρ 8).1 0 = .slice aF len cF := by rw [e1]; rfl
    refine SyL.weaken (fr' := [(42, .int .i64 (i : Int)), (53, .slice aF len cF), (59, natV yk), (60, .slice ma mn mc), (0, .int .i64 (i : Int)), (10, .pointer (some ⟨b10, 0, none⟩)), (11, .pointer (some ⟨b11, 0, none⟩)), (12, .slice none 0 0), (13, .pointer (some ⟨b13, 0, none⟩)), (15, .pointer (some ⟨b15, 0, none⟩))])
      (L' := [.row (.slice aF len cF) 5 1 len (lb.map v8), .blk b15 43 (natC k), .blk b13 43 (natC x), .blk b11 43 (List.replicate 16 (.int .u64 0)), .blk b10 43 (List.replicate 16 (.int .u64 0))]) ?_ (by simp only [e3]; exact Sub.go) ?_
    rotate_left
    · show SubR _ ((ρ 8).2 ++ _)
      rw [e2]
      exact SubR.go2
    repeat' (first | refine zg ?_ | refine zf ?_ | refine zo ?_ | refine ze ?_ | refine zj ?_ | refine zx ?_ | refine zbJ ?_ | (refine zW (id := 8) 12 [[], [], [], [], [], [2, 3, 4], [2, 3, 4, 5], [2, 3, 4, 5], [2, 3, 4, 5, 6, 7], [0, 1, 2, 3, 4, 5, 6, 7, 8], [0, 1, 2, 3, 4, 5, 6, 7, 8, 9], [0, 1, 2, 3, 4, 5, 6, 7, 8, 9], [0, 1, 2, 3, 4, 5, 6, 7, 8, 9, 10, 11], [0, 1, 2, 3, 4, 5, 6, 7, 8, 9, 10, 11, 12]] mixed ?_ ?_; kernel_rfl; refine zA ?_; refine dc (fun _ _ => zl (B := natC k)) (k := ?_); refine zA ?_; refine dc (fun _ _ => zl (B := natC e)) (k := ?_); refine dc (fun _ _ => zl (B := natC x)) (k := ?_); refine dc (fun _ _ => zi (f := 35) (hc := fun w' _ hk _ => hmul w' hk)) (k := ?_); refine zbF ?_; refine zbF ?_; refine dc (fun _ _ => zi (hc := fun _ _ _ _ => (hdm _))) (k := ?_); refine dc (fun _ _ => zi (f := 34) (hc := fun w' _ hk _ => hadd w' hk)) (k := ?_); refine zbF ?_; refine zbF ?_; refine z5 ?_; refine yv (zi (hc := fun _ _ _ _ => (hds _))) (k := ?_); refine yn (zn (n := s)) (k := ?_)) | (refine za (id := 9) ?_; refine zb ?_; refine zb ?_; refine yv (zl (B := natC e)) (k := ?_); (refine ys (zy (f := 36) (hc := fun w' X hk hh => hbe w' hk)) (k := ?_); rintro _ _ ⟨R, rfl, aE, cE, rfl, rfl⟩; refine zdl (fun w' hh => (Row.none hh (a := aE) (n := len) (c := cE) Has.go : aE = none → cE = 0)) fun hnE => ?_); refine zk ?_; refine zk ?_; refine yv (zi (hc := fun _ _ _ _ => (hd _ _ _ _))) (k := ?_); (refine ys zgh (k := ?_); rintro _ _ ⟨rfl, _, _, rfl⟩); refine zd ?_) | (refine za (id := 10) ?_; refine zb ?_; refine zb ?_; refine yv (zl (B := natC s)) (k := ?_); (refine ys (zy (f := 36) (hc := fun w' X hk hh => hbs w' hk)) (k := ?_); rintro _ _ ⟨R, rfl, aS, cS, rfl, rfl⟩; refine zdl (fun w' hh => (Row.none hh (a := aS) (n := len) (c := cS) Has.go : aS = none → cS = 0)) fun hnS => ?_); refine zk ?_; refine zk ?_; refine yv (zi (hc := fun _ _ _ _ => (hd _ _ _ _))) (k := ?_); (refine ys zap (k := ?_); rintro _ _ ⟨rfl, _, _, rfl⟩); refine zd ?_) | (refine za (id := 11) ?_; refine zb ?_; refine zd ?_; refine zd ?_) | (refine zV ?_; first | refine yv (zi (f := 29) (hc := fun w' X hk hh => hch w' hk aF cF (zdR (E := 5) hh hfl (by exact Has.append Has.go)))) (k := ?_) | refine yn (zn (n := e)) (k := ?_) | fail) | fail)
    have hap : (lE.map v8).append (lS.map v8) = (lE ++ lS).map v8 := List.map_append.symm
    rw [hap]
    exact ret2 rfl (resTmp rfl) (resTmp rfl) (by exact SubR.go2) ⟨_, _, _, rfl, by show len + len = (lE ++ lS).length; rw [List.length_append, hfe, hfs], rfl⟩
  rw [show sSig z pl nl ml = none from if_neg hall]
  repeat' (first | refine zg ?_ | refine zf ?_ | refine ze ?_ | refine zj ?_ | (refine za (id := 0) ?_; refine zd ?_; refine zd ?_) | fail)
  refine zfv (γ := Unit) 0 (fun _ => []) (fun _ => []) (fun _ => True) rfl ?_ (fun _ _ => ?_)
  rotate_left
  · repeat' (first | refine zg ?_ | refine zf ?_ | refine zt ?_ | refine zo ?_ | refine ze ?_ | refine zj ?_ | refine zbJ ?_ | (refine za (id := 12) ?_; refine zd ?_; refine zd ?_) | fail)
    refine zaw (zaq 5 1) ?_
    exact ret2 rfl (resTmp rfl) (resTmp rfl) (by exact SubR.go) ⟨_, _, _, rfl, rfl, rfl⟩
  cases hk : skey z pl with
  | false =>
    rw [hk] at hsec
    generalize (gnum z pl).1 = x at *
    generalize (gsca z nl).1 = k at *
    generalize (gsca z nl).2 = e at *
    repeat' (first | refine zg ?_ | refine zf ?_ | refine zu rfl ?_ | refine ze ?_ | refine zj ?_ | refine zdi ?_ | refine zbt ?_ | refine zcL ?_ | (refine za (id := 1) ?_; (refine zm ?_; intro _); (refine zm ?_; intro _)) | (refine za (id := 2) ?_; refine zd ?_) | (refine za (id := 3) ?_; refine zb ?_; refine zb ?_; refine yv (zi (f := 26) (hc := fun w' _ hk _ => hsec w' hk)) (k := ?_); refine zb ?_; refine zk ?_; refine zk ?_; (refine zm ?_; intro _); refine yn (zn (n := x)) (k := ?_); refine zd ?_) | (refine za (id := 4) ?_; refine zb ?_; refine zb ?_; refine yv (zi (f := 27) (hc := fun w' _ hk _ => hsc w' hk)) (k := ?_); refine zb ?_; refine zk ?_; refine zk ?_; (refine zm ?_; intro _); refine yn (zn (n := k)) (k := ?_); refine zd ?_) | (refine za (id := 5) ?_; refine zb ?_; refine z4 ?_; refine zb ?_; refine zp rfl rfl rfl ?_; refine zp rfl rfl rfl ?_; refine zz ?_; refine zb ?_; refine zp rfl rfl rfl ?_; refine zp rfl rfl rfl ?_; refine zz ?_) | fail)
    exact zZ () trivial Sub.nil SubR.nil
  | true =>
    rw [hk] at hsec
    by_cases he : (gsca z nl).2 = 0
    · have g1 : decide ((gsca z nl).2 ≠ 0) = false := decide_eq_false (fun h => h he)
      by_cases hk0 : (gsca z nl).1 = 0
      · have gz : decide ((gsca z nl).1 = 0) = true := decide_eq_true hk0
        rw [gz] at hz
        generalize (gnum z pl).1 = x at *
        generalize (gsca z nl).1 = k at *
        generalize (gsca z nl).2 = e at *
        repeat' (first | refine zg ?_ | refine zf ?_ | refine zu rfl ?_ | refine ze ?_ | refine zj ?_ | refine zdi ?_ | refine zbt ?_ | refine zcL ?_ | (refine za (id := 1) ?_; (refine zm ?_; intro _); (refine zm ?_; intro _)) | (refine za (id := 2) ?_; refine zd ?_) | (refine za (id := 3) ?_; refine zb ?_; refine zb ?_; refine yv (zi (f := 26) (hc := fun w' _ hk _ => hsec w' hk)) (k := ?_); refine zb ?_; refine zk ?_; refine zk ?_; (refine zm ?_; intro _); refine yn (zn (n := x)) (k := ?_); refine zd ?_) | (refine za (id := 4) ?_; refine zb ?_; refine zb ?_; refine yv (zi (f := 27) (hc := fun w' _ hk _ => hsc w' hk)) (k := ?_); refine zb ?_; refine zk ?_; refine zk ?_; (refine zm ?_; intro _); refine yn (zn (n := k)) (k := ?_); refine zd ?_) | (refine za (id := 5) ?_; refine zb ?_; refine z4 ?_; refine zb ?_; refine zb ?_; refine yv (zaB (hr := g1)) (k := ?_); refine zz ?_; refine zb ?_; refine yv (zl (B := natC k)) (k := ?_); refine yv (zi (hc := fun _ _ _ _ => (hz _))) (k := ?_); refine zz ?_) | fail)
        exact zZ () trivial Sub.nil SubR.nil
      · have gz : decide ((gsca z nl).1 = 0) = false := decide_eq_false hk0
        rw [gz] at hz
        have gm : decide (65536 < (mn : Int)) = true := decide_eq_true (by
          have : ¬ ml.length ≤ 65536 := fun h => hall ⟨hk, he, hk0, h⟩
          omega)
        generalize (gnum z pl).1 = x at *
        generalize (gsca z nl).1 = k at *
        generalize (gsca z nl).2 = e at *
        repeat' (first | refine zg ?_ | refine zf ?_ | refine zu rfl ?_ | refine zw rfl ?_ | refine zt ?_ | refine ze ?_ | refine zj ?_ | refine zdi ?_ | refine zbt ?_ | refine zcL ?_ | (refine za (id := 1) ?_; (refine zm ?_; intro _); (refine zm ?_; intro _)) | (refine za (id := 2) ?_; refine zd ?_) | (refine za (id := 3) ?_; refine zb ?_; refine zb ?_; refine yv (zi (f := 26) (hc := fun w' _ hk _ => hsec w' hk)) (k := ?_); refine zb ?_; refine zk ?_; refine zk ?_; (refine zm ?_; intro _); refine yn (zn (n := x)) (k := ?_); refine zd ?_) | (refine za (id := 4) ?_; refine zb ?_; refine zb ?_; refine yv (zi (f := 27) (hc := fun w' _ hk _ => hsc w' hk)) (k := ?_); refine zb ?_; refine zk ?_; refine zk ?_; (refine zm ?_; intro _); refine yn (zn (n := k)) (k := ?_); refine zd ?_) | (refine za (id := 5) ?_; refine zb ?_; refine z4 ?_; refine zb ?_; refine zb ?_; refine yv (zaB (hr := g1)) (k := ?_); refine zz ?_; refine zb ?_; refine yv (zl (B := natC k)) (k := ?_); refine yv (zi (hc := fun _ _ _ _ => (hz _))) (k := ?_); refine zz ?_) | (refine za (id := 6) ?_; refine zb ?_; refine zB ?_; refine yv (zac (hr := gm)) (k := ?_)) | fail)
        exact zZ () trivial Sub.nil SubR.nil
    · have g1 : decide ((gsca z nl).2 ≠ 0) = true := decide_eq_true he
      generalize (gnum z pl).1 = x at *
      generalize (gsca z nl).1 = k at *
      generalize (gsca z nl).2 = e at *
      repeat' (first | refine zg ?_ | refine zf ?_ | refine zu rfl ?_ | refine ze ?_ | refine zj ?_ | refine zdi ?_ | refine zbt ?_ | refine zcL ?_ | (refine za (id := 1) ?_; (refine zm ?_; intro _); (refine zm ?_; intro _)) | (refine za (id := 2) ?_; refine zd ?_) | (refine za (id := 3) ?_; refine zb ?_; refine zb ?_; refine yv (zi (f := 26) (hc := fun w' _ hk _ => hsec w' hk)) (k := ?_); refine zb ?_; refine zk ?_; refine zk ?_; (refine zm ?_; intro _); refine yn (zn (n := x)) (k := ?_); refine zd ?_) | (refine za (id := 4) ?_; refine zb ?_; refine zb ?_; refine yv (zi (f := 27) (hc := fun w' _ hk _ => hsc w' hk)) (k := ?_); refine zb ?_; refine zk ?_; refine zk ?_; (refine zm ?_; intro _); refine yn (zn (n := k)) (k := ?_); refine zd ?_) | (refine za (id := 5) ?_; refine zb ?_; refine z4 ?_; refine zb ?_; refine zb ?_; refine yv (zaB (hr := g1)) (k := ?_); refine zz ?_; refine zb ?_; refine zp rfl rfl rfl ?_; refine zp rfl rfl rfl ?_; refine zz ?_) | fail)
      exact zZ () trivial Sub.nil SubR.nil
end Go.Proofs.YtjidkoabdmjgkaaGreatDoor
end
