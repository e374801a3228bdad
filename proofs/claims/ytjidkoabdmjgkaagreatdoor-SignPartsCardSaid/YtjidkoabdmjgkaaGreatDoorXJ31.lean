/- The functions of layer group: bytes written and read, the scalar of bytes, all groups. -/
import Derived.Test.YtjidkoabdmjgkaaGreatDoorXJ30
set_option linter.all false
section
namespace Go.Nt
open Go Go.Sy
theorem zfw {i x : Nat} (h0 : 1 ≤ i) (h5 : i ≤ 4) (h : x < gP i) : nd 256 x ≤ gL i := by
  rw [← zfK i h0 h5]
  exact zam 256 x _ (by decide) (Nat.lt_trans h (zaf 256 (gP i) (by decide)))
theorem zbE {p q x : Nat} (h : memB p q x = true) : x < p := by
  unfold memB at h
  exact (of_decide_eq_true h).2.1
theorem zmO (i : Nat) : gQ i ≤ gP i := Nat.div_le_self _ _
theorem zjt (q X R d : Nat) : (X % q * R % q + d) % q = (X * R + d) % q := by
  rw [Nat.mod_mul_mod, Nat.mod_add_mod]
end Go.Nt
namespace Go.Proofs.YtjidkoabdmjgkaaGreatDoor
open Go Go.Sy Go.Nt Go.RowKit
attribute [local irreducible] Sy SyL SyX Sy.Fn callFunc natC rowN safeC gP gQ gL gS gCells memB
set_option maxRecDepth 10000
theorem zjw (i x f : Nat) (cond : Nat → Bool) (w : World) (h0 : 1 ≤ i) (h5 : i ≤ 4) (hG : GT w) (hx : x < 18446744073709551616 ^ 16) (hen : ∀ args w, (callFunc f args).run Tryz.prog w = .ok (.enter f args) w) (hf : ∀ w', Sy.Fn Tryz.prog f [safeV (gP i) (gQ i) (gL i), natV x] w' No (Gives (.bool (cond x)))) (hc : cond x = false) : Sy.Fn Tryz.prog 80 [.int .i64 (i : Int), natV x, .func (.func f) #[] #[]] w No (Gives (.tuple #[.slice none 0 0, .int .i64 3])) := by
  refine zq Tryz.func80 rfl Tryz.ntmps80 (by simp) Holds.nil ?_
  have lx := zg x
  have hW := zaH i h0 h5
  have hQW := zaE i h0 h5
  have hp1 := zap i h0 h5
  have hq0 := zak i h0 h5
  have hfi := fun w' (hk : Keep No w w') => zaK i w' h0 h5 (hG.to hk)
  generalize gP i = p at *
  generalize gQ i = q at *
  generalize gL i = l at *
  have lS := zG p q l
  have lp := zg p
  have lq := zg q
  have lz := zg 0
  have hsp := zaF p q l
  have hsq := zaG p q l
  have hsl := zaR p q l
  have hal := fun w' b' (h : w'.rangeAt b' 0 (rowN [x])) => all1c p q l f x b' cond w' hen hf h
  simp only [hc, Bool.false_eq_true, if_false] at hal
  repeat' (first | refine zh ?_ | refine zf ?_ | refine zw rfl ?_ | refine zt rfl ?_ | refine zr ?_ | refine zp ?_ | refine ze ?_ | refine zj ?_ | refine zy ?_ | (refine za (id := 0) ?_; (refine zm ?_; intro _); refine zd ?_; refine zd ?_) | (refine za (id := 1) ?_; refine zb ?_; refine yv (zi (f := 74) (hc := fun w' _ hk _ => hfi w' hk)) (k := ?_); refine zb ?_; refine zk ?_; refine zk ?_; (refine zm ?_; intro _); refine yn (zR (B := safeC p q l) (hv := z8 p q l) (h1 := (zG p q l).symm)) (k := ?_); refine zd ?_) | (refine za (id := 2) ?_; refine zb ?_; refine zW ?_) | (refine za (id := 4) ?_; refine yv (zl (B := safeC p q l)) (k := ?_); refine zb ?_; refine yv (zl (B := natC x)) (k := ?_)) | (refine za (id := 5) ?_; refine zb ?_; refine zW ?_) | (refine za (id := 6) ?_; refine zb ?_; refine zd ?_; refine zd ?_) | (refine ys (zao (x := x)) (k := ?_); rintro _ _ ⟨bb, rfl, rfl⟩) | (refine zT ?_; first | refine yv (zi (f := 82) (hc := fun w' X hk hh => hal w' _ (zL (hh.has (by exact Has.append Has.here)) Seg.all))) (k := ?_) | refine zd ?_ | fail) | fail)
  exact ret2 rfl (resTmp rfl) (resTmp rfl) SubR.nil ⟨rfl, rfl⟩
def FixG (i x : Nat) (v : Value) (R : List Res) : Prop := ∃ a c, v = .tuple #[.slice a (gL i) c, .int .i64 0] ∧ R = [.row (.slice a (gL i) c) 5 1 (gL i) ((fixB (gL i) x).map v8)]
theorem zgv (i x f : Nat) (cond : Nat → Bool) (w : World) (h0 : 1 ≤ i) (h5 : i ≤ 4) (hG : GT w) (hx : x < 18446744073709551616 ^ 16) (hen : ∀ args w, (callFunc f args).run Tryz.prog w = .ok (.enter f args) w) (hf : ∀ w', Sy.Fn Tryz.prog f [safeV (gP i) (gQ i) (gL i), natV x] w' No (Gives (.bool (cond x)))) (hc : cond x = true) (hlt : x < gP i) : Sy.Fn Tryz.prog 80 [.int .i64 (i : Int), natV x, .func (.func f) #[] #[]] w No (FixG i x) := by
  refine zq Tryz.func80 rfl Tryz.ntmps80 (by simp) Holds.nil ?_
  have lx := zg x
  have hnd := zfw h0 h5 hlt
  have hl96 := (zcO i h0 h5).2
  unfold FixG
  have hW := zaH i h0 h5
  have hQW := zaE i h0 h5
  have hp1 := zap i h0 h5
  have hq0 := zak i h0 h5
  have hfi := fun w' (hk : Keep No w w') => zaK i w' h0 h5 (hG.to hk)
  generalize gP i = p at *
  generalize gQ i = q at *
  generalize gL i = l at *
  have lS := zG p q l
  have lp := zg p
  have lq := zg q
  have lz := zg 0
  have hsp := zaF p q l
  have hsq := zaG p q l
  have hsl := zaR p q l
  have hal := fun w' b' (h : w'.rangeAt b' 0 (rowN [x])) => all1c p q l f x b' cond w' hen hf h
  simp only [hc, if_true] at hal
  have hfx := fun w' => zkS p q l x w' hx hnd (by omega)
  unfold RowOf at hfx
  generalize fixB l x = F at *
  repeat' (first | refine zh ?_ | refine zf ?_ | refine zt rfl ?_ | refine zr ?_ | refine zp ?_ | refine ze ?_ | refine zj ?_ | (refine za (id := 0) ?_; (refine zm ?_; intro _); refine zd ?_; refine zd ?_) | (refine za (id := 1) ?_; refine zb ?_; refine yv (zi (f := 74) (hc := fun w' _ hk _ => hfi w' hk)) (k := ?_); refine zb ?_; refine zk ?_; refine zk ?_; (refine zm ?_; intro _); refine yn (zR (B := safeC p q l) (hv := z8 p q l) (h1 := (zG p q l).symm)) (k := ?_); refine zd ?_) | (refine za (id := 2) ?_; refine zb ?_; refine zW ?_) | (refine za (id := 4) ?_; refine yv (zl (B := safeC p q l)) (k := ?_); refine zb ?_; refine yv (zl (B := natC x)) (k := ?_)) | (refine za (id := 5) ?_; refine zb ?_; refine zW ?_) | (refine za (id := 7) ?_; refine yv (zl (B := safeC p q l)) (k := ?_); refine yv (zl (B := natC x)) (k := ?_); (refine ys (zF (f := 115) (hc := fun w' X hk hh => hfx w')) (k := ?_); rintro _ _ ⟨R, rfl, aF, cF, rfl, rfl⟩); refine zd ?_; refine zd ?_) | (refine ys (zao (x := x)) (k := ?_); rintro _ _ ⟨bb, rfl, rfl⟩) | (refine zT ?_; first | refine yv (zi (f := 82) (hc := fun w' X hk hh => hal w' _ (zL (hh.has (by exact Has.append Has.here)) Seg.all))) (k := ?_) | refine zd ?_ | fail) | fail)
  exact ret2 rfl (resTmp rfl) (resTmp rfl) (by exact SubR.go2) ⟨_, _, rfl, rfl⟩
theorem zno (i x : Nat) (w : World) (h0 : 1 ≤ i) (h5 : i ≤ 4) (hG : GT w) (hx : x < 18446744073709551616 ^ 16) (hc : memB (gP i) (gQ i) x = false) : Sy.Fn Tryz.prog 31 [.int .i64 (i : Int), natV x] w No (Gives (.tuple #[.slice none 0 0, .int .i64 3])) := by
  refine zq Tryz.func31 rfl Tryz.ntmps31 (by simp) Holds.nil ?_
  have lx := zg x
  have hw := fun w' (hk : Keep No w w') => zjw i x 81 (memB (gP i) (gQ i)) w' h0 h5 (hG.to hk) hx (en rfl) (fun w'' => zba _ _ _ x w'' (zaH i h0 h5) (zaE i h0 h5) (by have := zap i h0 h5; omega) hx) hc
  repeat' (first | refine zh ?_ | refine zf ?_ | refine zp ?_ | refine ze ?_ | refine zj ?_ | (refine za (id := 0) ?_; (refine zm ?_; intro _); refine zd ?_; refine zd ?_) | (refine za (id := 1) ?_; refine zb ?_; refine yv (zl (B := natC x)) (k := ?_); refine yv (zi (f := 80) (hc := fun w' _ hk _ => hw w' hk)) (k := ?_); refine zk ?_; refine zk ?_; refine zd ?_; refine zd ?_) | fail)
  exact ret2 rfl (resTmp rfl) (resTmp rfl) SubR.nil ⟨rfl, rfl⟩
theorem zeJ (i x : Nat) (w : World) (h0 : 1 ≤ i) (h5 : i ≤ 4) (hG : GT w) (hx : x < 18446744073709551616 ^ 16) (hc : memB (gP i) (gQ i) x = true) : Sy.Fn Tryz.prog 31 [.int .i64 (i : Int), natV x] w No (FixG i x) := by
  refine zq Tryz.func31 rfl Tryz.ntmps31 (by simp) Holds.nil ?_
  have lx := zg x
  have hw := fun w' (hk : Keep No w w') => zgv i x 81 (memB (gP i) (gQ i)) w' h0 h5 (hG.to hk) hx (en rfl) (fun w'' => zba _ _ _ x w'' (zaH i h0 h5) (zaE i h0 h5) (by have := zap i h0 h5; omega) hx) hc (zbE hc)
  unfold FixG at *
  repeat' (first | refine zh ?_ | refine zf ?_ | refine zp ?_ | refine ze ?_ | refine zj ?_ | (refine za (id := 0) ?_; (refine zm ?_; intro _); refine zd ?_; refine zd ?_) | (refine za (id := 1) ?_; refine zb ?_; refine yv (zl (B := natC x)) (k := ?_); (refine ys (zF (f := 80) (hc := fun w' X hk hh => hw w' hk)) (k := ?_); rintro _ _ ⟨R, rfl, aF, cF, rfl, rfl⟩); refine zk ?_; refine zk ?_; refine zd ?_; refine zd ?_) | fail)
  exact ret2 rfl (resTmp rfl) (resTmp rfl) (by exact SubR.go2) ⟨_, _, rfl, rfl⟩
theorem zdW (i x : Nat) (w : World) (h0 : 1 ≤ i) (h5 : i ≤ 4) (hG : GT w) (hx : x < 18446744073709551616 ^ 16) (hc : decide (x < gQ i) = true) : Sy.Fn Tryz.prog 36 [.int .i64 (i : Int), natV x] w No (FixG i x) := by
  refine zq Tryz.func36 rfl Tryz.ntmps36 (by simp) Holds.nil ?_
  have lx := zg x
  have hw := fun w' (hk : Keep No w w') => zgv i x 83 (fun y => decide (y < gQ i)) w' h0 h5 (hG.to hk) hx (en rfl) (fun w'' => zby _ _ _ x w'' (zaE i h0 h5) hx) hc (Nat.lt_of_lt_of_le (of_decide_eq_true hc) (zmO i))
  unfold FixG at *
  repeat' (first | refine zh ?_ | refine zf ?_ | refine zp ?_ | refine ze ?_ | refine zj ?_ | (refine za (id := 0) ?_; (refine zm ?_; intro _); refine zd ?_; refine zd ?_) | (refine za (id := 1) ?_; refine zb ?_; refine yv (zl (B := natC x)) (k := ?_); (refine ys (zF (f := 80) (hc := fun w' X hk hh => hw w' hk)) (k := ?_); rintro _ _ ⟨R, rfl, aF, cF, rfl, rfl⟩); refine zk ?_; refine zk ?_; refine zd ?_; refine zd ?_) | fail)
  exact ret2 rfl (resTmp rfl) (resTmp rfl) (by exact SubR.go2) ⟨_, _, rfl, rfl⟩
theorem zgH (z : Int) (f : Nat) (a : Option Addr) (n c : Nat) (w : World) (hz : ¬ (1 ≤ z ∧ z ≤ 4)) : Sy.Fn Tryz.prog 92 [.int .i64 z, .slice a n c, .func (.func f) #[] #[]] w No (Gives (.tuple #[natV 0, .int .i64 2])) := by
  refine zq Tryz.func92 rfl Tryz.ntmps92 (by simp) Holds.nil ?_
  have lS := zG 0 0 0
  have lz := zg 0
  repeat' (first | refine zh ?_ | refine zf ?_ | refine zw rfl ?_ | refine zu ?_ | refine zp ?_ | refine ze ?_ | refine zj ?_ | refine zy ?_ | refine zad ?_ | (refine za (id := 0) ?_; (refine zm ?_; intro _); refine zd ?_) | (refine za (id := 1) ?_; refine zb ?_; refine yv (zi (hc := fun _ _ _ _ => (zdR z _ hz))) (k := ?_); refine zb ?_; refine zk ?_; refine zk ?_; (refine zm ?_; intro _); refine yn (zR (B := safeC 0 0 0) (hv := z8 0 0 0) (h1 := (zG 0 0 0).symm)) (k := ?_); refine zd ?_) | (refine za (id := 2) ?_; refine zb ?_; refine zW ?_; refine zd ?_) | (refine za (id := 3) ?_; refine yv zaY (k := ?_); refine zb ?_; refine yn (zn (n := 0)) (k := ?_); refine zd ?_) | fail)
  exact ret2 rfl (resCells (B := natC 0) rfl (ty rfl) rfl Has.go Seg.all (zg _).symm) (resTmp rfl) SubR.nil ⟨rfl, rfl⟩
theorem ze4 (i f : Nat) (a : Option Addr) (n c : Nat) (w : World) (h0 : 1 ≤ i) (h5 : i ≤ 4) (hG : GT w) (hn : n < gL i) : Sy.Fn Tryz.prog 92 [.int .i64 (i : Int), .slice a n c, .func (.func f) #[] #[]] w No (Gives (.tuple #[natV 0, .int .i64 4])) := by
  refine zq Tryz.func92 rfl Tryz.ntmps92 (by simp) Holds.nil ?_
  have hW := zaH i h0 h5
  have hQW := zaE i h0 h5
  have hp1 := zap i h0 h5
  have hq0 := zak i h0 h5
  have hfi := fun w' (hk : Keep No w w') => zaK i w' h0 h5 (hG.to hk)
  generalize gP i = p at *
  generalize gQ i = q at *
  generalize gL i = l at *
  have lS := zG p q l
  have lp := zg p
  have lq := zg q
  have lz := zg 0
  have hsp := zaF p q l
  have hsq := zaG p q l
  have hsl := zaR p q l
  have g1 : decide ((n : Int) < (l : Int)) = true := decide_eq_true (by omega)
  repeat' (first | refine zh ?_ | refine zf ?_ | refine zw rfl ?_ | refine zt rfl ?_ | refine zu ?_ | refine zp ?_ | refine ze ?_ | refine zj ?_ | refine zy ?_ | refine zad ?_ | (refine za (id := 0) ?_; (refine zm ?_; intro _); refine zd ?_) | (refine za (id := 1) ?_; refine zb ?_; refine yv (zi (f := 74) (hc := fun w' _ hk _ => hfi w' hk)) (k := ?_); refine zb ?_; refine zk ?_; refine zk ?_; (refine zm ?_; intro _); refine yn (zR (B := safeC p q l) (hv := z8 p q l) (h1 := (zG p q l).symm)) (k := ?_); refine zd ?_) | (refine za (id := 2) ?_; refine zb ?_; refine zW ?_; refine zd ?_) | (refine za (id := 4) ?_; refine zb ?_; refine zA ?_; refine zD ?_; refine yv (zP (hv := hsl)) (k := ?_); refine yv (zS (hr := g1)) (k := ?_); refine zd ?_) | (refine za (id := 5) ?_; refine yv zaY (k := ?_); refine yn (zn (n := 0)) (k := ?_); refine zd ?_) | fail)
  exact ret2 rfl (resCells (B := natC 0) rfl (ty rfl) rfl Has.go Seg.all (zg _).symm) (resTmp rfl) SubR.nil ⟨rfl, rfl⟩
theorem zfq (i f : Nat) (a : Option Addr) (n c : Nat) (w : World) (h0 : 1 ≤ i) (h5 : i ≤ 4) (hG : GT w) (hn : gL i < n) : Sy.Fn Tryz.prog 92 [.int .i64 (i : Int), .slice a n c, .func (.func f) #[] #[]] w No (Gives (.tuple #[natV 0, .int .i64 5])) := by
  refine zq Tryz.func92 rfl Tryz.ntmps92 (by simp) Holds.nil ?_
  have hW := zaH i h0 h5
  have hQW := zaE i h0 h5
  have hp1 := zap i h0 h5
  have hq0 := zak i h0 h5
  have hfi := fun w' (hk : Keep No w w') => zaK i w' h0 h5 (hG.to hk)
  generalize gP i = p at *
  generalize gQ i = q at *
  generalize gL i = l at *
  have lS := zG p q l
  have lp := zg p
  have lq := zg q
  have lz := zg 0
  have hsp := zaF p q l
  have hsq := zaG p q l
  have hsl := zaR p q l
  have g1 : decide ((n : Int) < (l : Int)) = false := decide_eq_false (by omega)
  have g2 : decide ((n : Int) > (l : Int)) = true := decide_eq_true (by omega)
  repeat' (first | refine zh ?_ | refine zf ?_ | refine zw rfl ?_ | refine zt rfl ?_ | refine zu ?_ | refine zp ?_ | refine ze ?_ | refine zj ?_ | refine zy ?_ | refine zad ?_ | (refine za (id := 0) ?_; (refine zm ?_; intro _); refine zd ?_) | (refine za (id := 1) ?_; refine zb ?_; refine yv (zi (f := 74) (hc := fun w' _ hk _ => hfi w' hk)) (k := ?_); refine zb ?_; refine zk ?_; refine zk ?_; (refine zm ?_; intro _); refine yn (zR (B := safeC p q l) (hv := z8 p q l) (h1 := (zG p q l).symm)) (k := ?_); refine zd ?_) | (refine za (id := 2) ?_; refine zb ?_; refine zW ?_; refine zd ?_) | (refine za (id := 4) ?_; refine zb ?_; refine zA ?_; refine zD ?_; refine yv (zP (hv := hsl)) (k := ?_); refine yv (zS (hr := g1)) (k := ?_); refine zd ?_) | (refine za (id := 6) ?_; refine zb ?_; refine zA ?_; refine zD ?_; refine yv (zP (hv := hsl)) (k := ?_); refine yv (zae (hr := g2)) (k := ?_); refine zd ?_) | (refine za (id := 7) ?_; refine yv zaY (k := ?_); refine yn (zn (n := 0)) (k := ?_); refine zd ?_) | fail)
  exact ret2 rfl (resCells (B := natC 0) rfl (ty rfl) rfl Has.go Seg.all (zg _).symm) (resTmp rfl) SubR.nil ⟨rfl, rfl⟩
theorem zhZ (i f : Nat) (cond : Nat → Bool) (a : Option Addr) (n c : Nat) (bl : List UInt8) (w : World) (h0 : 1 ≤ i) (h5 : i ≤ 4) (hG : GT w) (hn : n = gL i) (hl : bl.length = n) (hcap : n ≤ c) (hb : SlA w a (bl.map v8)) (hen : ∀ args w, (callFunc f args).run Tryz.prog w = .ok (.enter f args) w) (hf : ∀ x, x < 18446744073709551616 ^ 16 → ∀ w', Sy.Fn Tryz.prog f [safeV (gP i) (gQ i) (gL i), natV x] w' No (Gives (.bool (cond x)))) (hc : cond (bev 256 (bn bl)) = false) :
    Sy.Fn Tryz.prog 92 [.int .i64 (i : Int), .slice a n c, .func (.func f) #[] #[]] w No (Gives (.tuple #[natV 0, .int .i64 3])) := by
  refine zq Tryz.func92 rfl Tryz.ntmps92 (by simp) Holds.nil ?_
  have hl96 := (zcO i h0 h5).2
  have hW := zaH i h0 h5
  have hQW := zaE i h0 h5
  have hp1 := zap i h0 h5
  have hq0 := zak i h0 h5
  have hfi := fun w' (hk : Keep No w w') => zaK i w' h0 h5 (hG.to hk)
  generalize gP i = p at *
  generalize gQ i = q at *
  generalize gL i = l at *
  have lS := zG p q l
  have lp := zg p
  have lq := zg q
  have lz := zg 0
  have hsp := zaF p q l
  have hsq := zaG p q l
  have hsl := zaR p q l
  have hxW : bev 256 (bn bl) < 18446744073709551616 ^ 16 := by
    rw [zdt 256 8 128 rfl rfl]
    refine Nat.lt_of_lt_of_le (zcx 256 (bn bl) (zdK bl)) ?_
    rw [show (bn bl).length = bl.length from List.length_map _]
    exact Nat.pow_le_pow_right (by decide) (by omega)
  have hfb := fun w' (hk : Keep No w w') => za1 a n c bl w' hl hcap (hb.to hk (fun _ h => .inr h)).sla (by omega)
  rw [if_pos hxW] at hfb
  have hf := hf _ hxW
  have g1 : decide ((n : Int) < (l : Int)) = false := decide_eq_false (by omega)
  have g2 : decide ((n : Int) > (l : Int)) = false := decide_eq_false (by omega)
  generalize bev 256 (bn bl) = x at *
  have lx := zg x
  have hal := fun w' b' (h : w'.rangeAt b' 0 (rowN [x])) => all1c p q l f x b' cond w' hen hf h
  simp only [hc, Bool.false_eq_true, if_false] at hal
  repeat' (first | refine zh ?_ | refine zf ?_ | refine zw rfl ?_ | refine zt rfl ?_ | refine zu ?_ | refine zr ?_ | refine zp ?_ | refine ze ?_ | refine zj ?_ | refine zy ?_ | (refine za (id := 0) ?_; (refine zm ?_; intro _); refine zd ?_) | (refine za (id := 1) ?_; refine zb ?_; refine yv (zi (f := 74) (hc := fun w' _ hk _ => hfi w' hk)) (k := ?_); refine zb ?_; refine zk ?_; refine zk ?_; (refine zm ?_; intro _); refine yn (zR (B := safeC p q l) (hv := z8 p q l) (h1 := (zG p q l).symm)) (k := ?_); refine zd ?_) | (refine za (id := 2) ?_; refine zb ?_; refine zW ?_; refine zd ?_) | (refine za (id := 4) ?_; refine zb ?_; refine zA ?_; refine zD ?_; refine yv (zP (hv := hsl)) (k := ?_); refine yv (zS (hr := g1)) (k := ?_); refine zd ?_) | (refine za (id := 6) ?_; refine zb ?_; refine zA ?_; refine zD ?_; refine yv (zP (hv := hsl)) (k := ?_); refine yv (zae (hr := g2)) (k := ?_); refine zd ?_) | (refine za (id := 8) ?_; refine zb ?_; refine yv (zi (f := 68) (hc := fun w' _ hk _ => hfb w' hk)) (k := ?_); refine zb ?_; refine zk ?_; refine zk ?_; (refine zm ?_; intro _); refine yn (zn (n := x)) (k := ?_); refine zd ?_) | (refine za (id := 9) ?_; refine yv (zl (B := safeC p q l)) (k := ?_); refine zb ?_; refine yv (zl (B := natC x)) (k := ?_)) | (refine za (id := 10) ?_; refine zb ?_; refine zW ?_) | (refine za (id := 11) ?_; refine yv zaY (k := ?_); refine zb ?_; refine yn (zn (n := 0)) (k := ?_); refine zd ?_) | (refine ys (zao (x := x)) (k := ?_); rintro _ _ ⟨bb, rfl, rfl⟩) | (refine zT ?_; first | refine yv (zi (f := 82) (hc := fun w' X hk hh => hal w' _ (zL (hh.has (by exact Has.append Has.here)) Seg.all))) (k := ?_) | refine zd ?_ | fail) | fail)
  exact ret2 rfl (resCells (B := natC 0) rfl (ty rfl) rfl Has.go Seg.all (zg _).symm) (resTmp rfl) SubR.nil ⟨rfl, rfl⟩
theorem zho (i f : Nat) (cond : Nat → Bool) (a : Option Addr) (n c : Nat) (bl : List UInt8) (w : World) (h0 : 1 ≤ i) (h5 : i ≤ 4) (hG : GT w) (hn : n = gL i) (hl : bl.length = n) (hcap : n ≤ c) (hb : SlA w a (bl.map v8)) (hen : ∀ args w, (callFunc f args).run Tryz.prog w = .ok (.enter f args) w) (hf : ∀ x, x < 18446744073709551616 ^ 16 → ∀ w', Sy.Fn Tryz.prog f [safeV (gP i) (gQ i) (gL i), natV x] w' No (Gives (.bool (cond x)))) (hc : cond (bev 256 (bn bl)) = true) :
    Sy.Fn Tryz.prog 92 [.int .i64 (i : Int), .slice a n c, .func (.func f) #[] #[]] w No (Gives (.tuple #[natV (bev 256 (bn bl)), .int .i64 0])) := by
  refine zq Tryz.func92 rfl Tryz.ntmps92 (by simp) Holds.nil ?_
  have hl96 := (zcO i h0 h5).2
  have hW := zaH i h0 h5
  have hQW := zaE i h0 h5
  have hp1 := zap i h0 h5
  have hq0 := zak i h0 h5
  have hfi := fun w' (hk : Keep No w w') => zaK i w' h0 h5 (hG.to hk)
  generalize gP i = p at *
  generalize gQ i = q at *
  generalize gL i = l at *
  have lS := zG p q l
  have lp := zg p
  have lq := zg q
  have lz := zg 0
  have hsp := zaF p q l
  have hsq := zaG p q l
  have hsl := zaR p q l
  have hxW : bev 256 (bn bl) < 18446744073709551616 ^ 16 := by
    rw [zdt 256 8 128 rfl rfl]
    refine Nat.lt_of_lt_of_le (zcx 256 (bn bl) (zdK bl)) ?_
    rw [show (bn bl).length = bl.length from List.length_map _]
    exact Nat.pow_le_pow_right (by decide) (by omega)
  have hfb := fun w' (hk : Keep No w w') => za1 a n c bl w' hl hcap (hb.to hk (fun _ h => .inr h)).sla (by omega)
  rw [if_pos hxW] at hfb
  have hf := hf _ hxW
  have g1 : decide ((n : Int) < (l : Int)) = false := decide_eq_false (by omega)
  have g2 : decide ((n : Int) > (l : Int)) = false := decide_eq_false (by omega)
  generalize bev 256 (bn bl) = x at *
  have lx := zg x
  have hal := fun w' b' (h : w'.rangeAt b' 0 (rowN [x])) => all1c p q l f x b' cond w' hen hf h
  simp only [hc, if_true] at hal
  repeat' (first | refine zh ?_ | refine zf ?_ | refine zt rfl ?_ | refine zu ?_ | refine zr ?_ | refine zp ?_ | refine ze ?_ | refine zj ?_ | (refine za (id := 0) ?_; (refine zm ?_; intro _); refine zd ?_) | (refine za (id := 1) ?_; refine zb ?_; refine yv (zi (f := 74) (hc := fun w' _ hk _ => hfi w' hk)) (k := ?_); refine zb ?_; refine zk ?_; refine zk ?_; (refine zm ?_; intro _); refine yn (zR (B := safeC p q l) (hv := z8 p q l) (h1 := (zG p q l).symm)) (k := ?_); refine zd ?_) | (refine za (id := 2) ?_; refine zb ?_; refine zW ?_; refine zd ?_) | (refine za (id := 4) ?_; refine zb ?_; refine zA ?_; refine zD ?_; refine yv (zP (hv := hsl)) (k := ?_); refine yv (zS (hr := g1)) (k := ?_); refine zd ?_) | (refine za (id := 6) ?_; refine zb ?_; refine zA ?_; refine zD ?_; refine yv (zP (hv := hsl)) (k := ?_); refine yv (zae (hr := g2)) (k := ?_); refine zd ?_) | (refine za (id := 8) ?_; refine zb ?_; refine yv (zi (f := 68) (hc := fun w' _ hk _ => hfb w' hk)) (k := ?_); refine zb ?_; refine zk ?_; refine zk ?_; (refine zm ?_; intro _); refine yn (zn (n := x)) (k := ?_); refine zd ?_) | (refine za (id := 9) ?_; refine yv (zl (B := safeC p q l)) (k := ?_); refine zb ?_; refine yv (zl (B := natC x)) (k := ?_)) | (refine za (id := 10) ?_; refine zb ?_; refine zW ?_) | (refine za (id := 12) ?_; refine yv (zl (B := natC x)) (k := ?_); refine yn (zn (n := x)) (k := ?_); refine zd ?_) | (refine ys (zao (x := x)) (k := ?_); rintro _ _ ⟨bb, rfl, rfl⟩) | (refine zT ?_; first | refine yv (zi (f := 82) (hc := fun w' X hk hh => hal w' _ (zL (hh.has (by exact Has.append Has.here)) Seg.all))) (k := ?_) | refine zd ?_ | fail) | fail)
  exact ret2 rfl (resCells (B := natC x) rfl (ty rfl) rfl Has.go Seg.all (zg _).symm) (resTmp rfl) SubR.nil ⟨rfl, rfl⟩
theorem zg6 (z : Int) (a : Option Addr) (n c : Nat) (w : World) (hz : ¬ (1 ≤ z ∧ z ≤ 4)) : Sy.Fn Tryz.prog 45 [.int .i64 z, .slice a n c] w No (Gives (.tuple #[natV 0, .int .i64 2])) := by
  refine zq Tryz.func45 rfl Tryz.ntmps45 (by simp) Holds.nil ?_
  have hw := fun w' (_ : Keep No w w') => zgH z 81 a n c w' hz
  have lx := zg 0
  repeat' (first | refine zh ?_ | refine zf ?_ | refine zp ?_ | refine ze ?_ | refine zj ?_ | (refine za (id := 0) ?_; (refine zm ?_; intro _); refine zd ?_) | (refine za (id := 1) ?_; refine zb ?_; refine zb ?_; refine yv (zi (f := 92) (hc := fun w' _ hk _ => hw w' hk)) (k := ?_); refine zk ?_; refine zk ?_; refine yn (zn (n := 0)) (k := ?_); refine zd ?_) | fail)
  exact ret2 rfl (resCells (B := natC 0) rfl (ty rfl) rfl Has.go Seg.all (zg _).symm) (resTmp rfl) SubR.nil ⟨rfl, rfl⟩
theorem zfY (i : Nat) (a : Option Addr) (n c : Nat) (w : World) (h0 : 1 ≤ i) (h5 : i ≤ 4) (hG : GT w) (hn : n < gL i) : Sy.Fn Tryz.prog 45 [.int .i64 (i : Int), .slice a n c] w No (Gives (.tuple #[natV 0, .int .i64 4])) := by
  refine zq Tryz.func45 rfl Tryz.ntmps45 (by simp) Holds.nil ?_
  have hw := fun w' (hk : Keep No w w') => ze4 i 81 a n c w' h0 h5 (hG.to hk) hn
  have lx := zg 0
  repeat' (first | refine zh ?_ | refine zf ?_ | refine zp ?_ | refine ze ?_ | refine zj ?_ | (refine za (id := 0) ?_; (refine zm ?_; intro _); refine zd ?_) | (refine za (id := 1) ?_; refine zb ?_; refine zb ?_; refine yv (zi (f := 92) (hc := fun w' _ hk _ => hw w' hk)) (k := ?_); refine zk ?_; refine zk ?_; refine yn (zn (n := 0)) (k := ?_); refine zd ?_) | fail)
  exact ret2 rfl (resCells (B := natC 0) rfl (ty rfl) rfl Has.go Seg.all (zg _).symm) (resTmp rfl) SubR.nil ⟨rfl, rfl⟩
theorem zgM (i : Nat) (a : Option Addr) (n c : Nat) (w : World) (h0 : 1 ≤ i) (h5 : i ≤ 4) (hG : GT w) (hn : gL i < n) : Sy.Fn Tryz.prog 45 [.int .i64 (i : Int), .slice a n c] w No (Gives (.tuple #[natV 0, .int .i64 5])) := by
  refine zq Tryz.func45 rfl Tryz.ntmps45 (by simp) Holds.nil ?_
  have hw := fun w' (hk : Keep No w w') => zfq i 81 a n c w' h0 h5 (hG.to hk) hn
  have lx := zg 0
  repeat' (first | refine zh ?_ | refine zf ?_ | refine zp ?_ | refine ze ?_ | refine zj ?_ | (refine za (id := 0) ?_; (refine zm ?_; intro _); refine zd ?_) | (refine za (id := 1) ?_; refine zb ?_; refine zb ?_; refine yv (zi (f := 92) (hc := fun w' _ hk _ => hw w' hk)) (k := ?_); refine zk ?_; refine zk ?_; refine yn (zn (n := 0)) (k := ?_); refine zd ?_) | fail)
  exact ret2 rfl (resCells (B := natC 0) rfl (ty rfl) rfl Has.go Seg.all (zg _).symm) (resTmp rfl) SubR.nil ⟨rfl, rfl⟩
theorem zh5 (i : Nat) (a : Option Addr) (n c : Nat) (bl : List UInt8) (w : World) (h0 : 1 ≤ i) (h5 : i ≤ 4) (hG : GT w) (hn : n = gL i) (hl : bl.length = n) (hcap : n ≤ c) (hb : SlA w a (bl.map v8)) (hc : memB (gP i) (gQ i) (bev 256 (bn bl)) = false) : Sy.Fn Tryz.prog 45 [.int .i64 (i : Int), .slice a n c] w No (Gives (.tuple #[natV 0, .int .i64 3])) := by
  refine zq Tryz.func45 rfl Tryz.ntmps45 (by simp) Holds.nil ?_
  have hw := fun w' (hk : Keep No w w') => zhZ i 81 (memB (gP i) (gQ i)) a n c bl w' h0 h5 (hG.to hk) hn hl hcap (hb.to hk (fun _ h => .inr h)).sla (en rfl) (fun x hx w'' => zba _ _ _ x w'' (zaH i h0 h5) (zaE i h0 h5) (by have := zap i h0 h5; omega) hx) hc
  have lx := zg 0
  repeat' (first | refine zh ?_ | refine zf ?_ | refine zp ?_ | refine ze ?_ | refine zj ?_ | (refine za (id := 0) ?_; (refine zm ?_; intro _); refine zd ?_) | (refine za (id := 1) ?_; refine zb ?_; refine zb ?_; refine yv (zi (f := 92) (hc := fun w' _ hk _ => hw w' hk)) (k := ?_); refine zk ?_; refine zk ?_; refine yn (zn (n := 0)) (k := ?_); refine zd ?_) | fail)
  exact ret2 rfl (resCells (B := natC 0) rfl (ty rfl) rfl Has.go Seg.all (zg _).symm) (resTmp rfl) SubR.nil ⟨rfl, rfl⟩
theorem zia (i : Nat) (a : Option Addr) (n c : Nat) (bl : List UInt8) (w : World) (h0 : 1 ≤ i) (h5 : i ≤ 4) (hG : GT w) (hn : n = gL i) (hl : bl.length = n) (hcap : n ≤ c) (hb : SlA w a (bl.map v8)) (hc : memB (gP i) (gQ i) (bev 256 (bn bl)) = true) : Sy.Fn Tryz.prog 45 [.int .i64 (i : Int), .slice a n c] w No (Gives (.tuple #[natV (bev 256 (bn bl)), .int .i64 0])) := by
  refine zq Tryz.func45 rfl Tryz.ntmps45 (by simp) Holds.nil ?_
  have hw := fun w' (hk : Keep No w w') => zho i 81 (memB (gP i) (gQ i)) a n c bl w' h0 h5 (hG.to hk) hn hl hcap (hb.to hk (fun _ h => .inr h)).sla (en rfl) (fun x hx w'' => zba _ _ _ x w'' (zaH i h0 h5) (zaE i h0 h5) (by have := zap i h0 h5; omega) hx) hc
  have lx := zg (bev 256 (bn bl))
  generalize bev 256 (bn bl) = x at *
  repeat' (first | refine zh ?_ | refine zf ?_ | refine zp ?_ | refine ze ?_ | refine zj ?_ | (refine za (id := 0) ?_; (refine zm ?_; intro _); refine zd ?_) | (refine za (id := 1) ?_; refine zb ?_; refine zb ?_; refine yv (zi (f := 92) (hc := fun w' _ hk _ => hw w' hk)) (k := ?_); refine zk ?_; refine zk ?_; refine yn (zn (n := x)) (k := ?_); refine zd ?_) | fail)
  exact ret2 rfl (resCells (B := natC x) rfl (ty rfl) rfl Has.go Seg.all (zg _).symm) (resTmp rfl) SubR.nil ⟨rfl, rfl⟩
theorem zid (z : Int) (a : Option Addr) (n c : Nat) (w : World) (hz : ¬ (1 ≤ z ∧ z ≤ 4)) : Sy.Fn Tryz.prog 73 [.int .i64 z, .slice a n c] w No (Gives (.tuple #[natV 0, .int .i64 2])) := by
  refine zq Tryz.func73 rfl Tryz.ntmps73 (by simp) Holds.nil ?_
  have hw := fun w' (_ : Keep No w w') => zgH z 83 a n c w' hz
  have lx := zg 0
  repeat' (first | refine zh ?_ | refine zf ?_ | refine zp ?_ | refine ze ?_ | refine zj ?_ | (refine za (id := 0) ?_; (refine zm ?_; intro _); refine zd ?_) | (refine za (id := 1) ?_; refine zb ?_; refine zb ?_; refine yv (zi (f := 92) (hc := fun w' _ hk _ => hw w' hk)) (k := ?_); refine zk ?_; refine zk ?_; refine yn (zn (n := 0)) (k := ?_); refine zd ?_) | fail)
  exact ret2 rfl (resCells (B := natC 0) rfl (ty rfl) rfl Has.go Seg.all (zg _).symm) (resTmp rfl) SubR.nil ⟨rfl, rfl⟩
theorem zgO (i : Nat) (a : Option Addr) (n c : Nat) (w : World) (h0 : 1 ≤ i) (h5 : i ≤ 4) (hG : GT w) (hn : n < gL i) : Sy.Fn Tryz.prog 73 [.int .i64 (i : Int), .slice a n c] w No (Gives (.tuple #[natV 0, .int .i64 4])) := by
  refine zq Tryz.func73 rfl Tryz.ntmps73 (by simp) Holds.nil ?_
  have hw := fun w' (hk : Keep No w w') => ze4 i 83 a n c w' h0 h5 (hG.to hk) hn
  have lx := zg 0
  repeat' (first | refine zh ?_ | refine zf ?_ | refine zp ?_ | refine ze ?_ | refine zj ?_ | (refine za (id := 0) ?_; (refine zm ?_; intro _); refine zd ?_) | (refine za (id := 1) ?_; refine zb ?_; refine zb ?_; refine yv (zi (f := 92) (hc := fun w' _ hk _ => hw w' hk)) (k := ?_); refine zk ?_; refine zk ?_; refine yn (zn (n := 0)) (k := ?_); refine zd ?_) | fail)
  exact ret2 rfl (resCells (B := natC 0) rfl (ty rfl) rfl Has.go Seg.all (zg _).symm) (resTmp rfl) SubR.nil ⟨rfl, rfl⟩
theorem zhR (i : Nat) (a : Option Addr) (n c : Nat) (w : World) (h0 : 1 ≤ i) (h5 : i ≤ 4) (hG : GT w) (hn : gL i < n) : Sy.Fn Tryz.prog 73 [.int .i64 (i : Int), .slice a n c] w No (Gives (.tuple #[natV 0, .int .i64 5])) := by
  refine zq Tryz.func73 rfl Tryz.ntmps73 (by simp) Holds.nil ?_
  have hw := fun w' (hk : Keep No w w') => zfq i 83 a n c w' h0 h5 (hG.to hk) hn
  have lx := zg 0
  repeat' (first | refine zh ?_ | refine zf ?_ | refine zp ?_ | refine ze ?_ | refine zj ?_ | (refine za (id := 0) ?_; (refine zm ?_; intro _); refine zd ?_) | (refine za (id := 1) ?_; refine zb ?_; refine zb ?_; refine yv (zi (f := 92) (hc := fun w' _ hk _ => hw w' hk)) (k := ?_); refine zk ?_; refine zk ?_; refine yn (zn (n := 0)) (k := ?_); refine zd ?_) | fail)
  exact ret2 rfl (resCells (B := natC 0) rfl (ty rfl) rfl Has.go Seg.all (zg _).symm) (resTmp rfl) SubR.nil ⟨rfl, rfl⟩
theorem zjj (i : Nat) (a : Option Addr) (n c : Nat) (bl : List UInt8) (w : World) (h0 : 1 ≤ i) (h5 : i ≤ 4) (hG : GT w) (hn : n = gL i) (hl : bl.length = n) (hcap : n ≤ c) (hb : SlA w a (bl.map v8)) (hc : decide (bev 256 (bn bl) < gQ i) = false) : Sy.Fn Tryz.prog 73 [.int .i64 (i : Int), .slice a n c] w No (Gives (.tuple #[natV 0, .int .i64 3])) := by
  refine zq Tryz.func73 rfl Tryz.ntmps73 (by simp) Holds.nil ?_
  have hw := fun w' (hk : Keep No w w') => zhZ i 83 (fun y => decide (y < gQ i)) a n c bl w' h0 h5 (hG.to hk) hn hl hcap (hb.to hk (fun _ h => .inr h)).sla (en rfl) (fun x hx w'' => zby _ _ _ x w'' (zaE i h0 h5) hx) hc
  have lx := zg 0
  repeat' (first | refine zh ?_ | refine zf ?_ | refine zp ?_ | refine ze ?_ | refine zj ?_ | (refine za (id := 0) ?_; (refine zm ?_; intro _); refine zd ?_) | (refine za (id := 1) ?_; refine zb ?_; refine zb ?_; refine yv (zi (f := 92) (hc := fun w' _ hk _ => hw w' hk)) (k := ?_); refine zk ?_; refine zk ?_; refine yn (zn (n := 0)) (k := ?_); refine zd ?_) | fail)
  exact ret2 rfl (resCells (B := natC 0) rfl (ty rfl) rfl Has.go Seg.all (zg _).symm) (resTmp rfl) SubR.nil ⟨rfl, rfl⟩
theorem zjk (i : Nat) (a : Option Addr) (n c : Nat) (bl : List UInt8) (w : World) (h0 : 1 ≤ i) (h5 : i ≤ 4) (hG : GT w) (hn : n = gL i) (hl : bl.length = n) (hcap : n ≤ c) (hb : SlA w a (bl.map v8)) (hc : decide (bev 256 (bn bl) < gQ i) = true) : Sy.Fn Tryz.prog 73 [.int .i64 (i : Int), .slice a n c] w No (Gives (.tuple #[natV (bev 256 (bn bl)), .int .i64 0])) := by
  refine zq Tryz.func73 rfl Tryz.ntmps73 (by simp) Holds.nil ?_
  have hw := fun w' (hk : Keep No w w') => zho i 83 (fun y => decide (y < gQ i)) a n c bl w' h0 h5 (hG.to hk) hn hl hcap (hb.to hk (fun _ h => .inr h)).sla (en rfl) (fun x hx w'' => zby _ _ _ x w'' (zaE i h0 h5) hx) hc
  have lx := zg (bev 256 (bn bl))
  generalize bev 256 (bn bl) = x at *
  repeat' (first | refine zh ?_ | refine zf ?_ | refine zp ?_ | refine ze ?_ | refine zj ?_ | (refine za (id := 0) ?_; (refine zm ?_; intro _); refine zd ?_) | (refine za (id := 1) ?_; refine zb ?_; refine zb ?_; refine yv (zi (f := 92) (hc := fun w' _ hk _ => hw w' hk)) (k := ?_); refine zk ?_; refine zk ?_; refine yn (zn (n := x)) (k := ?_); refine zd ?_) | fail)
  exact ret2 rfl (resCells (B := natC x) rfl (ty rfl) rfl Has.go Seg.all (zg _).symm) (resTmp rfl) SubR.nil ⟨rfl, rfl⟩
theorem zh8 (z : Int) (a : Option Addr) (n c : Nat) (w : World) (hz : ¬ (1 ≤ z ∧ z ≤ 4)) : Sy.Fn Tryz.prog 27 [.int .i64 z, .slice a n c] w No (Gives (.tuple #[natV 0, .int .i64 2])) := by
  refine zq Tryz.func27 rfl Tryz.ntmps27 (by simp) Holds.nil ?_
  have lz := zg 0
  have lS := zG 0 0 0
  have hsp := zaF 0 0 0
  have hsq := zaG 0 0 0
  repeat' (first | refine zh ?_ | refine zf ?_ | refine zw rfl ?_ | refine zp ?_ | refine ze ?_ | refine zj ?_ | refine zy ?_ | (refine za (id := 0) ?_; (refine zm ?_; intro _); refine zd ?_) | (refine za (id := 1) ?_; refine zb ?_; refine yv (zi (hc := fun _ _ _ _ => (zdR z _ hz))) (k := ?_); refine zb ?_; refine zk ?_; refine zk ?_; (refine zm ?_; intro _); refine yn (zR (B := safeC 0 0 0) (hv := z8 0 0 0) (h1 := (zG 0 0 0).symm)) (k := ?_); refine zd ?_) | (refine za (id := 2) ?_; refine zb ?_; refine zW ?_) | (refine za (id := 3) ?_; refine yv zaY (k := ?_); refine zb ?_; refine yn (zn (n := 0)) (k := ?_); refine zd ?_) | fail)
  exact ret2 rfl (resCells (B := natC 0) rfl (ty rfl) rfl Has.go Seg.all (zg _).symm) (resTmp rfl) SubR.nil ⟨rfl, rfl⟩
set_option maxHeartbeats 1000000 in
theorem zfN (i : Nat) (a : Option Addr) (n c : Nat) (bl : List UInt8) (w : World) (h0 : 1 ≤ i) (h5 : i ≤ 4) (hG : GT w) (hl : bl.length = n) (hcap : n ≤ c) (hc2 : n < 1000000) (hb : SlA w a (bl.map v8)) :
    Sy.Fn Tryz.prog 27 [.int .i64 (i : Int), .slice a n c] w No (Gives (.tuple #[natV (bev 256 (bn bl) % gQ i), .int .i64 0])) := by
  refine zq Tryz.func27 rfl Tryz.ntmps27 (by simp) Holds.nil ?_
  have hW := zaH i h0 h5
  have hQW := zaE i h0 h5
  have hp1 := zap i h0 h5
  have hq0 := zak i h0 h5
  have hfi := fun w' (hk : Keep No w w') => zaK i w' h0 h5 (hG.to hk)
  generalize gP i = p at *
  generalize gQ i = q at *
  generalize gL i = l at *
  have lS := zG p q l
  have lp := zg p
  have lq := zg q
  have lz := zg 0
  have hsp := zaF p q l
  have hsq := zaG p q l
  have hsl := zaR p q l
  have hq00 : 0 < q := by omega
  have hRW : 256 ^ 32 < 18446744073709551616 ^ 16 := by
    rw [zdt 256 8 128 rfl rfl]; exact Nat.pow_lt_pow_right (by decide) (by decide)
  have hrad := fun w' aR cR (h : SlA w' aR ((1 :: List.replicate 32 0 : List UInt8).map v8)) (hc : 32 + 1 ≤ cR) => za1 aR (32 + 1) cR (1 :: List.replicate 32 0) w' (by simp) hc h (by omega)
  rw [zgl, if_pos hRW] at hrad
  have hys : [Value.int IntKind.u8 1] ++ List.replicate 32 (Value.int IntKind.u8 0) = (1 :: List.replicate 32 0 : List UInt8).map v8 := by
    rw [List.map_cons, List.map_replicate]; rfl
  have lr := zg (256 ^ 32)
  generalize hrd : 256 ^ 32 = rad at *
  obtain ⟨f, hf⟩ : ∃ f, f = n % 32 := ⟨_, rfl⟩
  have hf32 : f < 32 := by rw [hf]; exact Nat.mod_lt _ (by decide)
  have hfn : f ≤ n := by rw [hf]; exact Nat.mod_le _ _
  obtain ⟨k, hk⟩ : ∃ k, n = f + 32 * k := ⟨n / 32, by rw [hf]; have := Nat.div_add_mod n 32; omega⟩
  have hrem : (n : Int).tmod 32 = ((f : Nat) : Int) := by rw [hf]; exact remI n 32
  have chunkW : ∀ D : List UInt8, D.length ≤ 32 → bev 256 (bn D) < 18446744073709551616 ^ 16 := fun D hD => by
    rw [zdt 256 8 128 rfl rfl]
    refine Nat.lt_of_lt_of_le (zcx 256 (bn D) (zdK D)) ?_
    rw [show (bn D).length = D.length from List.length_map _]
    exact Nat.pow_le_pow_right (by decide) (by omega)
  have hf0 := fun w' (hk : Keep No w w') => za1 a f f (bl.take f) w' (by rw [List.length_take]; omega) (Nat.le_refl _) (by rw [List.map_take]; exact ((hb.to hk (fun _ h => .inr h)).sla).take _) (by omega)
  rw [if_pos (chunkW (bl.take f) (by rw [List.length_take]; omega))] at hf0
  have hd0W := chunkW (bl.take f) (by rw [List.length_take]; omega)
  have hrd0 := fun w' => zkw (bev 256 (bn (bl.take f))) q w' hd0W hQW
  unfold modR at hrd0
  simp only [if_neg (show ¬ q = 0 by omega)] at hrd0
  have ld0 := zg (bev 256 (bn (bl.take f)))
  have lr0 := zg (bev 256 (bn (bl.take f)) % q)
  clear hf
  repeat' (first | refine zh ?_ | refine zf ?_ | refine zt rfl ?_ | refine zr ?_ | refine ze ?_ | refine zj ?_ | (refine za (id := 0) ?_; (refine zm ?_; intro _); refine zd ?_) | (refine za (id := 1) ?_; refine zb ?_; refine yv (zi (f := 74) (hc := fun w' _ hk _ => hfi w' hk)) (k := ?_); refine zb ?_; refine zk ?_; refine zk ?_; (refine zm ?_; intro _); refine yn (zR (B := safeC p q l) (hv := z8 p q l) (h1 := (zG p q l).symm)) (k := ?_); refine zd ?_) | (refine za (id := 2) ?_; refine zb ?_; refine zW ?_) | (refine za (id := 4) ?_; (refine ys zJ (k := ?_); rintro _ _ ⟨_, rfl, rfl⟩); (refine ys (OpT.conv (zcd (n := 1) (s := 1) (by repeat (first | exact Rem.here | apply Rem.there)) rfl (by unfold maxLen; omega)) (zfF (k := 1) (m := 32) (km := 32 + 1) (hm := rfl) (hL := Rem.here) (hkm := rfl) (hys := hys))) (k := ?_); rintro _ _ ⟨rfl, aR, cR, rfl⟩); refine yv (zi (f := 68) (hc := fun w' _ _ hh => hrad w' _ _ (z9 hh (by exact Has.append Has.go)) (Row.cap (n := 32 + 1) hh (by exact Has.append Has.go)))) (k := ?_); refine zb ?_; refine zk ?_; refine zk ?_; (refine zm ?_; intro _); refine yn (zn (n := rad)) (k := ?_); refine zd ?_) | (refine za (id := 5) ?_; refine zb ?_; refine zA ?_; refine yv (za2 (hr := hrem)) (k := ?_); refine zd ?_) | fail)
  rename_i b4 b6 wx b8
  refine Sy.weaken (fr' := [(1, .slice a n c), (4, .pointer (some ⟨b4, 0, none⟩)), (6, .pointer (some ⟨b6, 0, none⟩)), (8, .pointer (some ⟨b8, 0, none⟩)), (10, .int .i64 f)]) (L' := [.blk b8 43 (natC rad), .blk b6 88 (safeC p q l), .blk b4 43 (List.replicate 16 (Value.int IntKind.u64 0))]) ?_ (by exact Sub.go) (by exact SubR.go2)
  clear hrad hys hfi
  generalize hD0 : bev 256 (bn (bl.take f)) = d0 at *
  generalize hr0 : d0 % q = r0 at *
  repeat' (first | refine zh ?_ | refine zf ?_ | refine zu ?_ | refine ze ?_ | refine zj ?_ | (refine za (id := 6) ?_; refine zb ?_; refine zb ?_; refine zb ?_; refine yv (zaL (l := 0) (h := f) (m := f) (n' := f) (c' := f)) (k := ?_); refine yv (zi (f := 68) (hc := fun w' _ hk _ => hf0 w' hk)) (k := ?_); refine zb ?_; refine zk ?_; refine zk ?_; (refine zm ?_; intro _); refine yn (zn (n := d0)) (k := ?_); refine zd ?_) | (refine za (id := 7) ?_; refine yv (zl (B := natC d0)) (k := ?_); refine zD ?_; refine yv (zl (B := natC q) (hv := hsq)) (k := ?_); refine yv (zi (hc := fun _ _ _ _ => (hrd0 _))) (k := ?_); refine zb ?_; refine zk ?_; refine zk ?_; refine yn (zn (n := r0)) (k := ?_)) | (refine za (id := 8) ?_; refine zb ?_; refine zd ?_) | fail)
  rename_i b11
  refine zQ (γ := Nat) (fun j => [(1, .slice a n c), (4, .pointer (some ⟨b4, 0, none⟩)), (6, .pointer (some ⟨b6, 0, none⟩)), (8, .pointer (some ⟨b8, 0, none⟩)), (11, .pointer (some ⟨b11, 0, none⟩)), (13, .int .i64 ((f + 32 * j : Nat) : Int))])
    (fun j => [.blk b11 43 (natC (bev 256 (bn (bl.take (f + 32 * j))) % q)), .blk b8 43 (natC rad), .blk b6 88 (safeC p q l), .blk b4 43 (List.replicate 16 (Value.int IntKind.u64 0))])
    (fun j => j ≤ k) (fun j => k - j) 0 (Nat.zero_le _) ?_ ?_ ?_
  · exact Sub.go
  · show SubR [.blk b11 43 (natC (bev 256 (bn (bl.take f)) % q)), .blk b8 43 (natC rad), .blk b6 88 (safeC p q l), .blk b4 43 (List.replicate 16 (Value.int IntKind.u64 0))] _
    rw [hD0, hr0]
    exact SubR.go2
  clear hf0 hrd0 ld0 lr0 hd0W
  intro j hj
  rcases Nat.lt_or_ge j k with h | h
  · have hlt : decide (((f + 32 * j : Nat) : Int) < (n : Int)) = true := decide_eq_true (by omega)
    have hadd : IntKind.i64.wrap (((f + 32 * j : Nat) : Int) + 32) = ((f + 32 * j + 32 : Nat) : Int) := by rw [IntWalk.i64_in _ (by omega)]; omega
    have hch := zgj bl (f + 32 * j) 32 (by omega)
    rw [hrd] at hch
    have hcl : ((bl.take (f + 32 * j + 32)).drop (f + 32 * j)).length = 32 := by rw [List.length_drop, List.length_take]; omega
    have hcW := chunkW ((bl.take (f + 32 * j + 32)).drop (f + 32 * j)) (by omega)
    have hfb := fun w' (hk : Keep No w w') => za1 (movA a (f + 32 * j) (f + 32 * j + 32) 1) 32 32 ((bl.take (f + 32 * j + 32)).drop (f + 32 * j)) w' hcl (Nat.le_refl _) (by
      rw [List.map_drop, List.map_take]
      exact (((hb.to hk (fun _ h => .inr h)).sla).take _).mov (by rw [List.length_take]; omega)) (by omega)
    rw [if_pos hcW] at hfb
    have hst := zjt q (bev 256 (bn (bl.take (f + 32 * j)))) rad (bev 256 (bn ((bl.take (f + 32 * j + 32)).drop (f + 32 * j))))
    rw [← hch] at hst
    have hrW := Nat.lt_trans (Nat.mod_lt (bev 256 (bn (bl.take (f + 32 * j)))) hq00) hQW
    generalize bev 256 (bn ((bl.take (f + 32 * j + 32)).drop (f + 32 * j))) = d at *
    generalize bev 256 (bn (bl.take (f + 32 * j))) % q = R0 at *
    have hM := fun w' => zfP R0 rad q w' hrW hRW hQW
    have hpW := Nat.lt_trans (Nat.mod_lt (R0 * rad) hq00) hQW
    have hA := fun w' => ziB (R0 * rad % q) d q w' hpW hcW hQW
    unfold modR at hM hA
    simp only [if_neg (show ¬ q = 0 by omega)] at hM hA
    rw [hst] at hA
    have l1 := zg R0
    have l2 := zg d
    have l3 := zg (R0 * rad % q)
    have hcur : bev 256 (bn (bl.take (f + 32 * (j + 1)))) % q = bev 256 (bn (bl.take (f + 32 * j + 32))) % q := by rw [show f + 32 * (j + 1) = f + 32 * j + 32 by omega]
    have hnx : ((f + 32 * (j + 1) : Nat) : Int) = ((f + 32 * j + 32 : Nat) : Int) := by omega
    rw [← hcur] at hA
    have l4 := zg (bev 256 (bn (bl.take (f + 32 * (j + 1)))) % q)
    clear hst hch hcur
    generalize hnew : bev 256 (bn (bl.take (f + 32 * (j + 1)))) % q = R1 at *
    generalize R0 * rad % q = P at *
    repeat' (first | refine zh ?_ | refine zf ?_ | refine zw rfl ?_ | refine zu ?_ | refine zr ?_ | refine ze ?_ | refine zj ?_ | (refine za (id := 9) ?_; refine zb ?_; refine zb ?_; refine zA ?_; refine yv (zS (hr := hlt)) (k := ?_)) | (refine za (id := 11) ?_; refine zb ?_; refine zb ?_; refine zb ?_; refine yv (zK (hr := hadd)) (k := ?_); refine zb ?_; refine yv (zK (hr := hadd)) (k := ?_); refine yv (zaL (l := f + 32 * j) (h := f + 32 * j + 32) (m := f + 32 * j + 32) (n' := 32) (c' := 32) (hn' := by omega) (hc' := by omega)) (k := ?_); refine yv (zi (f := 68) (hc := fun w' _ hk _ => hfb w' hk)) (k := ?_); refine zb ?_; refine zk ?_; refine zk ?_; (refine zm ?_; intro _); refine yn (zn (n := d)) (k := ?_); refine zd ?_) | (refine za (id := 12) ?_; refine yv (zl (B := natC R0)) (k := ?_); refine yv (zl (B := natC rad)) (k := ?_); refine zD ?_; refine yv (zl (B := natC q) (hv := hsq)) (k := ?_); refine yv (zi (hc := fun _ _ _ _ => (hM _))) (k := ?_); refine zb ?_; refine zk ?_; refine zk ?_; refine yn (zn (n := P)) (k := ?_)) | (refine za (id := 13) ?_; refine yv (zl (B := natC P)) (k := ?_); refine yv (zl (B := natC d)) (k := ?_); refine zD ?_; refine yv (zl (B := natC q) (hv := hsq)) (k := ?_); refine yv (zi (hc := fun _ _ _ _ => (hA _))) (k := ?_); refine zb ?_; refine zk ?_; refine zk ?_; refine yn (zn (n := R1)) (k := ?_)) | (refine za (id := 10) ?_; refine zb ?_; refine yv (zK (hr := hadd)) (k := ?_); refine zd ?_) | fail)
    refine zI (j + 1) ?_ ?_ ?_ ?_
    · show j + 1 ≤ k; omega
    · show k - (j + 1) < k - j; omega
    · rw [hnx]
      exact Sub.go
    · show SubR [.blk b11 43 (natC (bev 256 (bn (bl.take (f + 32 * (j + 1)))) % q)), .blk b8 43 (natC rad), .blk b6 88 (safeC p q l), .blk b4 43 (List.replicate 16 (Value.int IntKind.u64 0))] _
      rw [hnew]
      exact SubR.go2
  · obtain rfl : j = k := by omega
    have hlt : decide (((f + 32 * j : Nat) : Int) < (n : Int)) = false := decide_eq_false (by omega)
    rw [List.take_of_length_le (by omega)]
    have lR := zg (bev 256 (bn bl) % q)
    generalize bev 256 (bn bl) % q = R at *
    repeat' (first | refine zh ?_ | refine zf ?_ | refine zt rfl ?_ | refine zp ?_ | refine zE ?_ | refine ze ?_ | refine zj ?_ | (refine za (id := 9) ?_; refine zb ?_; refine zb ?_; refine zA ?_; refine yv (zS (hr := hlt)) (k := ?_)) | (refine za (id := 14) ?_; refine yv (zl (B := natC R)) (k := ?_); refine yn (zn (n := R)) (k := ?_); refine zd ?_) | fail)
    exact ret2 rfl (resCells (B := natC R) rfl (ty rfl) rfl Has.go Seg.all (zg _).symm) (resTmp rfl) SubR.nil ⟨rfl, rfl⟩
end Go.Proofs.YtjidkoabdmjgkaaGreatDoor
end
