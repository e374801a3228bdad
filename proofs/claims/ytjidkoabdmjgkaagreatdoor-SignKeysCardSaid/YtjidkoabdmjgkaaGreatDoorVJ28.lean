/- The functions of layer group: bytes written and read, the scalar of bytes, all groups. -/
import Derived.Test.YtjidkoabdmjgkaaGreatDoorVJ27
set_option linter.all false
section
namespace Go.Nt
open Go Go.Sy
theorem zdb {i x : Nat} (h0 : 1 ≤ i) (h5 : i ≤ 4) (h : x < gP i) : nd 256 x ≤ gL i := by
  rw [← zgs i h0 h5]
  exact zaj 256 x _ (by decide) (Nat.lt_trans h (zaa 256 (gP i) (by decide)))
theorem zaM {p q x : Nat} (h : memB p q x = true) : x < p := by
  unfold memB at h
  exact (of_decide_eq_true h).2.1
theorem znZ (i : Nat) : gQ i ≤ gP i := Nat.div_le_self _ _
theorem zkr (q X R d : Nat) : (X % q * R % q + d) % q = (X * R + d) % q := by
  rw [Nat.mod_mul_mod, Nat.mod_add_mod]
end Go.Nt
namespace Go.Proofs.YtjidkoabdmjgkaaGreatDoor
open Go Go.Sy Go.Nt Go.RowKit
attribute [local irreducible] Sy SyL SyX Sy.Fn callFunc natC rowN safeC gP gQ gL gS gCells memB
set_option maxRecDepth 10000
theorem zlo (i x f : Nat) (cond : Nat → Bool) (w : World) (h0 : 1 ≤ i) (h5 : i ≤ 4) (hG : GT w) (hx : x < 18446744073709551616 ^ 16) (hen : ∀ args w, (callFunc f args).run Tryz.prog w = .ok (.enter f args) w) (hf : ∀ w', Sy.Fn Tryz.prog f [safeV (gP i) (gQ i) (gL i), natV x] w' No (Gives (.bool (cond x)))) (hc : cond x = false) : Sy.Fn Tryz.prog 80 [.int .i64 (i : Int), natV x, .func (.func f) #[] #[]] w No (Gives (.tuple #[.slice none 0 0, .int .i64 3])) := by
  refine zq Tryz.func80 rfl Tryz.ntmps80 (by simp) Holds.nil ?_
  have lx := zh x
  have hW := zav i h0 h5
  have hQW := zao i h0 h5
  have hp1 := zak i h0 h5
  have hq0 := zag i h0 h5
  have hfi := fun w' (hk : Keep No w w') => zaY i w' h0 h5 (hG.to hk)
  generalize gP i = p at *
  generalize gQ i = q at *
  generalize gL i = l at *
  have lS := zI p q l
  have lp := zh p
  have lq := zh q
  have lz := zh 0
  have hsp := zaU p q l
  have hsq := zaV p q l
  have hsl := za0 p q l
  have hal := fun w' b' (h : w'.rangeAt b' 0 (rowN [x])) => all1c p q l f x b' cond w' hen hf h
  simp only [hc, Bool.false_eq_true, if_false] at hal
  repeat' (first | refine zg ?_ | refine zf ?_ | refine zu rfl ?_ | refine zw rfl ?_ | refine zt ?_ | refine zo ?_ | refine ze ?_ | refine zj ?_ | refine zx ?_ | (refine za (id := 0) ?_; (refine zm ?_; intro _); refine zd ?_; refine zd ?_) | (refine za (id := 1) ?_; refine zb ?_; refine yv (zi (f := 74) (hc := fun w' _ hk _ => hfi w' hk)) (k := ?_); refine zb ?_; refine zk ?_; refine zk ?_; (refine zm ?_; intro _); refine yn (zU (B := safeC p q l) (hv := zad p q l) (h1 := (zI p q l).symm)) (k := ?_); refine zd ?_) | (refine za (id := 2) ?_; refine zb ?_; refine z8 ?_) | (refine za (id := 4) ?_; refine yv (zl (B := safeC p q l)) (k := ?_); refine zb ?_; refine yv (zl (B := natC x)) (k := ?_)) | (refine za (id := 5) ?_; refine zb ?_; refine z8 ?_) | (refine za (id := 6) ?_; refine zb ?_; refine zd ?_; refine zd ?_) | (refine ys (zaz (x := x)) (k := ?_); rintro _ _ ⟨bb, rfl, rfl⟩) | (refine zV ?_; first | refine yv (zi (f := 82) (hc := fun w' X hk hh => hal w' _ (zN (hh.has (by exact Has.append Has.here)) Seg.all))) (k := ?_) | refine zd ?_ | fail) | fail)
  exact ret2 rfl (resTmp rfl) (resTmp rfl) SubR.nil ⟨rfl, rfl⟩
def FixG (i x : Nat) (v : Value) (R : List Res) : Prop := ∃ a c, v = .tuple #[.slice a (gL i) c, .int .i64 0] ∧ R = [.row (.slice a (gL i) c) 5 1 (gL i) ((fixB (gL i) x).map v8)]
theorem zhf (i x f : Nat) (cond : Nat → Bool) (w : World) (h0 : 1 ≤ i) (h5 : i ≤ 4) (hG : GT w) (hx : x < 18446744073709551616 ^ 16) (hen : ∀ args w, (callFunc f args).run Tryz.prog w = .ok (.enter f args) w) (hf : ∀ w', Sy.Fn Tryz.prog f [safeV (gP i) (gQ i) (gL i), natV x] w' No (Gives (.bool (cond x)))) (hc : cond x = true) (hlt : x < gP i) : Sy.Fn Tryz.prog 80 [.int .i64 (i : Int), natV x, .func (.func f) #[] #[]] w No (FixG i x) := by
  refine zq Tryz.func80 rfl Tryz.ntmps80 (by simp) Holds.nil ?_
  have lx := zh x
  have hnd := zdb h0 h5 hlt
  have hl96 := (zbP i h0 h5).2
  unfold FixG
  have hW := zav i h0 h5
  have hQW := zao i h0 h5
  have hp1 := zak i h0 h5
  have hq0 := zag i h0 h5
  have hfi := fun w' (hk : Keep No w w') => zaY i w' h0 h5 (hG.to hk)
  generalize gP i = p at *
  generalize gQ i = q at *
  generalize gL i = l at *
  have lS := zI p q l
  have lp := zh p
  have lq := zh q
  have lz := zh 0
  have hsp := zaU p q l
  have hsq := zaV p q l
  have hsl := za0 p q l
  have hal := fun w' b' (h : w'.rangeAt b' 0 (rowN [x])) => all1c p q l f x b' cond w' hen hf h
  simp only [hc, if_true] at hal
  have hfx := fun w' => zlK p q l x w' hx hnd (by omega)
  unfold RowOf at hfx
  generalize fixB l x = F at *
  repeat' (first | refine zg ?_ | refine zf ?_ | refine zw rfl ?_ | refine zt ?_ | refine zo ?_ | refine ze ?_ | refine zj ?_ | (refine za (id := 0) ?_; (refine zm ?_; intro _); refine zd ?_; refine zd ?_) | (refine za (id := 1) ?_; refine zb ?_; refine yv (zi (f := 74) (hc := fun w' _ hk _ => hfi w' hk)) (k := ?_); refine zb ?_; refine zk ?_; refine zk ?_; (refine zm ?_; intro _); refine yn (zU (B := safeC p q l) (hv := zad p q l) (h1 := (zI p q l).symm)) (k := ?_); refine zd ?_) | (refine za (id := 2) ?_; refine zb ?_; refine z8 ?_) | (refine za (id := 4) ?_; refine yv (zl (B := safeC p q l)) (k := ?_); refine zb ?_; refine yv (zl (B := natC x)) (k := ?_)) | (refine za (id := 5) ?_; refine zb ?_; refine z8 ?_) | (refine za (id := 7) ?_; refine yv (zl (B := safeC p q l)) (k := ?_); refine yv (zl (B := natC x)) (k := ?_); (refine ys (zy (f := 115) (hc := fun w' X hk hh => hfx w')) (k := ?_); rintro _ _ ⟨R, rfl, aF, cF, rfl, rfl⟩); refine zd ?_; refine zd ?_) | (refine ys (zaz (x := x)) (k := ?_); rintro _ _ ⟨bb, rfl, rfl⟩) | (refine zV ?_; first | refine yv (zi (f := 82) (hc := fun w' X hk hh => hal w' _ (zN (hh.has (by exact Has.append Has.here)) Seg.all))) (k := ?_) | refine zd ?_ | fail) | fail)
  exact ret2 rfl (resTmp rfl) (resTmp rfl) (by exact SubR.go2) ⟨_, _, rfl, rfl⟩
theorem zoB (i x : Nat) (w : World) (h0 : 1 ≤ i) (h5 : i ≤ 4) (hG : GT w) (hx : x < 18446744073709551616 ^ 16) (hc : memB (gP i) (gQ i) x = false) : Sy.Fn Tryz.prog 31 [.int .i64 (i : Int), natV x] w No (Gives (.tuple #[.slice none 0 0, .int .i64 3])) := by
  refine zq Tryz.func31 rfl Tryz.ntmps31 (by simp) Holds.nil ?_
  have lx := zh x
  have hw := fun w' (hk : Keep No w w') => zlo i x 81 (memB (gP i) (gQ i)) w' h0 h5 (hG.to hk) hx (en rfl) (fun w'' => zbj _ _ _ x w'' (zav i h0 h5) (zao i h0 h5) (by have := zak i h0 h5; omega) hx) hc
  repeat' (first | refine zg ?_ | refine zf ?_ | refine zo ?_ | refine ze ?_ | refine zj ?_ | (refine za (id := 0) ?_; (refine zm ?_; intro _); refine zd ?_; refine zd ?_) | (refine za (id := 1) ?_; refine zb ?_; refine yv (zl (B := natC x)) (k := ?_); refine yv (zi (f := 80) (hc := fun w' _ hk _ => hw w' hk)) (k := ?_); refine zk ?_; refine zk ?_; refine zd ?_; refine zd ?_) | fail)
  exact ret2 rfl (resTmp rfl) (resTmp rfl) SubR.nil ⟨rfl, rfl⟩
theorem ze2 (i x : Nat) (w : World) (h0 : 1 ≤ i) (h5 : i ≤ 4) (hG : GT w) (hx : x < 18446744073709551616 ^ 16) (hc : memB (gP i) (gQ i) x = true) : Sy.Fn Tryz.prog 31 [.int .i64 (i : Int), natV x] w No (FixG i x) := by
  refine zq Tryz.func31 rfl Tryz.ntmps31 (by simp) Holds.nil ?_
  have lx := zh x
  have hw := fun w' (hk : Keep No w w') => zhf i x 81 (memB (gP i) (gQ i)) w' h0 h5 (hG.to hk) hx (en rfl) (fun w'' => zbj _ _ _ x w'' (zav i h0 h5) (zao i h0 h5) (by have := zak i h0 h5; omega) hx) hc (zaM hc)
  unfold FixG at *
  repeat' (first | refine zg ?_ | refine zf ?_ | refine zo ?_ | refine ze ?_ | refine zj ?_ | (refine za (id := 0) ?_; (refine zm ?_; intro _); refine zd ?_; refine zd ?_) | (refine za (id := 1) ?_; refine zb ?_; refine yv (zl (B := natC x)) (k := ?_); (refine ys (zy (f := 80) (hc := fun w' X hk hh => hw w' hk)) (k := ?_); rintro _ _ ⟨R, rfl, aF, cF, rfl, rfl⟩); refine zk ?_; refine zk ?_; refine zd ?_; refine zd ?_) | fail)
  exact ret2 rfl (resTmp rfl) (resTmp rfl) (by exact SubR.go2) ⟨_, _, rfl, rfl⟩
theorem zeb (i x : Nat) (w : World) (h0 : 1 ≤ i) (h5 : i ≤ 4) (hG : GT w) (hx : x < 18446744073709551616 ^ 16) (hc : decide (x < gQ i) = true) : Sy.Fn Tryz.prog 36 [.int .i64 (i : Int), natV x] w No (FixG i x) := by
  refine zq Tryz.func36 rfl Tryz.ntmps36 (by simp) Holds.nil ?_
  have lx := zh x
  have hw := fun w' (hk : Keep No w w') => zhf i x 83 (fun y => decide (y < gQ i)) w' h0 h5 (hG.to hk) hx (en rfl) (fun w'' => zbG _ _ _ x w'' (zao i h0 h5) hx) hc (Nat.lt_of_lt_of_le (of_decide_eq_true hc) (znZ i))
  unfold FixG at *
  repeat' (first | refine zg ?_ | refine zf ?_ | refine zo ?_ | refine ze ?_ | refine zj ?_ | (refine za (id := 0) ?_; (refine zm ?_; intro _); refine zd ?_; refine zd ?_) | (refine za (id := 1) ?_; refine zb ?_; refine yv (zl (B := natC x)) (k := ?_); (refine ys (zy (f := 80) (hc := fun w' X hk hh => hw w' hk)) (k := ?_); rintro _ _ ⟨R, rfl, aF, cF, rfl, rfl⟩); refine zk ?_; refine zk ?_; refine zd ?_; refine zd ?_) | fail)
  exact ret2 rfl (resTmp rfl) (resTmp rfl) (by exact SubR.go2) ⟨_, _, rfl, rfl⟩
theorem zg7 (z : Int) (f : Nat) (a : Option Addr) (n c : Nat) (w : World) (hz : ¬ (1 ≤ z ∧ z ≤ 4)) : Sy.Fn Tryz.prog 92 [.int .i64 z, .slice a n c, .func (.func f) #[] #[]] w No (Gives (.tuple #[natV 0, .int .i64 2])) := by
  refine zq Tryz.func92 rfl Tryz.ntmps92 (by simp) Holds.nil ?_
  have lS := zI 0 0 0
  have lz := zh 0
  repeat' (first | refine zg ?_ | refine zf ?_ | refine zu rfl ?_ | refine zr ?_ | refine zo ?_ | refine ze ?_ | refine zj ?_ | refine zx ?_ | refine zae ?_ | (refine za (id := 0) ?_; (refine zm ?_; intro _); refine zd ?_) | (refine za (id := 1) ?_; refine zb ?_; refine yv (zi (hc := fun _ _ _ _ => (zd4 z _ hz))) (k := ?_); refine zb ?_; refine zk ?_; refine zk ?_; (refine zm ?_; intro _); refine yn (zU (B := safeC 0 0 0) (hv := zad 0 0 0) (h1 := (zI 0 0 0).symm)) (k := ?_); refine zd ?_) | (refine za (id := 2) ?_; refine zb ?_; refine z8 ?_; refine zd ?_) | (refine za (id := 3) ?_; refine yv za6 (k := ?_); refine zb ?_; refine yn (zn (n := 0)) (k := ?_); refine zd ?_) | fail)
  exact ret2 rfl (resCells (B := natC 0) rfl (ty rfl) rfl Has.go Seg.all (zh _).symm) (resTmp rfl) SubR.nil ⟨rfl, rfl⟩
theorem zfz (i f : Nat) (a : Option Addr) (n c : Nat) (w : World) (h0 : 1 ≤ i) (h5 : i ≤ 4) (hG : GT w) (hn : n < gL i) : Sy.Fn Tryz.prog 92 [.int .i64 (i : Int), .slice a n c, .func (.func f) #[] #[]] w No (Gives (.tuple #[natV 0, .int .i64 4])) := by
  refine zq Tryz.func92 rfl Tryz.ntmps92 (by simp) Holds.nil ?_
  have hW := zav i h0 h5
  have hQW := zao i h0 h5
  have hp1 := zak i h0 h5
  have hq0 := zag i h0 h5
  have hfi := fun w' (hk : Keep No w w') => zaY i w' h0 h5 (hG.to hk)
  generalize gP i = p at *
  generalize gQ i = q at *
  generalize gL i = l at *
  have lS := zI p q l
  have lp := zh p
  have lq := zh q
  have lz := zh 0
  have hsp := zaU p q l
  have hsq := zaV p q l
  have hsl := za0 p q l
  have g1 : decide ((n : Int) < (l : Int)) = true := decide_eq_true (by omega)
  repeat' (first | refine zg ?_ | refine zf ?_ | refine zu rfl ?_ | refine zw rfl ?_ | refine zr ?_ | refine zo ?_ | refine ze ?_ | refine zj ?_ | refine zx ?_ | refine zae ?_ | (refine za (id := 0) ?_; (refine zm ?_; intro _); refine zd ?_) | (refine za (id := 1) ?_; refine zb ?_; refine yv (zi (f := 74) (hc := fun w' _ hk _ => hfi w' hk)) (k := ?_); refine zb ?_; refine zk ?_; refine zk ?_; (refine zm ?_; intro _); refine yn (zU (B := safeC p q l) (hv := zad p q l) (h1 := (zI p q l).symm)) (k := ?_); refine zd ?_) | (refine za (id := 2) ?_; refine zb ?_; refine z8 ?_; refine zd ?_) | (refine za (id := 4) ?_; refine zb ?_; refine zB ?_; refine zF ?_; refine yv (zT (hv := hsl)) (k := ?_); refine yv (zX (hr := g1)) (k := ?_); refine zd ?_) | (refine za (id := 5) ?_; refine yv za6 (k := ?_); refine yn (zn (n := 0)) (k := ?_); refine zd ?_) | fail)
  exact ret2 rfl (resCells (B := natC 0) rfl (ty rfl) rfl Has.go Seg.all (zh _).symm) (resTmp rfl) SubR.nil ⟨rfl, rfl⟩
theorem zgc (i f : Nat) (a : Option Addr) (n c : Nat) (w : World) (h0 : 1 ≤ i) (h5 : i ≤ 4) (hG : GT w) (hn : gL i < n) : Sy.Fn Tryz.prog 92 [.int .i64 (i : Int), .slice a n c, .func (.func f) #[] #[]] w No (Gives (.tuple #[natV 0, .int .i64 5])) := by
  refine zq Tryz.func92 rfl Tryz.ntmps92 (by simp) Holds.nil ?_
  have hW := zav i h0 h5
  have hQW := zao i h0 h5
  have hp1 := zak i h0 h5
  have hq0 := zag i h0 h5
  have hfi := fun w' (hk : Keep No w w') => zaY i w' h0 h5 (hG.to hk)
  generalize gP i = p at *
  generalize gQ i = q at *
  generalize gL i = l at *
  have lS := zI p q l
  have lp := zh p
  have lq := zh q
  have lz := zh 0
  have hsp := zaU p q l
  have hsq := zaV p q l
  have hsl := za0 p q l
  have g1 : decide ((n : Int) < (l : Int)) = false := decide_eq_false (by omega)
  have g2 : decide ((n : Int) > (l : Int)) = true := decide_eq_true (by omega)
  repeat' (first | refine zg ?_ | refine zf ?_ | refine zu rfl ?_ | refine zw rfl ?_ | refine zr ?_ | refine zo ?_ | refine ze ?_ | refine zj ?_ | refine zx ?_ | refine zae ?_ | (refine za (id := 0) ?_; (refine zm ?_; intro _); refine zd ?_) | (refine za (id := 1) ?_; refine zb ?_; refine yv (zi (f := 74) (hc := fun w' _ hk _ => hfi w' hk)) (k := ?_); refine zb ?_; refine zk ?_; refine zk ?_; (refine zm ?_; intro _); refine yn (zU (B := safeC p q l) (hv := zad p q l) (h1 := (zI p q l).symm)) (k := ?_); refine zd ?_) | (refine za (id := 2) ?_; refine zb ?_; refine z8 ?_; refine zd ?_) | (refine za (id := 4) ?_; refine zb ?_; refine zB ?_; refine zF ?_; refine yv (zT (hv := hsl)) (k := ?_); refine yv (zX (hr := g1)) (k := ?_); refine zd ?_) | (refine za (id := 6) ?_; refine zb ?_; refine zB ?_; refine zF ?_; refine yv (zT (hv := hsl)) (k := ?_); refine yv (zac (hr := g2)) (k := ?_); refine zd ?_) | (refine za (id := 7) ?_; refine yv za6 (k := ?_); refine yn (zn (n := 0)) (k := ?_); refine zd ?_) | fail)
  exact ret2 rfl (resCells (B := natC 0) rfl (ty rfl) rfl Has.go Seg.all (zh _).symm) (resTmp rfl) SubR.nil ⟨rfl, rfl⟩
theorem ziE (i f : Nat) (cond : Nat → Bool) (a : Option Addr) (n c : Nat) (bl : List UInt8) (w : World) (h0 : 1 ≤ i) (h5 : i ≤ 4) (hG : GT w) (hn : n = gL i) (hl : bl.length = n) (hcap : n ≤ c) (hb : SlA w a (bl.map v8)) (hen : ∀ args w, (callFunc f args).run Tryz.prog w = .ok (.enter f args) w) (hf : ∀ x, x < 18446744073709551616 ^ 16 → ∀ w', Sy.Fn Tryz.prog f [safeV (gP i) (gQ i) (gL i), natV x] w' No (Gives (.bool (cond x)))) (hc : cond (bev 256 (bn bl)) = false) :
    Sy.Fn Tryz.prog 92 [.int .i64 (i : Int), .slice a n c, .func (.func f) #[] #[]] w No (Gives (.tuple #[natV 0, .int .i64 3])) := by
  refine zq Tryz.func92 rfl Tryz.ntmps92 (by simp) Holds.nil ?_
  have hl96 := (zbP i h0 h5).2
  have hW := zav i h0 h5
  have hQW := zao i h0 h5
  have hp1 := zak i h0 h5
  have hq0 := zag i h0 h5
  have hfi := fun w' (hk : Keep No w w') => zaY i w' h0 h5 (hG.to hk)
  generalize gP i = p at *
  generalize gQ i = q at *
  generalize gL i = l at *
  have lS := zI p q l
  have lp := zh p
  have lq := zh q
  have lz := zh 0
  have hsp := zaU p q l
  have hsq := zaV p q l
  have hsl := za0 p q l
  have hxW : bev 256 (bn bl) < 18446744073709551616 ^ 16 := by
    rw [zdK 256 8 128 rfl rfl]
    refine Nat.lt_of_lt_of_le (zb5 256 (bn bl) (zdA bl)) ?_
    rw [show (bn bl).length = bl.length from List.length_map _]
    exact Nat.pow_le_pow_right (by decide) (by omega)
  have hfb := fun w' (hk : Keep No w w') => za8 a n c bl w' hl hcap (hb.to hk (fun _ h => .inr h)).sla (by omega)
  rw [if_pos hxW] at hfb
  have hf := hf _ hxW
  have g1 : decide ((n : Int) < (l : Int)) = false := decide_eq_false (by omega)
  have g2 : decide ((n : Int) > (l : Int)) = false := decide_eq_false (by omega)
  generalize bev 256 (bn bl) = x at *
  have lx := zh x
  have hal := fun w' b' (h : w'.rangeAt b' 0 (rowN [x])) => all1c p q l f x b' cond w' hen hf h
  simp only [hc, Bool.false_eq_true, if_false] at hal
  repeat' (first | refine zg ?_ | refine zf ?_ | refine zu rfl ?_ | refine zw rfl ?_ | refine zr ?_ | refine zt ?_ | refine zo ?_ | refine ze ?_ | refine zj ?_ | refine zx ?_ | (refine za (id := 0) ?_; (refine zm ?_; intro _); refine zd ?_) | (refine za (id := 1) ?_; refine zb ?_; refine yv (zi (f := 74) (hc := fun w' _ hk _ => hfi w' hk)) (k := ?_); refine zb ?_; refine zk ?_; refine zk ?_; (refine zm ?_; intro _); refine yn (zU (B := safeC p q l) (hv := zad p q l) (h1 := (zI p q l).symm)) (k := ?_); refine zd ?_) | (refine za (id := 2) ?_; refine zb ?_; refine z8 ?_; refine zd ?_) | (refine za (id := 4) ?_; refine zb ?_; refine zB ?_; refine zF ?_; refine yv (zT (hv := hsl)) (k := ?_); refine yv (zX (hr := g1)) (k := ?_); refine zd ?_) | (refine za (id := 6) ?_; refine zb ?_; refine zB ?_; refine zF ?_; refine yv (zT (hv := hsl)) (k := ?_); refine yv (zac (hr := g2)) (k := ?_); refine zd ?_) | (refine za (id := 8) ?_; refine zb ?_; refine yv (zi (f := 68) (hc := fun w' _ hk _ => hfb w' hk)) (k := ?_); refine zb ?_; refine zk ?_; refine zk ?_; (refine zm ?_; intro _); refine yn (zn (n := x)) (k := ?_); refine zd ?_) | (refine za (id := 9) ?_; refine yv (zl (B := safeC p q l)) (k := ?_); refine zb ?_; refine yv (zl (B := natC x)) (k := ?_)) | (refine za (id := 10) ?_; refine zb ?_; refine z8 ?_) | (refine za (id := 11) ?_; refine yv za6 (k := ?_); refine zb ?_; refine yn (zn (n := 0)) (k := ?_); refine zd ?_) | (refine ys (zaz (x := x)) (k := ?_); rintro _ _ ⟨bb, rfl, rfl⟩) | (refine zV ?_; first | refine yv (zi (f := 82) (hc := fun w' X hk hh => hal w' _ (zN (hh.has (by exact Has.append Has.here)) Seg.all))) (k := ?_) | refine zd ?_ | fail) | fail)
  exact ret2 rfl (resCells (B := natC 0) rfl (ty rfl) rfl Has.go Seg.all (zh _).symm) (resTmp rfl) SubR.nil ⟨rfl, rfl⟩
theorem zh6 (i f : Nat) (cond : Nat → Bool) (a : Option Addr) (n c : Nat) (bl : List UInt8) (w : World) (h0 : 1 ≤ i) (h5 : i ≤ 4) (hG : GT w) (hn : n = gL i) (hl : bl.length = n) (hcap : n ≤ c) (hb : SlA w a (bl.map v8)) (hen : ∀ args w, (callFunc f args).run Tryz.prog w = .ok (.enter f args) w) (hf : ∀ x, x < 18446744073709551616 ^ 16 → ∀ w', Sy.Fn Tryz.prog f [safeV (gP i) (gQ i) (gL i), natV x] w' No (Gives (.bool (cond x)))) (hc : cond (bev 256 (bn bl)) = true) :
    Sy.Fn Tryz.prog 92 [.int .i64 (i : Int), .slice a n c, .func (.func f) #[] #[]] w No (Gives (.tuple #[natV (bev 256 (bn bl)), .int .i64 0])) := by
  refine zq Tryz.func92 rfl Tryz.ntmps92 (by simp) Holds.nil ?_
  have hl96 := (zbP i h0 h5).2
  have hW := zav i h0 h5
  have hQW := zao i h0 h5
  have hp1 := zak i h0 h5
  have hq0 := zag i h0 h5
  have hfi := fun w' (hk : Keep No w w') => zaY i w' h0 h5 (hG.to hk)
  generalize gP i = p at *
  generalize gQ i = q at *
  generalize gL i = l at *
  have lS := zI p q l
  have lp := zh p
  have lq := zh q
  have lz := zh 0
  have hsp := zaU p q l
  have hsq := zaV p q l
  have hsl := za0 p q l
  have hxW : bev 256 (bn bl) < 18446744073709551616 ^ 16 := by
    rw [zdK 256 8 128 rfl rfl]
    refine Nat.lt_of_lt_of_le (zb5 256 (bn bl) (zdA bl)) ?_
    rw [show (bn bl).length = bl.length from List.length_map _]
    exact Nat.pow_le_pow_right (by decide) (by omega)
  have hfb := fun w' (hk : Keep No w w') => za8 a n c bl w' hl hcap (hb.to hk (fun _ h => .inr h)).sla (by omega)
  rw [if_pos hxW] at hfb
  have hf := hf _ hxW
  have g1 : decide ((n : Int) < (l : Int)) = false := decide_eq_false (by omega)
  have g2 : decide ((n : Int) > (l : Int)) = false := decide_eq_false (by omega)
  generalize bev 256 (bn bl) = x at *
  have lx := zh x
  have hal := fun w' b' (h : w'.rangeAt b' 0 (rowN [x])) => all1c p q l f x b' cond w' hen hf h
  simp only [hc, if_true] at hal
  repeat' (first | refine zg ?_ | refine zf ?_ | refine zw rfl ?_ | refine zr ?_ | refine zt ?_ | refine zo ?_ | refine ze ?_ | refine zj ?_ | (refine za (id := 0) ?_; (refine zm ?_; intro _); refine zd ?_) | (refine za (id := 1) ?_; refine zb ?_; refine yv (zi (f := 74) (hc := fun w' _ hk _ => hfi w' hk)) (k := ?_); refine zb ?_; refine zk ?_; refine zk ?_; (refine zm ?_; intro _); refine yn (zU (B := safeC p q l) (hv := zad p q l) (h1 := (zI p q l).symm)) (k := ?_); refine zd ?_) | (refine za (id := 2) ?_; refine zb ?_; refine z8 ?_; refine zd ?_) | (refine za (id := 4) ?_; refine zb ?_; refine zB ?_; refine zF ?_; refine yv (zT (hv := hsl)) (k := ?_); refine yv (zX (hr := g1)) (k := ?_); refine zd ?_) | (refine za (id := 6) ?_; refine zb ?_; refine zB ?_; refine zF ?_; refine yv (zT (hv := hsl)) (k := ?_); refine yv (zac (hr := g2)) (k := ?_); refine zd ?_) | (refine za (id := 8) ?_; refine zb ?_; refine yv (zi (f := 68) (hc := fun w' _ hk _ => hfb w' hk)) (k := ?_); refine zb ?_; refine zk ?_; refine zk ?_; (refine zm ?_; intro _); refine yn (zn (n := x)) (k := ?_); refine zd ?_) | (refine za (id := 9) ?_; refine yv (zl (B := safeC p q l)) (k := ?_); refine zb ?_; refine yv (zl (B := natC x)) (k := ?_)) | (refine za (id := 10) ?_; refine zb ?_; refine z8 ?_) | (refine za (id := 12) ?_; refine yv (zl (B := natC x)) (k := ?_); refine yn (zn (n := x)) (k := ?_); refine zd ?_) | (refine ys (zaz (x := x)) (k := ?_); rintro _ _ ⟨bb, rfl, rfl⟩) | (refine zV ?_; first | refine yv (zi (f := 82) (hc := fun w' X hk hh => hal w' _ (zN (hh.has (by exact Has.append Has.here)) Seg.all))) (k := ?_) | refine zd ?_ | fail) | fail)
  exact ret2 rfl (resCells (B := natC x) rfl (ty rfl) rfl Has.go Seg.all (zh _).symm) (resTmp rfl) SubR.nil ⟨rfl, rfl⟩
theorem ziJ (z : Int) (a : Option Addr) (n c : Nat) (w : World) (hz : ¬ (1 ≤ z ∧ z ≤ 4)) : Sy.Fn Tryz.prog 45 [.int .i64 z, .slice a n c] w No (Gives (.tuple #[natV 0, .int .i64 2])) := by
  refine zq Tryz.func45 rfl Tryz.ntmps45 (by simp) Holds.nil ?_
  have hw := fun w' (_ : Keep No w w') => zg7 z 81 a n c w' hz
  have lx := zh 0
  repeat' (first | refine zg ?_ | refine zf ?_ | refine zo ?_ | refine ze ?_ | refine zj ?_ | (refine za (id := 0) ?_; (refine zm ?_; intro _); refine zd ?_) | (refine za (id := 1) ?_; refine zb ?_; refine zb ?_; refine yv (zi (f := 92) (hc := fun w' _ hk _ => hw w' hk)) (k := ?_); refine zk ?_; refine zk ?_; refine yn (zn (n := 0)) (k := ?_); refine zd ?_) | fail)
  exact ret2 rfl (resCells (B := natC 0) rfl (ty rfl) rfl Has.go Seg.all (zh _).symm) (resTmp rfl) SubR.nil ⟨rfl, rfl⟩
theorem zgC (i : Nat) (a : Option Addr) (n c : Nat) (w : World) (h0 : 1 ≤ i) (h5 : i ≤ 4) (hG : GT w) (hn : n < gL i) : Sy.Fn Tryz.prog 45 [.int .i64 (i : Int), .slice a n c] w No (Gives (.tuple #[natV 0, .int .i64 4])) := by
  refine zq Tryz.func45 rfl Tryz.ntmps45 (by simp) Holds.nil ?_
  have hw := fun w' (hk : Keep No w w') => zfz i 81 a n c w' h0 h5 (hG.to hk) hn
  have lx := zh 0
  repeat' (first | refine zg ?_ | refine zf ?_ | refine zo ?_ | refine ze ?_ | refine zj ?_ | (refine za (id := 0) ?_; (refine zm ?_; intro _); refine zd ?_) | (refine za (id := 1) ?_; refine zb ?_; refine zb ?_; refine yv (zi (f := 92) (hc := fun w' _ hk _ => hw w' hk)) (k := ?_); refine zk ?_; refine zk ?_; refine yn (zn (n := 0)) (k := ?_); refine zd ?_) | fail)
  exact ret2 rfl (resCells (B := natC 0) rfl (ty rfl) rfl Has.go Seg.all (zh _).symm) (resTmp rfl) SubR.nil ⟨rfl, rfl⟩
theorem zhx (i : Nat) (a : Option Addr) (n c : Nat) (w : World) (h0 : 1 ≤ i) (h5 : i ≤ 4) (hG : GT w) (hn : gL i < n) : Sy.Fn Tryz.prog 45 [.int .i64 (i : Int), .slice a n c] w No (Gives (.tuple #[natV 0, .int .i64 5])) := by
  refine zq Tryz.func45 rfl Tryz.ntmps45 (by simp) Holds.nil ?_
  have hw := fun w' (hk : Keep No w w') => zgc i 81 a n c w' h0 h5 (hG.to hk) hn
  have lx := zh 0
  repeat' (first | refine zg ?_ | refine zf ?_ | refine zo ?_ | refine ze ?_ | refine zj ?_ | (refine za (id := 0) ?_; (refine zm ?_; intro _); refine zd ?_) | (refine za (id := 1) ?_; refine zb ?_; refine zb ?_; refine yv (zi (f := 92) (hc := fun w' _ hk _ => hw w' hk)) (k := ?_); refine zk ?_; refine zk ?_; refine yn (zn (n := 0)) (k := ?_); refine zd ?_) | fail)
  exact ret2 rfl (resCells (B := natC 0) rfl (ty rfl) rfl Has.go Seg.all (zh _).symm) (resTmp rfl) SubR.nil ⟨rfl, rfl⟩
theorem ziQ (i : Nat) (a : Option Addr) (n c : Nat) (bl : List UInt8) (w : World) (h0 : 1 ≤ i) (h5 : i ≤ 4) (hG : GT w) (hn : n = gL i) (hl : bl.length = n) (hcap : n ≤ c) (hb : SlA w a (bl.map v8)) (hc : memB (gP i) (gQ i) (bev 256 (bn bl)) = false) : Sy.Fn Tryz.prog 45 [.int .i64 (i : Int), .slice a n c] w No (Gives (.tuple #[natV 0, .int .i64 3])) := by
  refine zq Tryz.func45 rfl Tryz.ntmps45 (by simp) Holds.nil ?_
  have hw := fun w' (hk : Keep No w w') => ziE i 81 (memB (gP i) (gQ i)) a n c bl w' h0 h5 (hG.to hk) hn hl hcap (hb.to hk (fun _ h => .inr h)).sla (en rfl) (fun x hx w'' => zbj _ _ _ x w'' (zav i h0 h5) (zao i h0 h5) (by have := zak i h0 h5; omega) hx) hc
  have lx := zh 0
  repeat' (first | refine zg ?_ | refine zf ?_ | refine zo ?_ | refine ze ?_ | refine zj ?_ | (refine za (id := 0) ?_; (refine zm ?_; intro _); refine zd ?_) | (refine za (id := 1) ?_; refine zb ?_; refine zb ?_; refine yv (zi (f := 92) (hc := fun w' _ hk _ => hw w' hk)) (k := ?_); refine zk ?_; refine zk ?_; refine yn (zn (n := 0)) (k := ?_); refine zd ?_) | fail)
  exact ret2 rfl (resCells (B := natC 0) rfl (ty rfl) rfl Has.go Seg.all (zh _).symm) (resTmp rfl) SubR.nil ⟨rfl, rfl⟩
theorem ziV (i : Nat) (a : Option Addr) (n c : Nat) (bl : List UInt8) (w : World) (h0 : 1 ≤ i) (h5 : i ≤ 4) (hG : GT w) (hn : n = gL i) (hl : bl.length = n) (hcap : n ≤ c) (hb : SlA w a (bl.map v8)) (hc : memB (gP i) (gQ i) (bev 256 (bn bl)) = true) : Sy.Fn Tryz.prog 45 [.int .i64 (i : Int), .slice a n c] w No (Gives (.tuple #[natV (bev 256 (bn bl)), .int .i64 0])) := by
  refine zq Tryz.func45 rfl Tryz.ntmps45 (by simp) Holds.nil ?_
  have hw := fun w' (hk : Keep No w w') => zh6 i 81 (memB (gP i) (gQ i)) a n c bl w' h0 h5 (hG.to hk) hn hl hcap (hb.to hk (fun _ h => .inr h)).sla (en rfl) (fun x hx w'' => zbj _ _ _ x w'' (zav i h0 h5) (zao i h0 h5) (by have := zak i h0 h5; omega) hx) hc
  have lx := zh (bev 256 (bn bl))
  generalize bev 256 (bn bl) = x at *
  repeat' (first | refine zg ?_ | refine zf ?_ | refine zo ?_ | refine ze ?_ | refine zj ?_ | (refine za (id := 0) ?_; (refine zm ?_; intro _); refine zd ?_) | (refine za (id := 1) ?_; refine zb ?_; refine zb ?_; refine yv (zi (f := 92) (hc := fun w' _ hk _ => hw w' hk)) (k := ?_); refine zk ?_; refine zk ?_; refine yn (zn (n := x)) (k := ?_); refine zd ?_) | fail)
  exact ret2 rfl (resCells (B := natC x) rfl (ty rfl) rfl Has.go Seg.all (zh _).symm) (resTmp rfl) SubR.nil ⟨rfl, rfl⟩
theorem ziO (z : Int) (a : Option Addr) (n c : Nat) (w : World) (hz : ¬ (1 ≤ z ∧ z ≤ 4)) : Sy.Fn Tryz.prog 73 [.int .i64 z, .slice a n c] w No (Gives (.tuple #[natV 0, .int .i64 2])) := by
  refine zq Tryz.func73 rfl Tryz.ntmps73 (by simp) Holds.nil ?_
  have hw := fun w' (_ : Keep No w w') => zg7 z 83 a n c w' hz
  have lx := zh 0
  repeat' (first | refine zg ?_ | refine zf ?_ | refine zo ?_ | refine ze ?_ | refine zj ?_ | (refine za (id := 0) ?_; (refine zm ?_; intro _); refine zd ?_) | (refine za (id := 1) ?_; refine zb ?_; refine zb ?_; refine yv (zi (f := 92) (hc := fun w' _ hk _ => hw w' hk)) (k := ?_); refine zk ?_; refine zk ?_; refine yn (zn (n := 0)) (k := ?_); refine zd ?_) | fail)
  exact ret2 rfl (resCells (B := natC 0) rfl (ty rfl) rfl Has.go Seg.all (zh _).symm) (resTmp rfl) SubR.nil ⟨rfl, rfl⟩
theorem zhv (i : Nat) (a : Option Addr) (n c : Nat) (w : World) (h0 : 1 ≤ i) (h5 : i ≤ 4) (hG : GT w) (hn : n < gL i) : Sy.Fn Tryz.prog 73 [.int .i64 (i : Int), .slice a n c] w No (Gives (.tuple #[natV 0, .int .i64 4])) := by
  refine zq Tryz.func73 rfl Tryz.ntmps73 (by simp) Holds.nil ?_
  have hw := fun w' (hk : Keep No w w') => zfz i 83 a n c w' h0 h5 (hG.to hk) hn
  have lx := zh 0
  repeat' (first | refine zg ?_ | refine zf ?_ | refine zo ?_ | refine ze ?_ | refine zj ?_ | (refine za (id := 0) ?_; (refine zm ?_; intro _); refine zd ?_) | (refine za (id := 1) ?_; refine zb ?_; refine zb ?_; refine yv (zi (f := 92) (hc := fun w' _ hk _ => hw w' hk)) (k := ?_); refine zk ?_; refine zk ?_; refine yn (zn (n := 0)) (k := ?_); refine zd ?_) | fail)
  exact ret2 rfl (resCells (B := natC 0) rfl (ty rfl) rfl Has.go Seg.all (zh _).symm) (resTmp rfl) SubR.nil ⟨rfl, rfl⟩
theorem zhM (i : Nat) (a : Option Addr) (n c : Nat) (w : World) (h0 : 1 ≤ i) (h5 : i ≤ 4) (hG : GT w) (hn : gL i < n) : Sy.Fn Tryz.prog 73 [.int .i64 (i : Int), .slice a n c] w No (Gives (.tuple #[natV 0, .int .i64 5])) := by
  refine zq Tryz.func73 rfl Tryz.ntmps73 (by simp) Holds.nil ?_
  have hw := fun w' (hk : Keep No w w') => zgc i 83 a n c w' h0 h5 (hG.to hk) hn
  have lx := zh 0
  repeat' (first | refine zg ?_ | refine zf ?_ | refine zo ?_ | refine ze ?_ | refine zj ?_ | (refine za (id := 0) ?_; (refine zm ?_; intro _); refine zd ?_) | (refine za (id := 1) ?_; refine zb ?_; refine zb ?_; refine yv (zi (f := 92) (hc := fun w' _ hk _ => hw w' hk)) (k := ?_); refine zk ?_; refine zk ?_; refine yn (zn (n := 0)) (k := ?_); refine zd ?_) | fail)
  exact ret2 rfl (resCells (B := natC 0) rfl (ty rfl) rfl Has.go Seg.all (zh _).symm) (resTmp rfl) SubR.nil ⟨rfl, rfl⟩
theorem zjT (i : Nat) (a : Option Addr) (n c : Nat) (bl : List UInt8) (w : World) (h0 : 1 ≤ i) (h5 : i ≤ 4) (hG : GT w) (hn : n = gL i) (hl : bl.length = n) (hcap : n ≤ c) (hb : SlA w a (bl.map v8)) (hc : decide (bev 256 (bn bl) < gQ i) = false) : Sy.Fn Tryz.prog 73 [.int .i64 (i : Int), .slice a n c] w No (Gives (.tuple #[natV 0, .int .i64 3])) := by
  refine zq Tryz.func73 rfl Tryz.ntmps73 (by simp) Holds.nil ?_
  have hw := fun w' (hk : Keep No w w') => ziE i 83 (fun y => decide (y < gQ i)) a n c bl w' h0 h5 (hG.to hk) hn hl hcap (hb.to hk (fun _ h => .inr h)).sla (en rfl) (fun x hx w'' => zbG _ _ _ x w'' (zao i h0 h5) hx) hc
  have lx := zh 0
  repeat' (first | refine zg ?_ | refine zf ?_ | refine zo ?_ | refine ze ?_ | refine zj ?_ | (refine za (id := 0) ?_; (refine zm ?_; intro _); refine zd ?_) | (refine za (id := 1) ?_; refine zb ?_; refine zb ?_; refine yv (zi (f := 92) (hc := fun w' _ hk _ => hw w' hk)) (k := ?_); refine zk ?_; refine zk ?_; refine yn (zn (n := 0)) (k := ?_); refine zd ?_) | fail)
  exact ret2 rfl (resCells (B := natC 0) rfl (ty rfl) rfl Has.go Seg.all (zh _).symm) (resTmp rfl) SubR.nil ⟨rfl, rfl⟩
theorem zjX (i : Nat) (a : Option Addr) (n c : Nat) (bl : List UInt8) (w : World) (h0 : 1 ≤ i) (h5 : i ≤ 4) (hG : GT w) (hn : n = gL i) (hl : bl.length = n) (hcap : n ≤ c) (hb : SlA w a (bl.map v8)) (hc : decide (bev 256 (bn bl) < gQ i) = true) : Sy.Fn Tryz.prog 73 [.int .i64 (i : Int), .slice a n c] w No (Gives (.tuple #[natV (bev 256 (bn bl)), .int .i64 0])) := by
  refine zq Tryz.func73 rfl Tryz.ntmps73 (by simp) Holds.nil ?_
  have hw := fun w' (hk : Keep No w w') => zh6 i 83 (fun y => decide (y < gQ i)) a n c bl w' h0 h5 (hG.to hk) hn hl hcap (hb.to hk (fun _ h => .inr h)).sla (en rfl) (fun x hx w'' => zbG _ _ _ x w'' (zao i h0 h5) hx) hc
  have lx := zh (bev 256 (bn bl))
  generalize bev 256 (bn bl) = x at *
  repeat' (first | refine zg ?_ | refine zf ?_ | refine zo ?_ | refine ze ?_ | refine zj ?_ | (refine za (id := 0) ?_; (refine zm ?_; intro _); refine zd ?_) | (refine za (id := 1) ?_; refine zb ?_; refine zb ?_; refine yv (zi (f := 92) (hc := fun w' _ hk _ => hw w' hk)) (k := ?_); refine zk ?_; refine zk ?_; refine yn (zn (n := x)) (k := ?_); refine zd ?_) | fail)
  exact ret2 rfl (resCells (B := natC x) rfl (ty rfl) rfl Has.go Seg.all (zh _).symm) (resTmp rfl) SubR.nil ⟨rfl, rfl⟩
theorem ziZ (z : Int) (a : Option Addr) (n c : Nat) (w : World) (hz : ¬ (1 ≤ z ∧ z ≤ 4)) : Sy.Fn Tryz.prog 27 [.int .i64 z, .slice a n c] w No (Gives (.tuple #[natV 0, .int .i64 2])) := by
  refine zq Tryz.func27 rfl Tryz.ntmps27 (by simp) Holds.nil ?_
  have lz := zh 0
  have lS := zI 0 0 0
  have hsp := zaU 0 0 0
  have hsq := zaV 0 0 0
  repeat' (first | refine zg ?_ | refine zf ?_ | refine zu rfl ?_ | refine zo ?_ | refine ze ?_ | refine zj ?_ | refine zx ?_ | (refine za (id := 0) ?_; (refine zm ?_; intro _); refine zd ?_) | (refine za (id := 1) ?_; refine zb ?_; refine yv (zi (hc := fun _ _ _ _ => (zd4 z _ hz))) (k := ?_); refine zb ?_; refine zk ?_; refine zk ?_; (refine zm ?_; intro _); refine yn (zU (B := safeC 0 0 0) (hv := zad 0 0 0) (h1 := (zI 0 0 0).symm)) (k := ?_); refine zd ?_) | (refine za (id := 2) ?_; refine zb ?_; refine z8 ?_) | (refine za (id := 3) ?_; refine yv za6 (k := ?_); refine zb ?_; refine yn (zn (n := 0)) (k := ?_); refine zd ?_) | fail)
  exact ret2 rfl (resCells (B := natC 0) rfl (ty rfl) rfl Has.go Seg.all (zh _).symm) (resTmp rfl) SubR.nil ⟨rfl, rfl⟩
set_option maxHeartbeats 1000000 in
theorem zf5 (i : Nat) (a : Option Addr) (n c : Nat) (bl : List UInt8) (w : World) (h0 : 1 ≤ i) (h5 : i ≤ 4) (hG : GT w) (hl : bl.length = n) (hcap : n ≤ c) (hc2 : n < 1000000) (hb : SlA w a (bl.map v8)) :
    Sy.Fn Tryz.prog 27 [.int .i64 (i : Int), .slice a n c] w No (Gives (.tuple #[natV (bev 256 (bn bl) % gQ i), .int .i64 0])) := by
  refine zq Tryz.func27 rfl Tryz.ntmps27 (by simp) Holds.nil ?_
  have hW := zav i h0 h5
  have hQW := zao i h0 h5
  have hp1 := zak i h0 h5
  have hq0 := zag i h0 h5
  have hfi := fun w' (hk : Keep No w w') => zaY i w' h0 h5 (hG.to hk)
  generalize gP i = p at *
  generalize gQ i = q at *
  generalize gL i = l at *
  have lS := zI p q l
  have lp := zh p
  have lq := zh q
  have lz := zh 0
  have hsp := zaU p q l
  have hsq := zaV p q l
  have hsl := za0 p q l
  have hq00 : 0 < q := by omega
  have hRW : 256 ^ 32 < 18446744073709551616 ^ 16 := by
    rw [zdK 256 8 128 rfl rfl]; exact Nat.pow_lt_pow_right (by decide) (by decide)
  have hrad := fun w' aR cR (h : SlA w' aR ((1 :: List.replicate 32 0 : List UInt8).map v8)) (hc : 32 + 1 ≤ cR) => za8 aR (32 + 1) cR (1 :: List.replicate 32 0) w' (by simp) hc h (by omega)
  rw [zhm, if_pos hRW] at hrad
  have hys : [Value.int IntKind.u8 1] ++ List.replicate 32 (Value.int IntKind.u8 0) = (1 :: List.replicate 32 0 : List UInt8).map v8 := by
    rw [List.map_cons, List.map_replicate]; rfl
  have lr := zh (256 ^ 32)
  generalize hrd : 256 ^ 32 = rad at *
  obtain ⟨f, hf⟩ : ∃ f, f = n % 32 := ⟨_, rfl⟩
  have hf32 : f < 32 := by rw [hf]; exact Nat.mod_lt _ (by decide)
  have hfn : f ≤ n := by rw [hf]; exact Nat.mod_le _ _
  obtain ⟨k, hk⟩ : ∃ k, n = f + 32 * k := ⟨n / 32, by rw [hf]; have := Nat.div_add_mod n 32; omega⟩
  have hrem : (n : Int).tmod 32 = ((f : Nat) : Int) := by rw [hf]; exact remI n 32
  have chunkW : ∀ D : List UInt8, D.length ≤ 32 → bev 256 (bn D) < 18446744073709551616 ^ 16 := fun D hD => by
    rw [zdK 256 8 128 rfl rfl]
    refine Nat.lt_of_lt_of_le (zb5 256 (bn D) (zdA D)) ?_
    rw [show (bn D).length = D.length from List.length_map _]
    exact Nat.pow_le_pow_right (by decide) (by omega)
  have hf0 := fun w' (hk : Keep No w w') => za8 a f f (bl.take f) w' (by rw [List.length_take]; omega) (Nat.le_refl _) (by rw [List.map_take]; exact ((hb.to hk (fun _ h => .inr h)).sla).take _) (by omega)
  rw [if_pos (chunkW (bl.take f) (by rw [List.length_take]; omega))] at hf0
  have hd0W := chunkW (bl.take f) (by rw [List.length_take]; omega)
  have hrd0 := fun w' => zkx (bev 256 (bn (bl.take f))) q w' hd0W hQW
  unfold modR at hrd0
  simp only [if_neg (show ¬ q = 0 by omega)] at hrd0
  have ld0 := zh (bev 256 (bn (bl.take f)))
  have lr0 := zh (bev 256 (bn (bl.take f)) % q)
  clear hf
  repeat' (first | refine zg ?_ | refine zf ?_ | refine zw rfl ?_ | refine zt ?_ | refine ze ?_ | refine zj ?_ | (refine za (id := 0) ?_; (refine zm ?_; intro _); refine zd ?_) | (refine za (id := 1) ?_; refine zb ?_; refine yv (zi (f := 74) (hc := fun w' _ hk _ => hfi w' hk)) (k := ?_); refine zb ?_; refine zk ?_; refine zk ?_; (refine zm ?_; intro _); refine yn (zU (B := safeC p q l) (hv := zad p q l) (h1 := (zI p q l).symm)) (k := ?_); refine zd ?_) | (refine za (id := 2) ?_; refine zb ?_; refine z8 ?_) | (refine za (id := 4) ?_; (refine ys zR (k := ?_); rintro _ _ ⟨_, rfl, rfl⟩); (refine ys (OpT.conv (zcp (n := 1) (s := 1) (by repeat (first | exact Rem.here | apply Rem.there)) rfl (by unfold maxLen; omega)) (zgf (k := 1) (m := 32) (km := 32 + 1) (hm := rfl) (hL := Rem.here) (hkm := rfl) (hys := hys))) (k := ?_); rintro _ _ ⟨rfl, aR, cR, rfl⟩); refine yv (zi (f := 68) (hc := fun w' _ _ hh => hrad w' _ _ (zD hh (by exact Has.append Has.go)) (Row.cap (n := 32 + 1) hh (by exact Has.append Has.go)))) (k := ?_); refine zb ?_; refine zk ?_; refine zk ?_; (refine zm ?_; intro _); refine yn (zn (n := rad)) (k := ?_); refine zd ?_) | (refine za (id := 5) ?_; refine zb ?_; refine zB ?_; refine yv (zaA (hr := hrem)) (k := ?_); refine zd ?_) | fail)
  rename_i b4 b6 wx b8
  refine Sy.weaken (fr' := [(1, .slice a n c), (4, .pointer (some ⟨b4, 0, none⟩)), (6, .pointer (some ⟨b6, 0, none⟩)), (8, .pointer (some ⟨b8, 0, none⟩)), (10, .int .i64 f)]) (L' := [.blk b8 43 (natC rad), .blk b6 88 (safeC p q l), .blk b4 43 (List.replicate 16 (Value.int IntKind.u64 0))]) ?_ (by exact Sub.go) (by exact SubR.go2)
  clear hrad hys hfi
  generalize hD0 : bev 256 (bn (bl.take f)) = d0 at *
  generalize hr0 : d0 % q = r0 at *
  repeat' (first | refine zg ?_ | refine zf ?_ | refine zr ?_ | refine ze ?_ | refine zj ?_ | (refine za (id := 6) ?_; refine zb ?_; refine zb ?_; refine zb ?_; refine yv (zaQ (l := 0) (h := f) (m := f) (n' := f) (c' := f)) (k := ?_); refine yv (zi (f := 68) (hc := fun w' _ hk _ => hf0 w' hk)) (k := ?_); refine zb ?_; refine zk ?_; refine zk ?_; (refine zm ?_; intro _); refine yn (zn (n := d0)) (k := ?_); refine zd ?_) | (refine za (id := 7) ?_; refine yv (zl (B := natC d0)) (k := ?_); refine zF ?_; refine yv (zl (B := natC q) (hv := hsq)) (k := ?_); refine yv (zi (hc := fun _ _ _ _ => (hrd0 _))) (k := ?_); refine zb ?_; refine zk ?_; refine zk ?_; refine yn (zn (n := r0)) (k := ?_)) | (refine za (id := 8) ?_; refine zb ?_; refine zd ?_) | fail)
  rename_i b11
  refine zQ (γ := Nat) (fun j => [(1, .slice a n c), (4, .pointer (some ⟨b4, 0, none⟩)), (6, .pointer (some ⟨b6, 0, none⟩)), (8, .pointer (some ⟨b8, 0, none⟩)), (11, .pointer (some ⟨b11, 0, none⟩)), (13, .int .i64 ((f + 32 * j : Nat) : Int))])
    (fun j => [.blk b11 43 (natC (bev 256 (bn (bl.take (f + 32 * j))) % q)), .blk b8 43 (natC rad), .blk b6 88 (safeC p q l), .blk b4 43 (List.replicate 16 (Value.int IntKind.u64 0))])
    (fun j => j ≤ k) (fun j => k - j) 0 (Nat.zero_le _) ?_ ?_ ?_
  · exact Sub.go
  · show SubR [.blk b11 43 (natC (bev 256 (bn (bl.take f)) % q)), .blk b8 43 (natC rad), .blk b6 88 (safeC p q l), .blk b4 43 (List.replicate 16 (Value.int IntKind.u64 0))] _
    rw [hD0, hr0]
    exact SubR.go2
  clear hf0 hrd0 ld0 lr0 hd0W
  intro j hj
  rcases Nat.lt_or_ge j k with h | h
  · have hlt : decide (((f + 32 * j : Nat) : Int) < (n : Int)) = true := decide_eq_true (by omega)
    have hadd : IntKind.i64.wrap (((f + 32 * j : Nat) : Int) + 32) = ((f + 32 * j + 32 : Nat) : Int) := by rw [IntWalk.i64_in _ (by omega)]; omega
    have hch := zhl bl (f + 32 * j) 32 (by omega)
    rw [hrd] at hch
    have hcl : ((bl.take (f + 32 * j + 32)).drop (f + 32 * j)).length = 32 := by rw [List.length_drop, List.length_take]; omega
    have hcW := chunkW ((bl.take (f + 32 * j + 32)).drop (f + 32 * j)) (by omega)
    have hfb := fun w' (hk : Keep No w w') => za8 (movA a (f + 32 * j) (f + 32 * j + 32) 1) 32 32 ((bl.take (f + 32 * j + 32)).drop (f + 32 * j)) w' hcl (Nat.le_refl _) (by
      rw [List.map_drop, List.map_take]
      exact (((hb.to hk (fun _ h => .inr h)).sla).take _).mov (by rw [List.length_take]; omega)) (by omega)
    rw [if_pos hcW] at hfb
    have hst := zkr q (bev 256 (bn (bl.take (f + 32 * j)))) rad (bev 256 (bn ((bl.take (f + 32 * j + 32)).drop (f + 32 * j))))
    rw [← hch] at hst
    have hrW := Nat.lt_trans (Nat.mod_lt (bev 256 (bn (bl.take (f + 32 * j)))) hq00) hQW
    generalize bev 256 (bn ((bl.take (f + 32 * j + 32)).drop (f + 32 * j))) = d at *
    generalize bev 256 (bn (bl.take (f + 32 * j))) % q = R0 at *
    have hM := fun w' => zgz R0 rad q w' hrW hRW hQW
    have hpW := Nat.lt_trans (Nat.mod_lt (R0 * rad) hq00) hQW
    have hA := fun w' => zjz (R0 * rad % q) d q w' hpW hcW hQW
    unfold modR at hM hA
    simp only [if_neg (show ¬ q = 0 by omega)] at hM hA
    rw [hst] at hA
    have l1 := zh R0
    have l2 := zh d
    have l3 := zh (R0 * rad % q)
    have hcur : bev 256 (bn (bl.take (f + 32 * (j + 1)))) % q = bev 256 (bn (bl.take (f + 32 * j + 32))) % q := by rw [show f + 32 * (j + 1) = f + 32 * j + 32 by omega]
    have hnx : ((f + 32 * (j + 1) : Nat) : Int) = ((f + 32 * j + 32 : Nat) : Int) := by omega
    rw [← hcur] at hA
    have l4 := zh (bev 256 (bn (bl.take (f + 32 * (j + 1)))) % q)
    clear hst hch hcur
    generalize hnew : bev 256 (bn (bl.take (f + 32 * (j + 1)))) % q = R1 at *
    generalize R0 * rad % q = P at *
    repeat' (first | refine zg ?_ | refine zf ?_ | refine zu rfl ?_ | refine zr ?_ | refine zt ?_ | refine ze ?_ | refine zj ?_ | (refine za (id := 9) ?_; refine zb ?_; refine zb ?_; refine zB ?_; refine yv (zX (hr := hlt)) (k := ?_)) | (refine za (id := 11) ?_; refine zb ?_; refine zb ?_; refine zb ?_; refine yv (zM (hr := hadd)) (k := ?_); refine zb ?_; refine yv (zM (hr := hadd)) (k := ?_); refine yv (zaQ (l := f + 32 * j) (h := f + 32 * j + 32) (m := f + 32 * j + 32) (n' := 32) (c' := 32) (hn' := by omega) (hc' := by omega)) (k := ?_); refine yv (zi (f := 68) (hc := fun w' _ hk _ => hfb w' hk)) (k := ?_); refine zb ?_; refine zk ?_; refine zk ?_; (refine zm ?_; intro _); refine yn (zn (n := d)) (k := ?_); refine zd ?_) | (refine za (id := 12) ?_; refine yv (zl (B := natC R0)) (k := ?_); refine yv (zl (B := natC rad)) (k := ?_); refine zF ?_; refine yv (zl (B := natC q) (hv := hsq)) (k := ?_); refine yv (zi (hc := fun _ _ _ _ => (hM _))) (k := ?_); refine zb ?_; refine zk ?_; refine zk ?_; refine yn (zn (n := P)) (k := ?_)) | (refine za (id := 13) ?_; refine yv (zl (B := natC P)) (k := ?_); refine yv (zl (B := natC d)) (k := ?_); refine zF ?_; refine yv (zl (B := natC q) (hv := hsq)) (k := ?_); refine yv (zi (hc := fun _ _ _ _ => (hA _))) (k := ?_); refine zb ?_; refine zk ?_; refine zk ?_; refine yn (zn (n := R1)) (k := ?_)) | (refine za (id := 10) ?_; refine zb ?_; refine yv (zM (hr := hadd)) (k := ?_); refine zd ?_) | fail)
    refine zG (j + 1) ?_ ?_ ?_ ?_
    · show j + 1 ≤ k; omega
    · show k - (j + 1) < k - j; omega
    · rw [hnx]
      exact Sub.go
    · show SubR [.blk b11 43 (natC (bev 256 (bn (bl.take (f + 32 * (j + 1)))) % q)), .blk b8 43 (natC rad), .blk b6 88 (safeC p q l), .blk b4 43 (List.replicate 16 (Value.int IntKind.u64 0))] _
      rw [hnew]
      exact SubR.go2
  · obtain rfl : j = k := by omega
    have hlt : decide (((f + 32 * j : Nat) : Int) < (n : Int)) = false := decide_eq_false (by omega)
    rw [List.take_of_length_le (by omega)]
    have lR := zh (bev 256 (bn bl) % q)
    generalize bev 256 (bn bl) % q = R at *
    repeat' (first | refine zg ?_ | refine zf ?_ | refine zw rfl ?_ | refine zo ?_ | refine zE ?_ | refine ze ?_ | refine zj ?_ | (refine za (id := 9) ?_; refine zb ?_; refine zb ?_; refine zB ?_; refine yv (zX (hr := hlt)) (k := ?_)) | (refine za (id := 14) ?_; refine yv (zl (B := natC R)) (k := ?_); refine yn (zn (n := R)) (k := ?_); refine zd ?_) | fail)
    exact ret2 rfl (resCells (B := natC R) rfl (ty rfl) rfl Has.go Seg.all (zh _).symm) (resTmp rfl) SubR.nil ⟨rfl, rfl⟩
end Go.Proofs.YtjidkoabdmjgkaaGreatDoor
end
