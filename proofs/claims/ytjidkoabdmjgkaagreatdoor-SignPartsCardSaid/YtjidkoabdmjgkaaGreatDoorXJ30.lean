/- The functions of layer group. -/
import Derived.Test.YtjidkoabdmjgkaaGreatDoorXJ29
import Derived.Test.YtjidkoabdmjgkaaGreatDoorXJ25
set_option linter.all false
section
namespace Go.Proofs.YtjidkoabdmjgkaaGreatDoor
open Go Go.Sy Go.Nt Go.RowKit
attribute [local irreducible] Sy SyL SyX Sy.Fn callFunc natC rowN safeC gP gQ gL gS gCells memB
set_option maxRecDepth 10000
theorem all1c (p q l f x b : Nat) (cond : Nat → Bool) (w : World) (hen : ∀ args w, (callFunc f args).run Tryz.prog w = .ok (.enter f args) w) (hf : ∀ w', Sy.Fn Tryz.prog f [safeV p q l, natV x] w' No (Gives (.bool (cond x)))) (h : w.rangeAt b 0 (rowN [x])) :
    Sy.Fn Tryz.prog 82 [safeV p q l, .func (.func f) #[] #[], .slice (some ⟨b, 0, none⟩) 1 1] w No (Gives (.int .i64 (if cond x = true then 0 else 3))) := by
  have := zjp p q l f 1 1 b 0 [x] cond w rfl (by decide) hen (fun y hy w' => by rw [List.mem_singleton.1 hy]; exact hf w') h
  rw [List.all_cons, List.all_nil, Bool.and_true] at this
  exact this
theorem all2c (p q l f x y b : Nat) (cond : Nat → Bool) (w : World) (hen : ∀ args w, (callFunc f args).run Tryz.prog w = .ok (.enter f args) w) (hf : ∀ x', (x' = x ∨ x' = y) → ∀ w', Sy.Fn Tryz.prog f [safeV p q l, natV x'] w' No (Gives (.bool (cond x')))) (h : w.rangeAt b 0 (rowN [x, y])) :
    Sy.Fn Tryz.prog 82 [safeV p q l, .func (.func f) #[] #[], .slice (some ⟨b, 0, none⟩) 2 2] w No (Gives (.int .i64 (if (cond x && cond y) = true then 0 else 3))) := by
  have := zjp p q l f 2 2 b 0 [x, y] cond w rfl (by decide) hen (fun z hz w' => hf z (by simpa using hz) w') h
  rw [List.all_cons, List.all_cons, List.all_nil, Bool.and_true] at this
  exact this
theorem zjf (z : Int) (w : World) (hz : ¬ (1 ≤ z ∧ z ≤ 4)) : Sy.Fn Tryz.prog 46 [.int .i64 z] w No (Gives (.tuple #[natV 0, .int .i64 2])) := by
  refine zq Tryz.func46 rfl Tryz.ntmps46 (by simp) Holds.nil ?_
  have lz := zg 0
  have lS := zG 0 0 0
  have hsp := zaF 0 0 0
  have hsq := zaG 0 0 0
  repeat' (first | refine zh ?_ | refine zf ?_ | refine zp ?_ | refine ze ?_ | refine zj ?_ | (refine za (id := 0) ?_; (refine zm ?_; intro _); refine zd ?_) | (refine za (id := 1) ?_; refine zb ?_; refine yv (zi (hc := fun _ _ _ _ => (zdR z _ hz))) (k := ?_); refine zb ?_; refine zk ?_; refine zk ?_; (refine zm ?_; intro _); refine yn (zR (B := safeC 0 0 0) (hv := z8 0 0 0) (h1 := (zG 0 0 0).symm)) (k := ?_); refine zd ?_) | (refine za (id := 2) ?_; refine zD ?_; refine yv (zl (B := natC 0) (hv := hsq)) (k := ?_); refine zb ?_; refine yn (zn (n := 0)) (k := ?_); refine zd ?_) | fail)
  exact ret2 rfl (resCells (B := natC 0) rfl (ty rfl) rfl Has.go Seg.all (zg _).symm) (resTmp rfl) SubR.nil ⟨rfl, rfl⟩
theorem zko (i : Nat) (w : World) (h0 : 1 ≤ i) (h5 : i ≤ 4) (hG : GT w) :
    Sy.Fn Tryz.prog 46 [.int .i64 (i : Int)] w No (Gives (.tuple #[natV (gQ i), .int .i64 0])) := by
  refine zq Tryz.func46 rfl Tryz.ntmps46 (by simp) Holds.nil ?_
  have hW := zaH i h0 h5
  have hQW := zaE i h0 h5
  have hp1 := zap i h0 h5
  have hq0 := zak i h0 h5
  have hfi := fun w' (hk : Keep No w w') => zaK i w' h0 h5 (hG.to hk)
  generalize gP i = p at *
  generalize gQ i = q at *
  generalize gL i = l at *
  have lS := zG p q l
  have lp := zg p
  have lq := zg q
  have lz := zg 0
  have hsp := zaF p q l
  have hsq := zaG p q l
  have hsl := zaR p q l
  repeat' (first | refine zh ?_ | refine zf ?_ | refine zp ?_ | refine ze ?_ | refine zj ?_ | (refine za (id := 0) ?_; (refine zm ?_; intro _); refine zd ?_) | (refine za (id := 1) ?_; refine zb ?_; refine yv (zi (f := 74) (hc := fun w' _ hk _ => hfi w' hk)) (k := ?_); refine zb ?_; refine zk ?_; refine zk ?_; (refine zm ?_; intro _); refine yn (zR (B := safeC p q l) (hv := z8 p q l) (h1 := (zG p q l).symm)) (k := ?_); refine zd ?_) | (refine za (id := 2) ?_; refine zD ?_; refine yv (zl (B := natC q) (hv := hsq)) (k := ?_); refine zb ?_; refine yn (zn (n := q)) (k := ?_); refine zd ?_) | fail)
  exact ret2 rfl (resCells (B := natC q) rfl (ty rfl) rfl Has.go Seg.all (zg _).symm) (resTmp rfl) SubR.nil ⟨rfl, rfl⟩
theorem zk2 (z : Int) (w : World) (hz : ¬ (1 ≤ z ∧ z ≤ 4)) : Sy.Fn Tryz.prog 72 [.int .i64 z] w No (Gives (.int .i64 0)) := by
  refine zq Tryz.func72 rfl Tryz.ntmps72 (by simp) Holds.nil ?_
  have lS := zG 0 0 0
  have hsl := zaR 0 0 0
  repeat' (first | refine zh ?_ | refine zf ?_ | refine zp ?_ | refine ze ?_ | refine zj ?_ | (refine za (id := 0) ?_; refine zd ?_) | (refine za (id := 1) ?_; refine zb ?_; refine yv (zi (hc := fun _ _ _ _ => (zdR z _ hz))) (k := ?_); refine zb ?_; refine zk ?_; refine zk ?_; (refine zm ?_; intro _); refine yn (zR (B := safeC 0 0 0) (hv := z8 0 0 0) (h1 := (zG 0 0 0).symm)) (k := ?_); refine zd ?_) | (refine za (id := 2) ?_; refine zD ?_; refine yv (zP (hv := hsl)) (k := ?_); refine zd ?_) | fail)
  exact ret1 rfl (resTmp rfl) SubR.nil ⟨rfl, rfl⟩
theorem zmC (i : Nat) (w : World) (h0 : 1 ≤ i) (h5 : i ≤ 4) (hG : GT w) :
    Sy.Fn Tryz.prog 72 [.int .i64 (i : Int)] w No (Gives (.int .i64 ((gL i : Nat) : Int))) := by
  refine zq Tryz.func72 rfl Tryz.ntmps72 (by simp) Holds.nil ?_
  have hW := zaH i h0 h5
  have hQW := zaE i h0 h5
  have hp1 := zap i h0 h5
  have hq0 := zak i h0 h5
  have hfi := fun w' (hk : Keep No w w') => zaK i w' h0 h5 (hG.to hk)
  generalize gP i = p at *
  generalize gQ i = q at *
  generalize gL i = l at *
  have lS := zG p q l
  have lp := zg p
  have lq := zg q
  have lz := zg 0
  have hsp := zaF p q l
  have hsq := zaG p q l
  have hsl := zaR p q l
  repeat' (first | refine zh ?_ | refine zf ?_ | refine zp ?_ | refine ze ?_ | refine zj ?_ | (refine za (id := 0) ?_; refine zd ?_) | (refine za (id := 1) ?_; refine zb ?_; refine yv (zi (f := 74) (hc := fun w' _ hk _ => hfi w' hk)) (k := ?_); refine zb ?_; refine zk ?_; refine zk ?_; (refine zm ?_; intro _); refine yn (zR (B := safeC p q l) (hv := z8 p q l) (h1 := (zG p q l).symm)) (k := ?_); refine zd ?_) | (refine za (id := 2) ?_; refine zD ?_; refine yv (zP (hv := hsl)) (k := ?_); refine zd ?_) | fail)
  exact ret1 rfl (resTmp rfl) SubR.nil ⟨rfl, rfl⟩
theorem zdg (i : Nat) (e : Nat) (w : World) (h0 : 1 ≤ i) (h5 : i ≤ 4) (hG : GT w) (he : e < 18446744073709551616 ^ 16) (hc : e < gQ i) :
    Sy.Fn Tryz.prog 33 [.int .i64 (i : Int), natV e] w No (Gives (.tuple #[natV (4 ^ e % gP i), .int .i64 0])) := by
  refine zq Tryz.func33 rfl Tryz.ntmps33 (by simp) Holds.nil ?_
  have le := zg e
  have hW := zaH i h0 h5
  have hQW := zaE i h0 h5
  have hp1 := zap i h0 h5
  have hq0 := zak i h0 h5
  have hfi := fun w' (hk : Keep No w w') => zaK i w' h0 h5 (hG.to hk)
  generalize gP i = p at *
  generalize gQ i = q at *
  generalize gL i = l at *
  have lS := zG p q l
  have lp := zg p
  have lq := zg q
  have lz := zg 0
  have hsp := zaF p q l
  have hsq := zaG p q l
  have hsl := zaR p q l
  have hale := fun w' b' (h : w'.rangeAt b' 0 (rowN [e])) => all1c p q l 83 e b' (fun y => decide (y < q)) w' (en rfl) (fun w'' => zby p q l e w'' hQW he) h
  simp only [decide_eq_true hc, if_true] at hale
  have l4 := zg 4
  have f4 := fun w' => zd4 4 w' (by decide)
  have hpw := fun w' => ze7 p q l 4 e w' hW (by omega) (by decide) he
  have lr := zg (4 ^ e % p)
  generalize 4 ^ e % p = r at *
  repeat' (first | refine zh ?_ | refine zf ?_ | refine zt rfl ?_ | refine zr ?_ | refine zp ?_ | refine ze ?_ | refine zj ?_ | (refine za (id := 0) ?_; (refine zm ?_; intro _); (refine zm ?_; intro _); refine zd ?_) | (refine za (id := 1) ?_; refine zb ?_; refine yv (zi (f := 74) (hc := fun w' _ hk _ => hfi w' hk)) (k := ?_); refine zb ?_; refine zk ?_; refine zk ?_; (refine zm ?_; intro _); refine yn (zR (B := safeC p q l) (hv := z8 p q l) (h1 := (zG p q l).symm)) (k := ?_); refine zd ?_) | (refine za (id := 2) ?_; refine zb ?_; refine zW ?_) | (refine za (id := 4) ?_; refine yv (zl (B := safeC p q l)) (k := ?_); refine yv (zl (B := natC e)) (k := ?_)) | (refine za (id := 5) ?_; refine zb ?_; refine zW ?_) | (refine za (id := 7) ?_; refine yv (zi (hc := fun _ _ _ _ => (f4 _))) (k := ?_); refine zb ?_; refine zk ?_; refine zk ?_; (refine zm ?_; intro _); refine yn (zn (n := 4)) (k := ?_); refine zd ?_) | (refine za (id := 8) ?_; refine yv (zl (B := safeC p q l)) (k := ?_); refine yv (zl (B := natC 4)) (k := ?_); refine yv (zl (B := natC e)) (k := ?_); refine yv (zi (hc := fun _ _ _ _ => (hpw _))) (k := ?_); refine yn (zn (n := r)) (k := ?_); refine zd ?_) | (refine ys (zao (x := e)) (k := ?_); rintro _ _ ⟨bb, rfl, rfl⟩) | (refine zT ?_; first | refine yv (zi (f := 82) (hc := fun w' X hk hh => hale w' _ (zL (hh.has (by exact Has.append Has.here)) Seg.all))) (k := ?_) | refine zd ?_ | fail) | fail)
  exact ret2 rfl (resCells (B := natC r) rfl (ty rfl) rfl Has.go Seg.all (zg _).symm) (resTmp rfl) SubR.nil ⟨rfl, rfl⟩
theorem znw (i : Nat) (x : Nat) (e : Nat) (w : World) (h0 : 1 ≤ i) (h5 : i ≤ 4) (hG : GT w) (hx : x < 18446744073709551616 ^ 16) (he : e < 18446744073709551616 ^ 16) (hc : memB (gP i) (gQ i) x = false) :
    Sy.Fn Tryz.prog 53 [.int .i64 (i : Int), natV x, natV e] w No (Gives (.tuple #[natV 0, .int .i64 3])) := by
  refine zq Tryz.func53 rfl Tryz.ntmps53 (by simp) Holds.nil ?_
  have lx := zg x
  have le := zg e
  have hW := zaH i h0 h5
  have hQW := zaE i h0 h5
  have hp1 := zap i h0 h5
  have hq0 := zak i h0 h5
  have hfi := fun w' (hk : Keep No w w') => zaK i w' h0 h5 (hG.to hk)
  generalize gP i = p at *
  generalize gQ i = q at *
  generalize gL i = l at *
  have lS := zG p q l
  have lp := zg p
  have lq := zg q
  have lz := zg 0
  have hsp := zaF p q l
  have hsq := zaG p q l
  have hsl := zaR p q l
  have halx := fun w' b' (h : w'.rangeAt b' 0 (rowN [x])) => all1c p q l 81 x b' (memB p q) w' (en rfl) (fun w'' => zba p q l x w'' hW hQW (by omega) hx) h
  simp only [hc, Bool.false_eq_true, if_false] at halx
  repeat' (first | refine zh ?_ | refine zf ?_ | refine zw rfl ?_ | refine zt rfl ?_ | refine zr ?_ | refine zp ?_ | refine ze ?_ | refine zj ?_ | refine zy ?_ | (refine za (id := 0) ?_; (refine zm ?_; intro _); (refine zm ?_; intro _); (refine zm ?_; intro _); refine zd ?_) | (refine za (id := 1) ?_; refine zb ?_; refine yv (zi (f := 74) (hc := fun w' _ hk _ => hfi w' hk)) (k := ?_); refine zb ?_; refine zk ?_; refine zk ?_; (refine zm ?_; intro _); refine yn (zR (B := safeC p q l) (hv := z8 p q l) (h1 := (zG p q l).symm)) (k := ?_); refine zd ?_) | (refine za (id := 2) ?_; refine zb ?_; refine zW ?_) | (refine za (id := 4) ?_; refine yv (zl (B := safeC p q l)) (k := ?_); refine yv (zl (B := natC x)) (k := ?_)) | (refine za (id := 5) ?_; refine zb ?_; refine zW ?_) | (refine za (id := 6) ?_; refine yv zaY (k := ?_); refine zb ?_; refine yn (zn (n := 0)) (k := ?_); refine zd ?_) | (refine ys (zao (x := x)) (k := ?_); rintro _ _ ⟨bb, rfl, rfl⟩) | (refine zT ?_; first | refine yv (zi (f := 82) (hc := fun w' X hk hh => halx w' _ (zL (hh.has (by exact Has.append Has.here)) Seg.all))) (k := ?_) | refine zd ?_ | fail) | fail)
  exact ret2 rfl (resCells (B := natC 0) rfl (ty rfl) rfl Has.go Seg.all (zg _).symm) (resTmp rfl) SubR.nil ⟨rfl, rfl⟩
theorem zny (i : Nat) (x : Nat) (e : Nat) (w : World) (h0 : 1 ≤ i) (h5 : i ≤ 4) (hG : GT w) (hx : x < 18446744073709551616 ^ 16) (he : e < 18446744073709551616 ^ 16) (hc : memB (gP i) (gQ i) x = true) (hd : ¬ e < gQ i) :
    Sy.Fn Tryz.prog 53 [.int .i64 (i : Int), natV x, natV e] w No (Gives (.tuple #[natV 0, .int .i64 3])) := by
  refine zq Tryz.func53 rfl Tryz.ntmps53 (by simp) Holds.nil ?_
  have lx := zg x
  have le := zg e
  have hW := zaH i h0 h5
  have hQW := zaE i h0 h5
  have hp1 := zap i h0 h5
  have hq0 := zak i h0 h5
  have hfi := fun w' (hk : Keep No w w') => zaK i w' h0 h5 (hG.to hk)
  generalize gP i = p at *
  generalize gQ i = q at *
  generalize gL i = l at *
  have lS := zG p q l
  have lp := zg p
  have lq := zg q
  have lz := zg 0
  have hsp := zaF p q l
  have hsq := zaG p q l
  have hsl := zaR p q l
  have halx := fun w' b' (h : w'.rangeAt b' 0 (rowN [x])) => all1c p q l 81 x b' (memB p q) w' (en rfl) (fun w'' => zba p q l x w'' hW hQW (by omega) hx) h
  simp only [hc, if_true] at halx
  have hale := fun w' b' (h : w'.rangeAt b' 0 (rowN [e])) => all1c p q l 83 e b' (fun y => decide (y < q)) w' (en rfl) (fun w'' => zby p q l e w'' hQW he) h
  simp only [decide_eq_false hd, Bool.false_eq_true, if_false] at hale
  repeat' (first | refine zh ?_ | refine zf ?_ | refine zw rfl ?_ | refine zt rfl ?_ | refine zr ?_ | refine zp ?_ | refine ze ?_ | refine zj ?_ | refine zy ?_ | (refine za (id := 0) ?_; (refine zm ?_; intro _); (refine zm ?_; intro _); (refine zm ?_; intro _); refine zd ?_) | (refine za (id := 1) ?_; refine zb ?_; refine yv (zi (f := 74) (hc := fun w' _ hk _ => hfi w' hk)) (k := ?_); refine zb ?_; refine zk ?_; refine zk ?_; (refine zm ?_; intro _); refine yn (zR (B := safeC p q l) (hv := z8 p q l) (h1 := (zG p q l).symm)) (k := ?_); refine zd ?_) | (refine za (id := 2) ?_; refine zb ?_; refine zW ?_) | (refine za (id := 4) ?_; refine yv (zl (B := safeC p q l)) (k := ?_); refine yv (zl (B := natC x)) (k := ?_)) | (refine za (id := 5) ?_; refine zb ?_; refine zW ?_) | (refine za (id := 7) ?_; refine yv (zl (B := safeC p q l)) (k := ?_); refine yv (zl (B := natC e)) (k := ?_)) | (refine za (id := 8) ?_; refine zb ?_; refine zW ?_) | (refine za (id := 9) ?_; refine yv zaY (k := ?_); refine zb ?_; refine yn (zn (n := 0)) (k := ?_); refine zd ?_) | (refine ys (zao (x := x)) (k := ?_); rintro _ _ ⟨bb, rfl, rfl⟩) | (refine ys (zao (x := e)) (k := ?_); rintro _ _ ⟨bb, rfl, rfl⟩) | (refine zT ?_; first | refine yv (zi (f := 82) (hc := fun w' X hk hh => halx w' _ (zL (hh.has (by exact Has.append Has.here)) Seg.all))) (k := ?_) | refine yv (zi (f := 82) (hc := fun w' X hk hh => hale w' _ (zL (hh.has (by exact Has.append Has.here)) Seg.all))) (k := ?_) | refine zd ?_ | fail) | fail)
  exact ret2 rfl (resCells (B := natC 0) rfl (ty rfl) rfl Has.go Seg.all (zg _).symm) (resTmp rfl) SubR.nil ⟨rfl, rfl⟩
theorem zmI (i : Nat) (x : Nat) (e : Nat) (w : World) (h0 : 1 ≤ i) (h5 : i ≤ 4) (hG : GT w) (hx : x < 18446744073709551616 ^ 16) (he : e < 18446744073709551616 ^ 16) (hc : memB (gP i) (gQ i) x = true) (hd : e < gQ i) :
    Sy.Fn Tryz.prog 53 [.int .i64 (i : Int), natV x, natV e] w No (Gives (.tuple #[natV (x ^ e % gP i), .int .i64 0])) := by
  refine zq Tryz.func53 rfl Tryz.ntmps53 (by simp) Holds.nil ?_
  have lx := zg x
  have le := zg e
  have hW := zaH i h0 h5
  have hQW := zaE i h0 h5
  have hp1 := zap i h0 h5
  have hq0 := zak i h0 h5
  have hfi := fun w' (hk : Keep No w w') => zaK i w' h0 h5 (hG.to hk)
  generalize gP i = p at *
  generalize gQ i = q at *
  generalize gL i = l at *
  have lS := zG p q l
  have lp := zg p
  have lq := zg q
  have lz := zg 0
  have hsp := zaF p q l
  have hsq := zaG p q l
  have hsl := zaR p q l
  have halx := fun w' b' (h : w'.rangeAt b' 0 (rowN [x])) => all1c p q l 81 x b' (memB p q) w' (en rfl) (fun w'' => zba p q l x w'' hW hQW (by omega) hx) h
  simp only [hc, if_true] at halx
  have hale := fun w' b' (h : w'.rangeAt b' 0 (rowN [e])) => all1c p q l 83 e b' (fun y => decide (y < q)) w' (en rfl) (fun w'' => zby p q l e w'' hQW he) h
  simp only [decide_eq_true hd, if_true] at hale
  have hpw := fun w' => ze7 p q l x e w' hW (by omega) hx he
  have lr := zg (x ^ e % p)
  generalize x ^ e % p = r at *
  repeat' (first | refine zh ?_ | refine zf ?_ | refine zt rfl ?_ | refine zr ?_ | refine zp ?_ | refine ze ?_ | refine zj ?_ | (refine za (id := 0) ?_; (refine zm ?_; intro _); (refine zm ?_; intro _); (refine zm ?_; intro _); refine zd ?_) | (refine za (id := 1) ?_; refine zb ?_; refine yv (zi (f := 74) (hc := fun w' _ hk _ => hfi w' hk)) (k := ?_); refine zb ?_; refine zk ?_; refine zk ?_; (refine zm ?_; intro _); refine yn (zR (B := safeC p q l) (hv := z8 p q l) (h1 := (zG p q l).symm)) (k := ?_); refine zd ?_) | (refine za (id := 2) ?_; refine zb ?_; refine zW ?_) | (refine za (id := 4) ?_; refine yv (zl (B := safeC p q l)) (k := ?_); refine yv (zl (B := natC x)) (k := ?_)) | (refine za (id := 5) ?_; refine zb ?_; refine zW ?_) | (refine za (id := 7) ?_; refine yv (zl (B := safeC p q l)) (k := ?_); refine yv (zl (B := natC e)) (k := ?_)) | (refine za (id := 8) ?_; refine zb ?_; refine zW ?_) | (refine za (id := 10) ?_; refine yv (zl (B := safeC p q l)) (k := ?_); refine yv (zl (B := natC x)) (k := ?_); refine yv (zl (B := natC e)) (k := ?_); refine yv (zi (hc := fun _ _ _ _ => (hpw _))) (k := ?_); refine yn (zn (n := r)) (k := ?_); refine zd ?_) | (refine ys (zao (x := x)) (k := ?_); rintro _ _ ⟨bb, rfl, rfl⟩) | (refine ys (zao (x := e)) (k := ?_); rintro _ _ ⟨bb, rfl, rfl⟩) | (refine zT ?_; first | refine yv (zi (f := 82) (hc := fun w' X hk hh => halx w' _ (zL (hh.has (by exact Has.append Has.here)) Seg.all))) (k := ?_) | refine yv (zi (f := 82) (hc := fun w' X hk hh => hale w' _ (zL (hh.has (by exact Has.append Has.here)) Seg.all))) (k := ?_) | refine zd ?_ | fail) | fail)
  exact ret2 rfl (resCells (B := natC r) rfl (ty rfl) rfl Has.go Seg.all (zg _).symm) (resTmp rfl) SubR.nil ⟨rfl, rfl⟩
theorem znz (i : Nat) (x : Nat) (y : Nat) (w : World) (h0 : 1 ≤ i) (h5 : i ≤ 4) (hG : GT w) (hx : x < 18446744073709551616 ^ 16) (hy : y < 18446744073709551616 ^ 16) (hc : (memB (gP i) (gQ i) x && memB (gP i) (gQ i) y) = false) :
    Sy.Fn Tryz.prog 55 [.int .i64 (i : Int), natV x, natV y] w No (Gives (.tuple #[natV 0, .int .i64 3])) := by
  refine zq Tryz.func55 rfl Tryz.ntmps55 (by simp) Holds.nil ?_
  have lx := zg x
  have ly := zg y
  have hW := zaH i h0 h5
  have hQW := zaE i h0 h5
  have hp1 := zap i h0 h5
  have hq0 := zak i h0 h5
  have hfi := fun w' (hk : Keep No w w') => zaK i w' h0 h5 (hG.to hk)
  generalize gP i = p at *
  generalize gQ i = q at *
  generalize gL i = l at *
  have lS := zG p q l
  have lp := zg p
  have lq := zg q
  have lz := zg 0
  have hsp := zaF p q l
  have hsq := zaG p q l
  have hsl := zaR p q l
  have hal := fun w' b' (h : w'.rangeAt b' 0 (rowN [x, y])) => all2c p q l 81 x y b' (memB p q) w' (en rfl) (fun x' hx' w'' => by
    have hx'W : x' < 18446744073709551616 ^ 16 := by
      rcases hx' with rfl | rfl
      · exact hx
      · exact hy
    exact zba p q l x' w'' hW hQW (by omega) hx'W) h
  simp only [hc, Bool.false_eq_true, if_false] at hal
  repeat' (first | refine zh ?_ | refine zf ?_ | refine zw rfl ?_ | refine zt rfl ?_ | refine zr ?_ | refine zp ?_ | refine ze ?_ | refine zj ?_ | refine zy ?_ | (refine za (id := 0) ?_; (refine zm ?_; intro _); (refine zm ?_; intro _); (refine zm ?_; intro _); refine zd ?_) | (refine za (id := 1) ?_; refine zb ?_; refine yv (zi (f := 74) (hc := fun w' _ hk _ => hfi w' hk)) (k := ?_); refine zb ?_; refine zk ?_; refine zk ?_; (refine zm ?_; intro _); refine yn (zR (B := safeC p q l) (hv := z8 p q l) (h1 := (zG p q l).symm)) (k := ?_); refine zd ?_) | (refine za (id := 2) ?_; refine zb ?_; refine zW ?_) | (refine za (id := 4) ?_; refine yv (zl (B := safeC p q l)) (k := ?_); refine yv (zl (B := natC x)) (k := ?_); refine yv (zl (B := natC y)) (k := ?_)) | (refine za (id := 5) ?_; refine zb ?_; refine zW ?_) | (refine za (id := 6) ?_; refine yv zaY (k := ?_); refine zb ?_; refine yn (zn (n := 0)) (k := ?_); refine zd ?_) | (refine ys (zbZ (x := x) (x' := y)) (k := ?_); rintro _ _ ⟨bb, rfl, rfl⟩) | (refine zT ?_; first | refine yv (zi (f := 82) (hc := fun w' X hk hh => hal w' _ (zL (hh.has (by exact Has.append Has.here)) Seg.all))) (k := ?_) | refine zd ?_ | fail) | fail)
  exact ret2 rfl (resCells (B := natC 0) rfl (ty rfl) rfl Has.go Seg.all (zg _).symm) (resTmp rfl) SubR.nil ⟨rfl, rfl⟩
theorem zlT (i : Nat) (x : Nat) (y : Nat) (w : World) (h0 : 1 ≤ i) (h5 : i ≤ 4) (hG : GT w) (hx : x < 18446744073709551616 ^ 16) (hy : y < 18446744073709551616 ^ 16) (hc : (memB (gP i) (gQ i) x && memB (gP i) (gQ i) y) = true) :
    Sy.Fn Tryz.prog 55 [.int .i64 (i : Int), natV x, natV y] w No (Gives (.tuple #[natV (x * y % gP i), .int .i64 0])) := by
  refine zq Tryz.func55 rfl Tryz.ntmps55 (by simp) Holds.nil ?_
  have lx := zg x
  have ly := zg y
  have hW := zaH i h0 h5
  have hQW := zaE i h0 h5
  have hp1 := zap i h0 h5
  have hq0 := zak i h0 h5
  have hfi := fun w' (hk : Keep No w w') => zaK i w' h0 h5 (hG.to hk)
  generalize gP i = p at *
  generalize gQ i = q at *
  generalize gL i = l at *
  have lS := zG p q l
  have lp := zg p
  have lq := zg q
  have lz := zg 0
  have hsp := zaF p q l
  have hsq := zaG p q l
  have hsl := zaR p q l
  have hal := fun w' b' (h : w'.rangeAt b' 0 (rowN [x, y])) => all2c p q l 81 x y b' (memB p q) w' (en rfl) (fun x' hx' w'' => by
    have hx'W : x' < 18446744073709551616 ^ 16 := by
      rcases hx' with rfl | rfl
      · exact hx
      · exact hy
    exact zba p q l x' w'' hW hQW (by omega) hx'W) h
  simp only [hc, if_true] at hal
  have ho := fun w' => zfP x y p w' hx hy hW
  unfold modR at ho
  simp only [if_neg (show ¬ p = 0 by omega)] at ho
  have lr := zg (x * y % p)
  generalize x * y % p = r at *
  repeat' (first | refine zh ?_ | refine zf ?_ | refine zt rfl ?_ | refine zr ?_ | refine zp ?_ | refine ze ?_ | refine zj ?_ | (refine za (id := 0) ?_; (refine zm ?_; intro _); (refine zm ?_; intro _); (refine zm ?_; intro _); refine zd ?_) | (refine za (id := 1) ?_; refine zb ?_; refine yv (zi (f := 74) (hc := fun w' _ hk _ => hfi w' hk)) (k := ?_); refine zb ?_; refine zk ?_; refine zk ?_; (refine zm ?_; intro _); refine yn (zR (B := safeC p q l) (hv := z8 p q l) (h1 := (zG p q l).symm)) (k := ?_); refine zd ?_) | (refine za (id := 2) ?_; refine zb ?_; refine zW ?_) | (refine za (id := 4) ?_; refine yv (zl (B := safeC p q l)) (k := ?_); refine yv (zl (B := natC x)) (k := ?_); refine yv (zl (B := natC y)) (k := ?_)) | (refine za (id := 5) ?_; refine zb ?_; refine zW ?_) | (refine za (id := 7) ?_; refine yv (zl (B := natC x)) (k := ?_); refine yv (zl (B := natC y)) (k := ?_); refine zD ?_; refine yv (zl (B := natC p) (hv := hsp)) (k := ?_); refine yv (zi (hc := fun _ _ _ _ => (ho _))) (k := ?_); refine zk ?_; refine zk ?_; refine yn (zn (n := r)) (k := ?_); refine zd ?_) | (refine ys (zbZ (x := x) (x' := y)) (k := ?_); rintro _ _ ⟨bb, rfl, rfl⟩) | (refine zT ?_; first | refine yv (zi (f := 82) (hc := fun w' X hk hh => hal w' _ (zL (hh.has (by exact Has.append Has.here)) Seg.all))) (k := ?_) | refine zd ?_ | fail) | fail)
  exact ret2 rfl (resCells (B := natC r) rfl (ty rfl) rfl Has.go Seg.all (zg _).symm) (resTmp rfl) SubR.nil ⟨rfl, rfl⟩
theorem zlp (i : Nat) (x : Nat) (y : Nat) (w : World) (h0 : 1 ≤ i) (h5 : i ≤ 4) (hG : GT w) (hx : x < 18446744073709551616 ^ 16) (hy : y < 18446744073709551616 ^ 16) (hc : (decide (x < gQ i) && decide (y < gQ i)) = true) :
    Sy.Fn Tryz.prog 34 [.int .i64 (i : Int), natV x, natV y] w No (Gives (.tuple #[natV ((x + y) % gQ i), .int .i64 0])) := by
  refine zq Tryz.func34 rfl Tryz.ntmps34 (by simp) Holds.nil ?_
  have lx := zg x
  have ly := zg y
  have hW := zaH i h0 h5
  have hQW := zaE i h0 h5
  have hp1 := zap i h0 h5
  have hq0 := zak i h0 h5
  have hfi := fun w' (hk : Keep No w w') => zaK i w' h0 h5 (hG.to hk)
  generalize gP i = p at *
  generalize gQ i = q at *
  generalize gL i = l at *
  have lS := zG p q l
  have lp := zg p
  have lq := zg q
  have lz := zg 0
  have hsp := zaF p q l
  have hsq := zaG p q l
  have hsl := zaR p q l
  have hal := fun w' b' (h : w'.rangeAt b' 0 (rowN [x, y])) => all2c p q l 83 x y b' (fun y => decide (y < q)) w' (en rfl) (fun x' hx' w'' => by
    have hx'W : x' < 18446744073709551616 ^ 16 := by
      rcases hx' with rfl | rfl
      · exact hx
      · exact hy
    exact zby p q l x' w'' hQW hx'W) h
  simp only [hc, if_true] at hal
  have ho := fun w' => ziB x y q w' hx hy hQW
  unfold modR at ho
  simp only [if_neg (show ¬ q = 0 by omega)] at ho
  have lr := zg ((x + y) % q)
  generalize (x + y) % q = r at *
  repeat' (first | refine zh ?_ | refine zf ?_ | refine zt rfl ?_ | refine zr ?_ | refine zp ?_ | refine ze ?_ | refine zj ?_ | (refine za (id := 0) ?_; (refine zm ?_; intro _); (refine zm ?_; intro _); (refine zm ?_; intro _); refine zd ?_) | (refine za (id := 1) ?_; refine zb ?_; refine yv (zi (f := 74) (hc := fun w' _ hk _ => hfi w' hk)) (k := ?_); refine zb ?_; refine zk ?_; refine zk ?_; (refine zm ?_; intro _); refine yn (zR (B := safeC p q l) (hv := z8 p q l) (h1 := (zG p q l).symm)) (k := ?_); refine zd ?_) | (refine za (id := 2) ?_; refine zb ?_; refine zW ?_) | (refine za (id := 4) ?_; refine yv (zl (B := safeC p q l)) (k := ?_); refine yv (zl (B := natC x)) (k := ?_); refine yv (zl (B := natC y)) (k := ?_)) | (refine za (id := 5) ?_; refine zb ?_; refine zW ?_) | (refine za (id := 7) ?_; refine yv (zl (B := natC x)) (k := ?_); refine yv (zl (B := natC y)) (k := ?_); refine zD ?_; refine yv (zl (B := natC q) (hv := hsq)) (k := ?_); refine yv (zi (hc := fun _ _ _ _ => (ho _))) (k := ?_); refine zk ?_; refine zk ?_; refine yn (zn (n := r)) (k := ?_); refine zd ?_) | (refine ys (zbZ (x := x) (x' := y)) (k := ?_); rintro _ _ ⟨bb, rfl, rfl⟩) | (refine zT ?_; first | refine yv (zi (f := 82) (hc := fun w' X hk hh => hal w' _ (zL (hh.has (by exact Has.append Has.here)) Seg.all))) (k := ?_) | refine zd ?_ | fail) | fail)
  exact ret2 rfl (resCells (B := natC r) rfl (ty rfl) rfl Has.go Seg.all (zg _).symm) (resTmp rfl) SubR.nil ⟨rfl, rfl⟩
theorem zln (i : Nat) (x : Nat) (y : Nat) (w : World) (h0 : 1 ≤ i) (h5 : i ≤ 4) (hG : GT w) (hx : x < 18446744073709551616 ^ 16) (hy : y < 18446744073709551616 ^ 16) (hc : (decide (x < gQ i) && decide (y < gQ i)) = true) :
    Sy.Fn Tryz.prog 35 [.int .i64 (i : Int), natV x, natV y] w No (Gives (.tuple #[natV (x * y % gQ i), .int .i64 0])) := by
  refine zq Tryz.func35 rfl Tryz.ntmps35 (by simp) Holds.nil ?_
  have lx := zg x
  have ly := zg y
  have hW := zaH i h0 h5
  have hQW := zaE i h0 h5
  have hp1 := zap i h0 h5
  have hq0 := zak i h0 h5
  have hfi := fun w' (hk : Keep No w w') => zaK i w' h0 h5 (hG.to hk)
  generalize gP i = p at *
  generalize gQ i = q at *
  generalize gL i = l at *
  have lS := zG p q l
  have lp := zg p
  have lq := zg q
  have lz := zg 0
  have hsp := zaF p q l
  have hsq := zaG p q l
  have hsl := zaR p q l
  have hal := fun w' b' (h : w'.rangeAt b' 0 (rowN [x, y])) => all2c p q l 83 x y b' (fun y => decide (y < q)) w' (en rfl) (fun x' hx' w'' => by
    have hx'W : x' < 18446744073709551616 ^ 16 := by
      rcases hx' with rfl | rfl
      · exact hx
      · exact hy
    exact zby p q l x' w'' hQW hx'W) h
  simp only [hc, if_true] at hal
  have ho := fun w' => zfP x y q w' hx hy hQW
  unfold modR at ho
  simp only [if_neg (show ¬ q = 0 by omega)] at ho
  have lr := zg (x * y % q)
  generalize x * y % q = r at *
  repeat' (first | refine zh ?_ | refine zf ?_ | refine zt rfl ?_ | refine zr ?_ | refine zp ?_ | refine ze ?_ | refine zj ?_ | (refine za (id := 0) ?_; (refine zm ?_; intro _); (refine zm ?_; intro _); (refine zm ?_; intro _); refine zd ?_) | (refine za (id := 1) ?_; refine zb ?_; refine yv (zi (f := 74) (hc := fun w' _ hk _ => hfi w' hk)) (k := ?_); refine zb ?_; refine zk ?_; refine zk ?_; (refine zm ?_; intro _); refine yn (zR (B := safeC p q l) (hv := z8 p q l) (h1 := (zG p q l).symm)) (k := ?_); refine zd ?_) | (refine za (id := 2) ?_; refine zb ?_; refine zW ?_) | (refine za (id := 4) ?_; refine yv (zl (B := safeC p q l)) (k := ?_); refine yv (zl (B := natC x)) (k := ?_); refine yv (zl (B := natC y)) (k := ?_)) | (refine za (id := 5) ?_; refine zb ?_; refine zW ?_) | (refine za (id := 7) ?_; refine yv (zl (B := natC x)) (k := ?_); refine yv (zl (B := natC y)) (k := ?_); refine zD ?_; refine yv (zl (B := natC q) (hv := hsq)) (k := ?_); refine yv (zi (hc := fun _ _ _ _ => (ho _))) (k := ?_); refine zk ?_; refine zk ?_; refine yn (zn (n := r)) (k := ?_); refine zd ?_) | (refine ys (zbZ (x := x) (x' := y)) (k := ?_); rintro _ _ ⟨bb, rfl, rfl⟩) | (refine zT ?_; first | refine yv (zi (f := 82) (hc := fun w' X hk hh => hal w' _ (zL (hh.has (by exact Has.append Has.here)) Seg.all))) (k := ?_) | refine zd ?_ | fail) | fail)
  exact ret2 rfl (resCells (B := natC r) rfl (ty rfl) rfl Has.go Seg.all (zg _).symm) (resTmp rfl) SubR.nil ⟨rfl, rfl⟩
theorem zbs {i x : Nat} : memB (gP i) (gQ i) x = true ↔ mem i x := by
  unfold memB mem
  exact decide_eq_true_iff
end Go.Proofs.YtjidkoabdmjgkaaGreatDoor
end
