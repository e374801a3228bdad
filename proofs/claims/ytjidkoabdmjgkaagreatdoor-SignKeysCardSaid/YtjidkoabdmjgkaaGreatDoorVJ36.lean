/- The specification of layer group, walked. -/
import Derived.Test.YtjidkoabdmjgkaaGreatDoorVJ34
import Derived.Test.YtjidkoabdmjgkaaGreatDoorVJ35
import Derived.Test.YtjidkoabdmjgkaaGreatDoorVJ26
set_option linter.all false
section
namespace Go.Sy
open Go
end Go.Sy
namespace Go.Nt
open Go Go.Sy
theorem w64k : 18446744073709551616 ^ 16 = 65536 ^ 64 := zdK 65536 16 64 rfl rfl
theorem ndW {x : Nat} (h : x < 18446744073709551616 ^ 16) : nd 65536 x ≤ 64 := zaj _ _ _ (by decide) (by rw [← w64k]; exact h)
theorem znM (i : Nat) (h0 : 1 ≤ i) (h5 : i ≤ 4) : (gP i - 1) / 2 = gQ i := by
  have := zkA i h0 h5; omega
end Go.Nt
namespace Go.Proofs.YtjidkoabdmjgkaaGreatDoor
open Go Go.Sy Go.Nt Go.RowKit
attribute [local irreducible] Sy SyL SyX Sy.Fn callFunc natC refC iC gP gQ gL memB
set_option maxRecDepth 10000
theorem zdZ (z : Int) (w : World) : Sy.Fn Tryz.prog 71 [.int .i64 z] w No (Gives (.bool (decide (1 ≤ z ∧ z ≤ 4)))) := by
  refine zq Tryz.func71 rfl Tryz.ntmps71 (by simp) Holds.nil ?_
  by_cases h1 : 1 ≤ z
  · have g1 : decide (z ≥ 1) = true := decide_eq_true h1
    have g2 : decide (z ≤ 4) = decide (1 ≤ z ∧ z ≤ 4) := decide_eq_decide.2 ⟨fun h => ⟨h1, h⟩, fun h => h.2⟩
    generalize decide (1 ≤ z ∧ z ≤ 4) = b at *
    repeat' (first | refine zg ?_ | refine zf ?_ | refine zo ?_ | refine ze ?_ | refine zj ?_ | (refine za (id := 0) ?_; refine zd ?_) | (refine za (id := 1) ?_; refine zb ?_; refine yv (zaH (hr := g1)) (k := ?_); refine zb ?_; refine zb ?_; refine yv (zb0 (hr := g2)) (k := ?_); refine zz ?_; refine zd ?_) | fail)
    exact ret1 rfl (resTmp rfl) SubR.nil ⟨rfl, rfl⟩
  · have g1 : decide (z ≥ 1) = false := decide_eq_false h1
    rw [show decide (1 ≤ z ∧ z ≤ 4) = false from decide_eq_false (fun h => h1 h.1)]
    repeat' (first | refine zg ?_ | refine zf ?_ | refine zo ?_ | refine ze ?_ | refine zj ?_ | (refine za (id := 0) ?_; refine zd ?_) | (refine za (id := 1) ?_; refine zb ?_; refine yv (zaH (hr := g1)) (k := ?_); refine zb ?_; refine zp rfl rfl rfl ?_; refine zp rfl rfl rfl ?_; refine zz ?_; refine zd ?_) | fail)
    exact ret1 rfl (resTmp rfl) SubR.nil ⟨rfl, rfl⟩
theorem zc4 (i : Nat) (w : World) (h0 : 1 ≤ i) (h5 : i ≤ 4) : Sy.Fn Tryz.prog 97 [.int .i64 (i : Int)] w No (RefG (gP i)) := by
  refine zq Tryz.func97 rfl Tryz.ntmps97 (by simp) Holds.nil ?_
  have g3 : IntKind.i64.wrap ((i : Int) - 1) = ((i - 1 : Nat) : Int) := by rw [IntWalk.i64_in _ (by omega)]; omega
  have hcell := zgt i h0 h5
  have hpa := fun w' => zly (gS i) w' (by have := zk1 i h0 h5; omega)
  rw [zhR i h0 h5] at hpa
  dsimp only at hpa
  unfold RefG
  repeat' (first | refine zg ?_ | refine zf ?_ | refine ze ?_ | refine zj ?_ | (refine za (id := 0) ?_; refine zd ?_) | fail)
  refine za (id := 1) ?_
  refine ys (zR (vs := gCells)) (k := ?_)
  rintro _ _ ⟨b6, rfl, rfl⟩
  generalize gCells = GC at *
  generalize gS i = S at *
  repeat' (first | refine zg ?_ | refine zf ?_ | refine zo ?_ | refine ze ?_ | refine zj ?_ | (refine za (id := 2) ?_; refine zb ?_; (refine ys (zy (f := 125) (hc := fun w' X hk hh => hpa w')) (k := ?_); rintro _ _ ⟨R, rfl, a1, c1, rfl, rfl⟩); refine zb ?_; refine zk ?_; refine zk ?_; refine zd ?_; refine zd ?_) | (refine za (id := 3) ?_; refine zb ?_; refine zd ?_) | (refine zV ?_; first | refine yv (zL (hr := g3)) (k := ?_) | refine yv (zb4 (j := i - 1)) (k := ?_) | refine yv (zT (hv := hcell)) (k := ?_) | refine zd ?_ | refine zb ?_ | fail) | fail)
  exact ret1 rfl (resTmp rfl) (by exact SubR.go2) ⟨_, _, rfl, rfl⟩
theorem zcq (i : Nat) (w : World) (h0 : 1 ≤ i) (h5 : i ≤ 4) : Sy.Fn Tryz.prog 61 [.int .i64 (i : Int)] w No (RefG (gQ i)) := by
  refine zq Tryz.func61 rfl Tryz.ntmps61 (by simp) Holds.nil ?_
  have hW := zav i h0 h5
  have k0 := ndW hW
  have hp1 := zak i h0 h5
  have hp := fun w' => zc4 i w' h0 h5
  have h1 := fun w' => zen 1 w' (by decide)
  have h2 := fun w' => zen 2 w' (by decide)
  have n1 := zaj 65536 1 1 (by decide) (by decide)
  have n2 := zaj 65536 2 1 (by decide) (by decide)
  have n3 := zjs 65536 (gP i - 1) (gP i) (by decide) (Nat.sub_le _ _)
  have hs := fun w' a c a' c' (h : SlA w' a (refC (gP i))) (h' : SlA w' a' (refC 1)) => zfp a a' c c' (gP i) 1 w' h h' (by omega) (by omega)
  have hd := fun w' a c a' c' (h : SlA w' a (refC (gP i - 1))) (h' : SlA w' a' (refC 2)) => zgk a a' c c' (gP i - 1) 2 w' h h' (by omega) (by omega) (by decide)
  rw [znM i h0 h5] at hd
  unfold RefG at *
  generalize (gP i - 1) % 2 = r at *
  generalize gP i - 1 = p1 at *
  generalize gP i = p at *
  generalize gQ i = q at *
  repeat' (first | refine zg ?_ | refine zf ?_ | refine zo ?_ | refine ze ?_ | refine zj ?_ | (refine za (id := 0) ?_; refine zd ?_) | (refine za (id := 1) ?_; refine zb ?_; (refine ys (zy (f := 97) (hc := fun w' X hk hh => hp w')) (k := ?_); rintro _ _ ⟨R, rfl, a1, c1, rfl, rfl⟩); (refine ys (zy (f := 62) (hc := fun w' X hk hh => h1 w')) (k := ?_); rintro _ _ ⟨R, rfl, a2, c2, rfl, rfl⟩); (refine ys (zy (f := 60) (hc := fun w' X hk hh => hs w' _ _ _ _ (zD hh (by exact Has.append Has.go)) (zD hh (by exact Has.append Has.go)))) (k := ?_); rintro _ _ ⟨R, rfl, a3, c3, rfl, rfl⟩); (refine ys (zy (f := 62) (hc := fun w' X hk hh => h2 w')) (k := ?_); rintro _ _ ⟨R, rfl, a4, c4, rfl, rfl⟩); (refine ys (zy (f := 100) (hc := fun w' X hk hh => hd w' _ _ _ _ (zD hh (by exact Has.append Has.go)) (zD hh (by exact Has.append Has.go)))) (k := ?_); rintro _ _ ⟨R, rfl, a5, c5, a6, c6, rfl, rfl⟩); refine zb ?_; refine zk ?_; refine zk ?_; refine zd ?_; refine zd ?_) | (refine za (id := 2) ?_; refine zb ?_; refine zd ?_) | fail)
  exact ret1 rfl (resTmp rfl) (by exact SubR.go2) ⟨_, _, rfl, rfl⟩
theorem hasI (i : Nat) (h0 : 1 ≤ i) (h5 : i ≤ 4) : decide (1 ≤ (i : Int) ∧ (i : Int) ≤ 4) = true := decide_eq_true ⟨by omega, by omega⟩
theorem zfh (i : Nat) (w : World) (h0 : 1 ≤ i) (h5 : i ≤ 4) : Sy.Fn Tryz.prog 57 [.int .i64 (i : Int)] w No (Gives (.int .i64 ((gL i : Nat) : Int))) := by
  refine zq Tryz.func57 rfl Tryz.ntmps57 (by simp) Holds.nil ?_
  have hh := fun w' => zdZ (i : Int) w'
  rw [hasI i h0 h5] at hh
  have k0 := ndW (zav i h0 h5)
  have hp := fun w' => zc4 i w' h0 h5
  have hb := fun w' a c (h : SlA w' a (refC (gP i))) => zg5 a c (gP i) w' h (by omega)
  rw [zgs i h0 h5] at hb
  unfold RefG at hp
  generalize byt (gP i) = D at *
  generalize gP i = p at *
  generalize gL i = l at *
  repeat' (first | refine zg ?_ | refine zf ?_ | refine zw rfl ?_ | refine zt ?_ | refine zo ?_ | refine ze ?_ | refine zj ?_ | (refine za (id := 0) ?_; refine zd ?_) | (refine za (id := 1) ?_; refine zb ?_; refine yv (zi (hc := fun _ _ _ _ => (hh _))) (k := ?_); refine z4 ?_) | (refine za (id := 3) ?_; refine zb ?_; (refine ys (zy (f := 97) (hc := fun w' X hk hh => hp w')) (k := ?_); rintro _ _ ⟨R, rfl, a1, c1, rfl, rfl⟩); (refine ys (zy (f := 69) (hc := fun w' X hk hh => hb w' _ _ (zD hh (by exact Has.append Has.go)))) (k := ?_); rintro _ _ ⟨R, rfl, a2, c2, rfl, rfl⟩); refine zB ?_; refine zd ?_) | fail)
  exact ret1 rfl (resTmp rfl) SubR.nil ⟨rfl, rfl⟩
theorem zjp (i : Nat) (a b : Option Addr) (ca cb x e : Nat) (w : World) (h0 : 1 ≤ i) (h5 : i ≤ 4) (ha : SlA w a (refC x)) (hb : SlA w b (refC e)) (hx : nd 65536 x < 20000) (he : nd 65536 e < 20000) :
    Sy.Fn Tryz.prog 64 [.int .i64 (i : Int), .slice a (nd 65536 x) ca, .slice b (nd 65536 e) cb] w No (RefG (x ^ e % gP i)) := by
  refine zq Tryz.func64 rfl Tryz.ntmps64 (by simp) Holds.nil ?_
  have k0 := ndW (zav i h0 h5)
  have hp1 := zak i h0 h5
  have hp := fun w' => zc4 i w' h0 h5
  have hq := fun w' d cd (hk : Keep No w w') (h : SlA w' d (refC (gP i))) => zi8 a b d ca cb cd x e (gP i) w' (ha.to hk (fun _ h => .inr h)).sla (hb.to hk (fun _ h => .inr h)).sla h hx he (by omega) (by omega)
  unfold RefG at *
  generalize x ^ e % gP i = r at *
  generalize gP i = p at *
  repeat' (first | refine zg ?_ | refine zf ?_ | refine zu rfl ?_ | refine zw rfl ?_ | refine zr ?_ | refine zt ?_ | refine zo ?_ | refine zE ?_ | refine zcM ?_ | refine ze ?_ | refine zj ?_ | refine zx ?_ | refine zar ?_ | refine zaC ?_ | refine zae ?_ | refine zaJ ?_ | refine zbl rfl ?_ | (apply zbk; (focus ((repeat (first | exact Rem.here | apply Rem.there)); done)); assumption) | (refine za (id := 0) ?_; try refine zd ?_) | (refine za (id := 1) ?_; try refine zb ?_; try refine zb ?_; try refine zb ?_; try (first | (refine ys (zy (f := 97) (hc := fun w' X hk hh => hp w')) (k := ?_); rintro _ _ ⟨R, rfl, a1, c1, rfl, rfl⟩) | (refine ys (zy (f := 101) (hc := fun w' X hk hh => hq w' _ _ hk (zD hh (by exact Has.append Has.go)))) (k := ?_); rintro _ _ ⟨R, rfl, a2, c2, rfl, rfl⟩) | fail); try (first | (refine ys (zy (f := 97) (hc := fun w' X hk hh => hp w')) (k := ?_); rintro _ _ ⟨R, rfl, a1, c1, rfl, rfl⟩) | (refine ys (zy (f := 101) (hc := fun w' X hk hh => hq w' _ _ hk (zD hh (by exact Has.append Has.go)))) (k := ?_); rintro _ _ ⟨R, rfl, a2, c2, rfl, rfl⟩) | fail); try refine zd ?_) | (refine zV ?_; first | (refine ys (zy (f := 97) (hc := fun w' X hk hh => hp w')) (k := ?_); rintro _ _ ⟨R, rfl, a1, c1, rfl, rfl⟩) | (refine ys (zy (f := 101) (hc := fun w' X hk hh => hq w' _ _ hk (zD hh (by exact Has.append Has.go)))) (k := ?_); rintro _ _ ⟨R, rfl, a2, c2, rfl, rfl⟩) | refine zd ?_ | refine zb ?_ | fail) | refine za ?_ | fail)
  exact ret1 rfl (resTmp rfl) (by exact SubR.go2) ⟨_, _, rfl, rfl⟩
theorem zdx (i : Nat) (b : Option Addr) (cb e : Nat) (w : World) (h0 : 1 ≤ i) (h5 : i ≤ 4) (hb : SlA w b (refC e)) (he : nd 65536 e < 20000) :
    Sy.Fn Tryz.prog 41 [.int .i64 (i : Int), .slice b (nd 65536 e) cb] w No (RefG (4 ^ e % gP i)) := by
  refine zq Tryz.func41 rfl Tryz.ntmps41 (by simp) Holds.nil ?_
  have h4 := fun w' => zen 4 w' (by decide)
  have n4 := zaj 65536 4 1 (by decide) (by decide)
  have hq := fun w' a ca (hk : Keep No w w') (h : SlA w' a (refC 4)) => zjp i a b ca cb 4 e w' h0 h5 h (hb.to hk (fun _ h => .inr h)).sla (by omega) he
  unfold RefG at *
  generalize 4 ^ e % gP i = r at *
  repeat' (first | refine zg ?_ | refine zf ?_ | refine zu rfl ?_ | refine zw rfl ?_ | refine zr ?_ | refine zt ?_ | refine zo ?_ | refine zE ?_ | refine zcM ?_ | refine ze ?_ | refine zj ?_ | refine zx ?_ | refine zar ?_ | refine zaC ?_ | refine zae ?_ | refine zaJ ?_ | refine zbl rfl ?_ | (apply zbk; (focus ((repeat (first | exact Rem.here | apply Rem.there)); done)); assumption) | (refine za (id := 0) ?_; try refine zd ?_) | (refine za (id := 1) ?_; try refine zb ?_; try (first | (refine ys (zy (f := 62) (hc := fun w' X hk hh => h4 w')) (k := ?_); rintro _ _ ⟨R, rfl, a1, c1, rfl, rfl⟩) | (refine ys (zy (f := 64) (hc := fun w' X hk hh => hq w' _ _ hk (zD hh (by exact Has.append Has.go)))) (k := ?_); rintro _ _ ⟨R, rfl, a2, c2, rfl, rfl⟩) | fail); try refine zb ?_; try (first | (refine ys (zy (f := 62) (hc := fun w' X hk hh => h4 w')) (k := ?_); rintro _ _ ⟨R, rfl, a1, c1, rfl, rfl⟩) | (refine ys (zy (f := 64) (hc := fun w' X hk hh => hq w' _ _ hk (zD hh (by exact Has.append Has.go)))) (k := ?_); rintro _ _ ⟨R, rfl, a2, c2, rfl, rfl⟩) | fail); try refine zd ?_) | (refine zV ?_; first | (refine ys (zy (f := 62) (hc := fun w' X hk hh => h4 w')) (k := ?_); rintro _ _ ⟨R, rfl, a1, c1, rfl, rfl⟩) | (refine ys (zy (f := 64) (hc := fun w' X hk hh => hq w' _ _ hk (zD hh (by exact Has.append Has.go)))) (k := ?_); rintro _ _ ⟨R, rfl, a2, c2, rfl, rfl⟩) | refine zd ?_ | refine zb ?_ | fail) | refine za ?_ | fail)
  exact ret1 rfl (resTmp rfl) (by exact SubR.go2) ⟨_, _, rfl, rfl⟩
theorem znp (i : Nat) (a b : Option Addr) (ca cb x y : Nat) (w : World) (h0 : 1 ≤ i) (h5 : i ≤ 4) (ha : SlA w a (refC x)) (hb : SlA w b (refC y)) (hx : nd 65536 x < 20000) (hy : nd 65536 y < 20000) :
    Sy.Fn Tryz.prog 63 [.int .i64 (i : Int), .slice a (nd 65536 x) ca, .slice b (nd 65536 y) cb] w No (RefG (x * y % gP i)) := by
  refine zq Tryz.func63 rfl Tryz.ntmps63 (by simp) Holds.nil ?_
  have k0 := ndW (zav i h0 h5)
  have hp1 := zak i h0 h5
  have hq0 := zag i h0 h5
  have hp := fun w' => zc4 i w' h0 h5
  have hq := fun w' d cd (hk : Keep No w w') (h : SlA w' d (refC (gP i))) => zgB a b d ca cb cd x y (gP i) w' (ha.to hk (fun _ h => .inr h)).sla (hb.to hk (fun _ h => .inr h)).sla h (by omega) (by omega) (by omega) (by omega)
  unfold RefG at *
  generalize x * y % gP i = r at *
  generalize gP i = p at *
  repeat' (first | refine zg ?_ | refine zf ?_ | refine zo ?_ | refine ze ?_ | refine zj ?_ | (refine za (id := 0) ?_; refine zd ?_) | (refine za (id := 1) ?_; refine zb ?_; refine zb ?_; refine zb ?_; (refine ys (zy (f := 97) (hc := fun w' X hk hh => hp w')) (k := ?_); rintro _ _ ⟨R, rfl, a1, c1, rfl, rfl⟩); (refine ys (zy (f := 91) (hc := fun w' X hk hh => hq w' _ _ hk (zD hh (by exact Has.append Has.go)))) (k := ?_); rintro _ _ ⟨R, rfl, a2, c2, rfl, rfl⟩); refine zd ?_) | fail)
  exact ret1 rfl (resTmp rfl) (by exact SubR.go2) ⟨_, _, rfl, rfl⟩
theorem ziD (i : Nat) (a b : Option Addr) (ca cb x y : Nat) (w : World) (h0 : 1 ≤ i) (h5 : i ≤ 4) (ha : SlA w a (refC x)) (hb : SlA w b (refC y)) (hx : nd 65536 x < 20000) (hy : nd 65536 y < 20000) :
    Sy.Fn Tryz.prog 43 [.int .i64 (i : Int), .slice a (nd 65536 x) ca, .slice b (nd 65536 y) cb] w No (RefG ((x + y) % gQ i)) := by
  refine zq Tryz.func43 rfl Tryz.ntmps43 (by simp) Holds.nil ?_
  have k0 := ndW (zao i h0 h5)
  have hp1 := zak i h0 h5
  have hq0 := zag i h0 h5
  have hp := fun w' => zcq i w' h0 h5
  have hq := fun w' d cd (hk : Keep No w w') (h : SlA w' d (refC (gQ i))) => zmZ a b d ca cb cd x y (gQ i) w' (ha.to hk (fun _ h => .inr h)).sla (hb.to hk (fun _ h => .inr h)).sla h (by omega) (by omega) (by omega) (by omega)
  unfold RefG at *
  generalize (x + y) % gQ i = r at *
  generalize gQ i = p at *
  repeat' (first | refine zg ?_ | refine zf ?_ | refine zo ?_ | refine ze ?_ | refine zj ?_ | (refine za (id := 0) ?_; refine zd ?_) | (refine za (id := 1) ?_; refine zb ?_; refine zb ?_; refine zb ?_; (refine ys (zy (f := 61) (hc := fun w' X hk hh => hp w')) (k := ?_); rintro _ _ ⟨R, rfl, a1, c1, rfl, rfl⟩); (refine ys (zy (f := 90) (hc := fun w' X hk hh => hq w' _ _ hk (zD hh (by exact Has.append Has.go)))) (k := ?_); rintro _ _ ⟨R, rfl, a2, c2, rfl, rfl⟩); refine zd ?_) | fail)
  exact ret1 rfl (resTmp rfl) (by exact SubR.go2) ⟨_, _, rfl, rfl⟩
theorem zmv (i : Nat) (a b : Option Addr) (ca cb x y : Nat) (w : World) (h0 : 1 ≤ i) (h5 : i ≤ 4) (ha : SlA w a (refC x)) (hb : SlA w b (refC y)) (hx : nd 65536 x < 20000) (hy : nd 65536 y < 20000) :
    Sy.Fn Tryz.prog 44 [.int .i64 (i : Int), .slice a (nd 65536 x) ca, .slice b (nd 65536 y) cb] w No (RefG (x * y % gQ i)) := by
  refine zq Tryz.func44 rfl Tryz.ntmps44 (by simp) Holds.nil ?_
  have k0 := ndW (zao i h0 h5)
  have hp1 := zak i h0 h5
  have hq0 := zag i h0 h5
  have hp := fun w' => zcq i w' h0 h5
  have hq := fun w' d cd (hk : Keep No w w') (h : SlA w' d (refC (gQ i))) => zgB a b d ca cb cd x y (gQ i) w' (ha.to hk (fun _ h => .inr h)).sla (hb.to hk (fun _ h => .inr h)).sla h (by omega) (by omega) (by omega) (by omega)
  unfold RefG at *
  generalize x * y % gQ i = r at *
  generalize gQ i = p at *
  repeat' (first | refine zg ?_ | refine zf ?_ | refine zo ?_ | refine ze ?_ | refine zj ?_ | (refine za (id := 0) ?_; refine zd ?_) | (refine za (id := 1) ?_; refine zb ?_; refine zb ?_; refine zb ?_; (refine ys (zy (f := 61) (hc := fun w' X hk hh => hp w')) (k := ?_); rintro _ _ ⟨R, rfl, a1, c1, rfl, rfl⟩); (refine ys (zy (f := 91) (hc := fun w' X hk hh => hq w' _ _ hk (zD hh (by exact Has.append Has.go)))) (k := ?_); rintro _ _ ⟨R, rfl, a2, c2, rfl, rfl⟩); refine zd ?_) | fail)
  exact ret1 rfl (resTmp rfl) (by exact SubR.go2) ⟨_, _, rfl, rfl⟩
theorem zeu (i : Nat) (a : Option Addr) (n c : Nat) (bl : List UInt8) (w : World) (h0 : 1 ≤ i) (h5 : i ≤ 4) (hl : bl.length = n) (ha : SlA w a (bl.map v8)) (hn : n < 80000) :
    Sy.Fn Tryz.prog 39 [.int .i64 (i : Int), .slice a n c] w No (RefG (bev 256 (bn bl) % gQ i)) := by
  refine zq Tryz.func39 rfl Tryz.ntmps39 (by simp) Holds.nil ?_
  have k0 := ndW (zao i h0 h5)
  have hq0 := zag i h0 h5
  have hp := fun w' => zcq i w' h0 h5
  have hf := fun w' (hk : Keep No w w') => zfs a n c bl w' hl (ha.to hk (fun _ h => .inr h)).sla (by omega)
  have kx : nd 65536 (bev 256 (bn bl)) ≤ n := zaj 65536 _ _ (by decide) (Nat.lt_of_lt_of_le (zb5 256 (bn bl) (zdA bl)) (by rw [show (bn bl).length = n by unfold bn; rw [List.length_map, hl]]; exact Nat.pow_le_pow_left (by decide) _))
  have hq := fun w' d cd d' cd' (h : SlA w' d (refC (bev 256 (bn bl)))) (h' : SlA w' d' (refC (gQ i))) => zda d d' cd cd' (bev 256 (bn bl)) (gQ i) w' h h' (by omega) (by omega) (by omega)
  unfold RefG at *
  generalize bev 256 (bn bl) % gQ i = r at *
  generalize bev 256 (bn bl) = x at *
  generalize gQ i = q at *
  repeat' (first | refine zg ?_ | refine zf ?_ | refine zo ?_ | refine ze ?_ | refine zj ?_ | (refine za (id := 0) ?_; refine zd ?_) | (refine za (id := 1) ?_; refine zb ?_; (refine ys (zy (f := 58) (hc := fun w' X hk hh => hf w' hk)) (k := ?_); rintro _ _ ⟨R, rfl, a0, c0, rfl, rfl⟩); refine zb ?_; (refine ys (zy (f := 61) (hc := fun w' X hk hh => hp w')) (k := ?_); rintro _ _ ⟨R, rfl, a1, c1, rfl, rfl⟩); (refine ys (zy (f := 88) (hc := fun w' X hk hh => hq w' _ _ _ _ (zD hh (by exact Has.append Has.go)) (zD hh (by exact Has.append Has.go)))) (k := ?_); rintro _ _ ⟨R, rfl, a2, c2, rfl, rfl⟩); refine zd ?_) | fail)
  exact ret1 rfl (resTmp rfl) (by exact SubR.go2) ⟨_, _, rfl, rfl⟩
theorem zdu (i : Nat) (a : Option Addr) (ca x : Nat) (w : World) (h0 : 1 ≤ i) (h5 : i ≤ 4) (ha : SlA w a (refC x)) (hx : nd 65536 x < 20000) :
    Sy.Fn Tryz.prog 59 [.int .i64 (i : Int), .slice a (nd 65536 x) ca] w No (Gives (.bool (decide (x < gQ i)))) := by
  refine zq Tryz.func59 rfl Tryz.ntmps59 (by simp) Holds.nil ?_
  have k0 := ndW (zao i h0 h5)
  have hp := fun w' => zcq i w' h0 h5
  have hq := fun w' d cd (hk : Keep No w w') (h : SlA w' d (refC (gQ i))) => zb6 a d ca cd x (gQ i) w' (ha.to hk (fun _ h => .inr h)).sla h (by omega) (by omega)
  have hr : decide (cmpI x (gQ i) < 0) = decide (x < gQ i) := decide_eq_decide.2 (by
    unfold cmpI
    by_cases h : x < gQ i
    · rw [if_pos h]; exact ⟨fun _ => h, fun _ => by decide⟩
    · rw [if_neg h]; split <;> omega)
  unfold RefG at *
  generalize decide (x < gQ i) = b at *
  generalize cmpI x (gQ i) = cz at *
  generalize gQ i = q at *
  repeat' (first | refine zg ?_ | refine zf ?_ | refine zo ?_ | refine ze ?_ | refine zj ?_ | (refine za (id := 0) ?_; refine zd ?_) | (refine za (id := 1) ?_; refine zb ?_; refine zb ?_; (refine ys (zy (f := 61) (hc := fun w' X hk hh => hp w')) (k := ?_); rintro _ _ ⟨R, rfl, a1, c1, rfl, rfl⟩); refine yv (zi (f := 65) (hc := fun w' X hk hh => hq w' _ _ hk (zD hh (by exact Has.append Has.go)))) (k := ?_); refine yv (zX (hr := hr)) (k := ?_); refine zd ?_) | fail)
  exact ret1 rfl (resTmp rfl) SubR.nil ⟨rfl, rfl⟩
theorem zjZ (i : Nat) (a : Option Addr) (ca x : Nat) (w : World) (h0 : 1 ≤ i) (h5 : i ≤ 4) (ha : SlA w a (refC x)) (hx : nd 65536 x < 20000) :
    Sy.Fn Tryz.prog 96 [.int .i64 (i : Int), .slice a (nd 65536 x) ca] w No (Gives (.bool (memB (gP i) (gQ i) x))) := by
  refine zq Tryz.func96 rfl Tryz.ntmps96 (by simp) Holds.nil ?_
  have hh := fun w' => zdZ (i : Int) w'
  rw [hasI i h0 h5] at hh
  have kp := ndW (zav i h0 h5)
  have kq := ndW (zao i h0 h5)
  have hp1 := zak i h0 h5
  have hnx := (zgm 65536 x (by decide)).1
  rcases Nat.eq_zero_or_pos x with h | h
  · subst h
    have hb : memB (gP i) (gQ i) 0 = false := by unfold memB; exact decide_eq_false (fun h => absurd h.1 (by omega))
    rw [hb]
    have g1 : decide (((nd 65536 0 : Nat) : Int) = 0) = true := decide_eq_true (by rw [zaL]; rfl)
    repeat' (first | refine zg ?_ | refine zf ?_ | refine zu rfl ?_ | refine zo ?_ | refine ze ?_ | refine zj ?_ | refine zx ?_ | (refine za (id := 0) ?_; refine zd ?_) | (refine za (id := 1) ?_; refine zb ?_; refine yv (zi (hc := fun _ _ _ _ => (hh _))) (k := ?_); refine z4 ?_; refine zb ?_; refine zb ?_; refine zB ?_; refine yv (z3 (hr := g1)) (k := ?_); refine zz ?_; refine zb ?_; refine zp rfl rfl rfl ?_; refine zp rfl rfl rfl ?_; refine zp rfl rfl rfl ?_; refine zp rfl rfl rfl ?_; refine zp rfl rfl rfl ?_; refine zz ?_) | (refine za (id := 2) ?_; refine zd ?_) | fail)
    exact ret1 rfl (resTmp rfl) SubR.nil ⟨rfl, rfl⟩
  have g1 : decide (((nd 65536 x : Nat) : Int) = 0) = false := decide_eq_false (by omega)
  have hp := fun w' => zc4 i w' h0 h5
  have hc := fun w' d cd (hk : Keep No w w') (h : SlA w' d (refC (gP i))) => zb6 a d ca cd x (gP i) w' (ha.to hk (fun _ h => .inr h)).sla h (by omega) (by omega)
  by_cases hxp : x < gP i
  · have g2 : decide (cmpI x (gP i) ≥ 0) = false := by rw [zdS hxp]; rfl
    have ho := fun w' => zcq i w' h0 h5
    have he := fun w' d cd d' cd' (hk : Keep No w w') (h : SlA w' d (refC (gQ i))) (h' : SlA w' d' (refC (gP i))) => zi8 a d d' ca cd cd' x (gQ i) (gP i) w' (ha.to hk (fun _ h => .inr h)).sla h h' hx (by omega) (by omega) (by omega)
    have h1 := fun w' => zen 1 w' (by decide)
    have n1 := zaj 65536 1 1 (by decide) (by decide)
    have nr := zkN 65536 (x ^ gQ i) (gP i) (by decide) (by omega)
    have hc2 := fun w' d cd d' cd' (h : SlA w' d (refC (x ^ gQ i % gP i))) (h' : SlA w' d' (refC 1)) => zb6 d d' cd cd' (x ^ gQ i % gP i) 1 w' h h' (by omega) (by omega)
    have g3 : decide (cmpI (x ^ gQ i % gP i) 1 = 0) = memB (gP i) (gQ i) x := by
      unfold memB
      refine decide_eq_decide.2 ⟨fun e => ⟨h, hxp, zlu e⟩, fun e => ?_⟩
      rw [e.2.2]; exact ze1 1
    unfold RefG at *
    generalize memB (gP i) (gQ i) x = b at *
    generalize x ^ gQ i % gP i = r at *
    generalize cmpI r 1 = cz2 at *
    generalize cmpI x (gP i) = cz at *
    generalize gP i = p at *
    generalize gQ i = q at *
    repeat' (first | refine zg ?_ | refine zf ?_ | refine zw rfl ?_ | refine zt ?_ | refine zo ?_ | refine ze ?_ | refine zj ?_ | (refine za (id := 0) ?_; refine zd ?_) | (refine za (id := 1) ?_; refine zb ?_; refine yv (zi (hc := fun _ _ _ _ => (hh _))) (k := ?_); refine z4 ?_; refine zb ?_; refine zb ?_; refine zB ?_; refine yv (z3 (hr := g1)) (k := ?_); refine zz ?_; refine zb ?_; refine zb ?_; refine zb ?_; (refine ys (zy (f := 97) (hc := fun w' X hk hh => hp w')) (k := ?_); rintro _ _ ⟨R, rfl, a1, c1, rfl, rfl⟩); refine yv (zi (f := 65) (hc := fun w' X hk hh => hc w' _ _ hk (zD hh (by exact Has.append Has.go)))) (k := ?_); refine yv (zaH (hr := g2)) (k := ?_); refine zz ?_) | (refine za (id := 3) ?_; refine zb ?_; refine zb ?_; (refine ys (zy (f := 61) (hc := fun w' X hk hh => ho w')) (k := ?_); rintro _ _ ⟨R, rfl, a2, c2, rfl, rfl⟩); refine zb ?_; (refine ys (zy (f := 97) (hc := fun w' X hk hh => hp w')) (k := ?_); rintro _ _ ⟨R, rfl, a1, c1, rfl, rfl⟩); (refine ys (zy (f := 101) (hc := fun w' X hk hh => he w' _ _ _ _ hk (zD hh (by exact Has.append Has.go)) (zD hh (by exact Has.append Has.go)))) (k := ?_); rintro _ _ ⟨R, rfl, a3, c3, rfl, rfl⟩); (refine ys (zy (f := 62) (hc := fun w' X hk hh => h1 w')) (k := ?_); rintro _ _ ⟨R, rfl, a4, c4, rfl, rfl⟩); refine yv (zi (f := 65) (hc := fun w' X hk hh => hc2 w' _ _ _ _ (zD hh (by exact Has.append Has.go)) (zD hh (by exact Has.append Has.go)))) (k := ?_); refine yv (z3 (hr := g3)) (k := ?_); refine zd ?_) | fail)
    exact ret1 rfl (resTmp rfl) SubR.nil ⟨rfl, rfl⟩
  · have g2 : decide (cmpI x (gP i) ≥ 0) = true := decide_eq_true (zgJ (by omega))
    have hb : memB (gP i) (gQ i) x = false := by unfold memB; exact decide_eq_false (fun h => hxp h.2.1)
    rw [hb]
    unfold RefG at *
    generalize cmpI x (gP i) = cz at *
    generalize gP i = p at *
    repeat' (first | refine zg ?_ | refine zf ?_ | refine zu rfl ?_ | refine zo ?_ | refine ze ?_ | refine zj ?_ | refine zx ?_ | (refine za (id := 0) ?_; refine zd ?_) | (refine za (id := 1) ?_; refine zb ?_; refine yv (zi (hc := fun _ _ _ _ => (hh _))) (k := ?_); refine z4 ?_; refine zb ?_; refine zb ?_; refine zB ?_; refine yv (z3 (hr := g1)) (k := ?_); refine zz ?_; refine zb ?_; refine zb ?_; refine zb ?_; (refine ys (zy (f := 97) (hc := fun w' X hk hh => hp w')) (k := ?_); rintro _ _ ⟨R, rfl, a1, c1, rfl, rfl⟩); refine yv (zi (f := 65) (hc := fun w' X hk hh => hc w' _ _ hk (zD hh (by exact Has.append Has.go)))) (k := ?_); refine yv (zaH (hr := g2)) (k := ?_); refine zz ?_) | (refine za (id := 2) ?_; refine zd ?_) | fail)
    exact ret1 rfl (resTmp rfl) SubR.nil ⟨rfl, rfl⟩
theorem zct (i : Nat) (a : Option Addr) (ca x : Nat) (w : World) (h0 : 1 ≤ i) (h5 : i ≤ 4) (ha : SlA w a (refC x)) (hx : nd 65536 x < 20000) (hn : nd 256 x ≤ gL i) :
    Sy.Fn Tryz.prog 40 [.int .i64 (i : Int), .slice a (nd 65536 x) ca] w No (RowOf 5 (gL i) ((fixB (gL i) x).map v8)) := by
  refine zq Tryz.func40 rfl Tryz.ntmps40 (by simp) Holds.nil ?_
  have hl96 := (zbP i h0 h5).2
  have hle := fun w' => zfh i w' h0 h5
  have hby := fun w' (hk : Keep No w w') => zg5 a ca x w' (ha.to hk (fun _ h => .inr h)).sla (by omega)
  have hbl := zdk x
  unfold RowOf fixB
  generalize byt x = D at *
  generalize nd 256 x = n at *
  generalize gL i = l at *
  repeat' (first | refine zg ?_ | refine zf ?_ | refine zr ?_ | refine ze ?_ | refine zj ?_ | (refine za (id := 0) ?_; refine zd ?_) | (refine za (id := 1) ?_; refine zb ?_; (refine ys (zy (f := 69) (hc := fun w' X hk hh => hby w' hk)) (k := ?_); rintro _ _ ⟨R, rfl, a0, c0, rfl, rfl⟩); refine zd ?_) | fail)
  refine zQ (γ := Nat × Option Addr × Nat) (fun g => [(0, .int .i64 (i : Int)), (5, .slice g.2.1 (g.1 + n) g.2.2)]) (fun g => [.row (.slice g.2.1 (g.1 + n) g.2.2) 5 1 (g.1 + n) ((List.replicate g.1 0 ++ D).map v8)])
    (fun g => g.1 + n ≤ l) (fun g => l - g.1) (0, a0, c0) (by show 0 + n ≤ l; omega) ?_ ?_ ?_
  · dsimp only
    rw [Nat.zero_add]
    exact Sub.go
  · dsimp only
    rw [Nat.zero_add, List.replicate_zero, List.nil_append]
    exact SubR.go2
  rintro ⟨j, aj, cj⟩ hj
  dsimp only at hj ⊢
  rcases Nat.lt_or_ge (j + n) l with h | h
  · have hlt : decide (((j + n : Nat) : Int) < (l : Int)) = true := decide_eq_true (by omega)
    have hE : (List.replicate j (0 : UInt8) ++ D).length = j + n := by rw [List.length_append, List.length_replicate, hbl]
    have hY : List.replicate (j + 1) (0 : UInt8) ++ D = 0 :: (List.replicate j 0 ++ D) := by rw [List.replicate_succ, List.cons_append]
    generalize List.replicate j (0 : UInt8) ++ D = E at *
    refine zcx (fun w' hh => (Row.none hh (a := aj) (n := j + n) (c := cj) Has.here : aj = none → cj = 0)) fun hnil => ?_
    repeat' (first | refine zg ?_ | refine zf ?_ | refine zu rfl ?_ | refine zr ?_ | refine zt ?_ | refine ze ?_ | refine zj ?_ | refine zaC ?_ | (refine za (id := 2) ?_; refine zb ?_; refine zB ?_; refine zb ?_; refine yv (zi (hc := fun _ _ _ _ => (hle _))) (k := ?_); refine yv (zX (hr := hlt)) (k := ?_)) | (refine za (id := 3) ?_; (refine ys zR (k := ?_); rintro _ _ ⟨_, rfl, rfl⟩); refine zb ?_; (refine ys (zcH (xs := [.int .u8 0]) (k := 1) (m := j + n) (km := j + 1 + n) (hxn := rfl) (hr := Rd.row Has.go) (hn := by rw [List.length_map, hE, Nat.mul_one]) (hnil := hnil) (hkm := by omega) (hys := rfl)) (k := ?_); rintro _ _ ⟨rfl, aN, cN, rfl⟩); refine zd ?_) | fail)
    refine zG (j + 1, aN, cN) ?_ ?_ ?_ ?_
    · show j + 1 + n ≤ l; omega
    · show l - (j + 1) < l - j; omega
    · exact Sub.go
    · dsimp only
      rw [hY]
      exact SubR.go2
  · obtain rfl : l = j + n := by omega
    have hlt : decide (((j + n : Nat) : Int) < ((j + n : Nat) : Int)) = false := decide_eq_false (by omega)
    rw [show j + n - n = j by omega]
    repeat' (first | refine zg ?_ | refine zf ?_ | refine zw rfl ?_ | refine zo ?_ | refine zE ?_ | refine ze ?_ | refine zj ?_ | (refine za (id := 2) ?_; refine zb ?_; refine zB ?_; refine zb ?_; refine yv (zi (hc := fun _ _ _ _ => (hle _))) (k := ?_); refine yv (zX (hr := hlt)) (k := ?_)) | (refine za (id := 4) ?_; refine zb ?_; refine zd ?_) | fail)
    exact ret1 rfl (resTmp rfl) (by exact SubR.go2) ⟨_, _, rfl, rfl⟩
end Go.Proofs.YtjidkoabdmjgkaaGreatDoor
end
