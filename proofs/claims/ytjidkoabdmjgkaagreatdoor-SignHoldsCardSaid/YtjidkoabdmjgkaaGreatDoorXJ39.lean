/- The specification of layer group, walked. -/
import Derived.Test.YtjidkoabdmjgkaaGreatDoorXJ38
import Derived.Test.YtjidkoabdmjgkaaGreatDoorXJ29
import Derived.Test.YtjidkoabdmjgkaaGreatDoorXJ34
import Derived.Test.YtjidkoabdmjgkaaGreatDoorXJ09
import Derived.Test.YtjidkoabdmjgkaaGreatDoorXJ02
import Derived.Test.YtjidkoabdmjgkaaGreatDoorXJ32
set_option linter.all false
section
namespace Go.Sy
open Go
end Go.Sy
namespace Go.Nt
open Go Go.Sy
theorem w64k : 18446744073709551616 ^ 16 = 65536 ^ 64 := zdt 65536 16 64 rfl rfl
theorem ndW {x : Nat} (h : x < 18446744073709551616 ^ 16) : nd 65536 x ≤ 64 := zam _ _ _ (by decide) (by rw [← w64k]; exact h)
theorem zlS (i : Nat) (h0 : 1 ≤ i) (h5 : i ≤ 4) : (gP i - 1) / 2 = gQ i := by
  have := zkn i h0 h5; omega
end Go.Nt
namespace Go.Proofs.YtjidkoabdmjgkaaGreatDoor
open Go Go.Sy Go.Nt Go.RowKit
attribute [local irreducible] Sy SyL SyX Sy.Fn callFunc natC refC iC gP gQ gL memB
set_option maxRecDepth 10000
theorem ziq (z : Int) (w : World) : Sy.Fn Tryz.prog 71 [.int .i64 z] w No (Gives (.bool (decide (1 ≤ z ∧ z ≤ 4)))) := by
  refine zq Tryz.func71 rfl Tryz.ntmps71 (by simp) Holds.nil ?_
  by_cases h1 : 1 ≤ z
  · have g1 : decide (z ≥ 1) = true := decide_eq_true h1
    have g2 : decide (z ≤ 4) = decide (1 ≤ z ∧ z ≤ 4) := decide_eq_decide.2 ⟨fun h => ⟨h1, h⟩, fun h => h.2⟩
    generalize decide (1 ≤ z ∧ z ≤ 4) = b at *
    repeat' (first | refine zh ?_ | refine zf ?_ | refine zp ?_ | refine ze ?_ | refine zj ?_ | (refine za (id := 0) ?_; refine zd ?_) | (refine za (id := 1) ?_; refine zb ?_; refine yv (zas (hr := g1)) (k := ?_); refine zb ?_; refine zb ?_; refine yv (zbT (hr := g2)) (k := ?_); refine zx ?_; refine zd ?_) | fail)
    exact ret1 rfl (resTmp rfl) SubR.nil ⟨rfl, rfl⟩
  · have g1 : decide (z ≥ 1) = false := decide_eq_false h1
    rw [show decide (1 ≤ z ∧ z ≤ 4) = false from decide_eq_false (fun h => h1 h.1)]
    repeat' (first | refine zh ?_ | refine zf ?_ | refine zp ?_ | refine ze ?_ | refine zj ?_ | (refine za (id := 0) ?_; refine zd ?_) | (refine za (id := 1) ?_; refine zb ?_; refine yv (zas (hr := g1)) (k := ?_); refine zb ?_; refine zo rfl rfl rfl ?_; refine zo rfl rfl rfl ?_; refine zx ?_; refine zd ?_) | fail)
    exact ret1 rfl (resTmp rfl) SubR.nil ⟨rfl, rfl⟩
theorem zgz (i : Nat) (w : World) (h0 : 1 ≤ i) (h5 : i ≤ 4) : Sy.Fn Tryz.prog 97 [.int .i64 (i : Int)] w No (RefG (gP i)) := by
  refine zq Tryz.func97 rfl Tryz.ntmps97 (by simp) Holds.nil ?_
  have g3 : IntKind.i64.wrap ((i : Int) - 1) = ((i - 1 : Nat) : Int) := by rw [IntWalk.i64_in _ (by omega)]; omega
  have hcell := zfJ i h0 h5
  have hpa := fun w' => zjV (gS i) w' (by have := zjN i h0 h5; omega)
  rw [zhF i h0 h5] at hpa
  dsimp only at hpa
  unfold RefG
  repeat' (first | refine zh ?_ | refine zf ?_ | refine ze ?_ | refine zj ?_ | (refine za (id := 0) ?_; refine zd ?_) | fail)
  refine za (id := 1) ?_
  refine ys (zJ (vs := gCells)) (k := ?_)
  rintro _ _ ⟨b6, rfl, rfl⟩
  generalize gCells = GC at *
  generalize gS i = S at *
  repeat' (first | refine zh ?_ | refine zf ?_ | refine zp ?_ | refine ze ?_ | refine zj ?_ | (refine za (id := 2) ?_; refine zb ?_; (refine ys (zF (f := 125) (hc := fun w' X hk hh => hpa w')) (k := ?_); rintro _ _ ⟨R, rfl, a1, c1, rfl, rfl⟩); refine zb ?_; refine zk ?_; refine zk ?_; refine zd ?_; refine zd ?_) | (refine za (id := 3) ?_; refine zb ?_; refine zd ?_) | (refine zT ?_; first | refine yv (zM (hr := g3)) (k := ?_) | refine yv (zbj (j := i - 1)) (k := ?_) | refine yv (zP (hv := hcell)) (k := ?_) | refine zd ?_ | refine zb ?_ | fail) | fail)
  exact ret1 rfl (resTmp rfl) (by exact SubR.go2) ⟨_, _, rfl, rfl⟩
theorem znp (i : Nat) (w : World) (h0 : 1 ≤ i) (h5 : i ≤ 4) : Sy.Fn Tryz.prog 61 [.int .i64 (i : Int)] w No (RefG (gQ i)) := by
  refine zq Tryz.func61 rfl Tryz.ntmps61 (by simp) Holds.nil ?_
  have hW := zaH i h0 h5
  have k0 := ndW hW
  have hp1 := zap i h0 h5
  have hp := fun w' => zgz i w' h0 h5
  have h1 := fun w' => zgW 1 w' (by decide)
  have h2 := fun w' => zgW 2 w' (by decide)
  have n1 := zam 65536 1 1 (by decide) (by decide)
  have n2 := zam 65536 2 1 (by decide) (by decide)
  have n3 := zmy 65536 (gP i - 1) (gP i) (by decide) (Nat.sub_le _ _)
  have hs := fun w' a c a' c' (h : SlA w' a (refC (gP i))) (h' : SlA w' a' (refC 1)) => zfX a a' c c' (gP i) 1 w' h h' (by omega) (by omega)
  have hd := fun w' a c a' c' (h : SlA w' a (refC (gP i - 1))) (h' : SlA w' a' (refC 2)) => ziX a a' c c' (gP i - 1) 2 w' h h' (by omega) (by omega) (by decide)
  rw [zlS i h0 h5] at hd
  unfold RefG at *
  generalize (gP i - 1) % 2 = r at *
  generalize gP i - 1 = p1 at *
  generalize gP i = p at *
  generalize gQ i = q at *
  repeat' (first | refine zh ?_ | refine zf ?_ | refine zp ?_ | refine ze ?_ | refine zj ?_ | (refine za (id := 0) ?_; refine zd ?_) | (refine za (id := 1) ?_; refine zb ?_; (refine ys (zF (f := 97) (hc := fun w' X hk hh => hp w')) (k := ?_); rintro _ _ ⟨R, rfl, a1, c1, rfl, rfl⟩); (refine ys (zF (f := 62) (hc := fun w' X hk hh => h1 w')) (k := ?_); rintro _ _ ⟨R, rfl, a2, c2, rfl, rfl⟩); (refine ys (zF (f := 60) (hc := fun w' X hk hh => hs w' _ _ _ _ (z9 hh (by exact Has.append Has.go)) (z9 hh (by exact Has.append Has.go)))) (k := ?_); rintro _ _ ⟨R, rfl, a3, c3, rfl, rfl⟩); (refine ys (zF (f := 62) (hc := fun w' X hk hh => h2 w')) (k := ?_); rintro _ _ ⟨R, rfl, a4, c4, rfl, rfl⟩); (refine ys (zF (f := 100) (hc := fun w' X hk hh => hd w' _ _ _ _ (z9 hh (by exact Has.append Has.go)) (z9 hh (by exact Has.append Has.go)))) (k := ?_); rintro _ _ ⟨R, rfl, a5, c5, a6, c6, rfl, rfl⟩); refine zb ?_; refine zk ?_; refine zk ?_; refine zd ?_; refine zd ?_) | (refine za (id := 2) ?_; refine zb ?_; refine zd ?_) | fail)
  exact ret1 rfl (resTmp rfl) (by exact SubR.go2) ⟨_, _, rfl, rfl⟩
theorem hasI (i : Nat) (h0 : 1 ≤ i) (h5 : i ≤ 4) : decide (1 ≤ (i : Int) ∧ (i : Int) ≤ 4) = true := decide_eq_true ⟨by omega, by omega⟩
theorem ziP (i : Nat) (w : World) (h0 : 1 ≤ i) (h5 : i ≤ 4) : Sy.Fn Tryz.prog 57 [.int .i64 (i : Int)] w No (Gives (.int .i64 ((gL i : Nat) : Int))) := by
  refine zq Tryz.func57 rfl Tryz.ntmps57 (by simp) Holds.nil ?_
  have hh := fun w' => ziq (i : Int) w'
  rw [hasI i h0 h5] at hh
  have k0 := ndW (zaH i h0 h5)
  have hp := fun w' => zgz i w' h0 h5
  have hb := fun w' a c (h : SlA w' a (refC (gP i))) => zeC a c (gP i) w' h (by omega)
  rw [zfK i h0 h5] at hb
  unfold RefG at hp
  generalize byt (gP i) = D at *
  generalize gP i = p at *
  generalize gL i = l at *
  repeat' (first | refine zh ?_ | refine zf ?_ | refine zt rfl ?_ | refine zr ?_ | refine zp ?_ | refine ze ?_ | refine zj ?_ | (refine za (id := 0) ?_; refine zd ?_) | (refine za (id := 1) ?_; refine zb ?_; refine yv (zi (hc := fun _ _ _ _ => (hh _))) (k := ?_); refine zau ?_) | (refine za (id := 3) ?_; refine zb ?_; (refine ys (zF (f := 97) (hc := fun w' X hk hh => hp w')) (k := ?_); rintro _ _ ⟨R, rfl, a1, c1, rfl, rfl⟩); (refine ys (zF (f := 69) (hc := fun w' X hk hh => hb w' _ _ (z9 hh (by exact Has.append Has.go)))) (k := ?_); rintro _ _ ⟨R, rfl, a2, c2, rfl, rfl⟩); refine zA ?_; refine zd ?_) | fail)
  exact ret1 rfl (resTmp rfl) SubR.nil ⟨rfl, rfl⟩
end Go.Proofs.YtjidkoabdmjgkaaGreatDoor
end
section
namespace Go.Proofs.YtjidkoabdmjgkaaGreatDoor
open Go Go.Sy Go.Nt Go.RowKit
theorem zcO {z : Int} (hz : 1 ≤ z ∧ z ≤ 4) : gL z.toNat ≤ 96 := by have := zcZ z; unfold glen at this; rwa [if_pos hz] at this
attribute [local irreducible] Sy SyL SyX Sy.Fn callFunc natC rowN refC iC gP gQ gL memB safeC fixB gnum gel gsca chal
set_option maxRecDepth 10000
theorem zgo (z : Int) (w : World) : Sy.Fn Tryz.prog 25 [.int .i64 z] w No (Gives (.int .i64 ((2 * glen z : Nat) : Int))) := by
  refine zq Tryz.func25 rfl Tryz.ntmps25 (by simp) Holds.nil ?_
  have hh := fun w' => ziq z w'
  have hle := zcZ z
  by_cases hz : 1 ≤ z ∧ z ≤ 4
  · rw [decide_eq_true hz] at hh
    obtain ⟨i, rfl, hi, h0, h5⟩ := zbc hz
    have hl := fun w' => ziP i w' h0 h5
    rw [show glen (i : Int) = gL i from by unfold glen; rw [if_pos hz, hi]] at hle ⊢
    generalize gL i = m at *
    have hm : IntKind.i64.wrap (2 * (m : Int)) = ((2 * m : Nat) : Int) := by rw [IntWalk.i64_in _ (by omega)]; omega
    repeat' (first | refine zh ?_ | refine zf ?_ | refine zt rfl ?_ | refine zr ?_ | refine zp ?_ | refine ze ?_ | refine zj ?_ | (refine za (id := 0) ?_; refine zd ?_) | (refine za (id := 1) ?_; refine zb ?_; refine yv (zi (hc := fun _ _ _ _ => (hh _))) (k := ?_); refine zau ?_) | (refine za (id := 3) ?_; refine zb ?_; refine yv (zi (hc := fun _ _ _ _ => (hl _))) (k := ?_); refine yv (zab (hr := hm)) (k := ?_); refine zd ?_) | fail)
    exact ret1 rfl (resTmp rfl) SubR.nil ⟨rfl, rfl⟩
  · rw [decide_eq_false hz] at hh
    rw [show glen z = 0 from if_neg hz]
    repeat' (first | refine zh ?_ | refine zf ?_ | refine zw rfl ?_ | refine zp ?_ | refine ze ?_ | refine zj ?_ | refine zy ?_ | (refine za (id := 0) ?_; refine zd ?_) | (refine za (id := 1) ?_; refine zb ?_; refine yv (zi (hc := fun _ _ _ _ => (hh _))) (k := ?_); refine zau ?_) | (refine za (id := 2) ?_; refine zd ?_) | fail)
    exact ret1 rfl (resTmp rfl) SubR.nil ⟨rfl, rfl⟩
end Go.Proofs.YtjidkoabdmjgkaaGreatDoor
end
section
namespace Go.Wd
open Go Go.RowKit Go.Sy
def vi (x : UInt32) : Value := .int .i64 (n32 x)
theorem wrapi (a : Int) (h0 : -9223372036854775808 ≤ a) (h1 : a < 9223372036854775808) : IntKind.i64.wrap a = a := IntWalk.i64_in _ (by omega)
section sums
variable (a b c d e f g : UInt32)
end sums
end Go.Wd
namespace Go.Sh
open Go.Wd Go.RowKit
end Go.Sh
namespace Go.Proofs.YtjidkoabdmjgkaaGreatDoor
open Go Go.Sy Go.Wd Go.Sh
attribute [local irreducible] Sy SyL SyX
set_option maxRecDepth 10000
end Go.Proofs.YtjidkoabdmjgkaaGreatDoor
end
