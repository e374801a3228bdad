/- The specification of layer sign, walked: keys. -/
import Derived.Test.YtjidkoabdmjgkaaGreatDoorVJ30
import Derived.Test.YtjidkoabdmjgkaaGreatDoorVJ36
set_option linter.all false
section
namespace Go.Proofs.YtjidkoabdmjgkaaGreatDoor
open Go Go.Sy Go.Nt Go.RowKit
def rnum (z : Int) (l : List UInt8) : Nat × Bool := if (1 ≤ z ∧ z ≤ 4) ∧ l.length = gL z.toNat then (bev 256 (bn l), true) else (0, false)
theorem zbP {z : Int} (hz : 1 ≤ z ∧ z ≤ 4) : gL z.toNat ≤ 96 := by have := zdT z; unfold glen at this; rwa [if_pos hz] at this
theorem zfr (z : Int) (l : List UInt8) : nd 65536 (rnum z l).1 ≤ 64 := by
  unfold rnum
  by_cases h : (1 ≤ z ∧ z ≤ 4) ∧ l.length = gL z.toNat
  · rw [if_pos h]
    have := zbP h.1
    exact ndW (bevW' (by omega))
  · rw [if_neg h]; exact Nat.le_trans (Nat.le_of_eq (zaL _)) (Nat.zero_le _)
theorem zkj (z : Int) (l : List UInt8) : skey z l = ((rnum z l).2 && (decide ((rnum z l).1 < gQ z.toNat) && decide ((rnum z l).1 ≠ 0))) := by
  unfold skey rnum gnum
  by_cases hz : 1 ≤ z ∧ z ≤ 4
  · rw [if_pos hz]
    by_cases h1 : l.length < gL z.toNat
    · rw [if_pos h1, if_neg (show ¬ ((1 ≤ z ∧ z ≤ 4) ∧ l.length = gL z.toNat) from fun h => by omega)]; rfl
    rw [if_neg h1]
    by_cases h2 : gL z.toNat < l.length
    · rw [if_pos h2, if_neg (show ¬ ((1 ≤ z ∧ z ≤ 4) ∧ l.length = gL z.toNat) from fun h => by omega)]; rfl
    rw [if_neg h2, if_pos (show (1 ≤ z ∧ z ≤ 4) ∧ l.length = gL z.toNat from ⟨hz, by omega⟩)]
    by_cases h3 : bev 256 (bn l) < gQ z.toNat
    · rw [if_pos h3]; simp [h3]
    · rw [if_neg h3]; simp [h3]
  · rw [if_neg hz, if_neg (show ¬ ((1 ≤ z ∧ z ≤ 4) ∧ l.length = gL z.toNat) from fun h => hz h.1)]; rfl
theorem ziK {z : Int} {l : List UInt8} (h : skey z l = true) : (rnum z l).1 = (gnum z l).1 := by
  unfold skey at h
  rw [Bool.and_eq_true, decide_eq_true_eq] at h
  obtain ⟨hz, hl, -, hx⟩ := zcQ h.1
  rw [hx]; unfold rnum; rw [if_pos ⟨hz, hl⟩]
theorem zlP (z : Int) (l : List UInt8) : decide ((gel z l).2 = 0) = ((rnum z l).2 && memB (gP z.toNat) (gQ z.toNat) (rnum z l).1) := by
  unfold rnum gel
  by_cases hz : 1 ≤ z ∧ z ≤ 4
  · rw [if_pos hz]
    by_cases h1 : l.length < gL z.toNat
    · rw [if_pos h1, if_neg (show ¬ ((1 ≤ z ∧ z ≤ 4) ∧ l.length = gL z.toNat) from fun h => by omega)]; rfl
    rw [if_neg h1]
    by_cases h2 : gL z.toNat < l.length
    · rw [if_pos h2, if_neg (show ¬ ((1 ≤ z ∧ z ≤ 4) ∧ l.length = gL z.toNat) from fun h => by omega)]; rfl
    rw [if_neg h2, if_pos (show (1 ≤ z ∧ z ≤ 4) ∧ l.length = gL z.toNat from ⟨hz, by omega⟩)]
    by_cases h3 : memB (gP z.toNat) (gQ z.toNat) (bev 256 (bn l)) = true
    · rw [if_pos h3]; dsimp only; rw [h3]; rfl
    · rw [if_neg h3]; dsimp only; rw [Bool.not_eq_true] at h3; rw [h3]; rfl
  · rw [if_neg hz, if_neg (show ¬ ((1 ≤ z ∧ z ≤ 4) ∧ l.length = gL z.toNat) from fun h => hz h.1)]; rfl
theorem znS {z : Int} {l : List UInt8} (h : (gel z l).2 = 0) : (rnum z l).1 = (gel z l).1 := by
  obtain ⟨hz, hl, -, hx⟩ := zgn h
  rw [hx]; unfold rnum; rw [if_pos ⟨hz, hl⟩]
attribute [local irreducible] Sy SyL SyX Sy.Fn callFunc natC rowN refC iC gP gQ gL memB safeC fixB gnum gel gsca chal
set_option maxRecDepth 10000
theorem zek (a : Option Addr) (ca x : Nat) (w : World) (ha : SlA w a (refC x)) (hx : nd 65536 x < 20000) : Sy.Fn Tryz.prog 38 [.slice a (nd 65536 x) ca] w No (Gives (.bool (decide (x = 0)))) := by
  refine zq Tryz.func38 rfl Tryz.ntmps38 (by simp) Holds.nil ?_
  have hb := fun w' (hk : Keep No w w') => zem a ca x w' (ha.to hk (fun _ h => .inr h)).sla (by omega)
  have hd : decide (((nd 2 x : Nat) : Int) = 0) = decide (x = 0) := decide_eq_decide.2 (by
    constructor
    · intro h; exact (zgm 2 x (by decide)).1 (by omega)
    · rintro rfl; rw [zaL]; rfl)
  generalize nd 2 x = m at *
  repeat' (first | refine zg ?_ | refine zf ?_ | refine zo ?_ | refine ze ?_ | refine zj ?_ | (refine za (id := 0) ?_; refine zd ?_) | (refine za (id := 1) ?_; refine zb ?_; refine yv (zi (f := 87) (hc := fun w' _ hk _ => hb w' hk)) (k := ?_); refine yv (z3 (hr := hd)) (k := ?_); refine zd ?_) | fail)
  exact ret1 rfl (resTmp rfl) SubR.nil ⟨rfl, rfl⟩
def RefB (x : Nat) (b : Bool) (v : Value) (R : List Res) : Prop := ∃ a c, v = .tuple #[.slice a (nd 65536 x) c, .bool b] ∧ R = [.row (.slice a (nd 65536 x) c) 3 1 (nd 65536 x) (refC x)]
theorem zgv (z : Int) (a : Option Addr) (n c : Nat) (l : List UInt8) (w : World) (hl : l.length = n) (hb : SlA w a (l.map v8)) :
    Sy.Fn Tryz.prog 86 [.int .i64 z, .slice a n c] w No (RefB (rnum z l).1 (rnum z l).2) := by
  refine zq Tryz.func86 rfl Tryz.ntmps86 (by simp) Holds.nil ?_
  have hh := fun w' => zdZ z w'
  by_cases hz : 1 ≤ z ∧ z ≤ 4
  · rw [decide_eq_true hz] at hh
    obtain ⟨i, rfl, hi, h0, h5⟩ := za4 hz
    have hle := fun w' => zfh i w' h0 h5
    have hlx := zbP hz
    rw [hi] at hlx
    by_cases hn : n = gL i
    · have hR : rnum (i : Int) l = (bev 256 (bn l), true) := by unfold rnum; rw [if_pos ⟨hz, by rw [hl, hi]; exact hn⟩]
      rw [hR]
      have hf := fun w' (hk : Keep No w w') => zfs a n c l w' hl (hb.to hk (fun _ h => .inr h)).sla (by omega)
      unfold RefG at hf
      have g1 : decide ((n : Int) ≠ ((gL i : Nat) : Int)) = false := decide_eq_false (fun h => h (by omega))
      generalize bev 256 (bn l) = x at *
      generalize gL i = m at *
      repeat' (first | refine zg ?_ | refine zf ?_ | refine zw rfl ?_ | refine zt ?_ | refine zo ?_ | refine ze ?_ | refine zj ?_ | (refine za (id := 0) ?_; refine zd ?_; refine zd ?_) | (refine za (id := 1) ?_; refine zb ?_; refine yv (zi (hc := fun _ _ _ _ => (hh _))) (k := ?_); refine z4 ?_; refine zb ?_; refine zb ?_; refine zB ?_; refine zb ?_; refine yv (zi (hc := fun _ _ _ _ => (hle _))) (k := ?_); refine yv (zaB (hr := g1)) (k := ?_); refine zz ?_) | (refine za (id := 3) ?_; refine zb ?_; (refine ys (zy (f := 58) (hc := fun w' X hk hh => hf w' hk)) (k := ?_); rintro _ _ ⟨R, rfl, a1, c1, rfl, rfl⟩); refine zd ?_; refine zd ?_) | fail)
      exact ret2 rfl (resTmp rfl) (resTmp rfl) (by exact SubR.go2) ⟨_, _, rfl, rfl⟩
    · have hR : rnum (i : Int) l = (0, false) := by unfold rnum; rw [if_neg (fun h => hn (by rw [← hl, h.2, hi]))]
      rw [hR]
      have g1 : decide ((n : Int) ≠ ((gL i : Nat) : Int)) = true := decide_eq_true (fun h => hn (by omega))
      generalize gL i = m at *
      repeat' (first | refine zg ?_ | refine zf ?_ | refine zu rfl ?_ | refine zo ?_ | refine ze ?_ | refine zj ?_ | refine zx ?_ | (refine za (id := 0) ?_; refine zd ?_; refine zd ?_) | (refine za (id := 1) ?_; refine zb ?_; refine yv (zi (hc := fun _ _ _ _ => (hh _))) (k := ?_); refine z4 ?_; refine zb ?_; refine zb ?_; refine zB ?_; refine zb ?_; refine yv (zi (hc := fun _ _ _ _ => (hle _))) (k := ?_); refine yv (zaB (hr := g1)) (k := ?_); refine zz ?_) | (refine za (id := 2) ?_; refine zd ?_; refine zd ?_) | fail)
      refine zaw (zaq 3 1) ?_
      exact ret2 (R := [.row (.slice none 0 0) 3 1 0 []]) rfl (resTmp rfl) (resTmp rfl) (by exact SubR.go) ⟨none, 0, by rw [zaL], by rw [zaL, zfa]⟩
  · rw [decide_eq_false hz] at hh
    have hR : rnum z l = (0, false) := by unfold rnum; rw [if_neg (fun h => hz h.1)]
    rw [hR]
    repeat' (first | refine zg ?_ | refine zf ?_ | refine zu rfl ?_ | refine zo ?_ | refine ze ?_ | refine zj ?_ | refine zx ?_ | (refine za (id := 0) ?_; refine zd ?_; refine zd ?_) | (refine za (id := 1) ?_; refine zb ?_; refine yv (zi (hc := fun _ _ _ _ => (hh _))) (k := ?_); refine z4 ?_; refine zb ?_; refine zp rfl rfl rfl ?_; refine zp rfl rfl rfl ?_; refine zp rfl rfl rfl ?_; refine zp rfl rfl rfl ?_; refine zp rfl rfl rfl ?_; refine zz ?_) | (refine za (id := 2) ?_; refine zd ?_; refine zd ?_) | fail)
    refine zaw (zaq 3 1) ?_
    exact ret2 (R := [.row (.slice none 0 0) 3 1 0 []]) rfl (resTmp rfl) (resTmp rfl) (by exact SubR.go) ⟨none, 0, by rw [zaL], by rw [zaL, zfa]⟩
theorem zfA (z : Int) (a : Option Addr) (n c : Nat) (l : List UInt8) (w : World) (hl : l.length = n) (hb : SlA w a (l.map v8)) :
    Sy.Fn Tryz.prog 37 [.int .i64 z, .slice a n c] w No (RefB (rnum z l).1 (skey z l)) := by
  refine zq Tryz.func37 rfl Tryz.ntmps37 (by simp) Holds.nil ?_
  have hn := fun w' (hk : Keep No w w') => zgv z a n c l w' hl (hb.to hk (fun _ h => .inr h)).sla
  have hnd := zfr z l
  have hs := zkj z l
  have hzz : (rnum z l).2 = true → 1 ≤ z ∧ z ≤ 4 := by
    intro h; unfold rnum at h
    by_cases h1 : (1 ≤ z ∧ z ≤ 4) ∧ l.length = gL z.toNat
    · exact h1.1
    · rw [if_neg h1] at h; cases h
  unfold RefB at hn
  generalize skey z l = sk at *
  generalize (rnum z l).1 = x at *
  generalize (rnum z l).2 = b at *
  cases b with
  | false =>
    rw [Bool.false_and] at hs
    rw [hs]
    repeat' (first | refine zg ?_ | refine zf ?_ | refine zo ?_ | refine ze ?_ | refine zj ?_ | (refine za (id := 0) ?_; refine zd ?_; refine zd ?_) | (refine za (id := 1) ?_; refine zb ?_; refine zb ?_; (refine ys (zy (f := 86) (hc := fun w' X hk hh => hn w' hk)) (k := ?_); rintro _ _ ⟨R, rfl, a1, c1, rfl, rfl⟩); refine zb ?_; refine zk ?_; refine zk ?_; refine zd ?_; refine zd ?_) | (refine za (id := 2) ?_; refine zb ?_; refine zb ?_; refine zb ?_; refine zp rfl rfl rfl ?_; refine zp rfl rfl rfl ?_; refine zp rfl rfl rfl ?_; refine zz ?_; refine zb ?_; refine zp rfl rfl rfl ?_; refine zp rfl rfl rfl ?_; refine zp rfl rfl rfl ?_; refine zz ?_; refine zd ?_; refine zd ?_) | fail)
    exact ret2 rfl (resTmp rfl) (resTmp rfl) (by exact SubR.go2) ⟨_, _, rfl, rfl⟩
  | true =>
    obtain ⟨i, rfl, hi, h0, h5⟩ := za4 (hzz rfl)
    rw [Bool.true_and, hi] at hs
    have hq := fun w' a1 c1 (h : SlA w' a1 (refC x)) => zdu i a1 c1 x w' h0 h5 h (by omega)
    have hz := fun w' a1 c1 (h : SlA w' a1 (refC x)) => zek a1 c1 x w' h (by omega)
    cases hd : decide (x < gQ i) with
    | false =>
      rw [hd, Bool.false_and] at hs
      rw [hd] at hq
      rw [hs]
      repeat' (first | refine zg ?_ | refine zf ?_ | refine zo ?_ | refine ze ?_ | refine zj ?_ | (refine za (id := 0) ?_; refine zd ?_; refine zd ?_) | (refine za (id := 1) ?_; refine zb ?_; refine zb ?_; (refine ys (zy (f := 86) (hc := fun w' X hk hh => hn w' hk)) (k := ?_); rintro _ _ ⟨R, rfl, a1, c1, rfl, rfl⟩); refine zb ?_; refine zk ?_; refine zk ?_; refine zd ?_; refine zd ?_) | (refine za (id := 2) ?_; refine zb ?_; refine zb ?_; refine zb ?_; refine zb ?_; refine zb ?_; refine yv (zi (f := 59) (hc := fun w' X hk hh => hq w' _ _ (zD hh (by exact Has.append Has.go)))) (k := ?_); refine zz ?_; refine zb ?_; refine zp rfl rfl rfl ?_; refine zp rfl rfl rfl ?_; refine zp rfl rfl rfl ?_; refine zz ?_; refine zd ?_; refine zd ?_) | fail)
      exact ret2 rfl (resTmp rfl) (resTmp rfl) (by exact SubR.go2) ⟨_, _, rfl, rfl⟩
    | true =>
      rw [hd, Bool.true_and] at hs
      rw [hd] at hq
      rw [show sk = !decide (x = 0) by rw [hs]; by_cases hx : x = 0 <;> simp [hx]]
      repeat' (first | refine zg ?_ | refine zf ?_ | refine zo ?_ | refine ze ?_ | refine zj ?_ | (refine za (id := 0) ?_; refine zd ?_; refine zd ?_) | (refine za (id := 1) ?_; refine zb ?_; refine zb ?_; (refine ys (zy (f := 86) (hc := fun w' X hk hh => hn w' hk)) (k := ?_); rintro _ _ ⟨R, rfl, a1, c1, rfl, rfl⟩); refine zb ?_; refine zk ?_; refine zk ?_; refine zd ?_; refine zd ?_) | (refine za (id := 2) ?_; refine zb ?_; refine zb ?_; refine zb ?_; refine zb ?_; refine zb ?_; refine yv (zi (f := 59) (hc := fun w' X hk hh => hq w' _ _ (zD hh (by exact Has.append Has.go)))) (k := ?_); refine zz ?_; refine zb ?_; refine zb ?_; refine yv (zi (f := 38) (hc := fun w' X hk hh => hz w' _ _ (zD hh (by exact Has.append Has.go)))) (k := ?_); refine z4 ?_; refine zz ?_; refine zd ?_; refine zd ?_) | fail)
      exact ret2 rfl (resTmp rfl) (resTmp rfl) (by exact SubR.go2) ⟨_, _, rfl, rfl⟩
theorem zf7 (z : Int) (a : Option Addr) (n c : Nat) (l : List UInt8) (w : World) (hl : l.length = n) (hb : SlA w a (l.map v8)) :
    Sy.Fn Tryz.prog 56 [.int .i64 z, .slice a n c] w No (RefB (rnum z l).1 (decide ((gel z l).2 = 0))) := by
  refine zq Tryz.func56 rfl Tryz.ntmps56 (by simp) Holds.nil ?_
  have hn := fun w' (hk : Keep No w w') => zgv z a n c l w' hl (hb.to hk (fun _ h => .inr h)).sla
  have hnd := zfr z l
  rw [zlP z l]
  have hzz : (rnum z l).2 = true → 1 ≤ z ∧ z ≤ 4 := by
    intro h; unfold rnum at h
    by_cases h1 : (1 ≤ z ∧ z ≤ 4) ∧ l.length = gL z.toNat
    · exact h1.1
    · rw [if_neg h1] at h; cases h
  unfold RefB at hn
  generalize (rnum z l).1 = x at *
  generalize (rnum z l).2 = b at *
  cases b with
  | false =>
    rw [Bool.false_and]
    repeat' (first | refine zg ?_ | refine zf ?_ | refine zo ?_ | refine ze ?_ | refine zj ?_ | (refine za (id := 0) ?_; refine zd ?_; refine zd ?_) | (refine za (id := 1) ?_; refine zb ?_; refine zb ?_; (refine ys (zy (f := 86) (hc := fun w' X hk hh => hn w' hk)) (k := ?_); rintro _ _ ⟨R, rfl, a1, c1, rfl, rfl⟩); refine zb ?_; refine zk ?_; refine zk ?_; refine zd ?_; refine zd ?_) | (refine za (id := 2) ?_; refine zb ?_; refine zb ?_; refine zb ?_; refine zp rfl rfl rfl ?_; refine zp rfl rfl rfl ?_; refine zp rfl rfl rfl ?_; refine zz ?_; refine zd ?_; refine zd ?_) | fail)
    exact ret2 rfl (resTmp rfl) (resTmp rfl) (by exact SubR.go2) ⟨_, _, rfl, rfl⟩
  | true =>
    obtain ⟨i, rfl, hi, h0, h5⟩ := za4 (hzz rfl)
    rw [Bool.true_and, hi]
    have hq := fun w' a1 c1 (h : SlA w' a1 (refC x)) => zjZ i a1 c1 x w' h0 h5 h (by omega)
    generalize memB (gP i) (gQ i) x = m at *
    repeat' (first | refine zg ?_ | refine zf ?_ | refine zo ?_ | refine ze ?_ | refine zj ?_ | (refine za (id := 0) ?_; refine zd ?_; refine zd ?_) | (refine za (id := 1) ?_; refine zb ?_; refine zb ?_; (refine ys (zy (f := 86) (hc := fun w' X hk hh => hn w' hk)) (k := ?_); rintro _ _ ⟨R, rfl, a1, c1, rfl, rfl⟩); refine zb ?_; refine zk ?_; refine zk ?_; refine zd ?_; refine zd ?_) | (refine za (id := 2) ?_; refine zb ?_; refine zb ?_; refine zb ?_; refine zb ?_; refine zb ?_; refine yv (zi (f := 96) (hc := fun w' X hk hh => hq w' _ _ (zD hh (by exact Has.append Has.go)))) (k := ?_); refine zz ?_; refine zd ?_; refine zd ?_) | fail)
    exact ret2 rfl (resTmp rfl) (resTmp rfl) (by exact SubR.go2) ⟨_, _, rfl, rfl⟩
theorem zkX (z : Int) (a : Option Addr) (n c : Nat) (l : List UInt8) (w : World) (hl : l.length = n) (hb : SlA w a (l.map v8)) :
    Sy.Fn Tryz.prog 23 [.int .i64 z, .slice a n c] w No (Gives (.bool (decide ((gel z l).2 = 0)))) := by
  refine zq Tryz.func23 rfl Tryz.ntmps23 (by simp) Holds.nil ?_
  have hn := fun w' (hk : Keep No w w') => zf7 z a n c l w' hl (hb.to hk (fun _ h => .inr h)).sla
  unfold RefB at hn
  generalize decide ((gel z l).2 = 0) = b at *
  generalize (rnum z l).1 = x at *
  repeat' (first | refine zg ?_ | refine zf ?_ | refine zo ?_ | refine ze ?_ | refine zj ?_ | (refine za (id := 0) ?_; refine zd ?_) | (refine za (id := 1) ?_; refine zb ?_; refine zb ?_; (refine ys (zy (f := 56) (hc := fun w' X hk hh => hn w' hk)) (k := ?_); rintro _ _ ⟨R, rfl, a1, c1, rfl, rfl⟩); refine zb ?_; refine zk ?_; refine zk ?_; refine zd ?_; refine zd ?_) | (refine za (id := 2) ?_; refine zb ?_; refine zd ?_) | fail)
  exact ret1 rfl (resTmp rfl) SubR.nil ⟨rfl, rfl⟩
theorem zkL (z : Int) (w : World) : Sy.Fn Tryz.prog 25 [.int .i64 z] w No (Gives (.int .i64 ((2 * glen z : Nat) : Int))) := by
  refine zq Tryz.func25 rfl Tryz.ntmps25 (by simp) Holds.nil ?_
  have hh := fun w' => zdZ z w'
  have hle := zdT z
  by_cases hz : 1 ≤ z ∧ z ≤ 4
  · rw [decide_eq_true hz] at hh
    obtain ⟨i, rfl, hi, h0, h5⟩ := za4 hz
    have hl := fun w' => zfh i w' h0 h5
    rw [show glen (i : Int) = gL i from by unfold glen; rw [if_pos hz, hi]] at hle ⊢
    generalize gL i = m at *
    have hm : IntKind.i64.wrap (2 * (m : Int)) = ((2 * m : Nat) : Int) := by rw [IntWalk.i64_in _ (by omega)]; omega
    repeat' (first | refine zg ?_ | refine zf ?_ | refine zw rfl ?_ | refine zt ?_ | refine zo ?_ | refine ze ?_ | refine zj ?_ | (refine za (id := 0) ?_; refine zd ?_) | (refine za (id := 1) ?_; refine zb ?_; refine yv (zi (hc := fun _ _ _ _ => (hh _))) (k := ?_); refine z4 ?_) | (refine za (id := 3) ?_; refine zb ?_; refine yv (zi (hc := fun _ _ _ _ => (hl _))) (k := ?_); refine yv (zab (hr := hm)) (k := ?_); refine zd ?_) | fail)
    exact ret1 rfl (resTmp rfl) SubR.nil ⟨rfl, rfl⟩
  · rw [decide_eq_false hz] at hh
    rw [show glen z = 0 from if_neg hz]
    repeat' (first | refine zg ?_ | refine zf ?_ | refine zu rfl ?_ | refine zo ?_ | refine ze ?_ | refine zj ?_ | refine zx ?_ | (refine za (id := 0) ?_; refine zd ?_) | (refine za (id := 1) ?_; refine zb ?_; refine yv (zi (hc := fun _ _ _ _ => (hh _))) (k := ?_); refine z4 ?_) | (refine za (id := 2) ?_; refine zd ?_) | fail)
    exact ret1 rfl (resTmp rfl) SubR.nil ⟨rfl, rfl⟩
theorem zl1 (z : Int) (a : Option Addr) (n c : Nat) (l : List UInt8) (w : World) (hl : l.length = n) (hn : n < 80000) (hb : SlA w a (l.map v8)) :
    Sy.Fn Tryz.prog 19 [.int .i64 z, .slice a n c] w No (BR (sPriv z l)) := by
  refine zq Tryz.func19 rfl Tryz.ntmps19 (by simp) Holds.nil ?_
  have hh := fun w' => zdZ z w'
  by_cases hz : 1 ≤ z ∧ z ≤ 4
  · rw [decide_eq_true hz] at hh
    have hg : gsca z l = (bev 256 (bn l) % gQ z.toNat, 0) := by unfold gsca; rw [if_pos hz]
    obtain ⟨i, rfl, hi, h0, h5⟩ := za4 hz
    have hs := fun w' (hk : Keep No w w') => zeu i a n c l w' h0 h5 hl (hb.to hk (fun _ h => .inr h)).sla hn
    have hxq : bev 256 (bn l) % gQ i < gQ i := Nat.mod_lt _ (Nat.lt_of_lt_of_le (by decide) (zag i h0 h5))
    have hnd := ndW (Nat.lt_trans hxq (zao i h0 h5))
    have hlen := zca h0 h5 hxq
    have hfl := zaI (gL i) _ hlen
    unfold sPriv
    rw [hg, hi]
    have hzr := fun w' a1 c1 (h : SlA w' a1 (refC (bev 256 (bn l) % gQ i))) => zek a1 c1 _ w' h (by omega)
    have hby := fun w' a1 c1 (h : SlA w' a1 (refC (bev 256 (bn l) % gQ i))) => zct i a1 c1 _ w' h0 h5 h (by omega) hlen
    unfold RefG at hs
    generalize bev 256 (bn l) % gQ i = x at *
    by_cases hx : x = 0
    · rw [if_neg (fun h => h.2 hx)]
      rw [decide_eq_true hx] at hzr
      repeat' (first | refine zg ?_ | refine zf ?_ | refine zu rfl ?_ | refine zo ?_ | refine ze ?_ | refine zj ?_ | refine zx ?_ | (refine za (id := 0) ?_; refine zd ?_; refine zd ?_) | (refine za (id := 1) ?_; refine zb ?_; refine yv (zi (hc := fun _ _ _ _ => (hh _))) (k := ?_); refine z4 ?_; refine zb ?_; refine zb ?_; refine zb ?_; (refine ys (zy (f := 39) (hc := fun w' X hk hh => hs w' hk)) (k := ?_); rintro _ _ ⟨R, rfl, a1, c1, rfl, rfl⟩); refine yv (zi (f := 38) (hc := fun w' X hk hh => hzr w' _ _ (zD hh (by exact Has.append Has.go)))) (k := ?_); refine zz ?_) | (refine za (id := 2) ?_; refine zd ?_; refine zd ?_) | fail)
      refine zaw (zaq 5 1) ?_
      exact ret2 rfl (resTmp rfl) (resTmp rfl) (by exact SubR.go2) ⟨_, _, _, rfl, rfl, rfl⟩
    · rw [if_pos ⟨rfl, hx⟩]
      rw [decide_eq_false hx] at hzr
      generalize fixB (gL i) x = lb at *
      generalize gL i = len at *
      repeat' (first | refine zg ?_ | refine zf ?_ | refine zw rfl ?_ | refine zt ?_ | refine zo ?_ | refine ze ?_ | refine zj ?_ | (refine za (id := 0) ?_; refine zd ?_; refine zd ?_) | (refine za (id := 1) ?_; refine zb ?_; refine yv (zi (hc := fun _ _ _ _ => (hh _))) (k := ?_); refine z4 ?_; refine zb ?_; refine zb ?_; refine zb ?_; (refine ys (zy (f := 39) (hc := fun w' X hk hh => hs w' hk)) (k := ?_); rintro _ _ ⟨R, rfl, a1, c1, rfl, rfl⟩); refine yv (zi (f := 38) (hc := fun w' X hk hh => hzr w' _ _ (zD hh (by exact Has.append Has.go)))) (k := ?_); refine zz ?_) | (refine za (id := 3) ?_; refine zb ?_; refine zb ?_; refine zb ?_; (refine ys (zy (f := 39) (hc := fun w' X hk hh => hs w' hk)) (k := ?_); rintro _ _ ⟨R, rfl, a1, c1, rfl, rfl⟩); (refine ys (zy (f := 40) (hc := fun w' X hk hh => hby w' _ _ (zD hh (by exact Has.append Has.go)))) (k := ?_); rintro _ _ ⟨R, rfl, a2, c2, rfl, rfl⟩); refine zd ?_; refine zd ?_) | fail)
      exact ret2 rfl (resTmp rfl) (resTmp rfl) (by exact SubR.go2) ⟨_, _, _, rfl, hfl.symm, rfl⟩
  · rw [decide_eq_false hz] at hh
    have hg : sPriv z l = none := if_neg (fun h => by have h1 := h.1; unfold gsca at h1; rw [if_neg hz] at h1; cases h1)
    rw [hg]
    repeat' (first | refine zg ?_ | refine zf ?_ | refine zu rfl ?_ | refine zo ?_ | refine ze ?_ | refine zj ?_ | refine zx ?_ | (refine za (id := 0) ?_; refine zd ?_; refine zd ?_) | (refine za (id := 1) ?_; refine zb ?_; refine yv (zi (hc := fun _ _ _ _ => (hh _))) (k := ?_); refine z4 ?_; refine zb ?_; refine zp rfl rfl rfl ?_; refine zp rfl rfl rfl ?_; refine zp rfl rfl rfl ?_; refine zp rfl rfl rfl ?_; refine zz ?_) | (refine za (id := 2) ?_; refine zd ?_; refine zd ?_) | fail)
    refine zaw (zaq 5 1) ?_
    exact ret2 rfl (resTmp rfl) (resTmp rfl) (by exact SubR.go) ⟨_, _, _, rfl, rfl, rfl⟩
theorem zmX (z : Int) (a : Option Addr) (n c : Nat) (l : List UInt8) (w : World) (hl : l.length = n) (hb : SlA w a (l.map v8)) :
    Sy.Fn Tryz.prog 21 [.int .i64 z, .slice a n c] w No (BR (sPub z l)) := by
  refine zq Tryz.func21 rfl Tryz.ntmps21 (by simp) Holds.nil ?_
  have hs := fun w' (hk : Keep No w w') => zfA z a n c l w' hl (hb.to hk (fun _ h => .inr h)).sla
  have hnd := zfr z l
  unfold RefB at hs
  cases hk : skey z l with
  | false =>
    rw [show sPub z l = none from if_neg (by rw [hk]; decide)]
    rw [hk] at hs
    generalize (rnum z l).1 = x at *
    repeat' (first | refine zg ?_ | refine zf ?_ | refine zu rfl ?_ | refine zo ?_ | refine ze ?_ | refine zj ?_ | refine zx ?_ | (refine za (id := 0) ?_; refine zd ?_; refine zd ?_) | (refine za (id := 1) ?_; refine zb ?_; refine zb ?_; (refine ys (zy (f := 37) (hc := fun w' X hk hh => hs w' hk)) (k := ?_); rintro _ _ ⟨R, rfl, a1, c1, rfl, rfl⟩); refine zb ?_; refine zk ?_; refine zk ?_; refine zd ?_; refine zd ?_) | (refine za (id := 2) ?_; refine zb ?_; refine z4 ?_) | (refine za (id := 3) ?_; refine zd ?_; refine zd ?_) | fail)
    refine zaw (zaq 5 1) ?_
    exact ret2 rfl (resTmp rfl) (resTmp rfl) (by exact SubR.go2) ⟨_, _, _, rfl, rfl, rfl⟩
  | true =>
    obtain ⟨i, rfl, hi, h0, h5, hxq⟩ := zff hk
    rw [show sPub (i : Int) l = some (fixB (gL i) (4 ^ (rnum (i : Int) l).1 % gP i)) from by unfold sPub; rw [if_pos hk, hi, ziK hk]]
    rw [hk] at hs
    generalize (rnum (i : Int) l).1 = x at *
    have hp := fun w' a1 c1 (h : SlA w' a1 (refC x)) => zdx i a1 c1 x w' h0 h5 h (by omega)
    have hP := Nat.mod_lt (4 ^ x) (Nat.lt_trans Nat.zero_lt_one (zak i h0 h5))
    have hnr := ndW (Nat.lt_trans hP (zav i h0 h5))
    have hln := zij (e := x) h0 h5 4
    have hlen := zaI (gL i) (4 ^ x % gP i) hln
    have hf := fun w' a1 c1 (h : SlA w' a1 (refC (4 ^ x % gP i))) => zct i a1 c1 _ w' h0 h5 h (by omega) hln
    unfold RefG at hp
    generalize fixB (gL i) (4 ^ x % gP i) = lb at *
    generalize 4 ^ x % gP i = r at *
    generalize gL i = len at *
    repeat' (first | refine zg ?_ | refine zf ?_ | refine zw rfl ?_ | refine zt ?_ | refine zo ?_ | refine ze ?_ | refine zj ?_ | (refine za (id := 0) ?_; refine zd ?_; refine zd ?_) | (refine za (id := 1) ?_; refine zb ?_; refine zb ?_; (refine ys (zy (f := 37) (hc := fun w' X hk hh => hs w' hk)) (k := ?_); rintro _ _ ⟨R, rfl, a1, c1, rfl, rfl⟩); refine zb ?_; refine zk ?_; refine zk ?_; refine zd ?_; refine zd ?_) | (refine za (id := 2) ?_; refine zb ?_; refine z4 ?_) | (refine za (id := 4) ?_; refine zb ?_; refine zb ?_; refine zb ?_; (refine ys (zy (f := 41) (hc := fun w' X hk hh => hp w' _ _ (zD hh (by exact Has.append Has.go)))) (k := ?_); rintro _ _ ⟨R, rfl, a2, c2, rfl, rfl⟩); (refine ys (zy (f := 40) (hc := fun w' X hk hh => hf w' _ _ (zD hh (by exact Has.append Has.go)))) (k := ?_); rintro _ _ ⟨R, rfl, a3, c3, rfl, rfl⟩); refine zd ?_; refine zd ?_) | fail)
    exact ret2 rfl (resTmp rfl) (resTmp rfl) (by exact SubR.go2) ⟨_, _, _, rfl, hlen.symm, rfl⟩
end Go.Proofs.YtjidkoabdmjgkaaGreatDoor
end
