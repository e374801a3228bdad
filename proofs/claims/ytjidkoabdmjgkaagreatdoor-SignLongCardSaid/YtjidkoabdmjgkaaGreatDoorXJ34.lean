/- Layer sign, walked: keys. -/
import Derived.Test.YtjidkoabdmjgkaaGreatDoorXJ33
import Derived.Test.YtjidkoabdmjgkaaGreatDoorXJ05
import Derived.Test.YtjidkoabdmjgkaaGreatDoorXJ18
import Derived.Test.YtjidkoabdmjgkaaGreatDoorXJ09
import Derived.Lib.MakeNoZero
set_option linter.all false
section
namespace Go.Proofs.YtjidkoabdmjgkaaGreatDoor
open Go Go.Sy Go.Nt Go.RowKit
attribute [local irreducible] Sy SyL SyX Sy.Fn callFunc natC rowN refC iC gP gQ gL memB safeC fixB gnum gel gsca chal
set_option maxRecDepth 10000
def BR (o : Option (List UInt8)) (v : Value) (R : List Res) : Prop :=
  ∃ a n c, v = .tuple #[.slice a n c, .int .i64 (if o.isSome then 0 else 2)] ∧ n = (o.getD []).length ∧ R = [.row (.slice a n c) 5 1 n ((o.getD []).map v8)]
theorem zbk (x : Nat) (e : Int) (w : World) : Sy.Fn Tryz.prog 32 [natV x, .int .i64 e] w No (Gives (natV x)) := by
  refine zq Tryz.func32 rfl Tryz.ntmps32 (by simp) Holds.nil ?_
  have hl := zg x
  repeat' (first | refine zh ?_ | refine zf ?_ | refine zp ?_ | refine ze ?_ | refine zj ?_ | (refine za (id := 0) ?_; (refine zm ?_; intro _); (refine zm ?_; intro _)) | (refine za (id := 1) ?_; refine yv (zl (B := natC x)) (k := ?_); refine yn (zn (n := x)) (k := ?_)) | fail)
  exact ret1 rfl (resCells (B := natC x) rfl (ty rfl) rfl Has.go Seg.all (zg _).symm) SubR.nil ⟨rfl, rfl⟩
theorem zhV (a : Option Addr) (n c : Nat) (e : Int) (w : World) : Sy.Fn Tryz.prog 30 [.slice a n c, .int .i64 e] w No (Gives (.slice a n c)) := by
  refine zq Tryz.func30 rfl Tryz.ntmps30 (by simp) Holds.nil ?_
  repeat' (first | refine zh ?_ | refine zf ?_ | refine zp ?_ | refine ze ?_ | refine zj ?_ | (refine za (id := 0) ?_; refine zd ?_) | (refine za (id := 1) ?_; refine zb ?_; refine zd ?_) | fail)
  exact ret1 rfl (resTmp rfl) SubR.nil ⟨rfl, rfl⟩
theorem zgy (z : Int) (a : Option Addr) (n c : Nat) (l : List UInt8) (w : World) (hG : GT w) (hl : l.length = n) (hc : n ≤ c) (hb : SlA w a (l.map v8)) :
    Sy.Fn Tryz.prog 26 [.int .i64 z, .slice a n c] w No (Gives (.tuple #[natV (gnum z l).1, .bool (skey z l)])) := by
  refine zq Tryz.func26 rfl Tryz.ntmps26 (by simp) Holds.nil ?_
  have hn := fun w' (hk : Keep No w w') => zlZ z a n c l w' (hG.to hk) hl hc (hb.to hk (fun _ h => .inr h)).sla
  have hlt := zga z l
  have hs : skey z l = (decide ((gnum z l).2 = 0) && decide ((gnum z l).1 ≠ 0)) := rfl
  generalize skey z l = b at *
  generalize (gnum z l).1 = x at *
  generalize (gnum z l).2 = e at *
  have hz := fun w' => zbq x w' hlt
  have hlx := zg x
  by_cases he : e = 0
  · have g1 : decide (e = 0) = true := decide_eq_true he
    rw [g1, Bool.true_and] at hs
    have hs' : b = !decide (x = 0) := by rw [hs]; by_cases hx : x = 0 <;> simp [hx]
    rw [hs']
    repeat' (first | refine zh ?_ | refine zf ?_ | refine ze ?_ | refine zj ?_ | (refine za (id := 0) ?_; (refine zm ?_; intro _); refine zd ?_) | (refine za (id := 1) ?_; refine zb ?_; refine zb ?_; refine yv (zi (f := 73) (hc := fun w' _ hk _ => hn w' hk)) (k := ?_); refine zb ?_; refine zk ?_; refine zk ?_; (refine zm ?_; intro _); refine yn (zn (n := x)) (k := ?_); refine zd ?_) | fail)
    rename_i b4 b6
    refine zaV (id := 2) mixed ?_
    (refine zaT 9 9 [[], [], [1], [1, 2], [1, 2, 3], [1, 2, 3, 4], [1, 2, 3, 4, 5], [1, 2, 3, 4, 5, 6], [0, 1, 2, 3, 4, 5], [0, 1, 2, 3, 4, 5, 6, 7, 8]] [[], [], [], [], [], [], [], [], [], []] (some 8) rfl ?_ ?_ ?_; kernel_rfl; kernel_rfl; refine dcE (fun _ _ => zl (B := natC x)) (k := ?_); refine zac ?_; refine dcE (fun _ _ => z3 (hr := g1)) (k := ?_); refine zac ?_; refine dcE (fun _ _ => zl (B := natC x)) (k := ?_); refine dcE (fun _ _ => zi (hc := fun _ _ _ _ => (hz _))) (k := ?_); refine zmW ?_; refine zju ?_; try refine dh_0nE (h := ?_))
    refine zfy (R := fun _ _ Nw => Nw = [.blk b6 43 (natC x), .blk b4 43 (natC x)]) (fun _ _ _ => rfl)
      (fun ρ hρ => OpT.mono (zn (n := x) (C := List.replicate 16 (Value.int IntKind.u64 0)) (L' := [.blk b6 43 (natC x), .blk b4 43 (natC x)]) (hL := by exact Upd.there Upd.here)) fun v L' h => ?_) (h := ?_)
    · obtain ⟨rfl, rfl⟩ := h
      exact ⟨_, (List.append_nil _).symm, rfl⟩
    refine zbI (h := ?_)
    rintro ρ ⟨f', -⟩
    (refine zaU [[], [], [1], [1, 2], [1, 2, 3], [1, 2, 3, 4], [1, 2, 3, 4, 5], [1, 2, 3, 4, 5, 6], [0, 1, 2, 3, 4, 5], [0, 1, 2, 3, 4, 5, 6, 7, 8]] ?_ ?_; kernel_rfl)
    have f' : (ρ 8).2 = [.blk b6 43 (natC x), .blk b4 43 (natC x)] := f'
    refine SyL.weaken (fr' := [(4, .pointer (some ⟨b4, 0, none⟩)), (21, .bool (!decide (x = 0)))]) (L' := [.blk b4 43 (natC x)]) ?_ (by exact Sub.go) ?_
    · repeat' (first | refine zf ?_ | refine zp ?_ | refine ze ?_ | refine zj ?_ | (refine zT ?_; first | refine zd ?_ | fail) | fail)
      exact ret2 rfl (resCells (B := natC x) rfl (ty rfl) rfl Has.go Seg.all (zg _).symm) (resTmp rfl) SubR.nil ⟨rfl, rfl⟩
    · show SubR _ ((ρ 8).2 ++ _)
      rw [f']
      exact SubR.go2
  · have g1 : decide (e = 0) = false := decide_eq_false he
    rw [g1, Bool.false_and] at hs
    rw [hs]
    repeat' (first | refine zh ?_ | refine zf ?_ | refine ze ?_ | refine zj ?_ | (refine za (id := 0) ?_; (refine zm ?_; intro _); refine zd ?_) | (refine za (id := 1) ?_; refine zb ?_; refine zb ?_; refine yv (zi (f := 73) (hc := fun w' _ hk _ => hn w' hk)) (k := ?_); refine zb ?_; refine zk ?_; refine zk ?_; (refine zm ?_; intro _); refine yn (zn (n := x)) (k := ?_); refine zd ?_) | fail)
    rename_i b4 b6
    refine zaV (id := 2) mixed ?_
    (refine zaT 9 9 [[], [], [1], [1, 2], [1, 2, 3], [1, 2, 3, 4], [1, 2, 3, 4, 5], [1, 2, 3, 4, 5, 6], [0, 1, 2, 3, 4, 5], [0, 1, 2, 3, 4, 5, 6, 7, 8]] [[], [], [], [], [], [], [], [], [], []] (some 8) rfl ?_ ?_ ?_; kernel_rfl; kernel_rfl; refine dcE (fun _ _ => zl (B := natC x)) (k := ?_); refine zac ?_; refine dcE (fun _ _ => z3 (hr := g1)) (k := ?_); refine zac ?_; refine zfn (fun _ => rfl) rfl (h := ?_); refine zfn (fun _ => rfl) rfl (h := ?_); refine zfn (fun _ => rfl) rfl (h := ?_); refine zju ?_; try refine dh_0nE (h := ?_))
    refine zfy (R := fun _ _ Nw => Nw = [.blk b6 43 (natC x), .blk b4 43 (natC x)]) (fun _ _ _ => rfl)
      (fun ρ hρ => OpT.mono (zn (n := x) (C := List.replicate 16 (Value.int IntKind.u64 0)) (L' := [.blk b6 43 (natC x), .blk b4 43 (natC x)]) (hL := by exact Upd.there Upd.here)) fun v L' h => ?_) (h := ?_)
    · obtain ⟨rfl, rfl⟩ := h
      exact ⟨_, (List.append_nil _).symm, rfl⟩
    refine zbI (h := ?_)
    rintro ρ ⟨f', -⟩
    (refine zaU [[], [], [1], [1, 2], [1, 2, 3], [1, 2, 3, 4], [1, 2, 3, 4, 5], [1, 2, 3, 4, 5, 6], [0, 1, 2, 3, 4, 5], [0, 1, 2, 3, 4, 5, 6, 7, 8]] ?_ ?_; kernel_rfl)
    have f' : (ρ 8).2 = [.blk b6 43 (natC x), .blk b4 43 (natC x)] := f'
    refine SyL.weaken (fr' := [(4, .pointer (some ⟨b4, 0, none⟩)), (21, .bool false)]) (L' := [.blk b4 43 (natC x)]) ?_ (by exact Sub.go) ?_
    · repeat' (first | refine zf ?_ | refine zp ?_ | refine ze ?_ | refine zj ?_ | (refine zT ?_; first | refine zd ?_ | fail) | fail)
      exact ret2 rfl (resCells (B := natC x) rfl (ty rfl) rfl Has.go Seg.all (zg _).symm) (resTmp rfl) SubR.nil ⟨rfl, rfl⟩
    · show SubR _ ((ρ 8).2 ++ _)
      rw [f']
      exact SubR.go2
theorem zfS (z : Int) (a : Option Addr) (n c : Nat) (l : List UInt8) (w : World) (hG : GT w) (hl : l.length = n) (hc : n ≤ c) (hn : n < 1000000) (hb : SlA w a (l.map v8)) :
    Sy.Fn Tryz.prog 18 [.int .i64 z, .slice a n c] w No (BR (sPriv z l)) := by
  refine zq Tryz.func18 rfl Tryz.ntmps18 (by simp) Holds.nil ?_
  have hs := fun w' (hk : Keep No w w') => zin z a n c l w' (hG.to hk) hl hc hn (hb.to hk (fun _ h => .inr h)).sla
  have hlt := ziQ z l
  have hz := fun w' => zbq (gsca z l).1 w' hlt
  have hlx := zg (gsca z l).1
  by_cases he : (gsca z l).2 = 0
  · have g1 : decide ((gsca z l).2 ≠ 0) = false := decide_eq_false (fun h => h he)
    by_cases hx : (gsca z l).1 = 0
    · rw [show sPriv z l = none from if_neg (fun h => h.2 hx)]
      have g2 : decide ((gsca z l).1 = 0) = true := decide_eq_true hx
      rw [g2] at hz
      generalize (gsca z l).1 = x at *
      generalize (gsca z l).2 = e at *
      repeat' (first | refine zh ?_ | refine zf ?_ | refine zw rfl ?_ | refine zp ?_ | refine ze ?_ | refine zj ?_ | refine zy ?_ | (refine za (id := 0) ?_; refine zd ?_; refine zd ?_) | (refine za (id := 1) ?_; refine zb ?_; refine zb ?_; refine yv (zi (f := 27) (hc := fun w' _ hk _ => hs w' hk)) (k := ?_); refine zb ?_; refine zk ?_; refine zk ?_; (refine zm ?_; intro _); refine yn (zn (n := x)) (k := ?_); refine zd ?_) | (refine za (id := 2) ?_; refine zb ?_; refine yv (zax (hr := g1)) (k := ?_); refine zb ?_; refine yv (zl (B := natC x)) (k := ?_); refine yv (zi (hc := fun _ _ _ _ => (hz _))) (k := ?_); refine zx ?_) | (refine za (id := 3) ?_; refine zd ?_; refine zd ?_) | fail)
      refine za4 (zaS 5 1) ?_
      exact ret2 rfl (resTmp rfl) (resTmp rfl) (by exact SubR.go) ⟨_, _, _, rfl, rfl, rfl⟩
    · rw [show sPriv z l = some (fixB (gL z.toNat) (gsca z l).1) from if_pos ⟨he, hx⟩]
      have g2 : decide ((gsca z l).1 = 0) = false := decide_eq_false hx
      rw [g2] at hz
      have hgz : 1 ≤ z ∧ z ≤ 4 := by
        by_cases h : 1 ≤ z ∧ z ≤ 4
        · exact h
        · unfold gsca at he; rw [if_neg h] at he; cases he
      obtain ⟨i, rfl, hi, h0, h5⟩ := zbc hgz
      have hxq : (gsca (i : Int) l).1 < gQ i := by
        unfold gsca; rw [if_pos hgz]; exact Nat.mod_lt _ (Nat.lt_of_lt_of_le (by decide) (zak i h0 h5))
      have hlen := za5 (gL i) (gsca (i : Int) l).1 (zdl h0 h5 hxq)
      have hfb := fun w' (hk : Keep No w w') => zdW i (gsca (i : Int) l).1 w' h0 h5 (hG.to hk) hlt (decide_eq_true hxq)
      unfold FixG at hfb
      rw [hi]
      generalize (gsca (i : Int) l).1 = x at *
      generalize (gsca (i : Int) l).2 = e at *
      generalize fixB (gL i) x = lb at *
      generalize gL i = len at *
      repeat' (first | refine zh ?_ | refine zf ?_ | refine zt rfl ?_ | refine zr ?_ | refine zp ?_ | refine ze ?_ | refine zj ?_ | (refine za (id := 0) ?_; refine zd ?_; refine zd ?_) | (refine za (id := 1) ?_; refine zb ?_; refine zb ?_; refine yv (zi (f := 27) (hc := fun w' _ hk _ => hs w' hk)) (k := ?_); refine zb ?_; refine zk ?_; refine zk ?_; (refine zm ?_; intro _); refine yn (zn (n := x)) (k := ?_); refine zd ?_) | (refine za (id := 2) ?_; refine zb ?_; refine yv (zax (hr := g1)) (k := ?_); refine zb ?_; refine yv (zl (B := natC x)) (k := ?_); refine yv (zi (hc := fun _ _ _ _ => (hz _))) (k := ?_); refine zx ?_) | (refine za (id := 4) ?_; refine zb ?_; refine yv (zl (B := natC x)) (k := ?_); (refine ys (zF (f := 36) (hc := fun w' X hk hh => hfb w' hk)) (k := ?_); rintro _ _ ⟨R, rfl, aF, cF, rfl, rfl⟩); refine zk ?_; refine zk ?_; refine zd ?_; refine zd ?_) | fail)
      exact ret2 rfl (resTmp rfl) (resTmp rfl) (by exact SubR.go2) ⟨_, _, _, rfl, hlen.symm, rfl⟩
  · rw [show sPriv z l = none from if_neg (fun h => he h.1)]
    have g1 : decide ((gsca z l).2 ≠ 0) = true := decide_eq_true he
    generalize (gsca z l).1 = x at *
    generalize (gsca z l).2 = e at *
    repeat' (first | refine zh ?_ | refine zf ?_ | refine zw rfl ?_ | refine zp ?_ | refine ze ?_ | refine zj ?_ | refine zy ?_ | (refine za (id := 0) ?_; refine zd ?_; refine zd ?_) | (refine za (id := 1) ?_; refine zb ?_; refine zb ?_; refine yv (zi (f := 27) (hc := fun w' _ hk _ => hs w' hk)) (k := ?_); refine zb ?_; refine zk ?_; refine zk ?_; (refine zm ?_; intro _); refine yn (zn (n := x)) (k := ?_); refine zd ?_) | (refine za (id := 2) ?_; refine zb ?_; refine yv (zax (hr := g1)) (k := ?_); refine zb ?_; refine zo rfl rfl rfl ?_; refine zo rfl rfl rfl ?_; refine zx ?_) | (refine za (id := 3) ?_; refine zd ?_; refine zd ?_) | fail)
    refine za4 (zaS 5 1) ?_
    exact ret2 rfl (resTmp rfl) (resTmp rfl) (by exact SubR.go) ⟨_, _, _, rfl, rfl, rfl⟩
theorem ziv {z : Int} {l : List UInt8} (h : skey z l = true) : ∃ i : Nat, z = (i : Int) ∧ z.toNat = i ∧ 1 ≤ i ∧ i ≤ 4 ∧ (gnum z l).1 < gQ i := by
  unfold skey at h
  rw [Bool.and_eq_true, decide_eq_true_eq] at h
  obtain ⟨hz, -, hx, hx2⟩ := zc3 h.1
  obtain ⟨i, h1, hi, h0, h5⟩ := zbc hz
  rw [hi] at hx
  exact ⟨i, h1, hi, h0, h5, hx2 ▸ hx⟩
theorem zfz (z : Int) (a : Option Addr) (n c : Nat) (l : List UInt8) (w : World) (hG : GT w) (hl : l.length = n) (hc : n ≤ c) (hb : SlA w a (l.map v8)) :
    Sy.Fn Tryz.prog 20 [.int .i64 z, .slice a n c] w No (BR (sPub z l)) := by
  refine zq Tryz.func20 rfl Tryz.ntmps20 (by simp) Holds.nil ?_
  have hs := fun w' (hk : Keep No w w') => zgy z a n c l w' (hG.to hk) hl hc (hb.to hk (fun _ h => .inr h)).sla
  have hlt := zga z l
  have hlx := zg (gnum z l).1
  cases hk : skey z l with
  | false =>
    rw [show sPub z l = none from if_neg (by rw [hk]; decide)]
    rw [hk] at hs
    generalize (gnum z l).1 = x at *
    repeat' (first | refine zh ?_ | refine zf ?_ | refine zw rfl ?_ | refine zp ?_ | refine ze ?_ | refine zj ?_ | refine zy ?_ | (refine za (id := 0) ?_; refine zd ?_; refine zd ?_) | (refine za (id := 1) ?_; refine zb ?_; refine zb ?_; refine yv (zi (f := 26) (hc := fun w' _ hk _ => hs w' hk)) (k := ?_); refine zb ?_; refine zk ?_; refine zk ?_; (refine zm ?_; intro _); refine yn (zn (n := x)) (k := ?_); refine zd ?_) | (refine za (id := 2) ?_; refine zb ?_; refine zau ?_) | (refine za (id := 3) ?_; refine zd ?_; refine zd ?_) | fail)
    refine za4 (zaS 5 1) ?_
    exact ret2 rfl (resTmp rfl) (resTmp rfl) (by exact SubR.go) ⟨_, _, _, rfl, rfl, rfl⟩
  | true =>
    obtain ⟨i, rfl, hi, h0, h5, hxq⟩ := ziv hk
    rw [show sPub (i : Int) l = some (fixB (gL i) (4 ^ (gnum (i : Int) l).1 % gP i)) from by unfold sPub; rw [if_pos hk, hi]]
    rw [hk] at hs
    generalize (gnum (i : Int) l).1 = x at *
    have hp := fun w' (hk : Keep No w w') => zdg i x w' h0 h5 (hG.to hk) hlt hxq
    have hm : memB (gP i) (gQ i) (4 ^ x % gP i) = true := zbs.2 (zdw h0 h5 _)
    have hf := fun w' (hk : Keep No w w') => zeJ i (4 ^ x % gP i) w' h0 h5 (hG.to hk) (Nat.lt_trans (zbE hm) (zaH i h0 h5)) hm
    have hlen := za5 (gL i) (4 ^ x % gP i) (zks h0 h5 4)
    have hd := fun w' => zbk (4 ^ x % gP i) 0 w'
    unfold FixG at hf
    generalize fixB (gL i) (4 ^ x % gP i) = lb at *
    generalize 4 ^ x % gP i = r at *
    generalize gL i = len at *
    repeat' (first | refine zh ?_ | refine zf ?_ | refine zt rfl ?_ | refine zr ?_ | refine zp ?_ | refine ze ?_ | refine zj ?_ | (refine za (id := 0) ?_; refine zd ?_; refine zd ?_) | (refine za (id := 1) ?_; refine zb ?_; refine zb ?_; refine yv (zi (f := 26) (hc := fun w' _ hk _ => hs w' hk)) (k := ?_); refine zb ?_; refine zk ?_; refine zk ?_; (refine zm ?_; intro _); refine yn (zn (n := x)) (k := ?_); refine zd ?_) | (refine za (id := 2) ?_; refine zb ?_; refine zau ?_) | (refine za (id := 4) ?_; refine zb ?_; refine zb ?_; refine yv (zl (B := natC x)) (k := ?_); refine yv (zi (f := 33) (hc := fun w' _ hk _ => hp w' hk)) (k := ?_); refine zk ?_; refine zk ?_; refine yv (zi (hc := fun _ _ _ _ => (hd _))) (k := ?_); (refine ys (zF (f := 31) (hc := fun w' X hk hh => hf w' hk)) (k := ?_); rintro _ _ ⟨R, rfl, aF, cF, rfl, rfl⟩); refine zk ?_; refine zk ?_; refine zd ?_; refine zd ?_) | fail)
    exact ret2 rfl (resTmp rfl) (resTmp rfl) (by exact SubR.go2) ⟨_, _, _, rfl, hlen.symm, rfl⟩
theorem zlu (z : Int) (a : Option Addr) (n c : Nat) (l : List UInt8) (w : World) (hG : GT w) (hl : l.length = n) (hc : n ≤ c) (hb : SlA w a (l.map v8)) :
    Sy.Fn Tryz.prog 22 [.int .i64 z, .slice a n c] w No (Gives (.bool (decide ((gel z l).2 = 0)))) := by
  refine zq Tryz.func22 rfl Tryz.ntmps22 (by simp) Holds.nil ?_
  have hn := fun w' (hk : Keep No w w') => zka z a n c l w' (hG.to hk) hl hc (hb.to hk (fun _ h => .inr h)).sla
  have hlt := zmP z l
  have hlx := zg (gel z l).1
  generalize (gel z l).1 = x at *
  generalize (gel z l).2 = e at *
  repeat' (first | refine zh ?_ | refine zf ?_ | refine zp ?_ | refine ze ?_ | refine zj ?_ | (refine za (id := 0) ?_; refine zd ?_) | (refine za (id := 1) ?_; refine zb ?_; refine zb ?_; refine yv (zi (f := 45) (hc := fun w' _ hk _ => hn w' hk)) (k := ?_); refine zb ?_; refine zk ?_; refine zk ?_; (refine zm ?_; intro _); refine yn (zn (n := x)) (k := ?_); refine zd ?_) | (refine za (id := 2) ?_; refine zb ?_; refine yv (z3 (hr := rfl)) (k := ?_); refine zd ?_) | fail)
  exact ret1 rfl (resTmp rfl) SubR.nil ⟨rfl, rfl⟩
theorem zeR (z : Int) (w : World) (hG : GT w) : Sy.Fn Tryz.prog 24 [.int .i64 z] w No (Gives (.int .i64 ((2 * glen z : Nat) : Int))) := by
  refine zq Tryz.func24 rfl Tryz.ntmps24 (by simp) Holds.nil ?_
  have hg := fun w' (hk : Keep No w w') => zg9 z w' (hG.to hk)
  have hle := zcZ z
  generalize glen z = m at *
  have hm : IntKind.i64.wrap (2 * (m : Int)) = ((2 * m : Nat) : Int) := by rw [IntWalk.i64_in _ (by omega)]; omega
  repeat' (first | refine zh ?_ | refine zf ?_ | refine zp ?_ | refine ze ?_ | refine zj ?_ | (refine za (id := 0) ?_; refine zd ?_) | (refine za (id := 1) ?_; refine zb ?_; refine yv (zi (f := 72) (hc := fun w' _ hk _ => hg w' hk)) (k := ?_); refine yv (zab (hr := hm)) (k := ?_); refine zd ?_) | fail)
  exact ret1 rfl (resTmp rfl) SubR.nil ⟨rfl, rfl⟩
end Go.Proofs.YtjidkoabdmjgkaaGreatDoor
end
section
namespace Go.Sy
open Go
section
variable {P : Program} {ro : Option Nat} {N : Nat} {w0 : World} {M : Nat → Prop} {ds : List Deferred} {g : Nat → Option Value} {L : List Res} {o : Oper}
theorem zkf {fo : Operand} {args : Array Operand} {tys : Array TypeId} {f e n : Nat} (hr : ∀ w : World, ∃ cs : Array Value, (callFunc f [Value.int .i64 n].toArray).run P w = .ok (.value (.slice (some ⟨w.heap.size, 0, none⟩) n cs.size)) (w.drew.drew.alloc (.cells cs e)) ∧ n ≤ cs.size ∧ cs.size ≤ maxLen)
    (ho : o.op = .call { callee := .value fo, args := args, argTypes := tys } := by exact rfl) (hf : ev g fo = some (.func (.func f) #[] #[]) := by exact rfl) (ha : evs g args.toList = some [.int .i64 n] := by exact rfl) :
    OpT P ro N w0 M ds o g L (fun v L' => ∃ (b : Nat) (cs : List Value), v = .slice (some ⟨b, 0, none⟩) n cs.length ∧ n ≤ cs.length ∧ cs.length ≤ maxLen ∧ L' = .blk b e cs :: L) :=
  OpT.run (by rw [ho]; rfl) fun a w X hs => by
    obtain ⟨cs, h1, h2, h3⟩ := hr w
    have hk : Keep No w w.drew.drew := ⟨rfl, rfl, rfl, Nat.le_refl _, fun _ _ _ => rfl⟩
    have hs' : St N w0 M ds g (L ++ X) a w.drew.drew := ⟨hs.size, hs.agr, hs.keep.trans hk (fun _ h => h.elim), hs.hold.keep hk (fun _ _ _ _ h => h)⟩
    obtain ⟨k1, k2⟩ := zaQ hs' e cs.toList
    refine ⟨_, _, _, _, ?_, .inl rfl, ⟨w.heap.size, cs.toList, rfl, by simpa using h2, by simpa using h3, rfl⟩, k1, k2⟩
    have hargs : args.map a.eval = [Value.int .i64 n].toArray := Array.toList_inj.1 (by rw [Array.toList_map, hs.agr.evals ha])
    simp only [execOp, ho, resolve, hs.agr.eval hf, Deferred.ofValue, hargs, Sem.run_bind, Sem.run_pure, Result.andThen_ok, invoke]
    rw [show (#[] ++ [Value.int .i64 n].toArray ++ #[] : Array Value) = [Value.int .i64 n].toArray by simp, h1]
    simp
end
end Go.Sy
end
