/- Reduce, Add, Sub, Mul, Exp. -/
import Derived.Test.YtjidkoabdmjgkaaGreatDoorXJ26
set_option linter.all false
section
namespace Go.Proofs.YtjidkoabdmjgkaaGreatDoor
open Go Go.Sy Go.Nt Go.RowKit
section
variable {ro : Option Nat} {N : Nat} {w0 : World} {M : Nat → Prop} {ds : List Deferred} {g : Nat → Option Value} {L : List Res} {o : Oper} {z : Operand}
theorem zcP {n : Nat} (ho : o.op = .build 107 #[(0, z)] := by exact rfl) (hz : ev g z = some (natV n) := by exact rfl) : OpT Tryz.prog ro N w0 M ds o g L (Det (natV n) L) :=
  zef (parts := #[(0, z)]) (vs := [natV n]) (C := natC n) (zhr n) ho (by simp [evs, hz]) (ty rfl) rfl rfl (zc rfl)
end
def SlOf (T n : Nat) (C : List Value) (v : Value) (Nw : List Res) : Prop := ∃ b, v = .slice (some ⟨b, 0, none⟩) n n ∧ Nw = [.blk b T C]
def ptrOf : Value → Value
  | .slice (some a) _ _ => .pointer (some a)
  | v => v
attribute [local irreducible] Sy SyL SyX Sy.Fn callFunc natC rowN
set_option maxRecDepth 10000
def modR (m r : Nat) : Value := if m = 0 then .tuple #[natV 0, .int .i64 2] else .tuple #[natV r, .int .i64 0]
theorem zkw (a m : Nat) (w : World) (ha : a < 18446744073709551616 ^ 16) (hm : m < 18446744073709551616 ^ 16) :
    Sy.Fn Tryz.prog 75 [natV a, natV m] w No (Gives (modR m (a % m))) := by
  refine zq Tryz.func75 rfl Tryz.ntmps75 (by simp) Holds.nil ?_
  have hla := zg a
  have hlm := zg m
  have hl0 := zg 0
  have hz := fun w' => zbq m w' hm
  rcases Nat.eq_zero_or_pos m with h | h
  · subst h
    unfold modR
    rw [if_pos rfl]
    repeat' (first | refine zh ?_ | refine zf ?_ | refine zw rfl ?_ | refine zp ?_ | refine ze ?_ | refine zj ?_ | refine zy ?_ | (refine za (id := 0) ?_; (refine zm ?_; intro _); (refine zm ?_; intro _); (refine zm ?_; intro _); refine zd ?_) | (refine za (id := 1) ?_; refine yv (zl (B := natC 0)) (k := ?_); refine yv (zi (hc := fun _ _ _ _ => (hz _))) (k := ?_)) | (refine za (id := 2) ?_; refine yv zaY (k := ?_); refine yn (zn (n := 0)) (k := ?_); refine zd ?_) | fail)
    exact ret2 rfl (resCells (B := natC 0) rfl (ty rfl) rfl Has.go Seg.all (zg _).symm) (resTmp rfl) SubR.nil ⟨rfl, rfl⟩
  · simp only [decide_eq_false (show ¬ m = 0 by omega)] at hz
    unfold modR
    rw [if_neg (by omega)]
    have hr := fun w' b' (h' : w'.rangeAt b' 0 (rowN [a])) => zcr m a b' w' hm h ha h'
    have hlr := zg (a % m)
    generalize a % m = r at *
    repeat' (first | refine zh ?_ | refine zf ?_ | refine zt rfl ?_ | refine zr ?_ | refine zp ?_ | refine ze ?_ | refine zj ?_ | (refine za (id := 0) ?_; (refine zm ?_; intro _); (refine zm ?_; intro _); (refine zm ?_; intro _); refine zd ?_) | (refine za (id := 1) ?_; refine yv (zl (B := natC m)) (k := ?_); refine yv (zi (hc := fun _ _ _ _ => (hz _))) (k := ?_)) | (refine za (id := 3) ?_; refine yv (zl (B := natC m)) (k := ?_); refine yv (zcP (n := m)) (k := ?_); refine yv (zl (B := natC a)) (k := ?_)) | (refine ys (zao (x := a)) (k := ?_); rintro _ _ ⟨bb, rfl, rfl⟩) | (refine zT ?_; first | refine yv (zl (B := natC r)) (k := ?_) | (refine ys (zF (f := 108) (hc := fun w' X hk hh => hr w' _ (zL (hh.has (by exact Has.append Has.here)) Seg.all))) (k := ?_); rintro _ _ ⟨R, rfl, bc, rfl, rfl⟩) | refine yv (zan (j := 0)) (k := ?_) | refine yn (zn (n := r)) (k := ?_) | refine zd ?_ | fail) | fail)
    exact ret2 rfl (resCells (B := natC r) rfl (ty rfl) rfl Has.go Seg.all (zg _).symm) (resTmp rfl) SubR.nil ⟨rfl, rfl⟩
set_option maxHeartbeats 1000000 in
theorem zfb (f : Nat) (F : Nat → Nat → Nat) (a b m : Nat) (w : World) (ha : a < 18446744073709551616 ^ 16) (hb : b < 18446744073709551616 ^ 16) (hm : m < 18446744073709551616 ^ 16)
    (hen : ∀ args w, (callFunc f args).run Tryz.prog w = .ok (.enter f args) w) (hf : ∀ a b w, a < m → b < m → Sy.Fn Tryz.prog f [natV m, natV a, natV b] w No (Gives (natV (F a b)))) :
    Sy.Fn Tryz.prog 94 [natV m, .func (.func f) #[] #[], natV a, natV b] w No (Gives (modR m (F (a % m) (b % m)))) := by
  refine zq Tryz.func94 rfl Tryz.ntmps94 (by simp) Holds.nil ?_
  have hla := zg a
  have hlb := zg b
  have hlm := zg m
  have hl0 := zg 0
  have hz := fun w' => zbq m w' hm
  rcases Nat.eq_zero_or_pos m with h | h
  · subst h
    unfold modR
    rw [if_pos rfl]
    repeat' (first | refine zh ?_ | refine zf ?_ | refine zw rfl ?_ | refine zp ?_ | refine ze ?_ | refine zj ?_ | refine zy ?_ | (refine za (id := 0) ?_; (refine zm ?_; intro _); (refine zm ?_; intro _); (refine zm ?_; intro _); (refine zm ?_; intro _); refine zd ?_) | (refine za (id := 1) ?_; refine yv (zl (B := natC 0)) (k := ?_); refine yv (zi (hc := fun _ _ _ _ => (hz _))) (k := ?_)) | (refine za (id := 2) ?_; refine yv zaY (k := ?_); refine yn (zn (n := 0)) (k := ?_); refine zd ?_) | fail)
    exact ret2 rfl (resCells (B := natC 0) rfl (ty rfl) rfl Has.go Seg.all (zg _).symm) (resTmp rfl) SubR.nil ⟨rfl, rfl⟩
  · simp only [decide_eq_false (show ¬ m = 0 by omega)] at hz
    unfold modR
    rw [if_neg (by omega)]
    have hr := fun w' b' (h' : w'.rangeAt b' 0 (rowN [a, b])) => zeF m a b b' w' hm h ha hb h'
    have hf := fun w' => hf (a % m) (b % m) w' (Nat.mod_lt _ h) (Nat.mod_lt _ h)
    have hlr := zg (F (a % m) (b % m))
    have hlr1 := zg (a % m)
    have hlr2 := zg (b % m)
    generalize F (a % m) (b % m) = r at *
    generalize a % m = r1 at *
    generalize b % m = r2 at *
    repeat' (first | refine zh ?_ | refine zf ?_ | refine zt rfl ?_ | refine zr ?_ | refine zp ?_ | refine ze ?_ | refine zj ?_ | (refine za (id := 0) ?_; (refine zm ?_; intro _); (refine zm ?_; intro _); (refine zm ?_; intro _); (refine zm ?_; intro _); refine zd ?_) | (refine za (id := 1) ?_; refine yv (zl (B := natC m)) (k := ?_); refine yv (zi (hc := fun _ _ _ _ => (hz _))) (k := ?_)) | (refine za (id := 3) ?_; refine yv (zl (B := natC m)) (k := ?_); refine yv (zcP (n := m)) (k := ?_); refine yv (zl (B := natC a)) (k := ?_); refine yv (zl (B := natC b)) (k := ?_)) | (refine zV (id := 4) 9 [[], [], [1], [], [3], [3, 4], [], [6], [6, 7], [0, 1, 2, 3, 4, 5, 6, 7, 8], [0, 1, 2, 3, 4, 5, 6, 7, 8, 9], [0, 1, 2, 3, 4, 5, 6, 7, 8, 9, 10]] mixed ?_ ?_; kernel_rfl; refine zB ?_; refine dc (fun _ _ => zl (B := natC m)) (k := ?_); refine dc (fun _ _ => zcP (n := m)) (k := ?_); refine zB ?_; refine dc (fun _ _ => zan (j := 0)) (k := ?_); refine dc (fun _ _ => zl (B := natC r1) (hv := (seg2 r1 r2).1)) (k := ?_); refine zB ?_; refine dc (fun _ _ => zan (j := 1)) (k := ?_); refine dc (fun _ _ => zl (B := natC r2) (hv := (seg2 r1 r2).2)) (k := ?_); refine z7 ?_; refine yv (zcc (he := hen) (fst := []) (cap := []) (hc := fun w' X hk hh => hf w')) (k := ?_); refine yn (zn (n := r)) (k := ?_); refine zd ?_) | (refine ys (zbZ (x := a) (x' := b)) (k := ?_); rintro _ _ ⟨bb, rfl, rfl⟩) | (refine zT ?_; first | (refine ys (zF (f := 108) (hc := fun w' X hk hh => hr w' _ (zL (hh.has (by exact Has.append Has.here)) Seg.all))) (k := ?_); rintro _ _ ⟨R, rfl, bc, rfl, rfl⟩) | refine zd ?_ | fail) | fail)
    exact ret2 rfl (resCells (B := natC r) rfl (ty rfl) rfl Has.go Seg.all (zg _).symm) (resTmp rfl) SubR.nil ⟨rfl, rfl⟩
theorem ziB (a b m : Nat) (w : World) (ha : a < 18446744073709551616 ^ 16) (hb : b < 18446744073709551616 ^ 16) (hm : m < 18446744073709551616 ^ 16) :
    Sy.Fn Tryz.prog 77 [natV a, natV b, natV m] w No (Gives (modR m ((a + b) % m))) := by
  refine zq Tryz.func77 rfl Tryz.ntmps77 (by simp) Holds.nil ?_
  have hla := zg a
  have hlb := zg b
  have hlm := zg m
  have hl0 := zg 0
  have hap := fun w' => zfb 110 (fun x y => (x + y) % m) a b m w' ha hb hm (en rfl) (fun x y w' hx hy => zfr m x y w' hm hx hy)
  rcases Nat.eq_zero_or_pos m with h | h
  · subst h
    unfold modR at *
    simp only [if_pos rfl] at hap ⊢
    repeat' (first | refine zh ?_ | refine zf ?_ | refine zp ?_ | refine ze ?_ | refine zj ?_ | (refine za (id := 0) ?_; (refine zm ?_; intro _); (refine zm ?_; intro _); (refine zm ?_; intro _); (refine zm ?_; intro _); refine zd ?_) | (refine za (id := 1) ?_; refine yv (zl (B := natC 0)) (k := ?_); refine yv (zl (B := natC a)) (k := ?_); refine yv (zl (B := natC b)) (k := ?_); refine yv (zi (hc := fun _ _ _ _ => (hap _))) (k := ?_); refine zk ?_; refine zk ?_; refine yn (zn (n := 0)) (k := ?_); refine zd ?_) | fail)
    exact ret2 rfl (resCells (B := natC 0) rfl (ty rfl) rfl Has.go Seg.all (zg _).symm) (resTmp rfl) SubR.nil ⟨rfl, rfl⟩
  · have e : (fun x y => (x + y) % m) (a % m) (b % m) = (a + b) % m := by
      exact (Nat.add_mod a b m).symm
    dsimp only at e
    rw [e] at hap
    unfold modR at *
    simp only [if_neg (show ¬ m = 0 by omega)] at hap ⊢
    have hlr := zg ((a + b) % m)
    generalize (a + b) % m = r at *
    repeat' (first | refine zh ?_ | refine zf ?_ | refine zp ?_ | refine ze ?_ | refine zj ?_ | (refine za (id := 0) ?_; (refine zm ?_; intro _); (refine zm ?_; intro _); (refine zm ?_; intro _); (refine zm ?_; intro _); refine zd ?_) | (refine za (id := 1) ?_; refine yv (zl (B := natC m)) (k := ?_); refine yv (zl (B := natC a)) (k := ?_); refine yv (zl (B := natC b)) (k := ?_); refine yv (zi (hc := fun _ _ _ _ => (hap _))) (k := ?_); refine zk ?_; refine zk ?_; refine yn (zn (n := r)) (k := ?_); refine zd ?_) | fail)
    exact ret2 rfl (resCells (B := natC r) rfl (ty rfl) rfl Has.go Seg.all (zg _).symm) (resTmp rfl) SubR.nil ⟨rfl, rfl⟩
theorem zmu (a b m : Nat) (w : World) (ha : a < 18446744073709551616 ^ 16) (hb : b < 18446744073709551616 ^ 16) (hm : m < 18446744073709551616 ^ 16) :
    Sy.Fn Tryz.prog 54 [natV a, natV b, natV m] w No (Gives (modR m (dm m a b))) := by
  refine zq Tryz.func54 rfl Tryz.ntmps54 (by simp) Holds.nil ?_
  have hla := zg a
  have hlb := zg b
  have hlm := zg m
  have hl0 := zg 0
  have hap := fun w' => zfb 95 (fun x y => dm m x y) a b m w' ha hb hm (en rfl) (fun x y w' hx hy => zgP m x y w' hm hx hy)
  rcases Nat.eq_zero_or_pos m with h | h
  · subst h
    unfold modR at *
    simp only [if_pos rfl] at hap ⊢
    repeat' (first | refine zh ?_ | refine zf ?_ | refine zw rfl ?_ | refine zt rfl ?_ | refine zu ?_ | refine zr ?_ | refine zp ?_ | refine zE ?_ | refine zdQ ?_ | refine ze ?_ | refine zj ?_ | refine zy ?_ | refine zav ?_ | refine zaq ?_ | refine zad ?_ | refine zaP ?_ | refine zbg rfl ?_ | (apply zbh; (focus ((repeat (first | exact Rem.here | apply Rem.there)); done)); assumption) | (refine za (id := 0) ?_; try (refine zm ?_; intro _); try (refine zm ?_; intro _); try (refine zm ?_; intro _); try (refine zm ?_; intro _); try refine zd ?_) | (refine za (id := 1) ?_; try (first | refine yv (zl (B := natC a)) (k := ?_) | refine yv (zl (B := natC b)) (k := ?_) | refine yv (zl (B := natC 0)) (k := ?_) | refine zz ?_ | fail); try (first | refine yv (zl (B := natC a)) (k := ?_) | refine yv (zl (B := natC b)) (k := ?_) | refine yv (zl (B := natC 0)) (k := ?_) | refine zz ?_ | fail); try (first | refine yv (zl (B := natC a)) (k := ?_) | refine yv (zl (B := natC b)) (k := ?_) | refine yv (zl (B := natC 0)) (k := ?_) | refine zz ?_ | fail); try refine yv (zi (hc := fun _ _ _ _ => (hap _))) (k := ?_); try refine zk ?_; try refine zk ?_; try (first | refine yn (zn (n := 0)) (k := ?_) | refine zH ?_ | fail); try refine zd ?_) | (refine zT ?_; first | refine yv (zl (B := natC a)) (k := ?_) | refine yv (zl (B := natC b)) (k := ?_) | refine yv (zl (B := natC 0)) (k := ?_) | refine yv (zi (hc := fun _ _ _ _ => (hap _))) (k := ?_) | refine yn (zn (n := 0)) (k := ?_) | refine zd ?_ | refine zk ?_ | refine zz ?_ | refine zH ?_ | (refine zm ?_; intro _) | fail) | refine za ?_ | fail)
    exact ret2 rfl (resCells (B := natC 0) rfl (ty rfl) rfl Has.go Seg.all (zg _).symm) (resTmp rfl) SubR.nil ⟨rfl, rfl⟩
  · have e : (fun x y => dm m x y) (a % m) (b % m) = dm m a b := by
      exact znh h (zb1 m a) (zb1 m b)
    dsimp only at e
    rw [e] at hap
    unfold modR at *
    simp only [if_neg (show ¬ m = 0 by omega)] at hap ⊢
    have hlr := zg (dm m a b)
    generalize dm m a b = r at *
    repeat' (first | refine zh ?_ | refine zf ?_ | refine zw rfl ?_ | refine zt rfl ?_ | refine zu ?_ | refine zr ?_ | refine zp ?_ | refine zE ?_ | refine zdQ ?_ | refine ze ?_ | refine zj ?_ | refine zy ?_ | refine zav ?_ | refine zaq ?_ | refine zad ?_ | refine zaP ?_ | refine zbg rfl ?_ | (apply zbh; (focus ((repeat (first | exact Rem.here | apply Rem.there)); done)); assumption) | (refine za (id := 0) ?_; try (refine zm ?_; intro _); try (refine zm ?_; intro _); try (refine zm ?_; intro _); try (refine zm ?_; intro _); try refine zd ?_) | (refine za (id := 1) ?_; try (first | refine yv (zl (B := natC a)) (k := ?_) | refine yv (zl (B := natC b)) (k := ?_) | refine yv (zl (B := natC m)) (k := ?_) | refine zz ?_ | fail); try (first | refine yv (zl (B := natC a)) (k := ?_) | refine yv (zl (B := natC b)) (k := ?_) | refine yv (zl (B := natC m)) (k := ?_) | refine zz ?_ | fail); try (first | refine yv (zl (B := natC a)) (k := ?_) | refine yv (zl (B := natC b)) (k := ?_) | refine yv (zl (B := natC m)) (k := ?_) | refine zz ?_ | fail); try refine yv (zi (hc := fun _ _ _ _ => (hap _))) (k := ?_); try refine zk ?_; try refine zk ?_; try (first | refine yn (zn (n := r)) (k := ?_) | refine zH ?_ | fail); try refine zd ?_) | (refine zT ?_; first | refine yv (zl (B := natC a)) (k := ?_) | refine yv (zl (B := natC b)) (k := ?_) | refine yv (zl (B := natC m)) (k := ?_) | refine yv (zi (hc := fun _ _ _ _ => (hap _))) (k := ?_) | refine yn (zn (n := r)) (k := ?_) | refine zd ?_ | refine zk ?_ | refine zz ?_ | refine zH ?_ | (refine zm ?_; intro _) | fail) | refine za ?_ | fail)
    exact ret2 rfl (resCells (B := natC r) rfl (ty rfl) rfl Has.go Seg.all (zg _).symm) (resTmp rfl) SubR.nil ⟨rfl, rfl⟩
theorem zfP (a b m : Nat) (w : World) (ha : a < 18446744073709551616 ^ 16) (hb : b < 18446744073709551616 ^ 16) (hm : m < 18446744073709551616 ^ 16) :
    Sy.Fn Tryz.prog 76 [natV a, natV b, natV m] w No (Gives (modR m (a * b % m))) := by
  refine zq Tryz.func76 rfl Tryz.ntmps76 (by simp) Holds.nil ?_
  have hla := zg a
  have hlb := zg b
  have hlm := zg m
  have hl0 := zg 0
  have hap := fun w' => zfb 109 (fun x y => x * y % m) a b m w' ha hb hm (en rfl) (fun x y w' hx hy => zdL m x y w' hm hx hy)
  rcases Nat.eq_zero_or_pos m with h | h
  · subst h
    unfold modR at *
    simp only [if_pos rfl] at hap ⊢
    repeat' (first | refine zh ?_ | refine zf ?_ | refine zp ?_ | refine ze ?_ | refine zj ?_ | (refine za (id := 0) ?_; (refine zm ?_; intro _); (refine zm ?_; intro _); (refine zm ?_; intro _); (refine zm ?_; intro _); refine zd ?_) | (refine za (id := 1) ?_; refine yv (zl (B := natC 0)) (k := ?_); refine yv (zl (B := natC a)) (k := ?_); refine yv (zl (B := natC b)) (k := ?_); refine yv (zi (hc := fun _ _ _ _ => (hap _))) (k := ?_); refine zk ?_; refine zk ?_; refine yn (zn (n := 0)) (k := ?_); refine zd ?_) | fail)
    exact ret2 rfl (resCells (B := natC 0) rfl (ty rfl) rfl Has.go Seg.all (zg _).symm) (resTmp rfl) SubR.nil ⟨rfl, rfl⟩
  · have e : (fun x y => x * y % m) (a % m) (b % m) = a * b % m := by
      exact (Nat.mul_mod a b m).symm
    dsimp only at e
    rw [e] at hap
    unfold modR at *
    simp only [if_neg (show ¬ m = 0 by omega)] at hap ⊢
    have hlr := zg (a * b % m)
    generalize a * b % m = r at *
    repeat' (first | refine zh ?_ | refine zf ?_ | refine zp ?_ | refine ze ?_ | refine zj ?_ | (refine za (id := 0) ?_; (refine zm ?_; intro _); (refine zm ?_; intro _); (refine zm ?_; intro _); (refine zm ?_; intro _); refine zd ?_) | (refine za (id := 1) ?_; refine yv (zl (B := natC m)) (k := ?_); refine yv (zl (B := natC a)) (k := ?_); refine yv (zl (B := natC b)) (k := ?_); refine yv (zi (hc := fun _ _ _ _ => (hap _))) (k := ?_); refine zk ?_; refine zk ?_; refine yn (zn (n := r)) (k := ?_); refine zd ?_) | fail)
    exact ret2 rfl (resCells (B := natC r) rfl (ty rfl) rfl Has.go Seg.all (zg _).symm) (resTmp rfl) SubR.nil ⟨rfl, rfl⟩
set_option maxHeartbeats 1000000 in
theorem zmM (a e m : Nat) (w : World) (ha : a < 18446744073709551616 ^ 16) (he : e < 18446744073709551616 ^ 16) (hm : m < 18446744073709551616 ^ 16) :
    Sy.Fn Tryz.prog 117 [natV a, natV e, natV m] w No (Gives (modR m (a ^ e % m))) := by
  refine zq Tryz.func117 rfl Tryz.ntmps117 (by simp) Holds.nil ?_
  have hla := zg a
  have hle := zg e
  have hlm := zg m
  have hl0 := zg 0
  have hz := fun w' => zbq m w' hm
  rcases Nat.eq_zero_or_pos m with h | h
  · subst h
    unfold modR
    rw [if_pos rfl]
    repeat' (first | refine zh ?_ | refine zf ?_ | refine zw rfl ?_ | refine zp ?_ | refine ze ?_ | refine zj ?_ | refine zy ?_ | (refine za (id := 0) ?_; (refine zm ?_; intro _); (refine zm ?_; intro _); (refine zm ?_; intro _); (refine zm ?_; intro _); refine zd ?_) | (refine za (id := 1) ?_; refine yv (zl (B := natC 0)) (k := ?_); refine yv (zi (hc := fun _ _ _ _ => (hz _))) (k := ?_)) | (refine za (id := 2) ?_; refine yv zaY (k := ?_); refine yn (zn (n := 0)) (k := ?_); refine zd ?_) | fail)
    exact ret2 rfl (resCells (B := natC 0) rfl (ty rfl) rfl Has.go Seg.all (zg _).symm) (resTmp rfl) SubR.nil ⟨rfl, rfl⟩
  · simp only [decide_eq_false (show ¬ m = 0 by omega)] at hz
    unfold modR
    rw [if_neg (by omega)]
    have hr := fun w' b' (h' : w'.rangeAt b' 0 (rowN [a])) => zcr m a b' w' hm h ha h'
    have h1 := fun w' => zm4 m w' hm h
    obtain ⟨V, hV⟩ : ∃ V : Nat → Nat, ∀ k, V k = (a % m) ^ k % m := ⟨fun k => (a % m) ^ k % m, fun _ => rfl⟩
    have hVm : ∀ k, V k < m := fun k => by rw [hV]; exact Nat.mod_lt _ h
    have hD : ∀ k w', Sy.Fn Tryz.prog 141 ([natV m] ++ [natV (V k)] ++ []) w' No (Gives (natV (V (2 * k)))) := fun k w' => by
      have := zke m (V k) w' hm (hVm k)
      rw [show V k * V k % m = V (2 * k) by rw [hV, hV, ← Nat.mul_mod, ← Nat.pow_add, Nat.two_mul]] at this
      exact this
    have hA : ∀ k w', Sy.Fn Tryz.prog 109 ([natV m] ++ [natV (V k), natV (a % m)] ++ []) w' No (Gives (natV (V (k + 1)))) := fun k w' => by
      have := zdL m (V k) (a % m) w' hm (hVm k) (Nat.mod_lt _ h)
      rw [show V k * (a % m) % m = V (k + 1) by rw [hV, hV, Nat.mod_mul_mod, Nat.pow_succ]] at this
      exact this
    have hlad := fun w' => zgi e (a % m) V 141 109 [natV m] [] [natV m] [] w' he (en rfl) (en rfl) hD hA
    rw [show V 0 = 1 % m by rw [hV, Nat.pow_zero], show V e = a ^ e % m by rw [hV, ((zb1 m a).pow e).mod]] at hlad
    have hlr := zg (a % m)
    have hlR := zg (a ^ e % m)
    have hl1 := zg (1 % m)
    clear hD hA hV hVm
    generalize a ^ e % m = R at *
    generalize a % m = r at *
    generalize 1 % m = u at *
    repeat' (first | refine zh ?_ | refine zf ?_ | refine zt rfl ?_ | refine zr ?_ | refine ze ?_ | refine zj ?_ | (refine za (id := 0) ?_; (refine zm ?_; intro _); (refine zm ?_; intro _); (refine zm ?_; intro _); (refine zm ?_; intro _); refine zd ?_) | (refine za (id := 1) ?_; refine yv (zl (B := natC m)) (k := ?_); refine yv (zi (hc := fun _ _ _ _ => (hz _))) (k := ?_)) | (refine za (id := 3) ?_; refine yv (zl (B := natC m)) (k := ?_); refine yv (zcP (n := m)) (k := ?_); (refine zm ?_; intro _); refine yn (zR (B := natC m) (hv := zcA m) (h1 := (zg m).symm)) (k := ?_)) | fail)
    rename_i b3 b4 b5 b6 b8
    refine zaV (id := 4) mixed ?_
    (refine zaT 14 14 [[], [], [1], [], [], [4], [1, 2, 3, 4, 5], [1, 2, 3, 4, 5, 6], [1, 2, 3, 4, 5, 6, 7], [], [9], [], [11], [0, 1, 2, 3, 4, 5, 6, 7, 8, 9, 10, 11, 12], [0, 1, 2, 3, 4, 5, 6, 7, 8, 9, 10, 11, 12, 13], [0, 1, 2, 3, 4, 5, 6, 7, 8, 9, 10, 11, 12, 13, 14]] [[], [], [], [], [], [], [], [], [], [], [], [], [], [], [], []] none rfl ?_ ?_ ?_; kernel_rfl; kernel_rfl; refine dcE (fun _ _ => zl (B := natC e)) (k := ?_); refine dcE (fun _ _ => zl (B := natC m)) (k := ?_); refine dcE (fun _ _ => zi (hc := fun _ _ _ _ => (h1 _))) (k := ?_); refine dcE (fun _ _ => zl (B := natC m)) (k := ?_); refine dcE (fun _ _ => zl (B := natC a)) (k := ?_); try refine dh_0nE (h := ?_))
    refine zbu (R := fun _ => SlOf 43 1 (rowN [a])) (fun _ _ _ => rfl) (fun ρ hρ => OpT.mono (zao (x := a)) fun v L' h => ?_) (h := ?_)
    · obtain ⟨b, rfl, rfl⟩ := h
      exact ⟨[_], rfl, b, rfl, rfl⟩
    refine zbu (R := fun _ => SlOf 43 1 (natC r)) (fun _ _ _ => rfl) (fun ρ hρ => ?_) (h := ?_)
    · obtain ⟨⟨bx, e1, e2⟩, -⟩ := hρ
      refine OpT.mono (zF (vs := [natV m, .slice (some ⟨bx, 0, none⟩) 1 1]) (ha := by show some [_, (ρ 5).1] = _; rw [e1]; rfl) (hc := fun w' X hk hh => hr w' bx ((Reads.blk (T := 43) (by show Has ((ρ 5).2 ++ _) _; rw [e2]; exact Has.here) Seg.all) w' X hk hh))) fun v L' h => ?_
      obtain ⟨R, rfl, bc, rfl, rfl⟩ := h
      exact ⟨_, rfl, bc, rfl, rfl⟩
    refine zi1 (u := fun ρ => ptrOf (ρ 6).1) (fun ρ hρ => ?_) (fun _ => rfl) rfl (fun ρ ρ' h => by rw [h 6 (by decide)]) (h := ?_)
    · obtain ⟨⟨bx, e1, e2⟩, -⟩ := hρ
      refine OpT.mono (zan (b := bx) (off := 0) (n := 1) (c := 1) (j := 0) (hx := by show some (ρ 6).1 = _; rw [e1])) fun v L' h => ?_
      obtain ⟨rfl, rfl⟩ := h
      exact ⟨by rw [e1]; rfl, rfl⟩
    refine dcE (u := natV r) (fun ρ hρ => ?_) (k := ?_)
    · obtain ⟨⟨bx, e1, e2⟩, -⟩ := hρ
      exact zl (B := natC r) (b := bx) (off := 0) (T := 43) (hx := by show some (ptrOf (ρ 6).1) = _; rw [e1]; rfl) (hL := by show Has ((ρ 6).2 ++ _) _; rw [e2]; exact Has.here) (hv := Seg.all) (hz := hlr.symm)
    (skip; refine dcE (fun _ _ => zl (B := natC m)) (k := ?_); refine zft ?_; refine dcE (fun _ _ => zl (B := natC m)) (k := ?_); refine zft ?_; refine dcE (fun _ _ => zi (hc := fun _ _ _ _ => (hlad _))) (k := ?_); try refine dh_0nE (h := ?_))
    refine zbI (h := ?_)
    rintro ρ ⟨⟨bx, e1, e2⟩, ⟨bz, e3, e4⟩, -⟩
    (refine zaU [[], [], [1], [], [], [4], [1, 2, 3, 4, 5], [1, 2, 3, 4, 5, 6], [1, 2, 3, 4, 5, 6, 7], [], [9], [], [11], [0, 1, 2, 3, 4, 5, 6, 7, 8, 9, 10, 11, 12], [0, 1, 2, 3, 4, 5, 6, 7, 8, 9, 10, 11, 12, 13], [0, 1, 2, 3, 4, 5, 6, 7, 8, 9, 10, 11, 12, 13, 14]] ?_ ?_; kernel_rfl)
    refine SyL.weaken (fr' := [(27, natV R), (6, .pointer (some ⟨b6, 0, none⟩)), (7, .int .i64 0)]) (L' := [.blk b6 43 (List.replicate 16 (Value.int IntKind.u64 0))]) ?_ ?_ ?_
    rotate_left
    · exact Sub.go
    · show SubR _ ((ρ 6).2 ++ ((ρ 5).2 ++ _))
      rw [e2, e4]
      exact SubR.go2
    repeat' (first | refine zf ?_ | refine zp ?_ | refine ze ?_ | refine zj ?_ | (refine zT ?_; first | refine yn (zn (n := R)) (k := ?_) | refine zd ?_ | fail) | fail)
    exact ret2 rfl (resCells (B := natC R) rfl (ty rfl) rfl Has.go Seg.all (zg _).symm) (resTmp rfl) SubR.nil ⟨rfl, rfl⟩
end Go.Proofs.YtjidkoabdmjgkaaGreatDoor
end
