/- The specification of layer modular, walked. -/
import Derived.Test.YtjidkoabdmjgkaaGreatDoorVJ21
import Derived.Test.YtjidkoabdmjgkaaGreatDoorVJ32
import Derived.Test.YtjidkoabdmjgkaaGreatDoorVJ33
import Derived.Test.YtjidkoabdmjgkaaGreatDoorVJ07
set_option linter.all false
section
namespace Go.Nt
theorem zkK (b x y n : Nat) (hb : 2 ≤ b) (hx : nd b x ≤ n) (hy : nd b y ≤ n) : nd b (x + y) ≤ n + 1 := by
  refine zaj b _ _ hb ?_
  have h1 := Nat.lt_of_lt_of_le (zaa b x hb) (Nat.pow_le_pow_right (by omega) hx)
  have h2 := Nat.lt_of_lt_of_le (zaa b y hb) (Nat.pow_le_pow_right (by omega) hy)
  rw [Nat.pow_succ]
  have := Nat.mul_le_mul_left (b ^ n) hb
  omega
theorem zkD (b x y : Nat) (hb : 2 ≤ b) : nd b (x * y) ≤ nd b x + nd b y := by
  refine zaj b _ _ hb ?_
  rw [Nat.pow_add]
  exact Nat.mul_lt_mul'' (zaa b x hb) (zaa b y hb)
theorem zjs (b x y : Nat) (hb : 2 ≤ b) (h : x ≤ y) : nd b x ≤ nd b y := zaj b _ _ hb (Nat.lt_of_le_of_lt h (zaa b y hb))
theorem zkN (b x m : Nat) (hb : 2 ≤ b) (h : 0 < m) : nd b (x % m) ≤ nd b m := zjs b _ _ hb (Nat.le_of_lt (Nat.mod_lt _ h))
theorem zlG (e i : Nat) : e / 2 ^ i = 2 * (e / 2 ^ (i + 1)) + e / 2 ^ i % 2 := by
  have := Nat.div_add_mod (e / 2 ^ i) 2
  rw [Nat.div_div_eq_div_mul, ← Nat.pow_succ] at this
  exact this.symm
theorem znr (a m k : Nat) : a ^ k % m * (a ^ k % m) % m = a ^ (2 * k) % m := by rw [← Nat.mul_mod, ← Nat.pow_add, Nat.two_mul]
theorem zkM (a m k : Nat) : a ^ k % m * a % m = a ^ (k + 1) % m := by rw [Nat.mod_mul_mod, Nat.pow_succ]
end Go.Nt
namespace Go.Proofs.YtjidkoabdmjgkaaGreatDoor
open Go Go.Sy Go.Nt Go.RowKit
theorem nd1 : nd 65536 1 = 1 := zba 65536 1 1 (by decide) (by decide) (fun _ => by decide)
theorem refC1 : [Value.int IntKind.i64 1] = refC 1 := by
  rw [zcS]; unfold cd; rw [nd1]; rfl
attribute [local irreducible] Sy SyL SyX Sy.Fn callFunc natC refC iC
set_option maxRecDepth 10000
theorem zda (a b : Option Addr) (ca cb x m : Nat) (w : World) (ha : SlA w a (refC x)) (hb : SlA w b (refC m)) (hx : nd 65536 x < 90000) (hm : nd 65536 m < 90000) (h0 : 0 < m) :
    Sy.Fn Tryz.prog 88 [.slice a (nd 65536 x) ca, .slice b (nd 65536 m) cb] w No (RefG (x % m)) := by
  refine zq Tryz.func88 rfl Tryz.ntmps88 (by simp) Holds.nil ?_
  have hd := fun w' (hk : Keep No w w') => zgk a b ca cb x m w' (ha.to hk (fun _ h => .inr h)).sla (hb.to hk (fun _ h => .inr h)).sla (by omega) (by omega) h0
  unfold RefG
  generalize x / m = q at *
  generalize x % m = r at *
  repeat' (first | refine zg ?_ | refine zf ?_ | refine zo ?_ | refine ze ?_ | refine zj ?_ | (refine za (id := 0) ?_; refine zd ?_) | (refine za (id := 1) ?_; refine zb ?_; refine zb ?_; (refine ys (zy (f := 100) (hc := fun w' X hk hh => hd w' hk)) (k := ?_); rintro _ _ ⟨R, rfl, a5, c5, a6, c6, rfl, rfl⟩); refine zb ?_; refine zk ?_; refine zk ?_; refine zd ?_; refine zd ?_) | (refine za (id := 2) ?_; refine zb ?_; refine zd ?_) | fail)
  exact ret1 rfl (resTmp rfl) (by exact SubR.go2) ⟨_, _, rfl, rfl⟩
theorem zmZ (a b d : Option Addr) (ca cb cd x y m : Nat) (w : World) (ha : SlA w a (refC x)) (hb : SlA w b (refC y)) (hd : SlA w d (refC m)) (hx : nd 65536 x < 40000) (hy : nd 65536 y < 40000) (hm : nd 65536 m < 40000) (h0 : 0 < m) :
    Sy.Fn Tryz.prog 90 [.slice a (nd 65536 x) ca, .slice b (nd 65536 y) cb, .slice d (nd 65536 m) cd] w No (RefG ((x + y) % m)) := by
  refine zq Tryz.func90 rfl Tryz.ntmps90 (by simp) Holds.nil ?_
  have hs := zkK 65536 x y 40000 (by decide) (by omega) (by omega)
  have hA := fun w' (hk : Keep No w w') => zjD a b ca cb x y w' (ha.to hk (fun _ h => .inr h)).sla (hb.to hk (fun _ h => .inr h)).sla (by omega) (by omega)
  have hR := fun w' a1 c1 (hk : Keep No w w') (h : SlA w' a1 (refC (x + y))) => zda a1 d c1 cd (x + y) m w' h (hd.to hk (fun _ h => .inr h)).sla (by omega) (by omega) h0
  generalize x + y = s at *
  unfold RefG at *
  generalize s % m = r at *
  repeat' (first | refine zg ?_ | refine zf ?_ | refine zo ?_ | refine ze ?_ | refine zj ?_ | (refine za (id := 0) ?_; refine zd ?_) | (refine za (id := 1) ?_; refine zb ?_; refine zb ?_; (refine ys (zy (f := 121) (hc := fun w' X hk hh => hA w' hk)) (k := ?_); rintro _ _ ⟨R, rfl, a5, c5, rfl, rfl⟩); refine zb ?_; (refine ys (zy (f := 88) (hc := fun w' X hk hh => hR w' _ _ hk (zD hh (by exact Has.append Has.go)))) (k := ?_); rintro _ _ ⟨R, rfl, a6, c6, rfl, rfl⟩); refine zd ?_) | fail)
  exact ret1 rfl (resTmp rfl) (by exact SubR.go2) ⟨_, _, rfl, rfl⟩
theorem zgB (a b d : Option Addr) (ca cb cd x y m : Nat) (w : World) (ha : SlA w a (refC x)) (hb : SlA w b (refC y)) (hd : SlA w d (refC m)) (hx : nd 65536 x < 40000) (hy : nd 65536 y < 40000) (hm : nd 65536 m < 40000) (h0 : 0 < m) :
    Sy.Fn Tryz.prog 91 [.slice a (nd 65536 x) ca, .slice b (nd 65536 y) cb, .slice d (nd 65536 m) cd] w No (RefG (x * y % m)) := by
  refine zq Tryz.func91 rfl Tryz.ntmps91 (by simp) Holds.nil ?_
  have hs := zkD 65536 x y (by decide)
  have hA := fun w' (hk : Keep No w w') => zjx a b ca cb x y w' (ha.to hk (fun _ h => .inr h)).sla (hb.to hk (fun _ h => .inr h)).sla (by omega) (by omega)
  have hR := fun w' a1 c1 (hk : Keep No w w') (h : SlA w' a1 (refC (x * y))) => zda a1 d c1 cd (x * y) m w' h (hd.to hk (fun _ h => .inr h)).sla (by omega) (by omega) h0
  generalize x * y = s at *
  unfold RefG at *
  generalize s % m = r at *
  repeat' (first | refine zg ?_ | refine zf ?_ | refine zo ?_ | refine ze ?_ | refine zj ?_ | (refine za (id := 0) ?_; refine zd ?_) | (refine za (id := 1) ?_; refine zb ?_; refine zb ?_; (refine ys (zy (f := 122) (hc := fun w' X hk hh => hA w' hk)) (k := ?_); rintro _ _ ⟨R, rfl, a5, c5, rfl, rfl⟩); refine zb ?_; (refine ys (zy (f := 88) (hc := fun w' X hk hh => hR w' _ _ hk (zD hh (by exact Has.append Has.go)))) (k := ?_); rintro _ _ ⟨R, rfl, a6, c6, rfl, rfl⟩); refine zd ?_) | fail)
  exact ret1 rfl (resTmp rfl) (by exact SubR.go2) ⟨_, _, rfl, rfl⟩
set_option maxHeartbeats 1000000 in
theorem zi8 (a b d : Option Addr) (ca cb cd x e m : Nat) (w : World) (ha : SlA w a (refC x)) (hb : SlA w b (refC e)) (hd : SlA w d (refC m)) (hx : nd 65536 x < 20000) (he : nd 65536 e < 20000) (hm : nd 65536 m < 20000) (h0 : 0 < m) :
    Sy.Fn Tryz.prog 101 [.slice a (nd 65536 x) ca, .slice b (nd 65536 e) cb, .slice d (nd 65536 m) cd] w No (RefG (x ^ e % m)) := by
  refine zq Tryz.func101 rfl Tryz.ntmps101 (by simp) Holds.nil ?_
  have hR := fun w' b1 c1 (hk : Keep No w w') (h : SlA w' b1 (refC 1)) => zda b1 d c1 cd 1 m w' h (hd.to hk (fun _ h => .inr h)).sla (by rw [nd1]; omega) (by omega) h0
  rw [nd1, ← refC1] at hR
  have hbl := fun w' (hk : Keep No w w') => zem b cb e w' (hb.to hk (fun _ h => .inr h)).sla (by omega)
  have he2 := zaa 2 e (by decide)
  have hbn : nd 2 e ≤ 16 * nd 65536 e := zaj 2 e _ (by decide) (by rw [← two16]; exact zaa 65536 e (by decide))
  have hM : ∀ (w' : World) a1 c1 a2 c2 u v, Keep No w w' → SlA w' a1 (refC u) → SlA w' a2 (refC v) → nd 65536 u < 20000 → nd 65536 v < 20000 → Sy.Fn Tryz.prog 91 [.slice a1 (nd 65536 u) c1, .slice a2 (nd 65536 v) c2, .slice d (nd 65536 m) cd] w' No (RefG (u * v % m)) :=
    fun w' a1 c1 a2 c2 u v hk h1 h2 h3 h4 => zgB a1 a2 d c1 c2 cd u v m w' h1 h2 (hd.to hk (fun _ h => .inr h)).sla (by omega) (by omega) (by omega) h0
  have hnd : ∀ k, nd 65536 (x ^ k % m) < 20000 := fun k => Nat.lt_of_le_of_lt (zkN 65536 _ m (by decide) h0) hm
  have hbit := fun w' i (hk : Keep No w w') (hi : i < 9223372036854775808) => zjh b cb e i w' (hb.to hk (fun _ h => .inr h)).sla hi
  generalize hn0 : nd 2 e = n0 at *
  have hs0 : IntKind.i64.wrap ((n0 : Int) - 1) = (n0 : Int) - 1 := IntWalk.i64_in _ (by omega)
  have hx0 : 1 % m = x ^ (e / 2 ^ n0) % m := by rw [Nat.div_eq_of_lt he2, Nat.pow_zero]
  rw [hx0] at hR
  unfold RefG at hR
  repeat' (first | refine zg ?_ | refine zf ?_ | refine zr ?_ | refine ze ?_ | refine zj ?_ | (refine za (id := 0) ?_; refine zd ?_) | (refine za (id := 1) ?_; (refine ys zR (k := ?_); rintro _ _ ⟨_, rfl, rfl⟩); refine zb ?_; (refine ys (zy (f := 88) (hc := fun w' X hk hh => hR w' _ _ hk (.inr ⟨_, 0, rfl, zN (hh.has (by exact Has.append Has.here)) Seg.all⟩))) (k := ?_); rintro _ _ ⟨R, rfl, a6, c6, rfl, rfl⟩); refine zd ?_) | (refine za (id := 2) ?_; refine zb ?_; refine yv (zi (f := 87) (hc := fun w' _ hk _ => hbl w' hk)) (k := ?_); refine yv (zL (hr := hs0)) (k := ?_); refine zd ?_) | fail)
  refine zQ (γ := Nat × Option Addr × Nat) (fun g => [(0, .slice a (nd 65536 x) ca), (1, .slice b (nd 65536 e) cb), (2, .slice d (nd 65536 m) cd), (7, .slice g.2.1 (nd 65536 (x ^ (e / 2 ^ g.1) % m)) g.2.2), (8, .int .i64 ((g.1 : Int) - 1))])
    (fun g => [.row (.slice g.2.1 (nd 65536 (x ^ (e / 2 ^ g.1) % m)) g.2.2) 3 1 (nd 65536 (x ^ (e / 2 ^ g.1) % m)) (refC (x ^ (e / 2 ^ g.1) % m))])
    (fun g => g.1 ≤ n0) (fun g => g.1) (n0, a6, c6) (Nat.le_refl _) ?_ ?_ ?_
  · exact Sub.go
  · exact SubR.go2
  rintro ⟨i, ao, co⟩ hi
  dsimp only at hi ⊢
  rcases Nat.eq_zero_or_pos i with h | h
  · subst h
    rw [Nat.pow_zero, Nat.div_one]
    have hge : decide (((0 : Nat) : Int) - 1 ≥ 0) = false := decide_eq_false (by omega)
    repeat' (first | refine zg ?_ | refine zf ?_ | refine zw rfl ?_ | refine zo ?_ | refine zE ?_ | refine ze ?_ | refine zj ?_ | (refine za (id := 3) ?_; refine zb ?_; refine yv (zaH (hr := hge)) (k := ?_)) | (refine za (id := 8) ?_; refine zb ?_; refine zd ?_) | fail)
    exact ret1 rfl (resTmp rfl) (by exact SubR.go2) ⟨_, _, rfl, rfl⟩
  · obtain ⟨i, rfl⟩ : ∃ j, i = j + 1 := ⟨i - 1, by omega⟩
    have hij : (((i + 1 : Nat) : Int) - 1) = ((i : Nat) : Int) := by omega
    have hs1 : IntKind.i64.wrap ((i : Int) - 1) = (i : Int) - 1 := IntWalk.i64_in _ (by omega)
    rw [hij]
    have hge : decide (((i : Nat) : Int) ≥ 0) = true := decide_eq_true (by omega)
    have hsq := znr x m (e / 2 ^ (i + 1))
    have hbs := zlG e i
    have hM1 := fun w' (hk : Keep No w w') (h1 : SlA w' ao (refC (x ^ (e / 2 ^ (i + 1)) % m))) => hM w' ao co ao co _ _ hk h1 h1 (hnd _) (hnd _)
    rw [hsq] at hM1
    have hbit1 := fun w' (hk : Keep No w w') => hbit w' i hk (by omega)
    rcases (show e / 2 ^ i % 2 = 0 ∨ e / 2 ^ i % 2 = 1 by omega) with hb0 | hb0
    · rw [hb0] at hbit1
      rw [hb0, Nat.add_zero] at hbs
      rw [← hbs] at hM1
      have heq : decide (((0 : Nat) : Int) = 1) = false := decide_eq_false (by omega)
      unfold RefG at hM1
      repeat' (first | refine zg ?_ | refine zf ?_ | refine zu rfl ?_ | refine zw rfl ?_ | refine zr ?_ | refine zt ?_ | refine ze ?_ | refine zj ?_ | (refine za (id := 3) ?_; refine zb ?_; refine yv (zaH (hr := hge)) (k := ?_)) | (refine za (id := 5) ?_; refine zb ?_; refine zb ?_; refine zb ?_; (refine ys (zy (f := 91) (hc := fun w' X hk hh => hM1 w' hk (zD hh (by exact Has.append Has.go)))) (k := ?_); rintro _ _ ⟨R, rfl, a7, c7, rfl, rfl⟩); refine zd ?_) | (refine za (id := 6) ?_; refine zb ?_; refine zb ?_; refine yv (zi (f := 118) (hc := fun w' _ hk _ => hbit1 w' hk)) (k := ?_); refine yv (z3 (hr := heq)) (k := ?_)) | (refine za (id := 4) ?_; refine zb ?_; refine yv (zL (hr := hs1)) (k := ?_); refine zd ?_) | fail)
      refine zG (i, a7, c7) (by show i ≤ n0; omega) ?_ ?_ ?_
      · show i < i + 1; omega
      · exact Sub.go
      · exact SubR.go2
    · rw [hb0] at hbit1
      rw [hb0] at hbs
      have hM2 := fun w' a1 c1 (hk : Keep No w w') (h1 : SlA w' a1 (refC (x ^ (2 * (e / 2 ^ (i + 1))) % m))) => hM w' a1 c1 a ca _ x hk h1 (ha.to hk (fun _ h => .inr h)).sla (hnd _) hx
      rw [zkM, ← hbs] at hM2
      have heq : decide (((1 : Nat) : Int) = 1) = true := rfl
      unfold RefG at hM1 hM2
      repeat' (first | refine zg ?_ | refine zf ?_ | refine zu rfl ?_ | refine zr ?_ | refine zt ?_ | refine ze ?_ | refine zj ?_ | (refine za (id := 3) ?_; refine zb ?_; refine yv (zaH (hr := hge)) (k := ?_)) | (refine za (id := 5) ?_; refine zb ?_; refine zb ?_; refine zb ?_; (refine ys (zy (f := 91) (hc := fun w' X hk hh => hM1 w' hk (zD hh (by exact Has.append Has.go)))) (k := ?_); rintro _ _ ⟨R, rfl, a7, c7, rfl, rfl⟩); refine zd ?_) | (refine za (id := 6) ?_; refine zb ?_; refine zb ?_; refine yv (zi (f := 118) (hc := fun w' _ hk _ => hbit1 w' hk)) (k := ?_); refine yv (z3 (hr := heq)) (k := ?_)) | (refine za (id := 7) ?_; refine zb ?_; refine zb ?_; refine zb ?_; (refine ys (zy (f := 91) (hc := fun w' X hk hh => hM2 w' _ _ hk (zD hh (by exact Has.append Has.go)))) (k := ?_); rintro _ _ ⟨R, rfl, a8, c8, rfl, rfl⟩); refine zd ?_) | (refine za (id := 4) ?_; refine zb ?_; refine yv (zL (hr := hs1)) (k := ?_); refine zd ?_) | fail)
      refine zG (i, a8, c8) (by show i ≤ n0; omega) ?_ ?_ ?_
      · show i < i + 1; omega
      · exact Sub.go
      · exact SubR.go2
theorem zlu {x y : Nat} (h : cmpI x y = 0) : x = y := by
  unfold cmpI at h
  split at h
  · omega
  · split at h <;> omega
end Go.Proofs.YtjidkoabdmjgkaaGreatDoor
end
