/- The specification of layer modular, walked. -/
import Derived.Test.YtajepigjkcaghaaGreatDoorURef3
import Derived.Test.YtajepigjkcaghaaGreatDoorURef5
import Derived.Test.YtajepigjkcaghaaGreatDoorURef6
import Derived.Test.YtajepigjkcaghaaGreatDoorUModPlain
set_option linter.all false
namespace Go.Nt
theorem nd_add_le (b x y n : Nat) (hb : 2 ≤ b) (hx : nd b x ≤ n) (hy : nd b y ≤ n) : nd b (x + y) ≤ n + 1 := by
  refine nd_le b _ _ hb ?_
  have h1 := Nat.lt_of_lt_of_le (nd_lt b x hb) (Nat.pow_le_pow_right (by omega) hx)
  have h2 := Nat.lt_of_lt_of_le (nd_lt b y hb) (Nat.pow_le_pow_right (by omega) hy)
  rw [Nat.pow_succ]
  have := Nat.mul_le_mul_left (b ^ n) hb
  omega
theorem nd_mul_le (b x y : Nat) (hb : 2 ≤ b) : nd b (x * y) ≤ nd b x + nd b y := by
  refine nd_le b _ _ hb ?_
  rw [Nat.pow_add]
  exact Nat.mul_lt_mul'' (nd_lt b x hb) (nd_lt b y hb)
theorem nd_mono (b x y : Nat) (hb : 2 ≤ b) (h : x ≤ y) : nd b x ≤ nd b y := nd_le b _ _ hb (Nat.lt_of_le_of_lt h (nd_lt b y hb))
theorem nd_mod (b x m : Nat) (hb : 2 ≤ b) (h : 0 < m) : nd b (x % m) ≤ nd b m := nd_mono b _ _ hb (Nat.le_of_lt (Nat.mod_lt _ h))
theorem bit_step (e i : Nat) : e / 2 ^ i = 2 * (e / 2 ^ (i + 1)) + e / 2 ^ i % 2 := by
  have := Nat.div_add_mod (e / 2 ^ i) 2
  rw [Nat.div_div_eq_div_mul, ← Nat.pow_succ] at this
  exact this.symm
theorem sq_step (a m k : Nat) : a ^ k % m * (a ^ k % m) % m = a ^ (2 * k) % m := by rw [← Nat.mul_mod, ← Nat.pow_add, Nat.two_mul]
theorem mul_step' (a m k : Nat) : a ^ k % m * a % m = a ^ (k + 1) % m := by rw [Nat.mod_mul_mod, Nat.pow_succ]
end Go.Nt
namespace Go.Proofs.YtajepigjkcaghaaGreatDoor
open Go Go.Sy Go.Nt Go.RowKit
theorem nd1 : nd 65536 1 = 1 := nd_uniq 65536 1 1 (by decide) (by decide) (fun _ => by decide)
theorem refC1 : [Value.int IntKind.i64 1] = refC 1 := by
  rw [refC_eq]; unfold cd; rw [nd1]; rfl
attribute [local irreducible] Sy SyL SyX Sy.Fn callFunc natC refC iC
set_option maxRecDepth 10000
theorem qreduce_fn (a b : Option Addr) (ca cb x m : Nat) (w : World) (ha : SlA w a (refC x)) (hb : SlA w b (refC m)) (hx : nd 65536 x < 90000) (hm : nd 65536 m < 90000) (h0 : 0 < m) :
    Sy.Fn Tryz.prog 42 [.slice a (nd 65536 x) ca, .slice b (nd 65536 m) cb] w No (RefG (x % m)) := by
  refine fn_enter Tryz.func42 rfl Tryz.ntmps42 (by simp) Holds.nil ?_
  have hd := fun w' (hk : Keep No w w') => rdivide_fn a b ca cb x m w' (ha.to hk (fun _ h => .inr h)).sla (hb.to hk (fun _ h => .inr h)).sla (by omega) (by omega) h0
  unfold RefG
  generalize x / m = q at *
  generalize x % m = r at *
  repeat' (first | refine sy_seqC ?_ | refine syl_nil ?_ | refine sy_ret ?_ | refine syx_then ?_ | refine syx_go ?_ | (refine sy_region (id := 0) ?_; refine y_assign ?_) | (refine sy_region (id := 1) ?_; refine y_move ?_; refine y_move ?_; (refine ys (op_call0 (f := 70) (hc := fun w' X hk hh => hd w' hk)) (k := ?_); rintro _ _ ⟨R, rfl, a5, c5, a6, c6, rfl, rfl⟩); refine y_move ?_; refine y_extract ?_; refine y_extract ?_; refine y_assign ?_; refine y_assign ?_) | (refine sy_region (id := 2) ?_; refine y_move ?_; refine y_assign ?_) | fail)
  exact ret1 rfl (resTmp rfl) (by exact SubR.go2) ⟨_, _, rfl, rfl⟩
theorem qadd_fn (a b d : Option Addr) (ca cb cd x y m : Nat) (w : World) (ha : SlA w a (refC x)) (hb : SlA w b (refC y)) (hd : SlA w d (refC m)) (hx : nd 65536 x < 40000) (hy : nd 65536 y < 40000) (hm : nd 65536 m < 40000) (h0 : 0 < m) :
    Sy.Fn Tryz.prog 50 [.slice a (nd 65536 x) ca, .slice b (nd 65536 y) cb, .slice d (nd 65536 m) cd] w No (RefG ((x + y) % m)) := by
  refine fn_enter Tryz.func50 rfl Tryz.ntmps50 (by simp) Holds.nil ?_
  have hs := nd_add_le 65536 x y 40000 (by decide) (by omega) (by omega)
  have hA := fun w' (hk : Keep No w w') => radd_fn a b ca cb x y w' (ha.to hk (fun _ h => .inr h)).sla (hb.to hk (fun _ h => .inr h)).sla (by omega) (by omega)
  have hR := fun w' a1 c1 (hk : Keep No w w') (h : SlA w' a1 (refC (x + y))) => qreduce_fn a1 d c1 cd (x + y) m w' h (hd.to hk (fun _ h => .inr h)).sla (by omega) (by omega) h0
  generalize x + y = s at *
  unfold RefG at *
  generalize s % m = r at *
  repeat' (first | refine sy_seqC ?_ | refine syl_nil ?_ | refine sy_ret ?_ | refine syx_then ?_ | refine syx_go ?_ | (refine sy_region (id := 0) ?_; refine y_assign ?_) | (refine sy_region (id := 1) ?_; refine y_move ?_; refine y_move ?_; (refine ys (op_call0 (f := 76) (hc := fun w' X hk hh => hA w' hk)) (k := ?_); rintro _ _ ⟨R, rfl, a5, c5, rfl, rfl⟩); refine y_move ?_; (refine ys (op_call0 (f := 42) (hc := fun w' X hk hh => hR w' _ _ hk (row_sla hh (by exact Has.append Has.go)))) (k := ?_); rintro _ _ ⟨R, rfl, a6, c6, rfl, rfl⟩); refine y_assign ?_) | fail)
  exact ret1 rfl (resTmp rfl) (by exact SubR.go2) ⟨_, _, rfl, rfl⟩
theorem qmul_fn (a b d : Option Addr) (ca cb cd x y m : Nat) (w : World) (ha : SlA w a (refC x)) (hb : SlA w b (refC y)) (hd : SlA w d (refC m)) (hx : nd 65536 x < 40000) (hy : nd 65536 y < 40000) (hm : nd 65536 m < 40000) (h0 : 0 < m) :
    Sy.Fn Tryz.prog 51 [.slice a (nd 65536 x) ca, .slice b (nd 65536 y) cb, .slice d (nd 65536 m) cd] w No (RefG (x * y % m)) := by
  refine fn_enter Tryz.func51 rfl Tryz.ntmps51 (by simp) Holds.nil ?_
  have hs := nd_mul_le 65536 x y (by decide)
  have hA := fun w' (hk : Keep No w w') => rmul_fn a b ca cb x y w' (ha.to hk (fun _ h => .inr h)).sla (hb.to hk (fun _ h => .inr h)).sla (by omega) (by omega)
  have hR := fun w' a1 c1 (hk : Keep No w w') (h : SlA w' a1 (refC (x * y))) => qreduce_fn a1 d c1 cd (x * y) m w' h (hd.to hk (fun _ h => .inr h)).sla (by omega) (by omega) h0
  generalize x * y = s at *
  unfold RefG at *
  generalize s % m = r at *
  repeat' (first | refine sy_seqC ?_ | refine syl_nil ?_ | refine sy_ret ?_ | refine syx_then ?_ | refine syx_go ?_ | (refine sy_region (id := 0) ?_; refine y_assign ?_) | (refine sy_region (id := 1) ?_; refine y_move ?_; refine y_move ?_; (refine ys (op_call0 (f := 77) (hc := fun w' X hk hh => hA w' hk)) (k := ?_); rintro _ _ ⟨R, rfl, a5, c5, rfl, rfl⟩); refine y_move ?_; (refine ys (op_call0 (f := 42) (hc := fun w' X hk hh => hR w' _ _ hk (row_sla hh (by exact Has.append Has.go)))) (k := ?_); rintro _ _ ⟨R, rfl, a6, c6, rfl, rfl⟩); refine y_assign ?_) | fail)
  exact ret1 rfl (resTmp rfl) (by exact SubR.go2) ⟨_, _, rfl, rfl⟩
theorem qsub_fn (a b d : Option Addr) (ca cb cd x y m : Nat) (w : World) (ha : SlA w a (refC x)) (hb : SlA w b (refC y)) (hd : SlA w d (refC m)) (hx : nd 65536 x < 40000) (hy : nd 65536 y < 40000) (hm : nd 65536 m < 40000) (h0 : 0 < m) :
    Sy.Fn Tryz.prog 82 [.slice a (nd 65536 x) ca, .slice b (nd 65536 y) cb, .slice d (nd 65536 m) cd] w No (RefG (dm m x y)) := by
  refine fn_enter Tryz.func82 rfl Tryz.ntmps82 (by simp) Holds.nil ?_
  have n1 := nd_mod 65536 x m (by decide) h0
  have n2 := nd_mod 65536 y m (by decide) h0
  have l1 := Nat.mod_lt x h0
  have l2 := Nat.mod_lt y h0
  have n3 := nd_add_le 65536 (x % m) m (nd 65536 m) (by decide) n1 (Nat.le_refl _)
  have n4 := nd_mono 65536 (x % m + m - y % m) (x % m + m) (by decide) (Nat.sub_le _ _)
  have he : (x % m + m - y % m) % m = dm m x y := by
    unfold dm
    rw [Nat.add_sub_assoc (Nat.le_of_lt l2), Nat.mod_add_mod]
  have hX := fun w' (hk : Keep No w w') => qreduce_fn a d ca cd x m w' (ha.to hk (fun _ h => .inr h)).sla (hd.to hk (fun _ h => .inr h)).sla (by omega) (by omega) h0
  have hY := fun w' (hk : Keep No w w') => qreduce_fn b d cb cd y m w' (hb.to hk (fun _ h => .inr h)).sla (hd.to hk (fun _ h => .inr h)).sla (by omega) (by omega) h0
  have hA := fun w' a1 c1 (hk : Keep No w w') (h : SlA w' a1 (refC (x % m))) => radd_fn a1 d c1 cd (x % m) m w' h (hd.to hk (fun _ h => .inr h)).sla (by omega) (by omega)
  have hS := fun w' a1 c1 a2 c2 (h : SlA w' a1 (refC (x % m + m))) (h' : SlA w' a2 (refC (y % m))) => rsub_fn a1 a2 c1 c2 (x % m + m) (y % m) w' h h' (by omega) (by omega)
  have hR := fun w' a1 c1 (hk : Keep No w w') (h : SlA w' a1 (refC (x % m + m - y % m))) => qreduce_fn a1 d c1 cd (x % m + m - y % m) m w' h (hd.to hk (fun _ h => .inr h)).sla (by omega) (by omega) h0
  rw [he] at hR
  generalize dm m x y = r at *
  clear he
  generalize x % m + m - y % m = u at *
  generalize x % m + m = s at *
  generalize x % m = x' at *
  generalize y % m = y' at *
  unfold RefG at *
  repeat' (first | refine sy_seqC ?_ | refine syl_nil ?_ | refine sy_ret ?_ | refine syx_then ?_ | refine syx_go ?_ | (refine sy_region (id := 0) ?_; refine y_assign ?_) | (refine sy_region (id := 1) ?_; refine y_move ?_; refine y_move ?_; (refine ys (op_call0 (f := 42) (hc := fun w' X hk hh => hX w' hk)) (k := ?_); rintro _ _ ⟨R, rfl, a5, c5, rfl, rfl⟩); refine y_move ?_; (refine ys (op_call0 (f := 76) (hc := fun w' X hk hh => hA w' _ _ hk (row_sla hh (by exact Has.append Has.go)))) (k := ?_); rintro _ _ ⟨R, rfl, a6, c6, rfl, rfl⟩); refine y_move ?_; refine y_move ?_; (refine ys (op_call0 (f := 42) (hc := fun w' X hk hh => hY w' hk)) (k := ?_); rintro _ _ ⟨R, rfl, a7, c7, rfl, rfl⟩); (refine ys (op_call0 (f := 71) (hc := fun w' X hk hh => hS w' _ _ _ _ (row_sla hh (by exact Has.append Has.go)) (row_sla hh (by exact Has.append Has.go)))) (k := ?_); rintro _ _ ⟨R, rfl, a8, c8, rfl, rfl⟩); refine y_move ?_; (refine ys (op_call0 (f := 42) (hc := fun w' X hk hh => hR w' _ _ hk (row_sla hh (by exact Has.append Has.go)))) (k := ?_); rintro _ _ ⟨R, rfl, a9, c9, rfl, rfl⟩); refine y_assign ?_) | fail)
  exact ret1 rfl (resTmp rfl) (by exact SubR.go2) ⟨_, _, rfl, rfl⟩
set_option maxHeartbeats 1000000 in
theorem qexp_fn (a b d : Option Addr) (ca cb cd x e m : Nat) (w : World) (ha : SlA w a (refC x)) (hb : SlA w b (refC e)) (hd : SlA w d (refC m)) (hx : nd 65536 x < 20000) (he : nd 65536 e < 20000) (hm : nd 65536 m < 20000) (h0 : 0 < m) :
    Sy.Fn Tryz.prog 55 [.slice a (nd 65536 x) ca, .slice b (nd 65536 e) cb, .slice d (nd 65536 m) cd] w No (RefG (x ^ e % m)) := by
  refine fn_enter Tryz.func55 rfl Tryz.ntmps55 (by simp) Holds.nil ?_
  have hR := fun w' b1 c1 (hk : Keep No w w') (h : SlA w' b1 (refC 1)) => qreduce_fn b1 d c1 cd 1 m w' h (hd.to hk (fun _ h => .inr h)).sla (by rw [nd1]; omega) (by omega) h0
  rw [nd1, ← refC1] at hR
  have hbl := fun w' (hk : Keep No w w') => rbitLen_fn b cb e w' (hb.to hk (fun _ h => .inr h)).sla (by omega)
  have he2 := nd_lt 2 e (by decide)
  have hbn : nd 2 e ≤ 16 * nd 65536 e := nd_le 2 e _ (by decide) (by rw [← two16]; exact nd_lt 65536 e (by decide))
  have hM : ∀ (w' : World) a1 c1 a2 c2 u v, Keep No w w' → SlA w' a1 (refC u) → SlA w' a2 (refC v) → nd 65536 u < 20000 → nd 65536 v < 20000 → Sy.Fn Tryz.prog 51 [.slice a1 (nd 65536 u) c1, .slice a2 (nd 65536 v) c2, .slice d (nd 65536 m) cd] w' No (RefG (u * v % m)) :=
    fun w' a1 c1 a2 c2 u v hk h1 h2 h3 h4 => qmul_fn a1 a2 d c1 c2 cd u v m w' h1 h2 (hd.to hk (fun _ h => .inr h)).sla (by omega) (by omega) (by omega) h0
  have hnd : ∀ k, nd 65536 (x ^ k % m) < 20000 := fun k => Nat.lt_of_le_of_lt (nd_mod 65536 _ m (by decide) h0) hm
  have hbit := fun w' i (hk : Keep No w w') (hi : i < 9223372036854775808) => rbit_fn b cb e i w' (hb.to hk (fun _ h => .inr h)).sla hi
  generalize hn0 : nd 2 e = n0 at *
  have hs0 : IntKind.i64.wrap ((n0 : Int) - 1) = (n0 : Int) - 1 := IntWalk.i64_in _ (by omega)
  have hx0 : 1 % m = x ^ (e / 2 ^ n0) % m := by rw [Nat.div_eq_of_lt he2, Nat.pow_zero]
  rw [hx0] at hR
  unfold RefG at hR
  repeat' (first | refine sy_seqC ?_ | refine syl_nil ?_ | refine sy_block ?_ | refine syx_then ?_ | refine syx_go ?_ | (refine sy_region (id := 0) ?_; refine y_assign ?_) | (refine sy_region (id := 1) ?_; (refine ys op_buildSlice (k := ?_); rintro _ _ ⟨_, rfl, rfl⟩); refine y_move ?_; (refine ys (op_call0 (f := 42) (hc := fun w' X hk hh => hR w' _ _ hk (.inr ⟨_, 0, rfl, blk_range (hh.has (by exact Has.append Has.here)) Seg.all⟩))) (k := ?_); rintro _ _ ⟨R, rfl, a6, c6, rfl, rfl⟩); refine y_assign ?_) | (refine sy_region (id := 2) ?_; refine y_move ?_; refine yv (op_callV (f := 68) (hc := fun w' _ hk _ => hbl w' hk)) (k := ?_); refine yv (op_sub (hr := hs0)) (k := ?_); refine y_assign ?_) | fail)
  refine sy_loop (γ := Nat × Option Addr × Nat) (fun g => [(0, .slice a (nd 65536 x) ca), (1, .slice b (nd 65536 e) cb), (2, .slice d (nd 65536 m) cd), (7, .slice g.2.1 (nd 65536 (x ^ (e / 2 ^ g.1) % m)) g.2.2), (8, .int .i64 ((g.1 : Int) - 1))])
    (fun g => [.row (.slice g.2.1 (nd 65536 (x ^ (e / 2 ^ g.1) % m)) g.2.2) 3 1 (nd 65536 (x ^ (e / 2 ^ g.1) % m)) (refC (x ^ (e / 2 ^ g.1) % m))])
    (fun g => g.1 ≤ n0) (fun g => g.1) (n0, a6, c6) (Nat.le_refl _) ?_ ?_ ?_
  · exact Sub.go
  · exact SubR.go2
  rintro ⟨i, ao, co⟩ hi
  dsimp only at hi ⊢
  rcases Nat.eq_zero_or_pos i with h | h
  · subst h
    rw [Nat.pow_zero, Nat.div_one]
    have hge : decide (((0 : Nat) : Int) - 1 ≥ 0) = false := decide_eq_false (by omega)
    repeat' (first | refine sy_seqC ?_ | refine syl_nil ?_ | refine sy_if_f rfl ?_ | refine sy_ret ?_ | refine sy_exit ?_ | refine syx_then ?_ | refine syx_go ?_ | (refine sy_region (id := 3) ?_; refine y_move ?_; refine yv (op_geq (hr := hge)) (k := ?_)) | (refine sy_region (id := 8) ?_; refine y_move ?_; refine y_assign ?_) | fail)
    exact ret1 rfl (resTmp rfl) (by exact SubR.go2) ⟨_, _, rfl, rfl⟩
  · obtain ⟨i, rfl⟩ : ∃ j, i = j + 1 := ⟨i - 1, by omega⟩
    have hij : (((i + 1 : Nat) : Int) - 1) = ((i : Nat) : Int) := by omega
    have hs1 : IntKind.i64.wrap ((i : Int) - 1) = (i : Int) - 1 := IntWalk.i64_in _ (by omega)
    rw [hij]
    have hge : decide (((i : Nat) : Int) ≥ 0) = true := decide_eq_true (by omega)
    have hsq := sq_step x m (e / 2 ^ (i + 1))
    have hbs := bit_step e i
    have hM1 := fun w' (hk : Keep No w w') (h1 : SlA w' ao (refC (x ^ (e / 2 ^ (i + 1)) % m))) => hM w' ao co ao co _ _ hk h1 h1 (hnd _) (hnd _)
    rw [hsq] at hM1
    have hbit1 := fun w' (hk : Keep No w w') => hbit w' i hk (by omega)
    rcases (show e / 2 ^ i % 2 = 0 ∨ e / 2 ^ i % 2 = 1 by omega) with hb0 | hb0
    · rw [hb0] at hbit1
      rw [hb0, Nat.add_zero] at hbs
      rw [← hbs] at hM1
      have heq : decide (((0 : Nat) : Int) = 1) = false := decide_eq_false (by omega)
      unfold RefG at hM1
      repeat' (first | refine sy_seqC ?_ | refine syl_nil ?_ | refine sy_if_t rfl ?_ | refine sy_if_f rfl ?_ | refine sy_block ?_ | refine sy_skip ?_ | refine syx_then ?_ | refine syx_go ?_ | (refine sy_region (id := 3) ?_; refine y_move ?_; refine yv (op_geq (hr := hge)) (k := ?_)) | (refine sy_region (id := 5) ?_; refine y_move ?_; refine y_move ?_; refine y_move ?_; (refine ys (op_call0 (f := 51) (hc := fun w' X hk hh => hM1 w' hk (row_sla hh (by exact Has.append Has.go)))) (k := ?_); rintro _ _ ⟨R, rfl, a7, c7, rfl, rfl⟩); refine y_assign ?_) | (refine sy_region (id := 6) ?_; refine y_move ?_; refine y_move ?_; refine yv (op_callV (f := 81) (hc := fun w' _ hk _ => hbit1 w' hk)) (k := ?_); refine yv (op_eql (hr := heq)) (k := ?_)) | (refine sy_region (id := 4) ?_; refine y_move ?_; refine yv (op_sub (hr := hs1)) (k := ?_); refine y_assign ?_) | fail)
      refine syx_back (i, a7, c7) (by show i ≤ n0; omega) ?_ ?_ ?_
      · show i < i + 1; omega
      · exact Sub.go
      · exact SubR.go2
    · rw [hb0] at hbit1
      rw [hb0] at hbs
      have hM2 := fun w' a1 c1 (hk : Keep No w w') (h1 : SlA w' a1 (refC (x ^ (2 * (e / 2 ^ (i + 1))) % m))) => hM w' a1 c1 a ca _ x hk h1 (ha.to hk (fun _ h => .inr h)).sla (hnd _) hx
      rw [mul_step', ← hbs] at hM2
      have heq : decide (((1 : Nat) : Int) = 1) = true := rfl
      unfold RefG at hM1 hM2
      repeat' (first | refine sy_seqC ?_ | refine syl_nil ?_ | refine sy_if_t rfl ?_ | refine sy_block ?_ | refine sy_skip ?_ | refine syx_then ?_ | refine syx_go ?_ | (refine sy_region (id := 3) ?_; refine y_move ?_; refine yv (op_geq (hr := hge)) (k := ?_)) | (refine sy_region (id := 5) ?_; refine y_move ?_; refine y_move ?_; refine y_move ?_; (refine ys (op_call0 (f := 51) (hc := fun w' X hk hh => hM1 w' hk (row_sla hh (by exact Has.append Has.go)))) (k := ?_); rintro _ _ ⟨R, rfl, a7, c7, rfl, rfl⟩); refine y_assign ?_) | (refine sy_region (id := 6) ?_; refine y_move ?_; refine y_move ?_; refine yv (op_callV (f := 81) (hc := fun w' _ hk _ => hbit1 w' hk)) (k := ?_); refine yv (op_eql (hr := heq)) (k := ?_)) | (refine sy_region (id := 7) ?_; refine y_move ?_; refine y_move ?_; refine y_move ?_; (refine ys (op_call0 (f := 51) (hc := fun w' X hk hh => hM2 w' _ _ hk (row_sla hh (by exact Has.append Has.go)))) (k := ?_); rintro _ _ ⟨R, rfl, a8, c8, rfl, rfl⟩); refine y_assign ?_) | (refine sy_region (id := 4) ?_; refine y_move ?_; refine yv (op_sub (hr := hs1)) (k := ?_); refine y_assign ?_) | fail)
      refine syx_back (i, a8, c8) (by show i ≤ n0; omega) ?_ ?_ ?_
      · show i < i + 1; omega
      · exact Sub.go
      · exact SubR.go2
theorem cmpI_zero {x y : Nat} (h : cmpI x y = 0) : x = y := by
  unfold cmpI at h
  split at h
  · omega
  · split at h <;> omega
def InvG (m x : Nat) (v : Value) (R : List Res) : Prop :=
  if (inv m x).1 = 1 then ∃ a c, v = .tuple #[.slice a (nd 65536 (inv m x).2) c, .bool true] ∧ (R = [.row (.slice a (nd 65536 (inv m x).2) c) 3 1 (nd 65536 (inv m x).2) (refC (inv m x).2)] ∨ (R = [] ∧ (inv m x).2 = 0))
  else v = .tuple #[.slice none 0 0, .bool false] ∧ R = []
set_option maxHeartbeats 2000000 in
theorem qinv_fn (a d : Option Addr) (ca cd x0 m : Nat) (w : World) (ha : SlA w a (refC x0)) (hd : SlA w d (refC m)) (hx : nd 65536 x0 < 20000) (hm : nd 65536 m < 20000) (h0 : 0 < m) :
    Sy.Fn Tryz.prog 57 [.slice a (nd 65536 x0) ca, .slice d (nd 65536 m) cd] w No (InvG m x0) := by
  refine fn_enter Tryz.func57 rfl Tryz.ntmps57 (by simp) Holds.nil ?_
  have hS := fun w' (hk : Keep No w w') => qreduce_fn a d ca cd x0 m w' (ha.to hk (fun _ h => .inr h)).sla (hd.to hk (fun _ h => .inr h)).sla (by omega) (by omega) h0
  have hY := fun w' b1 c1 (hk : Keep No w w') (h : SlA w' b1 (refC 1)) => qreduce_fn b1 d c1 cd 1 m w' h (hd.to hk (fun _ h => .inr h)).sla (by rw [nd1]; omega) (by omega) h0
  rw [nd1, ← refC1] at hY
  have l1 := Nat.mod_lt x0 h0
  have l2 := Nat.mod_lt 1 h0
  have hnd : ∀ x, x ≤ m → nd 65536 x < 20000 := fun x h => Nat.lt_of_le_of_lt (nd_mono 65536 x m (by decide) h) hm
  unfold RefG at hS hY
  unfold InvG
  repeat' (first | refine sy_seqC ?_ | refine syl_nil ?_ | refine sy_block ?_ | refine syx_then ?_ | refine syx_go ?_ | (refine sy_region (id := 0) ?_; refine y_assign ?_; refine y_assign ?_) | (refine sy_region (id := 1) ?_; refine y_move ?_; refine y_move ?_; refine y_move ?_; (refine ys (op_call0 (f := 42) (hc := fun w' X hk hh => hS w' hk)) (k := ?_); rintro _ _ ⟨R, rfl, a7, c7, rfl, rfl⟩); refine y_assign ?_; refine y_assign ?_) | (refine sy_region (id := 2) ?_; (refine ys op_buildSlice0 (k := ?_); rintro _ _ ⟨_, rfl, rfl⟩); (refine ys op_buildSlice (k := ?_); rintro _ _ ⟨_, rfl, rfl⟩); refine y_move ?_; (refine ys (op_call0 (f := 42) (hc := fun w' X hk hh => hY w' _ _ hk (.inr ⟨_, 0, rfl, blk_range (hh.has (by exact Has.append Has.here)) Seg.all⟩))) (k := ?_); rintro _ _ ⟨R, rfl, a9, c9, rfl, rfl⟩); refine y_assign ?_; refine y_assign ?_) | fail)
  rename_i b8 b1
  refine sy_loop (γ := (Nat × Nat × Nat × Nat) × (Option Addr × Nat) × (Option Addr × Nat) × (Option Addr × Nat) × (Option Addr × Nat) × List Res × List Res)
    (fun g => [(0, .slice a (nd 65536 x0) ca), (1, .slice d (nd 65536 m) cd), (6, .slice g.2.1.1 (nd 65536 g.1.1) g.2.1.2), (7, .slice g.2.2.1.1 (nd 65536 g.1.2.1) g.2.2.1.2), (8, .slice g.2.2.2.1.1 (nd 65536 g.1.2.2.1) g.2.2.2.1.2), (9, .slice g.2.2.2.2.1.1 (nd 65536 g.1.2.2.2) g.2.2.2.2.1.2)])
    (fun g => g.2.2.2.2.2.1 ++ (g.2.2.2.2.2.2 ++ [.row (.slice g.2.2.1.1 (nd 65536 g.1.2.1) g.2.2.1.2) 3 1 (nd 65536 g.1.2.1) (refC g.1.2.1), .row (.slice g.2.2.2.2.1.1 (nd 65536 g.1.2.2.2) g.2.2.2.2.1.2) 3 1 (nd 65536 g.1.2.2.2) (refC g.1.2.2.2)]))
    (fun g => ((g.2.2.2.2.2.1 = [] ∧ g.2.2.2.2.2.2 = [] ∧ SlA w g.2.1.1 (refC g.1.1) ∧ g.1.2.2.1 = 0) ∨ (g.2.2.2.2.2.1 = [.row (.slice g.2.1.1 (nd 65536 g.1.1) g.2.1.2) 3 1 (nd 65536 g.1.1) (refC g.1.1)] ∧ g.2.2.2.2.2.2 = [.row (.slice g.2.2.2.1.1 (nd 65536 g.1.2.2.1) g.2.2.2.1.2) 3 1 (nd 65536 g.1.2.2.1) (refC g.1.2.2.1)]))
      ∧ euc m g.1.1 g.1.2.1 g.1.2.2.1 g.1.2.2.2 = euc m m (x0 % m) 0 (1 % m) ∧ g.1.1 ≤ m ∧ g.1.2.1 ≤ m ∧ g.1.2.2.1 < m ∧ g.1.2.2.2 < m)
    (fun g => g.1.2.1) ((m, x0 % m, 0, 1 % m), (d, cd), (a7, c7), (some ⟨b8, 0, none⟩, 0), (a9, c9), [], []) ⟨.inl ⟨rfl, rfl, hd, rfl⟩, rfl, Nat.le_refl _, Nat.le_of_lt l1, h0, l2⟩ ?_ ?_ ?_
  · dsimp only
    rw [nd_zero]
    exact Sub.go
  · dsimp only [List.nil_append]
    exact SubR.go2
  rintro ⟨⟨r, s, x, y⟩, ⟨ar, cr⟩, ⟨aS, cs⟩, ⟨ax, cx⟩, ⟨ay, cy⟩, Rr, Rx⟩ ⟨hsrc, hI, hr, hs, hx', hy⟩
  dsimp only at hsrc hI hr hs hx' hy ⊢
  have n1 := hnd r hr
  have n2 := hnd s hs
  have n3 := hnd x (Nat.le_of_lt hx')
  have n4 := hnd y (Nat.le_of_lt hy)
  rcases hsrc with ⟨rfl, rfl, hSr, rfl⟩ | ⟨rfl, rfl⟩
  · dsimp only [List.nil_append]
    rcases Nat.eq_zero_or_pos s with h | h
    · subst h
      rw [euc_zero] at hI
      have hgt : decide ((0 : Int) < ((nd 65536 0 : Nat) : Int)) = false := decide_eq_false (by rw [nd_zero]; omega)
      have hcm := fun w' a1 c1 (h1 : SlA w' ar (refC r)) (h2 : SlA w' a1 (refC 1)) => rcompare_fn ar a1 cr c1 r 1 w' h1 h2 (by omega) (by rw [nd1]; omega)
      rw [nd1, ← refC1] at hcm
      have i1 : (inv m x0).1 = r := by unfold inv; rw [← hI]
      have i2 : (inv m x0).2 = 0 := by unfold inv; rw [← hI]
      rw [i1, i2]
      by_cases hr1 : r = 1
      · simp only [if_pos hr1]
        have hne : decide (cmpI r 1 ≠ 0) = false := by rw [hr1, cmpI_self]; rfl
        repeat' (first | refine sy_seqC ?_ | refine syl_nil ?_ | refine sy_if_f rfl ?_ | refine sy_skip ?_ | refine sy_ret ?_ | refine sy_exit ?_ | refine syx_then ?_ | refine syx_go ?_ | (refine sy_region (id := 3) ?_; refine y_move ?_; refine y_len ?_; refine yv (op_gtr (hr := hgt)) (k := ?_)) | (refine sy_region (id := 8) ?_; refine y_move ?_; (refine ys op_buildSlice (k := ?_); rintro _ _ ⟨_, rfl, rfl⟩); refine yv (op_callV (f := 54) (hc := fun w' X hk hh => hcm w' _ _ (hSr.to hk (fun _ h => .inr h)).sla (.inr ⟨_, 0, rfl, blk_range (hh.has (by exact Has.append Has.here)) Seg.all⟩))) (k := ?_); refine yv (op_neq (hr := hne)) (k := ?_)) | (refine sy_region (id := 10) ?_; refine y_move ?_; refine y_assign ?_; refine y_assign ?_) | fail)
        exact ret2 rfl (resTmp rfl) (resTmp rfl) (by exact SubR.go2) ⟨_, _, rfl, .inr (by simp)⟩
      · simp only [if_neg hr1]
        have hne : decide (cmpI r 1 ≠ 0) = true := decide_eq_true (fun h => hr1 (cmpI_zero h))
        repeat' (first | refine sy_seqC ?_ | refine syl_nil ?_ | refine sy_if_t rfl ?_ | refine sy_if_f rfl ?_ | refine sy_ret ?_ | refine sy_exit ?_ | refine syx_then ?_ | refine syx_go ?_ | refine syx_then_ret ?_ | (refine sy_region (id := 3) ?_; refine y_move ?_; refine y_len ?_; refine yv (op_gtr (hr := hgt)) (k := ?_)) | (refine sy_region (id := 8) ?_; refine y_move ?_; (refine ys op_buildSlice (k := ?_); rintro _ _ ⟨_, rfl, rfl⟩); refine yv (op_callV (f := 54) (hc := fun w' X hk hh => hcm w' _ _ (hSr.to hk (fun _ h => .inr h)).sla (.inr ⟨_, 0, rfl, blk_range (hh.has (by exact Has.append Has.here)) Seg.all⟩))) (k := ?_); refine yv (op_neq (hr := hne)) (k := ?_)) | (refine sy_region (id := 9) ?_; refine y_assign ?_; refine y_assign ?_) | fail)
        exact ret2 rfl (resTmp rfl) (resTmp rfl) SubR.nil ⟨rfl, rfl⟩
    · have hnz : 0 < nd 65536 s := by
        have := (nd_eq_zero 65536 s (by decide)).1
        omega
      have hgt : decide ((0 : Int) < ((nd 65536 s : Nat) : Int)) = true := decide_eq_true (by omega)
      rw [euc_pos m r s 0 y h] at hI
      have hrs := Nat.mod_lt r h
      have hq := nd_mono 65536 (r / s) r (by decide) (Nat.div_le_self r s)
      have hp := nd_mod 65536 (r / s * y) m (by decide) h0
      have hn := dm_lt 0 (r / s * y % m) h0
      have hdv := fun w' (h1 : SlA w' ar (refC r)) (h2 : SlA w' aS (refC s)) => rdivide_fn ar aS cr cs r s w' h1 h2 (by omega) (by omega) h
      have hml := fun w' a1 c1 (hk : Keep No w w') (h1 : SlA w' a1 (refC (r / s))) (h2 : SlA w' ay (refC y)) => qmul_fn a1 ay d c1 cy cd (r / s) y m w' h1 h2 (hd.to hk (fun _ h => .inr h)).sla (by omega) (by omega) (by omega) h0
      have hsb := fun w' a1 c1 (hk : Keep No w w') (h1 : SlA w' ax (refC 0)) (h2 : SlA w' a1 (refC (r / s * y % m))) => qsub_fn ax a1 d cx c1 cd 0 (r / s * y % m) m w' h1 h2 (hd.to hk (fun _ h => .inr h)).sla (by omega) (by omega) (by omega) h0
      generalize dm m 0 (r / s * y % m) = z at *
      generalize r / s * y % m = pr at *
      generalize r / s = q at *
      generalize r % s = t at *
      unfold RefG at hml hsb
      repeat' (first | refine sy_seqC ?_ | refine syl_nil ?_ | refine sy_if_t rfl ?_ | refine sy_block ?_ | refine sy_skip ?_ | refine syx_then ?_ | refine syx_go ?_ | refine syx_in ?_ | (refine sy_region (id := 3) ?_; refine y_move ?_; refine y_len ?_; refine yv (op_gtr (hr := hgt)) (k := ?_)) | (refine sy_region (id := 4) ?_; refine y_move ?_; refine y_move ?_; (refine ys (op_call0 (f := 70) (hc := fun w' X hk hh => hdv w' (hSr.to hk (fun _ h => .inr h)).sla (row_sla hh (by exact Has.append Has.go)))) (k := ?_); rintro _ _ ⟨R, rfl, a5, c5, a6, c6, rfl, rfl⟩); refine y_move ?_; refine y_extract ?_; refine y_extract ?_; refine y_assign ?_; refine y_assign ?_) | (refine sy_region (id := 5) ?_; refine y_move ?_; refine y_move ?_; refine y_move ?_; refine y_move ?_; (refine ys (op_call0 (f := 51) (hc := fun w' X hk hh => hml w' _ _ hk (row_sla hh (by exact Has.append Has.go)) (row_sla hh (by exact Has.append Has.go)))) (k := ?_); rintro _ _ ⟨R, rfl, a7, c7, rfl, rfl⟩); refine y_move ?_; (refine ys (op_call0 (f := 82) (hc := fun w' X hk hh => hsb w' _ _ hk (.inl (by rw [refC_zero])) (row_sla hh (by exact Has.append Has.go)))) (k := ?_); rintro _ _ ⟨R, rfl, a8, c8, rfl, rfl⟩); refine y_assign ?_) | (refine sy_region (id := 6) ?_; refine y_move ?_; refine y_move ?_; refine y_assign ?_; refine y_assign ?_) | (refine sy_region (id := 7) ?_; refine y_move ?_; refine y_move ?_; refine y_assign ?_; refine y_assign ?_) | fail)
      refine syx_back ((s, t, y, z), (aS, cs), (a6, c6), (ay, cy), (a8, c8), [.row (.slice aS (nd 65536 s) cs) 3 1 (nd 65536 s) (refC s)], [.row (.slice ay (nd 65536 y) cy) 3 1 (nd 65536 y) (refC y)]) ⟨.inr ⟨rfl, rfl⟩, hI, hs, Nat.le_of_lt (Nat.lt_of_lt_of_le hrs hs), hy, hn⟩ ?_ ?_ ?_
      · show t < s; exact hrs
      · exact Sub.go
      · dsimp only [List.cons_append, List.nil_append]
        exact SubR.go2
  · dsimp only [List.cons_append, List.nil_append]
    rcases Nat.eq_zero_or_pos s with h | h
    · subst h
      rw [euc_zero] at hI
      have hgt : decide ((0 : Int) < ((nd 65536 0 : Nat) : Int)) = false := decide_eq_false (by rw [nd_zero]; omega)
      have hcm := fun w' a1 c1 (h1 : SlA w' ar (refC r)) (h2 : SlA w' a1 (refC 1)) => rcompare_fn ar a1 cr c1 r 1 w' h1 h2 (by omega) (by rw [nd1]; omega)
      rw [nd1, ← refC1] at hcm
      have i1 : (inv m x0).1 = r := by unfold inv; rw [← hI]
      have i2 : (inv m x0).2 = x := by unfold inv; rw [← hI]
      rw [i1, i2]
      by_cases hr1 : r = 1
      · simp only [if_pos hr1]
        have hne : decide (cmpI r 1 ≠ 0) = false := by rw [hr1, cmpI_self]; rfl
        repeat' (first | refine sy_seqC ?_ | refine syl_nil ?_ | refine sy_if_f rfl ?_ | refine sy_skip ?_ | refine sy_ret ?_ | refine sy_exit ?_ | refine syx_then ?_ | refine syx_go ?_ | (refine sy_region (id := 3) ?_; refine y_move ?_; refine y_len ?_; refine yv (op_gtr (hr := hgt)) (k := ?_)) | (refine sy_region (id := 8) ?_; refine y_move ?_; (refine ys op_buildSlice (k := ?_); rintro _ _ ⟨_, rfl, rfl⟩); refine yv (op_callV (f := 54) (hc := fun w' X hk hh => hcm w' _ _ (row_sla hh (by exact Has.append Has.go)) (.inr ⟨_, 0, rfl, blk_range (hh.has (by exact Has.append Has.here)) Seg.all⟩))) (k := ?_); refine yv (op_neq (hr := hne)) (k := ?_)) | (refine sy_region (id := 10) ?_; refine y_move ?_; refine y_assign ?_; refine y_assign ?_) | fail)
        exact ret2 rfl (resTmp rfl) (resTmp rfl) (by exact SubR.go2) ⟨_, _, rfl, .inl rfl⟩
      · simp only [if_neg hr1]
        have hne : decide (cmpI r 1 ≠ 0) = true := decide_eq_true (fun h => hr1 (cmpI_zero h))
        repeat' (first | refine sy_seqC ?_ | refine syl_nil ?_ | refine sy_if_t rfl ?_ | refine sy_if_f rfl ?_ | refine sy_ret ?_ | refine sy_exit ?_ | refine syx_then ?_ | refine syx_go ?_ | refine syx_then_ret ?_ | (refine sy_region (id := 3) ?_; refine y_move ?_; refine y_len ?_; refine yv (op_gtr (hr := hgt)) (k := ?_)) | (refine sy_region (id := 8) ?_; refine y_move ?_; (refine ys op_buildSlice (k := ?_); rintro _ _ ⟨_, rfl, rfl⟩); refine yv (op_callV (f := 54) (hc := fun w' X hk hh => hcm w' _ _ (row_sla hh (by exact Has.append Has.go)) (.inr ⟨_, 0, rfl, blk_range (hh.has (by exact Has.append Has.here)) Seg.all⟩))) (k := ?_); refine yv (op_neq (hr := hne)) (k := ?_)) | (refine sy_region (id := 9) ?_; refine y_assign ?_; refine y_assign ?_) | fail)
        exact ret2 rfl (resTmp rfl) (resTmp rfl) SubR.nil ⟨rfl, rfl⟩
    · have hnz : 0 < nd 65536 s := by
        have := (nd_eq_zero 65536 s (by decide)).1
        omega
      have hgt : decide ((0 : Int) < ((nd 65536 s : Nat) : Int)) = true := decide_eq_true (by omega)
      rw [euc_pos m r s x y h] at hI
      have hrs := Nat.mod_lt r h
      have hq := nd_mono 65536 (r / s) r (by decide) (Nat.div_le_self r s)
      have hp := nd_mod 65536 (r / s * y) m (by decide) h0
      have hn := dm_lt x (r / s * y % m) h0
      have hdv := fun w' (h1 : SlA w' ar (refC r)) (h2 : SlA w' aS (refC s)) => rdivide_fn ar aS cr cs r s w' h1 h2 (by omega) (by omega) h
      have hml := fun w' a1 c1 (hk : Keep No w w') (h1 : SlA w' a1 (refC (r / s))) (h2 : SlA w' ay (refC y)) => qmul_fn a1 ay d c1 cy cd (r / s) y m w' h1 h2 (hd.to hk (fun _ h => .inr h)).sla (by omega) (by omega) (by omega) h0
      have hsb := fun w' a1 c1 (hk : Keep No w w') (h1 : SlA w' ax (refC x)) (h2 : SlA w' a1 (refC (r / s * y % m))) => qsub_fn ax a1 d cx c1 cd x (r / s * y % m) m w' h1 h2 (hd.to hk (fun _ h => .inr h)).sla (by omega) (by omega) (by omega) h0
      generalize dm m x (r / s * y % m) = z at *
      generalize r / s * y % m = pr at *
      generalize r / s = q at *
      generalize r % s = t at *
      unfold RefG at hml hsb
      repeat' (first | refine sy_seqC ?_ | refine syl_nil ?_ | refine sy_if_t rfl ?_ | refine sy_block ?_ | refine sy_skip ?_ | refine syx_then ?_ | refine syx_go ?_ | refine syx_in ?_ | (refine sy_region (id := 3) ?_; refine y_move ?_; refine y_len ?_; refine yv (op_gtr (hr := hgt)) (k := ?_)) | (refine sy_region (id := 4) ?_; refine y_move ?_; refine y_move ?_; (refine ys (op_call0 (f := 70) (hc := fun w' X hk hh => hdv w' (row_sla hh (by exact Has.append Has.go)) (row_sla hh (by exact Has.append Has.go)))) (k := ?_); rintro _ _ ⟨R, rfl, a5, c5, a6, c6, rfl, rfl⟩); refine y_move ?_; refine y_extract ?_; refine y_extract ?_; refine y_assign ?_; refine y_assign ?_) | (refine sy_region (id := 5) ?_; refine y_move ?_; refine y_move ?_; refine y_move ?_; refine y_move ?_; (refine ys (op_call0 (f := 51) (hc := fun w' X hk hh => hml w' _ _ hk (row_sla hh (by exact Has.append Has.go)) (row_sla hh (by exact Has.append Has.go)))) (k := ?_); rintro _ _ ⟨R, rfl, a7, c7, rfl, rfl⟩); refine y_move ?_; (refine ys (op_call0 (f := 82) (hc := fun w' X hk hh => hsb w' _ _ hk (row_sla hh (by exact Has.append Has.go)) (row_sla hh (by exact Has.append Has.go)))) (k := ?_); rintro _ _ ⟨R, rfl, a8, c8, rfl, rfl⟩); refine y_assign ?_) | (refine sy_region (id := 6) ?_; refine y_move ?_; refine y_move ?_; refine y_assign ?_; refine y_assign ?_) | (refine sy_region (id := 7) ?_; refine y_move ?_; refine y_move ?_; refine y_assign ?_; refine y_assign ?_) | fail)
      refine syx_back ((s, t, y, z), (aS, cs), (a6, c6), (ay, cy), (a8, c8), [.row (.slice aS (nd 65536 s) cs) 3 1 (nd 65536 s) (refC s)], [.row (.slice ay (nd 65536 y) cy) 3 1 (nd 65536 y) (refC y)]) ⟨.inr ⟨rfl, rfl⟩, hI, hs, Nat.le_of_lt (Nat.lt_of_lt_of_le hrs hs), hy, hn⟩ ?_ ?_ ?_
      · show t < s; exact hrs
      · exact Sub.go
      · dsimp only [List.cons_append, List.nil_append]
        exact SubR.go2
end Go.Proofs.YtajepigjkcaghaaGreatDoor
