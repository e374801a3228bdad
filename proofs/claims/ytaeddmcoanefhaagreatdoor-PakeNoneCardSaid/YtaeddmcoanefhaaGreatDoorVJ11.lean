/- The number of bits. -/
import Derived.Test.YtaeddmcoanefhaaGreatDoorVJ10
import Derived.Test.YtaeddmcoanefhaaGreatDoorVJ06
set_option linter.all false
section
namespace Go.Nt
theorem nd_div (b x s : Nat) (hb : 2 ≤ b) (h : b ^ s ≤ x) : nd b x = s + nd b (x / b ^ s) := by
  have hp : 0 < b ^ s := Nat.pow_pos (by omega)
  have h1 := nd_lt b (x / b ^ s) hb
  have hq : 0 < x / b ^ s := Nat.div_pos h hp
  have h2 := (nd_spec b hb (x / b ^ s)).2
  have hn : 0 < nd b (x / b ^ s) := by
    rcases Nat.eq_zero_or_pos (nd b (x / b ^ s)) with h0 | h0
    · rw [h0, Nat.pow_zero] at h1; omega
    · exact h0
  have h2 := h2 hn
  refine nd_uniq b x _ hb ?_ fun _ => ?_
  · rw [Nat.pow_add, Nat.mul_comm]; exact (Nat.div_lt_iff_lt_mul hp).1 h1
  · rw [show s + nd b (x / b ^ s) - 1 = (nd b (x / b ^ s) - 1) + s by omega, Nat.pow_add]
    exact Nat.le_trans (Nat.mul_le_mul_right _ h2) (Nat.div_mul_le_self x _)
def bits8 : List UInt8 := [0, 1, 2, 2, 3, 3, 3, 3, 4, 4, 4, 4, 4, 4, 4, 4, 5, 5, 5, 5, 5, 5, 5, 5, 5, 5, 5, 5, 5, 5, 5, 5, 6, 6, 6, 6, 6, 6, 6, 6, 6, 6, 6, 6, 6, 6, 6, 6, 6, 6, 6, 6, 6, 6, 6, 6, 6, 6, 6, 6, 6, 6, 6, 6, 7, 7, 7, 7, 7, 7, 7, 7, 7, 7, 7, 7, 7, 7, 7, 7, 7, 7, 7, 7, 7, 7, 7, 7, 7, 7, 7, 7, 7, 7, 7, 7, 7, 7, 7, 7, 7, 7, 7, 7, 7, 7, 7, 7, 7, 7, 7, 7, 7, 7, 7, 7, 7, 7, 7, 7, 7, 7, 7, 7, 7, 7, 7, 7, 8, 8, 8, 8, 8, 8, 8, 8, 8, 8, 8, 8, 8, 8, 8, 8, 8, 8, 8, 8, 8, 8, 8, 8, 8, 8, 8, 8, 8, 8, 8, 8, 8, 8, 8, 8, 8, 8, 8, 8, 8, 8, 8, 8, 8, 8, 8, 8, 8, 8, 8, 8, 8, 8, 8, 8, 8, 8, 8, 8, 8, 8, 8, 8, 8, 8, 8, 8, 8, 8, 8, 8, 8, 8, 8, 8, 8, 8, 8, 8, 8, 8, 8, 8, 8, 8, 8, 8, 8, 8, 8, 8, 8, 8, 8, 8, 8, 8, 8, 8, 8, 8, 8, 8, 8, 8, 8, 8, 8, 8, 8, 8, 8, 8, 8, 8, 8, 8, 8, 8, 8, 8, 8, 8, 8, 8, 8, 8]
theorem bits8_all : ∀ j : Fin 256, ∃ u, bits8[j.1]? = some u ∧ j.1 < 2 ^ u.toNat ∧ (0 < u.toNat → 2 ^ (u.toNat - 1) ≤ j.1) := by decide +kernel
theorem bits8_get (j : Nat) (h : j < 256) : ∃ u, bits8[j]? = some u ∧ u.toNat = nd 2 j := by
  obtain ⟨u, h1, h2, h3⟩ := bits8_all ⟨j, h⟩
  exact ⟨u, h1, (nd_uniq 2 j _ (by decide) h2 h3).symm⟩
end Go.Nt
namespace Go.Proofs.YtaeddmcoanefhaaGreatDoor
open Go Go.Sy Go.Nt Go.RowKit
attribute [local irreducible] Sy SyL SyX Sy.Fn callFunc natC bits8
set_option maxRecDepth 10000
theorem len64_fn (x : Nat) (w : World) (hx : x < 18446744073709551616) :
    Sy.Fn Tryz.prog 88 [nv x] w No (Gives (.int .i64 ((nd 2 x : Nat) : Int))) := by
  refine fn_enter Tryz.func88 rfl Tryz.ntmps88 (by simp) Holds.nil ?_
  obtain ⟨x1, n1, e1, hx1, hc1⟩ : ∃ x1 n1, nd 2 x = n1 + nd 2 x1 ∧ x1 < 4294967296 ∧ ((4294967296 ≤ x ∧ x1 = x / 2 ^ 32 ∧ n1 = 32) ∨ (x < 4294967296 ∧ x1 = x ∧ n1 = 0)) := by
    rcases Nat.lt_or_ge x 4294967296 with h | h
    · exact ⟨x, 0, by omega, h, .inr ⟨h, rfl, rfl⟩⟩
    · exact ⟨x / 2 ^ 32, 32, nd_div 2 x 32 (by decide) h, by omega, .inl ⟨h, rfl, rfl⟩⟩
  obtain ⟨x2, n2, e2, hx2, hc2⟩ : ∃ x2 n2, nd 2 x1 = n2 + nd 2 x2 ∧ x2 < 65536 ∧ ((65536 ≤ x1 ∧ x2 = x1 / 2 ^ 16 ∧ n2 = 16) ∨ (x1 < 65536 ∧ x2 = x1 ∧ n2 = 0)) := by
    rcases Nat.lt_or_ge x1 65536 with h | h
    · exact ⟨x1, 0, by omega, h, .inr ⟨h, rfl, rfl⟩⟩
    · exact ⟨x1 / 2 ^ 16, 16, nd_div 2 x1 16 (by decide) h, by omega, .inl ⟨h, rfl, rfl⟩⟩
  obtain ⟨x3, n3, e3, hx3, hc3⟩ : ∃ x3 n3, nd 2 x2 = n3 + nd 2 x3 ∧ x3 < 256 ∧ ((256 ≤ x2 ∧ x3 = x2 / 2 ^ 8 ∧ n3 = 8) ∨ (x2 < 256 ∧ x3 = x2 ∧ n3 = 0)) := by
    rcases Nat.lt_or_ge x2 256 with h | h
    · exact ⟨x2, 0, by omega, h, .inr ⟨h, rfl, rfl⟩⟩
    · exact ⟨x2 / 2 ^ 8, 8, nd_div 2 x2 8 (by decide) h, by omega, .inl ⟨h, rfl, rfl⟩⟩
  obtain ⟨u, hu, hun⟩ := bits8_get x3 hx3
  rw [e1, e2, e3, ← hun]
  repeat' (first | refine sy_seqC ?_ | refine syl_nil ?_ | refine syx_then ?_ | refine syx_go ?_ | (refine sy_region (id := 0) ?_; refine y_assign ?_) | (refine sy_region (id := 1) ?_; refine y_move ?_; refine y_geq ?_) | fail)
  refine sy_cut (γ := Unit) (fun _ => [(0, nv x1), (2, .int .i64 ((n1 : Nat) : Int))]) (fun _ => []) (fun _ => True) ?_ ?_
  · refine sy_cond rfl (fun h => ?_) (fun h => ?_)
    · have h := of_decide_eq_true h
      obtain ⟨-, rfl, rfl⟩ : 4294967296 ≤ x ∧ x1 = x / 2 ^ 32 ∧ n1 = 32 := by
        rcases hc1 with c | c
        · exact c
        · omega
      repeat' (first | refine sy_seqC ?_ | refine syl_nil ?_ | refine syx_then ?_ | refine syx_go ?_ | (refine sy_region (id := 2) ?_; refine y_move ?_; refine yv (op_shrN 32 (by decide)) (k := ?_); refine y_assign ?_) | (refine sy_region (id := 3) ?_; refine y_assign ?_) | fail)
      exact syx_cut () trivial (by exact Sub.go) (by exact SubR.go)
    · have h := of_decide_eq_false h
      obtain ⟨-, rfl, rfl⟩ : x < 4294967296 ∧ x1 = x ∧ n1 = 0 := by
        rcases hc1 with c | c
        · omega
        · exact c
      repeat' (first | refine sy_skip ?_ | refine syx_then ?_ | fail)
      exact syx_cut () trivial (by exact Sub.go) (by exact SubR.go)
  rintro - -
  repeat' (first | refine sy_seqC ?_ | refine syl_nil ?_ | refine syx_then ?_ | refine syx_go ?_ | (refine sy_region (id := 4) ?_; refine y_move ?_; refine y_geq ?_) | fail)
  refine sy_cut (γ := Unit) (fun _ => [(0, nv x2), (2, .int .i64 ((n1 + n2 : Nat) : Int))]) (fun _ => []) (fun _ => True) ?_ ?_
  · refine sy_cond rfl (fun h => ?_) (fun h => ?_)
    · have h := of_decide_eq_true h
      obtain ⟨-, rfl, rfl⟩ : 65536 ≤ x1 ∧ x2 = x1 / 2 ^ 16 ∧ n2 = 16 := by
        rcases hc2 with c | c
        · exact c
        · omega
      repeat' (first | refine sy_seqC ?_ | refine syl_nil ?_ | refine syx_then ?_ | refine syx_go ?_ | (refine sy_region (id := 5) ?_; refine y_move ?_; refine yv (op_shrN 16 (by decide)) (k := ?_); refine y_assign ?_) | (refine sy_region (id := 6) ?_; refine y_move ?_; refine y_add ?_; refine y_assign ?_) | fail)
      exact syx_cut () trivial (by exact Sub.go) (by exact SubR.go)
    · have h := of_decide_eq_false h
      obtain ⟨-, rfl, rfl⟩ : x1 < 65536 ∧ x2 = x1 ∧ n2 = 0 := by
        rcases hc2 with c | c
        · omega
        · exact c
      repeat' (first | refine sy_skip ?_ | refine syx_then ?_ | fail)
      exact syx_cut () trivial (by exact Sub.go) (by exact SubR.go)
  rintro - -
  repeat' (first | refine sy_seqC ?_ | refine syl_nil ?_ | refine syx_then ?_ | refine syx_go ?_ | (refine sy_region (id := 7) ?_; refine y_move ?_; refine y_geq ?_) | fail)
  refine sy_cut (γ := Unit) (fun _ => [(0, nv x3), (2, .int .i64 ((n1 + n2 + n3 : Nat) : Int))]) (fun _ => []) (fun _ => True) ?_ ?_
  · refine sy_cond rfl (fun h => ?_) (fun h => ?_)
    · have h := of_decide_eq_true h
      obtain ⟨-, rfl, rfl⟩ : 256 ≤ x2 ∧ x3 = x2 / 2 ^ 8 ∧ n3 = 8 := by
        rcases hc3 with c | c
        · exact c
        · omega
      repeat' (first | refine sy_seqC ?_ | refine syl_nil ?_ | refine syx_then ?_ | refine syx_go ?_ | (refine sy_region (id := 8) ?_; refine y_move ?_; refine yv (op_shrN 8 (by decide)) (k := ?_); refine y_assign ?_) | (refine sy_region (id := 9) ?_; refine y_move ?_; refine y_add ?_; refine y_assign ?_) | fail)
      exact syx_cut () trivial (by exact Sub.go) (by exact SubR.go)
    · have h := of_decide_eq_false h
      obtain ⟨-, rfl, rfl⟩ : x2 < 256 ∧ x3 = x2 ∧ n3 = 0 := by
        rcases hc3 with c | c
        · omega
        · exact c
      repeat' (first | refine sy_skip ?_ | refine syx_then ?_ | fail)
      exact syx_cut () trivial (by exact Sub.go) (by exact SubR.go)
  rintro - -
  have hcv : IntKind.u8.wrap (x3 : Int) = (x3 : Int) := IntWalk.u8_in _ (by omega)
  have hu' : bits8.toArray[x3]? = some u := by rw [List.getElem?_toArray]; exact hu
  have hcw : IntKind.i64.wrap ((u.toNat : Nat) : Int) = ((u.toNat : Nat) : Int) := IntWalk.i64_in _ (by have := u.toNat_lt; omega)
  have hul := u.toNat_lt
  repeat' (first | refine sy_seqC ?_ | refine syl_nil ?_ | refine sy_ret ?_ | refine syx_then ?_ | refine syx_go ?_ | (refine sy_region (id := 10) ?_; refine y_move ?_; refine y_move ?_; refine yv (op_conv (hr := hcv)) (k := ?_); refine yv (op_indexStr (hv := Eq.trans (congrArg (fun a : Array UInt8 => a[x3]?) (show _ = bits8.toArray by decide +kernel)) hu')) (k := ?_); refine yv (op_conv (hr := hcw)) (k := ?_); refine y_add ?_; refine y_assign ?_) | fail)
  exact ret1 rfl (resTmp rfl) SubR.nil ⟨congrArg (Value.int .i64) (by omega), rfl⟩
theorem lz64_fn (x : Nat) (w : World) (hx : x < 18446744073709551616) :
    Sy.Fn Tryz.prog 141 [nv x] w No (Gives (.int .i64 ((64 - nd 2 x : Nat) : Int))) := by
  refine fn_enter Tryz.func141 rfl Tryz.ntmps141 (by simp) Holds.nil ?_
  have hn : nd 2 x ≤ 64 := nd_le 2 x 64 (by decide) hx
  repeat' (first | refine sy_seqC ?_ | refine syl_nil ?_ | refine sy_ret ?_ | refine syx_then ?_ | refine syx_go ?_ | (refine sy_region (id := 0) ?_; refine y_assign ?_) | (refine sy_region (id := 1) ?_; refine y_move ?_; refine yv (op_callV (hc := fun _ _ _ _ => (len64_fn x _ hx))) (k := ?_); refine y_sub ?_; refine y_assign ?_) | fail)
  exact ret1 rfl (resTmp rfl) SubR.nil ⟨congrArg (Value.int .i64) (by omega), rfl⟩
end Go.Proofs.YtaeddmcoanefhaaGreatDoor
namespace Go.Nt
theorem wpow (k : Nat) : 18446744073709551616 ^ k = 2 ^ (64 * k) := by
  rw [show (18446744073709551616 : Nat) = 2 ^ 64 from rfl, ← Nat.pow_mul]
theorem w_eq : ∃ k, k = 1024 ∧ 18446744073709551616 ^ 16 = 2 ^ k := by
  obtain ⟨m, hm⟩ : ∃ m, m = 16 := ⟨16, rfl⟩
  exact ⟨64 * m, by omega, by rw [← wpow, hm]⟩
theorem w_ge {x i : Nat} (hi : i ≤ 1024) (h : x < 2 ^ i) : x < 18446744073709551616 ^ 16 := by
  obtain ⟨k, hk, e⟩ := w_eq
  rw [e]
  exact Nat.lt_of_lt_of_le h (Nat.pow_le_pow_right (by decide) (by omega))
theorem w_exp {x i : Nat} (h1 : 2 ^ i ≤ x) (h : x < 18446744073709551616 ^ 16) : i < 1024 := by
  obtain ⟨k, hk, e⟩ := w_eq
  rw [e] at h
  have : i < k := (Nat.pow_lt_pow_iff_right (by decide)).1 (Nat.lt_of_le_of_lt h1 h)
  omega
theorem w_of (b t n : Nat) (hb : b = 2 ^ t) (h : t * n = 1024) : 18446744073709551616 ^ 16 = b ^ n := by
  obtain ⟨k, hk, e⟩ := w_eq
  rw [e, hb, ← Nat.pow_mul, hk, h]
theorem nd2_W {x : Nat} (h : x < 18446744073709551616 ^ 16) : nd 2 x ≤ 1024 := by
  obtain ⟨k, hk, e⟩ := w_eq
  rw [e] at h
  have := nd_le 2 x k (by decide) h
  omega
theorem quoI {p k : Nat} (h : p < 9223372036854775808) : IntKind.i64.wrap ((p : Int).tdiv (k : Int)) = ((p / k : Nat) : Int) := by
  have h1 := Nat.div_le_self p k
  rw [Int.tdiv_eq_ediv_of_nonneg (by omega), show ((p : Int) / (k : Int)) = ((p / k : Nat) : Int) from rfl]
  generalize p / k = q at *
  exact IntWalk.i64_in _ (by omega)
theorem remI (p k : Nat) : (p : Int).tmod (k : Int) = ((p % k : Nat) : Int) := by
  rw [Int.tmod_eq_emod_of_nonneg (by omega)]; rfl
end Go.Nt
namespace Go.Proofs.YtaeddmcoanefhaaGreatDoor
open Go Go.Sy Go.Nt Go.RowKit
attribute [local irreducible] Sy SyL SyX Sy.Fn callFunc natC
set_option maxRecDepth 10000
theorem bitLen_fn (x : Nat) (w : World) (hx : x < 18446744073709551616 ^ 16) :
    Sy.Fn Tryz.prog 64 [natV x] w No (Gives (.int .i64 ((nd 2 x : Nat) : Int))) := by
  refine fn_enter Tryz.func64 rfl Tryz.ntmps64 (by simp) Holds.nil ?_
  have hlx := natC_len x
  rcases Nat.eq_zero_or_pos x with h0 | h0
  · subst h0
    have hl := fun w => length_fn 0 w hx
    rw [nd_zero] at hl ⊢
    repeat' (first | refine sy_seqC ?_ | refine syl_nil ?_ | refine sy_if_t rfl ?_ | refine sy_ret ?_ | refine syx_then ?_ | refine syx_go ?_ | refine syx_then_ret ?_ | (refine sy_region (id := 0) ?_; (refine y_new ?_; intro _); refine y_assign ?_) | (refine sy_region (id := 1) ?_; refine y_fieldAddr ?_; refine y_load ?_; refine yv (op_callV (hc := fun _ _ _ _ => (hl _))) (k := ?_); refine y_assign ?_) | (refine sy_region (id := 2) ?_; refine y_move ?_; refine y_eql ?_) | (refine sy_region (id := 3) ?_; refine y_assign ?_) | fail)
    exact ret1 rfl (resTmp rfl) SubR.nil ⟨rfl, rfl⟩
  have hn := nd_le 18446744073709551616 x 16 (by decide) hx
  have hl := nd_lt 18446744073709551616 x (by decide)
  have hs := (nd_spec 18446744073709551616 (by decide) x).2
  have hlen := fun w => length_fn x w hx
  have hgx := natC_get x
  generalize nd 18446744073709551616 x = n at *
  have hn0 : 0 < n := by
    rcases Nat.eq_zero_or_pos n with h | h
    · subst h; rw [Nat.pow_zero] at hl; omega
    · exact h
  have hs := hs hn0
  have hd := hgx (n - 1) (by omega)
  have hnd : nd 2 x = 64 * (n - 1) + nd 2 (x / 18446744073709551616 ^ (n - 1)) := by
    rw [wpow] at hs ⊢
    exact nd_div 2 x _ (by decide) hs
  have hdl : x / 18446744073709551616 ^ (n - 1) < 18446744073709551616 := by
    rw [Nat.div_lt_iff_lt_mul (Nat.pow_pos (by decide)), Nat.mul_comm, ← Nat.pow_succ, show (n - 1).succ = n by omega]
    exact hl
  rw [Nat.mod_eq_of_lt hdl] at hd
  have hn2 := nd_le 2 _ 64 (by decide) hdl
  rw [hnd]
  generalize x / 18446744073709551616 ^ (n - 1) = d at *
  have hs1 : IntKind.i64.wrap ((n : Int) - 1) = ((n - 1 : Nat) : Int) := by rw [IntWalk.i64_in _ (by omega)]; omega
  repeat' (first | refine sy_seqC ?_ | refine syl_nil ?_ | refine sy_if_f rfl ?_ | refine sy_skip ?_ | refine sy_ret ?_ | refine syx_then ?_ | refine syx_go ?_ | (refine sy_region (id := 0) ?_; (refine y_new ?_; intro _); refine y_assign ?_) | (refine sy_region (id := 1) ?_; refine y_fieldAddr ?_; refine y_load ?_; refine yv (op_callV (hc := fun _ _ _ _ => (hlen _))) (k := ?_); refine y_assign ?_) | (refine sy_region (id := 2) ?_; refine y_move ?_; refine y_eql ?_) | (refine sy_region (id := 4) ?_; refine y_move ?_; refine yv (op_sub (hr := hs1)) (k := ?_); refine y_mul ?_; refine y_move ?_; refine yv (op_sub (hr := hs1)) (k := ?_); refine y_fieldAddr ?_; refine y_indexAddr ?_; refine yv (op_load (hv := hd)) (k := ?_); refine yv (op_callV (hc := fun _ _ _ _ => (len64_fn d _ hdl))) (k := ?_); refine y_add ?_; refine y_assign ?_) | fail)
  exact ret1 rfl (resTmp rfl) SubR.nil ⟨congrArg (Value.int .i64) (by omega), rfl⟩
end Go.Proofs.YtaeddmcoanefhaaGreatDoor
end
