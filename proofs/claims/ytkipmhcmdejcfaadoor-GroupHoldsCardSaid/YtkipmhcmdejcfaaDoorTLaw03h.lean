/- The statements about layer group, walked: GroupHolds. -/
import Derived.Test.YtkipmhcmdejcfaaDoorTLaw03k
set_option linter.all false
namespace Go.Nt
open Go Go.Sy
theorem pow_both (i a b : Nat) : (4 ^ a % gP i) ^ b % gP i = (4 ^ b % gP i) ^ a % gP i := by
  rw [← Nat.pow_mod, ← Nat.pow_mod, ← Nat.pow_mul, ← Nat.pow_mul, Nat.mul_comm]
theorem pow_sum (i a b : Nat) (h0 : 1 ≤ i) (h5 : i ≤ 4) : (4 ^ a % gP i) * (4 ^ b % gP i) % gP i = 4 ^ ((a + b) % gQ i) % gP i := by
  rw [← Nat.mul_mod, ← Nat.pow_add]
  exact ((pow_mod (m := gP i) (b := 4) (q := gQ i) (e := a + b) (mem_cg h0 h5 (g4 i h0 h5))).mod).symm
theorem row_cap {B0 : Nat} {w : World} {M : Nat → Prop} {E m c : Nat} {a : Option Addr} {xs : List Value} {L : List Res} (hh : Holds B0 M L w) (hL : Has L (.row (.slice a m c) E 1 m xs)) : m ≤ c := by
  have hrow : w.ownsRow 0 E 1 (.slice a m c) m xs := hh.all _ hL
  obtain ⟨h1, ⟨_, h2⟩ | ⟨b, c', cur, hv, _, _, h3, _⟩⟩ := hrow
  · omega
  · cases hv; omega
theorem row_cs {B0 : Nat} {w : World} {M : Nat → Prop} {E m c : Nat} {a : Option Addr} {xs : List Value} {L : List Res} (hh : Holds B0 M L w) (hL : Has L (.row (.slice a m c) E 1 m xs)) : m ≤ c ∧ SlA w a xs := ⟨row_cap hh hL, row_sla hh hL⟩
end Go.Nt
namespace Go.Proofs.YtkipmhcmdejcfaaDoor
open Go Go.Sy Go.Nt Go.RowKit
attribute [local irreducible] Sy SyL SyX Sy.Fn callFunc natC rowN gP gQ gL memB safeC fixB
set_option maxRecDepth 10000
theorem memB_pow (i e : Nat) (h0 : 1 ≤ i) (h5 : i ≤ 4) : memB (gP i) (gQ i) (4 ^ e % gP i) = true := memB_mem.2 (mem_pow h0 h5 e)
theorem inv_mul {i x : Nat} (h0 : 1 ≤ i) (h5 : i ≤ 4) (h : memB (gP i) (gQ i) x = true) : Cg (gP i) ((inv (gP i) x).2 * x) 1 := by
  have hP : 0 < gP i := Nat.lt_trans Nat.zero_lt_one (gP_one i h0 h5)
  have := (inv_ok (gP i) x hP).2
  rwa [ginv_one h0 h5 h] at this
theorem inv_mem {i x : Nat} (h0 : 1 ≤ i) (h5 : i ≤ 4) (h : memB (gP i) (gQ i) x = true) : memB (gP i) (gQ i) (inv (gP i) x).2 = true := by
  have hP : 0 < gP i := Nat.lt_trans Nat.zero_lt_one (gP_one i h0 h5)
  have h1 := inv_mul h0 h5 h
  have hx : Cg (gP i) (x ^ gQ i) 1 := mem_cg h0 h5 (memB_mem.1 h).2.2
  have h2 := h1.pow (gQ i)
  rw [Nat.mul_pow, Nat.one_pow] at h2
  have h3 : Cg (gP i) ((inv (gP i) x).2 ^ gQ i * 1) 1 := ((Cg.refl _ _).mul hx.symm).trans h2
  rw [Nat.mul_one] at h3
  have h4 := mem_of h0 h5 h3
  rw [Nat.mod_eq_of_lt (inv_lt (gP i) x hP)] at h4
  exact memB_mem.2 h4
theorem bev_fix (l x : Nat) : bev 256 (bn (fixB l x)) = x := by unfold fixB; rw [bev_zeros, bev_byt]
theorem exp_nd {i e : Nat} (h0 : 1 ≤ i) (h5 : i ≤ 4) : nd 256 (4 ^ e % gP i) ≤ gL i := gP_nd h0 h5 (Nat.mod_lt _ (Nat.lt_trans Nat.zero_lt_one (gP_one i h0 h5)))
set_option maxHeartbeats 4000000 in
theorem groupHolds_fn (z : Int) (a0 a1 : Option Addr) (n0 c0 n1 c1 : Nat) (l0 l1 : List UInt8) (w : World) (hG : GT w) (hn0 : l0.length = n0) (hc0 : n0 ≤ c0) (hs0 : SlA w a0 (l0.map v8)) (hn1 : l1.length = n1) (hc1 : n1 ≤ c1) (hs1 : SlA w a1 (l1.map v8)) :
    Sy.Fn Tryd.prog 21 [.int .i64 z, .slice a0 n0 c0, .slice a1 n1 c1] w No (Gives (.bool true)) := by
  refine fn_enter Tryd.func21 rfl Tryd.ntmps21 (by simp) Holds.nil ?_
  by_cases hb0 : 128 < n0
  · have g1 : decide ((128 : Int) < (n0 : Int)) = true := decide_eq_true (by omega)
    repeat' (first | refine sy_seqC ?_ | refine syl_nil ?_ | refine sy_if_t rfl ?_ | refine sy_if_f rfl ?_ | refine sy_block ?_ | refine sy_skip ?_ | refine sy_ret ?_ | refine sy_exit ?_ | refine sy_label ?_ | refine syx_then ?_ | refine syx_go ?_ | refine syx_then_ret ?_ | refine syx_then_exit ?_ | refine syx_in ?_ | refine syx_in_ret ?_ | refine syx_in_here ?_ | refine syx_in_past rfl ?_ | (apply syx_begin; (focus ((repeat (first | exact Rem.here | apply Rem.there)); done)); assumption) | (refine sy_region (id := 0) ?_; try refine y_assign ?_) | (refine sy_region (id := 1) ?_; try refine y_move ?_; try refine y_len ?_; try refine yv (op_gtr (hr := g1)) (k := ?_); try refine y_move ?_; try refine syl_skip rfl rfl rfl ?_; try refine syl_skip rfl rfl rfl ?_; try refine syl_skip rfl rfl rfl ?_; try refine y_pick ?_; try refine y_move ?_; try refine syl_skip rfl rfl rfl ?_; try refine syl_skip rfl rfl rfl ?_; try refine y_pick ?_; try refine y_move ?_; try refine syl_skip rfl rfl rfl ?_; try refine syl_skip rfl rfl rfl ?_; try refine y_pick ?_) | (refine sy_region (id := 2) ?_; try refine yv (op_callV (f := 76) (hc := fun w' _ hk _ => known3_fn w' (hG.to hk))) (k := ?_); try refine y_assign ?_) | refine sy_region ?_ | fail)
    exact ret1 rfl (resTmp rfl) SubR.nil ⟨rfl, rfl⟩
  have g1 : decide ((128 : Int) < (n0 : Int)) = false := decide_eq_false (by omega)
  by_cases hb1 : 128 < n1
  · have g2 : decide ((128 : Int) < (n1 : Int)) = true := decide_eq_true (by omega)
    repeat' (first | refine sy_seqC ?_ | refine syl_nil ?_ | refine sy_if_t rfl ?_ | refine sy_if_f rfl ?_ | refine sy_block ?_ | refine sy_skip ?_ | refine sy_ret ?_ | refine sy_exit ?_ | refine sy_label ?_ | refine syx_then ?_ | refine syx_go ?_ | refine syx_then_ret ?_ | refine syx_then_exit ?_ | refine syx_in ?_ | refine syx_in_ret ?_ | refine syx_in_here ?_ | refine syx_in_past rfl ?_ | (apply syx_begin; (focus ((repeat (first | exact Rem.here | apply Rem.there)); done)); assumption) | (refine sy_region (id := 0) ?_; try refine y_assign ?_) | (refine sy_region (id := 1) ?_; try refine y_move ?_; try refine y_len ?_; try refine yv (op_gtr (hr := g1)) (k := ?_); try refine y_move ?_; try refine y_move ?_; try refine y_len ?_; try refine yv (op_gtr (hr := g2)) (k := ?_); try refine y_pick ?_; try refine y_move ?_; try refine syl_skip rfl rfl rfl ?_; try refine syl_skip rfl rfl rfl ?_; try refine y_pick ?_; try refine y_move ?_; try refine syl_skip rfl rfl rfl ?_; try refine syl_skip rfl rfl rfl ?_; try refine y_pick ?_) | (refine sy_region (id := 2) ?_; try refine yv (op_callV (f := 76) (hc := fun w' _ hk _ => known3_fn w' (hG.to hk))) (k := ?_); try refine y_assign ?_) | refine sy_region ?_ | fail)
    exact ret1 rfl (resTmp rfl) SubR.nil ⟨rfl, rfl⟩
  have g2 : decide ((128 : Int) < (n1 : Int)) = false := decide_eq_false (by omega)
  by_cases hz1 : z < 1
  · have g3 : decide (z < 1) = true := decide_eq_true hz1
    repeat' (first | refine sy_seqC ?_ | refine syl_nil ?_ | refine sy_if_t rfl ?_ | refine sy_if_f rfl ?_ | refine sy_block ?_ | refine sy_skip ?_ | refine sy_ret ?_ | refine sy_exit ?_ | refine sy_label ?_ | refine syx_then ?_ | refine syx_go ?_ | refine syx_then_ret ?_ | refine syx_then_exit ?_ | refine syx_in ?_ | refine syx_in_ret ?_ | refine syx_in_here ?_ | refine syx_in_past rfl ?_ | (apply syx_begin; (focus ((repeat (first | exact Rem.here | apply Rem.there)); done)); assumption) | (refine sy_region (id := 0) ?_; try refine y_assign ?_) | (refine sy_region (id := 1) ?_; try refine y_move ?_; try refine y_len ?_; try refine yv (op_gtr (hr := g1)) (k := ?_); try refine y_move ?_; try refine y_move ?_; try refine y_len ?_; try refine yv (op_gtr (hr := g2)) (k := ?_); try refine y_pick ?_; try refine y_move ?_; try refine y_move ?_; try refine yv (op_lss (hr := g3)) (k := ?_); try refine y_pick ?_; try refine y_move ?_; try refine syl_skip rfl rfl rfl ?_; try refine syl_skip rfl rfl rfl ?_; try refine y_pick ?_) | (refine sy_region (id := 2) ?_; try refine yv (op_callV (f := 76) (hc := fun w' _ hk _ => known3_fn w' (hG.to hk))) (k := ?_); try refine y_assign ?_) | refine sy_region ?_ | fail)
    exact ret1 rfl (resTmp rfl) SubR.nil ⟨rfl, rfl⟩
  have g3 : decide (z < 1) = false := decide_eq_false hz1
  by_cases hz2 : 4 < z
  · have g4 : decide ((4 : Int) < z) = true := decide_eq_true hz2
    repeat' (first | refine sy_seqC ?_ | refine syl_nil ?_ | refine sy_if_t rfl ?_ | refine sy_if_f rfl ?_ | refine sy_block ?_ | refine sy_skip ?_ | refine sy_ret ?_ | refine sy_exit ?_ | refine sy_label ?_ | refine syx_then ?_ | refine syx_go ?_ | refine syx_then_ret ?_ | refine syx_then_exit ?_ | refine syx_in ?_ | refine syx_in_ret ?_ | refine syx_in_here ?_ | refine syx_in_past rfl ?_ | (apply syx_begin; (focus ((repeat (first | exact Rem.here | apply Rem.there)); done)); assumption) | (refine sy_region (id := 0) ?_; try refine y_assign ?_) | (refine sy_region (id := 1) ?_; try refine y_move ?_; try refine y_len ?_; try refine yv (op_gtr (hr := g1)) (k := ?_); try refine y_move ?_; try refine y_move ?_; try refine y_len ?_; try refine yv (op_gtr (hr := g2)) (k := ?_); try refine y_pick ?_; try refine y_move ?_; try refine y_move ?_; try refine yv (op_lss (hr := g3)) (k := ?_); try refine y_pick ?_; try refine y_move ?_; try refine y_move ?_; try refine yv (op_gtr (hr := g4)) (k := ?_); try refine y_pick ?_) | (refine sy_region (id := 2) ?_; try refine yv (op_callV (f := 76) (hc := fun w' _ hk _ => known3_fn w' (hG.to hk))) (k := ?_); try refine y_assign ?_) | refine sy_region ?_ | fail)
    exact ret1 rfl (resTmp rfl) SubR.nil ⟨rfl, rfl⟩
  have g4 : decide ((4 : Int) < z) = false := decide_eq_false hz2
  obtain ⟨i, rfl⟩ : ∃ i : Nat, z = (i : Int) := ⟨z.toNat, by omega⟩
  have h0 : 1 ≤ i := by omega
  have h5 : i ≤ 4 := by omega
  have hP : 0 < gP i := Nat.lt_trans Nat.zero_lt_one (gP_one i h0 h5)
  have hQ0 : 0 < gQ i := Nat.lt_of_lt_of_le (by decide) (gQ_low i h0 h5)
  have hPW := gP_W i h0 h5
  have hQW := gQ_W i h0 h5
  have hS0 := fun w' (hk : Keep No w w') => gscalar_fn i a0 n0 c0 l0 w' h0 h5 (hG.to hk) hn0 hc0 (by omega) (hs0.to hk (fun _ h => .inr h)).sla
  have hS1 := fun w' (hk : Keep No w w') => gscalar_fn i a1 n1 c1 l1 w' h0 h5 (hG.to hk) hn1 hc1 (by omega) (hs1.to hk (fun _ h => .inr h)).sla
  have ha := Nat.mod_lt (bev 256 (bn l0)) hQ0
  have hb := Nat.mod_lt (bev 256 (bn l1)) hQ0
  generalize bev 256 (bn l0) % gQ i = a at *
  generalize bev 256 (bn l1) % gQ i = b at *
  have haW := Nat.lt_trans ha hQW
  have hbW := Nat.lt_trans hb hQW
  have hsQ := Nat.mod_lt (a + b) hQ0
  have hPa := fun w' (hk : Keep No w w') => gpower_fn i a w' h0 h5 (hG.to hk) haW ha
  have hPb := fun w' (hk : Keep No w w') => gpower_fn i b w' h0 h5 (hG.to hk) hbW hb
  have hAd := fun w' (hk : Keep No w w') => gadds_fn i a b w' h0 h5 (hG.to hk) haW hbW (by rw [decide_eq_true ha, decide_eq_true hb]; rfl)
  have hPs := fun w' (hk : Keep No w w') => gpower_fn i ((a + b) % gQ i) w' h0 h5 (hG.to hk) (Nat.lt_trans hsQ hQW) hsQ
  have hmA := memB_pow i a h0 h5
  have hmB := memB_pow i b h0 h5
  have hAW : 4 ^ a % gP i < 18446744073709551616 ^ 16 := Nat.lt_trans (Nat.mod_lt _ hP) hPW
  have hBW : 4 ^ b % gP i < 18446744073709551616 ^ 16 := Nat.lt_trans (Nat.mod_lt _ hP) hPW
  have hTW : 4 ^ ((a + b) % gQ i) % gP i < 18446744073709551616 ^ 16 := Nat.lt_trans (Nat.mod_lt _ hP) hPW
  have hEW : (4 ^ b % gP i) ^ a % gP i < 18446744073709551616 ^ 16 := Nat.lt_trans (Nat.mod_lt _ hP) hPW
  have hMu := fun w' (hk : Keep No w w') => gmul_fn i _ _ w' h0 h5 (hG.to hk) hAW hBW (by rw [hmA, hmB]; rfl)
  rw [pow_sum i a b h0 h5] at hMu
  have hMe := fun w' (hk : Keep No w w') => gmember_fn i _ w' h0 h5 (hG.to hk) hAW
  rw [hmA] at hMe
  have hX1 := fun w' (hk : Keep No w w') => gexp_fn i _ b w' h0 h5 (hG.to hk) hAW hbW hmA hb
  rw [pow_both i a b] at hX1
  have hX2 := fun w' (hk : Keep No w w') => gexp_fn i _ a w' h0 h5 (hG.to hk) hBW haW hmB ha
  have hIn := fun w' (hk : Keep No w w') => ginv_fn i _ w' h0 h5 (hG.to hk) hAW hmA
  have hmI := inv_mem h0 h5 hmA
  have hIW : (inv (gP i) (4 ^ a % gP i)).2 < 18446744073709551616 ^ 16 := Nat.lt_trans (inv_lt (gP i) _ hP) hPW
  have hMi := fun w' (hk : Keep No w w') => gmul_fn i _ _ w' h0 h5 (hG.to hk) hAW hIW (by rw [hmA, hmI]; rfl)
  have hone : (4 ^ a % gP i) * (inv (gP i) (4 ^ a % gP i)).2 % gP i = 1 := by
    rw [Nat.mul_comm, (inv_mul h0 h5 hmA).mod, Nat.mod_eq_of_lt (gP_one i h0 h5)]
  rw [hone] at hMi
  have hBy := fun w' (hk : Keep No w w') => gbytes_fn i _ w' h0 h5 (hG.to hk) hAW hmA
  have hSb := fun w' (hk : Keep No w w') => gsbytes_fn i a w' h0 h5 (hG.to hk) haW (decide_eq_true ha)
  have hlA := fixB_len (gL i) _ (exp_nd (e := a) h0 h5)
  have hla := fixB_len (gL i) a (gP_nd h0 h5 (Nat.lt_of_lt_of_le ha (gQ_P i)))
  have hEl := fun w' ad c (hk : Keep No w w') (h : gL i ≤ c ∧ SlA w' ad ((fixB (gL i) (4 ^ a % gP i)).map v8)) => gelement_fn i ad (gL i) c _ w' h0 h5 (hG.to hk) rfl hlA h.1 h.2 (by rw [bev_fix]; exact hmA)
  have hNu := fun w' ad c (hk : Keep No w w') (h : gL i ≤ c ∧ SlA w' ad ((fixB (gL i) a).map v8)) => gnumber_fn i ad (gL i) c _ w' h0 h5 (hG.to hk) rfl hla h.1 h.2 (by rw [bev_fix]; exact decide_eq_true ha)
  rw [bev_fix] at hEl hNu
  have hLe := fun w' (hk : Keep No w w') => glen_fn i w' h0 h5 (hG.to hk)
  have hn1' := fun w' => number3_fn 1 w' (by decide)
  have h1W : 1 < 18446744073709551616 ^ 16 := Nat.lt_of_lt_of_le (show 1 < 18446744073709551616 by decide) (Nat.le_self_pow (by decide) _)
  unfold FixG at hBy hSb
  generalize fixB (gL i) a = la at *
  generalize fixB (gL i) (4 ^ a % gP i) = lA at *
  generalize (inv (gP i) (4 ^ a % gP i)).2 = v at *
  generalize (4 ^ b % gP i) ^ a % gP i = X at *
  generalize (a + b) % gQ i = s at *
  generalize 4 ^ s % gP i = T at *
  generalize 4 ^ a % gP i = A at *
  generalize 4 ^ b % gP i = B at *
  generalize gL i = len at *
  have hLL : decide ((len : Int) = (len : Int)) = true := decide_eq_true rfl
  have ea := natC_len a
  have eb := natC_len b
  have es := natC_len s
  have eA := natC_len A
  have eB := natC_len B
  have eT := natC_len T
  have eX := natC_len X
  have ev' := natC_len v
  have e1 := natC_len 1
  repeat' (first | refine sy_seqC ?_ | refine syl_nil ?_ | refine sy_if_t rfl ?_ | refine sy_if_f rfl ?_ | refine sy_block ?_ | refine sy_skip ?_ | refine sy_ret ?_ | refine sy_exit ?_ | refine sy_label ?_ | refine syx_then ?_ | refine syx_go ?_ | refine syx_then_ret ?_ | refine syx_then_exit ?_ | refine syx_in ?_ | refine syx_in_ret ?_ | refine syx_in_here ?_ | refine syx_in_past rfl ?_ | (apply syx_begin; (focus ((repeat (first | exact Rem.here | apply Rem.there)); done)); assumption) | (refine sy_region (id := 0) ?_; try refine y_assign ?_) | (refine sy_region (id := 1) ?_; try refine y_move ?_; try refine y_len ?_; try refine yv (op_gtr (hr := g1)) (k := ?_); try refine y_move ?_; try refine y_move ?_; try refine y_len ?_; try refine yv (op_gtr (hr := g2)) (k := ?_); try refine y_pick ?_; try refine y_move ?_; try refine y_move ?_; try refine yv (op_lss (hr := g3)) (k := ?_); try refine y_pick ?_; try refine y_move ?_; try refine y_move ?_; try refine yv (op_gtr (hr := g4)) (k := ?_); try refine y_pick ?_) | (refine sy_region (id := 3) ?_; try refine y_move ?_; try refine y_move ?_; try refine yv (op_callV (f := 100) (hc := fun w' _ hk _ => hS0 w' hk)) (k := ?_); try refine y_move ?_; try refine y_extract ?_; try refine y_extract ?_; try (refine y_new ?_; intro _); try refine yn (op_storeNat (n := a)) (k := ?_); try refine y_assign ?_) | (refine sy_region (id := 4) ?_; try refine y_move ?_; try refine y_move ?_; try refine yv (op_callV (f := 100) (hc := fun w' _ hk _ => hS1 w' hk)) (k := ?_); try refine y_move ?_; try refine y_extract ?_; try refine y_extract ?_; try (refine y_new ?_; intro _); try refine yn (op_storeNat (n := b)) (k := ?_); try refine y_assign ?_) | (refine sy_region (id := 5) ?_; try refine y_move ?_; try refine yv (op_loads (B := natC a)) (k := ?_); try refine yv (op_callV (f := 87) (hc := fun w' _ hk _ => hPa w' hk)) (k := ?_); try refine y_move ?_; try refine y_extract ?_; try refine y_extract ?_; try (refine y_new ?_; intro _); try refine yn (op_storeNat (n := A)) (k := ?_); try refine y_assign ?_) | (refine sy_region (id := 6) ?_; try refine y_move ?_; try refine yv (op_loads (B := natC b)) (k := ?_); try refine yv (op_callV (f := 87) (hc := fun w' _ hk _ => hPb w' hk)) (k := ?_); try refine y_move ?_; try refine y_extract ?_; try refine y_extract ?_; try (refine y_new ?_; intro _); try refine yn (op_storeNat (n := B)) (k := ?_); try refine y_assign ?_) | (refine sy_region (id := 7) ?_; try refine y_move ?_; try refine yv (op_loads (B := natC a)) (k := ?_); try refine yv (op_loads (B := natC b)) (k := ?_); try refine yv (op_callV (f := 101) (hc := fun w' _ hk _ => hAd w' hk)) (k := ?_); try refine y_move ?_; try refine y_extract ?_; try refine y_extract ?_; try (refine y_new ?_; intro _); try refine yn (op_storeNat (n := s)) (k := ?_); try refine y_assign ?_) | (refine sy_region (id := 8) ?_; try refine y_move ?_; try refine yv (op_loads (B := natC A)) (k := ?_); try refine yv (op_loads (B := natC B)) (k := ?_); try refine yv (op_callV (f := 102) (hc := fun w' _ hk _ => hMu w' hk)) (k := ?_); try refine y_move ?_; try refine y_extract ?_; try refine y_extract ?_; try (refine y_new ?_; intro _); try refine yn (op_storeNat (n := T)) (k := ?_); try refine y_assign ?_) | (refine sy_region (id := 9) ?_; try refine y_move ?_; try refine yv (op_loads (B := natC s)) (k := ?_); try refine yv (op_callV (f := 87) (hc := fun w' _ hk _ => hPs w' hk)) (k := ?_); try refine y_move ?_; try refine y_extract ?_; try refine y_extract ?_; try (refine y_new ?_; intro _); try refine yn (op_storeNat (n := T)) (k := ?_); try refine y_assign ?_) | (refine sy_region (id := 10) ?_; try refine y_move ?_; try refine y_neq ?_; try refine y_move ?_; try refine y_move ?_; try refine y_neq ?_; try refine y_pick ?_; try refine y_move ?_; try refine y_move ?_; try refine y_neq ?_; try refine y_pick ?_; try refine y_move ?_; try refine y_move ?_; try refine y_neq ?_; try refine y_pick ?_; try refine y_move ?_; try refine y_move ?_; try refine y_neq ?_; try refine y_pick ?_; try refine y_move ?_; try refine y_move ?_; try refine y_neq ?_; try refine y_pick ?_; try refine y_move ?_; try refine y_move ?_; try refine y_neq ?_; try refine y_pick ?_; try refine y_move ?_; try refine yv (op_loads (B := natC T)) (k := ?_); try refine yv (op_loads (B := natC T)) (k := ?_); try refine yv (op_neNat (a := T) (b := T) (r := false) natTy hTW hTW (by simp)) (k := ?_); try refine y_pick ?_; try refine y_move ?_; try refine y_move ?_; try refine yv (op_loads (B := natC A)) (k := ?_); try refine yv (op_callV (f := 80) (hc := fun w' _ hk _ => hMe w' hk)) (k := ?_); try refine y_unOp ?_; try refine y_pick ?_) | fail)
  rename_i b7 b9 b11 b13 b15 b17 b19
  refine Sy.weaken (fr' := [(0, .int .i64 (i : Int)), (7, .pointer (some ⟨b7, 0, none⟩)), (9, .pointer (some ⟨b9, 0, none⟩)), (11, .pointer (some ⟨b11, 0, none⟩)), (13, .pointer (some ⟨b13, 0, none⟩))]) (L' := [.blk b13 28 (natC B), .blk b11 28 (natC A), .blk b9 28 (natC b), .blk b7 28 (natC a)]) ?_ (by (repeat' (first | exact Sub.nil | refine Sub.cons rfl ?_ ?_ | rfl))) (by (repeat' (first | exact SubR.nil | (apply SubR.same; with_reducible (focus ((repeat (first | exact Rem.here | apply Rem.there)); done))) | (apply SubR.blk; (focus ((repeat (first | exact Rem.here | apply Rem.there)); done))) | (apply SubR.same; (focus ((repeat (first | exact Rem.here | apply Rem.there)); done))) | (apply SubR.pick; (focus ((repeat (first | exact Rem.here | apply Rem.there)); done))) | rfl)))
  repeat' (first | refine sy_seqC ?_ | refine syl_nil ?_ | refine sy_if_t rfl ?_ | refine sy_if_f rfl ?_ | refine sy_block ?_ | refine sy_skip ?_ | refine sy_ret ?_ | refine sy_exit ?_ | refine sy_label ?_ | refine syx_then ?_ | refine syx_go ?_ | refine syx_then_ret ?_ | refine syx_then_exit ?_ | refine syx_in ?_ | refine syx_in_ret ?_ | refine syx_in_here ?_ | refine syx_in_past rfl ?_ | (apply syx_begin; (focus ((repeat (first | exact Rem.here | apply Rem.there)); done)); assumption) | (refine sy_region (id := 12) ?_; try refine y_move ?_; try refine yv (op_loads (B := natC A)) (k := ?_); try refine yv (op_loads (B := natC b)) (k := ?_); try refine yv (op_callV (f := 88) (hc := fun w' _ hk _ => hX1 w' hk)) (k := ?_); try refine y_move ?_; try refine y_extract ?_; try refine y_extract ?_; try (refine y_new ?_; intro _); try refine yn (op_storeNat (n := X)) (k := ?_); try refine y_assign ?_) | (refine sy_region (id := 13) ?_; try refine y_move ?_; try refine yv (op_loads (B := natC B)) (k := ?_); try refine yv (op_loads (B := natC a)) (k := ?_); try refine yv (op_callV (f := 88) (hc := fun w' _ hk _ => hX2 w' hk)) (k := ?_); try refine y_move ?_; try refine y_extract ?_; try refine y_extract ?_; try (refine y_new ?_; intro _); try refine yn (op_storeNat (n := X)) (k := ?_); try refine y_assign ?_) | (refine sy_region (id := 14) ?_; try refine y_move ?_; try refine yv (op_loads (B := natC A)) (k := ?_); try refine yv (op_callV (f := 103) (hc := fun w' _ hk _ => hIn w' hk)) (k := ?_); try refine y_move ?_; try refine y_extract ?_; try refine y_extract ?_; try (refine y_new ?_; intro _); try refine yn (op_storeNat (n := v)) (k := ?_); try refine y_assign ?_) | (refine sy_region (id := 15) ?_; try refine y_move ?_; try refine yv (op_loads (B := natC A)) (k := ?_); try refine yv (op_loads (B := natC v)) (k := ?_); try refine yv (op_callV (f := 102) (hc := fun w' _ hk _ => hMi w' hk)) (k := ?_); try refine y_move ?_; try refine y_extract ?_; try refine y_extract ?_; try (refine y_new ?_; intro _); try refine yn (op_storeNat (n := 1)) (k := ?_); try refine y_assign ?_) | (refine sy_draw (id := 16) 22 [[], [0], [0, 1], [0, 1, 2], [0, 1, 2, 3], [0, 1, 2, 3, 4], [0, 1, 2, 3, 4, 5], [0, 1, 2, 3, 4, 5, 6], [0, 1, 2, 3, 4, 5, 6, 7], [0, 1, 2, 3, 4, 5, 6, 7, 8], [0, 1, 2, 3, 4, 5, 6, 7, 8, 9], [0, 1, 2, 3, 4, 5, 6, 7, 8, 9, 10], [0, 1, 2, 3, 4, 5, 6, 7, 8, 9, 10, 11], [0, 1, 2, 3, 4, 5, 6, 7, 8, 9, 10, 11, 12], [0, 1, 2, 3, 4, 5, 6, 7, 8, 9, 10, 11, 12, 13], [0, 1, 2, 3, 4, 5, 6, 7, 8, 9, 10, 11, 12, 13, 14], [0, 1, 2, 3, 4, 5, 6, 7, 8, 9, 10, 11, 12, 13, 14], [0, 1, 2, 3, 4, 5, 6, 7, 8, 9, 10, 11, 12, 13, 14, 15, 16], [0, 1, 2, 3, 4, 5, 6, 7, 8, 9, 10, 11, 12, 13, 14, 15, 16, 17], [0, 1, 2, 3, 4, 5, 6, 7, 8, 9, 10, 11, 12, 13, 14, 15, 16, 17, 18], [0, 1, 2, 3, 4, 5, 6, 7, 8, 9, 10, 11, 12, 13, 14, 15, 16, 17, 18, 19], [0, 1, 2, 3, 4, 5, 6, 7, 8, 9, 10, 11, 12, 13, 14, 15, 16, 17, 18, 19], [0, 1, 2, 3, 4, 5, 6, 7, 8, 9, 10, 11, 12, 13, 14, 15, 16, 17, 18, 19, 20, 21], [0, 1, 2, 3, 4, 5, 6, 7, 8, 9, 10, 11, 12, 13, 14, 15, 16, 17, 18, 19, 20, 21, 22]] mixed ?_ ?_; kernel_rfl; try refine d_move ?_; try refine d_neq ?_; try refine d_move ?_; try refine d_move ?_; try refine d_neq ?_; try refine d_pick ?_; try refine d_move ?_; try refine d_move ?_; try refine d_neq ?_; try refine d_pick ?_; try refine d_move ?_; try refine d_move ?_; try refine d_neq ?_; try refine d_pick ?_; try refine d_move ?_; try refine dc (fun _ _ => op_loads (B := natC X)) (k := ?_); try refine dc (fun _ _ => op_loads (B := natC X)) (k := ?_); try refine dc (fun _ _ => op_neNat (a := X) (b := X) (r := false) natTy hEW hEW (by simp)) (k := ?_); try refine d_pick ?_; try refine d_move ?_; try refine dc (fun _ _ => op_loads (B := natC 1)) (k := ?_); try refine dc (fun _ _ => op_callV (hc := fun _ _ _ _ => (hn1' _))) (k := ?_); try refine dh_0n ?_; try refine yv (op_neNat (a := 1) (b := 1) (r := false) natTy h1W h1W (by simp)) (k := ?_); try refine y_pick ?_) | refine dh_0n ?_ | fail)
  refine Sy.weaken (fr' := [(0, .int .i64 (i : Int)), (7, .pointer (some ⟨b7, 0, none⟩)), (11, .pointer (some ⟨b11, 0, none⟩))]) (L' := [.blk b11 28 (natC A), .blk b7 28 (natC a)]) ?_ (by (repeat' (first | exact Sub.nil | refine Sub.cons rfl ?_ ?_ | rfl))) (by (repeat' (first | exact SubR.nil | (apply SubR.same; with_reducible (focus ((repeat (first | exact Rem.here | apply Rem.there)); done))) | (apply SubR.blk; (focus ((repeat (first | exact Rem.here | apply Rem.there)); done))) | (apply SubR.same; (focus ((repeat (first | exact Rem.here | apply Rem.there)); done))) | (apply SubR.pick; (focus ((repeat (first | exact Rem.here | apply Rem.there)); done))) | rfl)))
  repeat' (first | refine sy_seqC ?_ | refine syl_nil ?_ | refine sy_if_t rfl ?_ | refine sy_if_f rfl ?_ | refine sy_block ?_ | refine sy_skip ?_ | refine sy_ret ?_ | refine sy_exit ?_ | refine sy_label ?_ | refine syx_then ?_ | refine syx_go ?_ | refine syx_then_ret ?_ | refine syx_then_exit ?_ | refine syx_in ?_ | refine syx_in_ret ?_ | refine syx_in_here ?_ | refine syx_in_past rfl ?_ | (apply syx_begin; (focus ((repeat (first | exact Rem.here | apply Rem.there)); done)); assumption) | (refine sy_region (id := 18) ?_; try refine y_move ?_; try refine yv (op_loads (B := natC A)) (k := ?_); try (refine ys (op_call0 (f := 79) (hc := fun w' X hk hh => hBy w' hk)) (k := ?_); rintro _ _ ⟨R, rfl, aB, cB, rfl, rfl⟩); try refine y_move ?_; try refine y_extract ?_; try refine y_extract ?_; try refine y_assign ?_; try refine y_assign ?_) | (refine sy_region (id := 19) ?_; try refine y_move ?_; try refine yv (op_loads (B := natC a)) (k := ?_); try (refine ys (op_call0 (f := 104) (hc := fun w' X hk hh => hSb w' hk)) (k := ?_); rintro _ _ ⟨R, rfl, aS, cS, rfl, rfl⟩); try refine y_move ?_; try refine y_extract ?_; try refine y_extract ?_; try refine y_assign ?_; try refine y_assign ?_) | (refine sy_region (id := 20) ?_; try refine y_move ?_; try refine y_move ?_; try refine yv (op_callV (f := 83) (hc := fun w' X hk hh => hEl w' _ _ hk (row_cs hh (by exact Has.append (by repeat (first | exact Has.here | apply Has.there)))))) (k := ?_); try refine y_move ?_; try refine y_extract ?_; try refine y_extract ?_; try (refine y_new ?_; intro _); try refine yn (op_storeNat (n := A)) (k := ?_); try refine y_assign ?_) | (refine sy_region (id := 21) ?_; try refine y_move ?_; try refine y_move ?_; try refine yv (op_callV (f := 105) (hc := fun w' X hk hh => hNu w' _ _ hk (row_cs hh (by exact Has.append (by repeat (first | exact Has.here | apply Has.there)))))) (k := ?_); try refine y_move ?_; try refine y_extract ?_; try refine y_extract ?_; try (refine y_new ?_; intro _); try refine yn (op_storeNat (n := a)) (k := ?_); try refine y_assign ?_) | (refine sy_region (id := 22) ?_; try refine y_move ?_; try refine y_eql ?_; try refine y_move ?_; try refine y_move ?_; try refine y_eql ?_; try refine y_pick ?_; try refine y_move ?_; try refine y_move ?_; try refine y_eql ?_; try refine y_pick ?_; try refine y_move ?_; try refine y_move ?_; try refine y_eql ?_; try refine y_pick ?_; try refine y_move ?_; try refine y_move ?_; try refine y_len ?_; try refine y_move ?_; try refine yv (op_callV (f := 95) (hc := fun w' _ hk _ => hLe w' hk)) (k := ?_); try refine yv (op_eql (hr := hLL)) (k := ?_); try refine y_pick ?_; try refine y_move ?_; try refine y_move ?_; try refine y_len ?_; try refine y_move ?_; try refine yv (op_callV (f := 95) (hc := fun w' _ hk _ => hLe w' hk)) (k := ?_); try refine yv (op_eql (hr := hLL)) (k := ?_); try refine y_pick ?_; try refine y_move ?_; try refine yv (op_loads (B := natC A)) (k := ?_); try refine yv (op_loads (B := natC A)) (k := ?_); try refine yv (op_eqNat (a := A) (b := A) (r := true) natTy hAW hAW (by simp)) (k := ?_); try refine y_pick ?_; try refine y_move ?_; try refine yv (op_loads (B := natC a)) (k := ?_); try refine yv (op_loads (B := natC a)) (k := ?_); try refine yv (op_eqNat (a := a) (b := a) (r := true) natTy haW haW (by simp)) (k := ?_); try refine y_pick ?_; try refine y_move ?_; try refine yv (op_callV (f := 76) (hc := fun w' _ hk _ => known3_fn w' (hG.to hk))) (k := ?_); try refine y_pick ?_; try refine y_assign ?_) | refine sy_region ?_ | fail)
  exact ret1 rfl (resTmp rfl) SubR.nil ⟨rfl, rfl⟩
end Go.Proofs.YtkipmhcmdejcfaaDoor
