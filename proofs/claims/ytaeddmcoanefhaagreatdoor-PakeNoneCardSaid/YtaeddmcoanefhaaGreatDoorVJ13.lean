/- The iterator over the bits that are 1. -/
import Derived.Test.YtaeddmcoanefhaaGreatDoorVJ11
import Derived.Test.YtaeddmcoanefhaaGreatDoorVJ06
import Derived.Test.YtaeddmcoanefhaaGreatDoorVJ12
set_option linter.all false
section
namespace Go.Nt
open Go Go.Sy
def ArgN (_ : Nat → Prop) (x : Nat) (vs : List Value) (RA : List Res) (_ : World) : Prop := vs = [.int .i64 ((x : Nat) : Int)] ∧ RA = []
theorem nd_high (r i low : Nat) (hr : 0 < r) (hl : low < 18446744073709551616 ^ i) : nd 2 (r * 18446744073709551616 ^ i + low) = 64 * i + nd 2 r := by
  rw [wpow] at hl ⊢
  have hp : 0 < 2 ^ (64 * i) := Nat.pow_pos (by decide)
  have h1 : 2 ^ (64 * i) ≤ r * 2 ^ (64 * i) := Nat.le_mul_of_pos_left _ hr
  have h2 := nd_div 2 (r * 2 ^ (64 * i) + low) (64 * i) (by decide) (by omega)
  rw [h2, Nat.mul_comm r, Nat.mul_add_div hp, Nat.div_eq_of_lt hl, Nat.add_zero]
end Go.Nt
namespace Go.Proofs.YtaeddmcoanefhaaGreatDoor
open Go Go.Sy Go.Nt Go.RowKit
attribute [local irreducible] Sy SyL SyX Sy.Fn callFunc natC
set_option maxRecDepth 10000
theorem ones_fn (x : Nat) (w : World) :
    Sy.Fn Tryz.prog 86 [natV x] w No (fun v R => ∃ b, v = .func (.func 113) #[] #[.pointer (some ⟨b, 0, none⟩)] ∧ R = [.blk b 44 (natC x)]) := by
  refine fn_enter Tryz.func86 rfl Tryz.ntmps86 (by simp) Holds.nil ?_
  have hlx := natC_len x
  repeat' (first | refine sy_seqC ?_ | refine syl_nil ?_ | refine sy_ret ?_ | refine syx_then ?_ | refine syx_go ?_ | (refine sy_region (id := 0) ?_; (refine y_new ?_; intro _); refine y_assign ?_) | (refine sy_region (id := 1) ?_; refine y_makeFunc ?_; refine y_assign ?_) | fail)
  rename_i b
  exact ret1 rfl (resTmp rfl) (by exact SubR.go) ⟨b, rfl, rfl⟩
set_option maxHeartbeats 1000000 in
theorem ones1_it (b1 x : Nat) (w : World) (M : Nat → Prop) (hx : x < 18446744073709551616 ^ 16) :
    IterC Tryz.prog 113 [.pointer (some ⟨b1, 0, none⟩)] (ones x) ArgN w M [.blk b1 44 (natC x)] := by
  intro l J Jx j0 hJ0 hh hY
  refine fn_enter Tryz.func113 rfl Tryz.ntmps113 (by simp) hh ?_
  have hlx := natC_len x
  have hgx := natC_get x
  repeat' (first | refine sy_seqC ?_ | refine syl_nil ?_ | refine sy_block ?_ | refine syx_then ?_ | refine syx_go ?_ | (refine sy_region (id := 0) ?_; refine y_assign ?_) | fail)
  refine sy_loop (γ := Nat × Nat × Res) (fun g => [(0, .func (.yield l) #[] #[]), (1, .pointer (some ⟨b1, 0, none⟩)), (3, .int .i64 ((g.1 : Int) - 1))])
    (fun g => [g.2.2, .blk b1 44 (natC x)])
    (fun g => g.1 ≤ 16 ∧ g.2.1 ≤ (ones x).length ∧ left g.2.1 x = x % 18446744073709551616 ^ g.1 ∧ J g.2.1 g.2.2)
    (fun g => g.1) (16, 0, j0) ⟨Nat.le_refl _, Nat.zero_le _, (Nat.mod_eq_of_lt hx).symm, hJ0⟩ ?_ ?_ ?_
  · exact Sub.go
  · exact SubR.go
  rintro ⟨i, k, j⟩ ⟨hi, hk, hlf, hJ⟩
  dsimp only at hi hk hlf hJ ⊢
  rcases Nat.eq_zero_or_pos i with h0 | h0
  · subst h0
    rw [Nat.pow_zero, Nat.mod_one] at hlf
    have hke : k = (ones x).length := by
      rcases Nat.lt_or_ge k (ones x).length with h | h
      · have := (left_get h).1; omega
      · omega
    subst hke
    repeat' (first | refine sy_seqC ?_ | refine syl_nil ?_ | refine sy_if_f rfl ?_ | refine sy_exit ?_ | refine syx_then ?_ | refine syx_go ?_ | refine syx_then_exit ?_ | refine syx_in_here ?_ | (refine sy_region (id := 1) ?_; refine y_move ?_; refine y_geq ?_) | fail)
    exact end0 rfl (by exact SubR.go) ⟨j, rfl, .inl hJ⟩
  obtain ⟨i, rfl⟩ : ∃ i', i = i' + 1 := ⟨i - 1, by omega⟩
  have hij : (((i + 1 : Nat) : Int) - 1) = ((i : Nat) : Int) := by omega
  have hs1 : IntKind.i64.wrap ((i : Int) - 1) = (i : Int) - 1 := IntWalk.i64_in _ (by omega)
  rw [hij]
  have hd := hgx i (by omega)
  rw [mod_succ] at hlf
  have hdl : x / 18446744073709551616 ^ i % 18446744073709551616 < 18446744073709551616 := Nat.mod_lt _ (by decide)
  have hlow : x % 18446744073709551616 ^ i < 18446744073709551616 ^ i := Nat.mod_lt _ (Nat.pow_pos (by decide))
  generalize x / 18446744073709551616 ^ i % 18446744073709551616 = d at *
  repeat' (first | refine sy_seqC ?_ | refine syl_nil ?_ | refine sy_if_t rfl ?_ | refine sy_block ?_ | refine sy_skip ?_ | refine syx_then ?_ | refine syx_go ?_ | (refine sy_region (id := 1) ?_; refine y_move ?_; refine y_geq ?_) | (refine sy_region (id := 3) ?_; refine y_move ?_; refine y_fieldAddr ?_; refine y_indexAddr ?_; refine yv (op_load (hv := hd)) (k := ?_); refine y_assign ?_) | fail)
  refine sy_loop (γ := Nat × Nat × Res) (fun g => [(0, .func (.yield l) #[] #[]), (1, .pointer (some ⟨b1, 0, none⟩)), (3, .int .i64 i), (4, nv g.1)])
    (fun g => [g.2.2, .blk b1 44 (natC x)])
    (fun g => g.1 < 18446744073709551616 ∧ g.2.1 ≤ (ones x).length ∧ left g.2.1 x = x % 18446744073709551616 ^ i + g.1 * 18446744073709551616 ^ i ∧ J g.2.1 g.2.2)
    (fun g => g.1) (d, k, j) ⟨hdl, hk, hlf, hJ⟩ ?_ ?_ ?_
  · exact Sub.go
  · exact SubR.go
  clear hlf hJ hk hd hdl
  rintro ⟨r, k, j⟩ ⟨hr, hk, hlf, hJ⟩
  dsimp only at hr hk hlf hJ ⊢
  rcases Nat.eq_zero_or_pos r with h0 | h0
  · subst h0
    rw [Nat.zero_mul, Nat.add_zero] at hlf
    repeat' (first | refine sy_seqC ?_ | refine syl_nil ?_ | refine sy_if_f rfl ?_ | refine sy_exit ?_ | refine syx_then ?_ | refine syx_go ?_ | (refine sy_region (id := 4) ?_; refine y_move ?_; refine y_neq ?_) | (refine sy_region (id := 2) ?_; refine y_move ?_; refine yv (op_sub (hr := hs1)) (k := ?_); refine y_assign ?_) | fail)
    refine syx_back (i, k, j) ⟨by show i ≤ 16; omega, hk, hlf, hJ⟩ ?_ ?_ ?_
    · show i < i + 1; omega
    · exact Sub.go
    · exact SubR.go
  obtain ⟨hn0, hn1, hn2⟩ := top_le r h0
  have hn64 := nd_le 2 r 64 (by decide) hr
  have hnd := nd_high r i _ h0 hlow
  rw [Nat.add_comm, ← hlf] at hnd
  have hlen := fun w => len64_fn r w hr
  have hpos : 0 < left k x := by
    have : 18446744073709551616 ^ i ≤ r * 18446744073709551616 ^ i := Nat.le_mul_of_pos_left _ h0
    have : 0 < 18446744073709551616 ^ i := Nat.pow_pos (by decide)
    omega
  have hkx := left_more hk hpos
  have hxk := (left_get hkx).2
  have hls := left_succ k x
  rw [hnd] at hxk hls
  generalize nd 2 r = m at *
  obtain ⟨q, rfl⟩ : ∃ q, m = q + 1 := ⟨m - 1, by omega⟩
  obtain ⟨r', rfl⟩ : ∃ r', r = 2 ^ q + r' := ⟨r - 2 ^ q, by rw [Nat.add_sub_cancel] at hn1; omega⟩
  have hr' : r' < 2 ^ q := by rw [Nat.pow_succ] at hn2; omega
  have hxk : (ones x)[k] = 64 * i + q := by rw [hxk]; omega
  have hls : left (k + 1) x = x % 18446744073709551616 ^ i + r' * 18446744073709551616 ^ i := by
    rw [hls, hlf, show 64 * i + (q + 1) - 1 = 64 * i + q by omega, Nat.pow_add, ← wpow, Nat.add_mul, Nat.mul_comm (2 ^ q)]
    omega
  have hs2 : IntKind.i64.wrap (((q + 1 : Nat) : Int) - 1) = ((q : Nat) : Int) := by rw [IntWalk.i64_in _ (by omega)]; omega
  have hm1 : IntKind.i64.wrap (64 * (i : Int)) = ((64 * i : Nat) : Int) := by rw [IntWalk.i64_in _ (by omega)]; omega
  have ha1 : IntKind.i64.wrap (((64 * i : Nat) : Int) + (q : Int)) = ((64 * i + q : Nat) : Int) := by rw [IntWalk.i64_in _ (by omega)]; omega
  have hnz : decide (((2 ^ q + r' : Nat) : Int) ≠ 0) = true := decide_eq_true (by
    have : 0 < 2 ^ q := Nat.pow_pos (by decide)
    omega)
  have hp0 : 0 < 2 ^ q := Nat.pow_pos (by decide)
  repeat' (first | refine sy_seqC ?_ | refine syl_nil ?_ | refine sy_if_t rfl ?_ | refine sy_block ?_ | refine sy_skip ?_ | refine syx_then ?_ | refine syx_go ?_ | (refine sy_region (id := 4) ?_; refine y_move ?_; refine yv (op_neq (hr := hnz)) (k := ?_)) | (refine sy_region (id := 5) ?_; refine y_move ?_; refine yv (op_callV (hc := fun _ _ _ _ => (hlen _))) (k := ?_); refine yv (op_sub (hr := hs2)) (k := ?_); refine y_assign ?_) | (refine sy_region (id := 6) ?_; refine y_move ?_; refine y_move ?_; refine yv (op_mul (hr := hm1)) (k := ?_); refine y_move ?_; refine yv (op_add (hr := ha1)) (k := ?_); (refine ys (op_yield hY hkx hJ (hL := RemL.cons (by exact Rem.here) rfl RemL.nil) (harg := fun w' X hk hh' => ⟨by rw [hxk], rfl⟩)) (k := ?_); rintro _ _ ⟨y, j', rfl, rfl, hy⟩); refine y_unOp ?_) | fail)
  cases y with
  | false =>
    repeat' (first | refine sy_if_t rfl ?_ | refine sy_ret ?_ | refine syx_then_ret ?_ | refine syx_in_ret ?_ | fail)
    exact ret0 rfl (by exact SubR.go) ⟨j', rfl, .inr ⟨k + 1, by omega, hy⟩⟩
  | true =>
    repeat' (first | refine syl_nil ?_ | refine sy_if_f rfl ?_ | refine sy_skip ?_ | refine syx_then ?_ | refine syx_go ?_ | refine syx_in ?_ | (refine sy_region (id := 7) ?_; refine y_move ?_; refine y_move ?_; refine yv (op_bitN (n := q) (by omega)) (k := ?_); refine yv (op_clearN (r := r') (k := q) (by omega) hr') (k := ?_); refine y_assign ?_) | fail)
    refine syx_back (r', k + 1, j') ⟨by show r' < _; omega, by show k + 1 ≤ _; omega, hls, hy⟩ ?_ ?_ ?_
    · show r' < 2 ^ q + r'; omega
    · exact Sub.go
    · exact SubR.go
end Go.Proofs.YtaeddmcoanefhaaGreatDoor
namespace Go.Nt
open Go Go.Sy
theorem put_bit (A p : Nat) :
    A * 2 ^ (p + 1) / 18446744073709551616 ^ (p / 64) % 18446744073709551616 < 18446744073709551616 ∧
    2 ^ (p % 64) < 18446744073709551616 ∧
    (A * 2 ^ (p + 1) / 18446744073709551616 ^ (p / 64) % 18446744073709551616 ||| 2 ^ (p % 64)) = A * 2 ^ (p + 1) / 18446744073709551616 ^ (p / 64) % 18446744073709551616 + 2 ^ (p % 64) ∧
    A * 2 ^ (p + 1) / 18446744073709551616 ^ (p / 64) % 18446744073709551616 + 2 ^ (p % 64) < 18446744073709551616 ∧
    A * 2 ^ (p + 1) + 2 ^ (p % 64) * 18446744073709551616 ^ (p / 64) = (A * 2 + 1) * 2 ^ p := by
  have h := put_word 1 64 A p 1 rfl (by decide) (by decide)
  rw [show (2 : Nat) ^ 1 = 2 from rfl, Nat.mul_one, Nat.one_mul] at h
  exact ⟨h.1, h.2.2.1, h.2.2.2.1, h.2.2.2.2.1, h.2.2.2.2.2⟩
end Go.Nt
namespace Go.Proofs.YtaeddmcoanefhaaGreatDoor
open Go Go.Sy Go.Nt Go.RowKit
attribute [local irreducible] Sy SyL SyX Sy.Fn callFunc natC
set_option maxRecDepth 10000
set_option maxHeartbeats 1000000 in
theorem shr_fn (x n : Nat) (w : World) (hx : x < 18446744073709551616 ^ 16) (hn : n < 9223372036854775808) :
    Sy.Fn Tryz.prog 63 [natV x, .int .i64 n] w No (Gives (.tuple #[natV (x / 2 ^ n), .int .i64 0])) := by
  refine fn_enter Tryz.func63 rfl Tryz.ntmps63 (by simp) Holds.nil ?_
  have hlx := natC_len x
  have hpn : 0 < 2 ^ n := Nat.pow_pos (by decide)
  repeat' (first | refine sy_seqC ?_ | refine syl_nil ?_ | refine sy_if_f rfl ?_ | refine sy_skip ?_ | refine syx_then ?_ | refine syx_go ?_ | (refine sy_region (id := 0) ?_; (refine y_new ?_; intro _); (refine y_new ?_; intro _); (refine y_new ?_; intro _); refine y_assign ?_) | (refine sy_region (id := 1) ?_; refine y_load ?_; refine y_lss ?_) | (refine sy_region (id := 3) ?_; (refine y_new ?_; intro _)) | (refine sy_region (id := 4) ?_; refine y_load ?_) | fail)
  rename_i b2 b3 b4 b6
  refine ys (op_call0 (hc := fun w' X hk hh => ones_fn x w')) (k := ?_)
  rintro _ _ ⟨R, rfl, b, rfl, rfl⟩
  repeat' (first | refine syl_nil ?_ | refine sy_block ?_ | refine syx_then ?_ | refine syx_go ?_ | fail)
  refine sy_range (γ := Nat) (xs := ones x) (Arg := ArgN) entered_outer rfl (en rfl) rfl (fun k s => s * 2 ^ n + left k x = x) (fun c k s => c = .exit 0 ∧ s = x / 2 ^ n)
    (fun s => [.blk b6 44 (natC s), .blk b3 3 [.int .i64 n]])
    [.blk b 44 (natC x)] [.blk b4 44 (List.replicate 16 (Value.int IntKind.u64 0)), .blk b2 44 (natC x)] 0 (by rw [show left 0 x = x from rfl, Nat.zero_mul, Nat.zero_add]) ?_ ?_ ?_ ?_ ?_ ?_
  · rw [show natC 0 = List.replicate 16 (Value.int IntKind.u64 0) from natC0.symm]
    ((try simp only [List.cons_append, List.nil_append, List.append_nil]); (repeat' (first | exact List.Perm.nil | exact List.Perm.refl _ | (apply permr; with_reducible (focus ((repeat (first | exact Rem.here | apply Rem.there)); done))) | (apply permr; (focus ((repeat (first | exact Rem.here | apply Rem.there)); done))))))
  · exact fun w' Mi X hk hm _ _ => ones1_it b x w' Mi hx
  · rintro O x vs RA w' ⟨rfl, _⟩; rfl
  · rintro lp k hk s vs RA W rec hrec hI ⟨rfl, rfl⟩ hkW hmine
    clear hmine
    obtain ⟨hpos, hxk⟩ := left_get hk
    obtain ⟨hm0, hm1, hm2⟩ := top_le _ hpos
    have hhi := left_high k x (by omega)
    have hls := left_succ k x
    have hle := left_le k x (by omega)
    have hlN := natC_len s
    generalize left k x = y at *
    generalize nd 2 y = m at *
    obtain ⟨i, rfl⟩ : ∃ i, m = i + 1 := ⟨m - 1, by omega⟩
    rw [Nat.add_sub_cancel] at hxk hm1 hls
    have hi : i < 1024 := w_exp (Nat.le_trans hm1 hle) hx
    rw [hxk]
    by_cases hb : i < n
    · repeat' (first | refine sy_seqC ?_ | refine syl_nil ?_ | refine sy_if_t rfl ?_ | refine sy_block ?_ | refine sy_exit ?_ | refine syx_then ?_ | refine syx_go ?_ | refine syx_then_exit ?_ | refine syx_in_past rfl ?_ | (apply syx_begin; (focus ((repeat (first | exact Rem.here | apply Rem.there)); done)); assumption) | (refine sy_region (id := 5) ?_; refine y_assign ?_) | (refine sy_region (id := 6) ?_; refine y_move ?_; refine y_load ?_; refine y_lss ?_) | fail)
      refine syx_rnd_exit s ⟨rfl, ?_⟩ ?_
      · have h1 : y < 2 ^ n := Nat.lt_of_lt_of_le hm2 (Nat.pow_le_pow_right (by decide) hb)
        rw [← hI, Nat.mul_comm, Nat.mul_add_div hpn, Nat.div_eq_of_lt h1, Nat.add_zero]
      · exact SubR.go
    · obtain ⟨p, hp⟩ : ∃ p, p = i - n := ⟨_, rfl⟩
      have e0 : s = x / 2 ^ (i + 1) * 2 ^ (p + 1) := by
        refine Nat.eq_of_mul_eq_mul_right hpn ?_
        rw [Nat.mul_assoc, ← Nat.pow_add, show p + 1 + n = i + 1 by omega, ← hhi]
        omega
      obtain ⟨e1, e2, e3, e4, e5⟩ := put_bit (x / 2 ^ (i + 1)) p
      have hd := natC_get s (p / 64) (by omega)
      have hset := natC_set s (p / 64) (2 ^ (p % 64))
      have hnew : (x / 2 ^ (i + 1) * 2 + 1) * 2 ^ p = s + 2 ^ p := by
        rw [e0]
        generalize x / 2 ^ (i + 1) = A at *
        rw [Nat.add_mul, Nat.pow_succ, Nat.one_mul]
        congr 1
        ac_rfl
      have hI' : (s + 2 ^ p) * 2 ^ n + left (k + 1) x = x := by
        rw [Nat.add_mul, ← Nat.pow_add, show p + n = i by omega, hls]
        omega
      rw [← e0] at e1 e3 e4 e5
      rw [e5, hnew] at hset
      have hset := hset e4
      rw [← e3] at hset
      generalize s / 18446744073709551616 ^ (p / 64) % 18446744073709551616 = d at *
      have ha : IntKind.i64.wrap ((i : Int) - (n : Int)) = ((p : Nat) : Int) := by rw [IntWalk.i64_in _ (by omega)]; omega
      have q1 : IntKind.i64.wrap ((p : Int).tdiv 64) = ((p / 64 : Nat) : Int) := quoI (k := 64) (by omega)
      have q2 : (p : Int).tmod 64 = ((p % 64 : Nat) : Int) := remI p 64
      have hp16 : p / 64 < 16 := by omega
      repeat' (first | refine sy_seqC ?_ | refine syl_nil ?_ | refine sy_if_f rfl ?_ | refine sy_block ?_ | refine sy_skip ?_ | refine syx_then ?_ | refine syx_go ?_ | refine syx_in ?_ | (apply syx_begin; (focus ((repeat (first | exact Rem.here | apply Rem.there)); done)); assumption) | (refine sy_region (id := 5) ?_; refine y_assign ?_) | (refine sy_region (id := 6) ?_; refine y_move ?_; refine y_load ?_; refine y_lss ?_) | (refine sy_draw (id := 7) 14 [[], [], [0, 1], [0, 1, 2], [], [0, 1, 2, 3, 4], [0, 1, 2, 3, 4, 5], [], [], [7, 8], [7, 8, 9], [7, 8, 9, 10], [0, 1, 2, 3, 4, 5, 6, 7, 8, 9, 10, 11], [], [0, 1, 2, 3, 4, 5, 6, 7, 8, 9, 10, 11, 12, 13], [0, 1, 2, 3, 4, 5, 6, 7, 8, 9, 10, 11, 12, 13, 14]] mixed ?_ ?_; kernel_rfl; refine d_move ?_; refine d_load ?_; refine dc (fun _ _ => op_sub (hr := ha)) (k := ?_); refine dc (fun _ _ => op_quo (hr := q1)) (k := ?_); refine d_fieldAddr ?_; refine d_indexAddr ?_; refine dc (fun _ _ => op_load (hv := hd)) (k := ?_); refine d_move ?_; refine d_load ?_; refine dc (fun _ _ => op_sub (hr := ha)) (k := ?_); refine dc (fun _ _ => op_rem (hr := q2)) (k := ?_); refine dc (fun _ _ => op_bitN (n := p % 64) (Nat.mod_lt _ (by decide))) (k := ?_); refine dc (fun _ _ => op_orN (a := d) (b := 2 ^ (p % 64)) e1 e2) (k := ?_); refine d_fieldAddr ?_; refine dh_0n ?_; refine y_indexAddr ?_; refine y_store ?_) | fail)
      refine syx_rnd (s + 2 ^ p) hI' ?_
      rw [← hset]
      exact SubR.go
  · intro s hI
    rw [left_end, Nat.add_zero] at hI
    have hI : s = x / 2 ^ n := by rw [← hI, Nat.mul_div_cancel _ hpn]
    subst hI
    have hlN := natC_len (x / 2 ^ n)
    generalize x / 2 ^ n = X at *
    repeat' (first | refine sy_seqC ?_ | refine syl_nil ?_ | refine sy_ret ?_ | refine syx_then ?_ | refine syx_go ?_ | (refine sy_region (id := 8) ?_; refine yv (op_loads (B := natC X)) (k := ?_); refine yn (op_storeNat (n := X)) (k := ?_); refine y_assign ?_) | fail)
    exact ret2 rfl (resCells (B := natC X) rfl (ty rfl) rfl Has.go Seg.all (natC_len _).symm) (resTmp rfl) SubR.nil ⟨rfl, rfl⟩
  · rintro _ k s hk ⟨rfl, rfl⟩
    have hlN := natC_len (x / 2 ^ n)
    generalize x / 2 ^ n = X at *
    repeat' (first | refine sy_seqC ?_ | refine syl_nil ?_ | refine sy_ret ?_ | refine sy_exit ?_ | refine syx_then ?_ | refine syx_go ?_ | (refine sy_region (id := 8) ?_; refine yv (op_loads (B := natC X)) (k := ?_); refine yn (op_storeNat (n := X)) (k := ?_); refine y_assign ?_) | fail)
    exact ret2 rfl (resCells (B := natC X) rfl (ty rfl) rfl Has.go Seg.all (natC_len _).symm) (resTmp rfl) SubR.nil ⟨rfl, rfl⟩
end Go.Proofs.YtaeddmcoanefhaaGreatDoor
end
