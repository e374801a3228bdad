/- Bytes and strings of numbers. -/
import Derived.Test.YtaeddmcoanefhaaGreatDoorVJ12
set_option linter.all false
section
namespace Go.Nt
open Go Go.Sy
def byt (x : Nat) : List UInt8 := (be 256 x).map UInt8.ofNat
theorem byt_len (x : Nat) : (byt x).length = nd 256 x := by unfold byt; rw [List.length_map, be_len]
theorem be_low (b x : Nat) (hb : 0 < b) : ∀ d ∈ be b x, d < b := by
  intro d hd
  unfold be cd at hd
  exact dg_lt b hb _ _ d (List.mem_reverse.1 hd)
theorem bn_byt (x : Nat) : bn (byt x) = be 256 x := by
  unfold bn byt
  rw [List.map_map]
  refine (List.map_congr_left fun d hd => ?_).trans (List.map_id _)
  have := be_low 256 x (by decide) d hd
  show (UInt8.ofNat d).toNat = d
  rw [UInt8.toNat_ofNat']; omega
theorem bev_byt (x : Nat) : bev 256 (bn (byt x)) = x := by rw [bn_byt, bev_be 256 x (by decide)]
def hexv (u : UInt8) : Option Nat := if 48 ≤ u.toNat ∧ u.toNat ≤ 57 then some (u.toNat - 48) else if 97 ≤ u.toNat ∧ u.toNat ≤ 102 then some (u.toNat - 87) else none
theorem take_set {α : Type} (l : List α) (z u : α) (n i : Nat) (h : l[i]? = some u) (hi : i < n) (hl : l.length = n) :
    (l.take i ++ List.replicate (n - i) z).set i u = l.take (i + 1) ++ List.replicate (n - (i + 1)) z := by
  have h1 : (l.take i).length = i := by rw [List.length_take]; omega
  rw [List.set_append_right _ _ (by omega), h1, Nat.sub_self, show n - i = (n - (i + 1)) + 1 by omega, List.replicate_succ, List.set_cons_zero, List.take_succ, h]
  simp
theorem place_digit (t k x p : Nat) (hW : t * k = 64) (hk : 0 < k) : x / 18446744073709551616 ^ (p / k) % 18446744073709551616 / 2 ^ (p % k * t) % 2 ^ t = x / (2 ^ t) ^ p % 2 ^ t := by
  have h := digit_of (2 ^ t) k x (p / k) (p % k) (Nat.mod_lt _ hk)
  rw [Nat.div_add_mod, ← Nat.pow_mul 2 t k, hW, ← Nat.pow_mul 2 t (p % k), Nat.mul_comm t (p % k)] at h
  exact h
end Go.Nt
namespace Go.Proofs.YtaeddmcoanefhaaGreatDoor
open Go Go.Sy Go.Nt Go.RowKit
attribute [local irreducible] Sy SyL SyX Sy.Fn callFunc natC
set_option maxRecDepth 10000
theorem bytes_fn (x : Nat) (w : World) (hx : x < 18446744073709551616 ^ 16) :
    Sy.Fn Tryz.prog 121 [natV x] w No (fun v R => ∃ b, v = .slice (some ⟨b, 0, none⟩) (nd 256 x) (nd 256 x) ∧ R = [.blk b 5 ((byt x).map v8)]) := by
  refine fn_enter Tryz.func121 rfl Tryz.ntmps121 (by simp) Holds.nil ?_
  have hlx := natC_len x
  have hgx := natC_get x
  have hnp := nd_pow 8 x (by decide)
  rw [show (2 : Nat) ^ 8 = 256 from rfl] at hnp
  have hm : nd 2 x ≤ 1024 := nd2_W hx
  have hbl := byt_len x
  have hbg := be_get 256 x
  have hq0 : IntKind.i64.wrap (((nd 2 x : Nat) : Int) + 7) = ((nd 2 x + 7 : Nat) : Int) := by rw [IntWalk.i64_in _ (by omega)]; omega
  have hq : IntKind.i64.wrap ((((nd 2 x + 7 : Nat) : Int)).tdiv 8) = ((nd 256 x : Nat) : Int) := by rw [hnp]; exact quoI (k := 8) (by omega)
  have hn : nd 256 x ≤ 128 := by omega
  have hbit := fun w => bitLen_fn x w hx
  generalize nd 2 x = m at *
  generalize nd 256 x = n at *
  repeat' (first | refine sy_seqC ?_ | refine syl_nil ?_ | refine sy_block ?_ | refine syx_then ?_ | refine syx_go ?_ | (refine sy_region (id := 0) ?_; (refine y_new ?_; intro _); refine y_assign ?_) | (refine sy_region (id := 1) ?_; refine y_load ?_; refine yv (op_callV (hc := fun _ _ _ _ => (hbit _))) (k := ?_); refine yv (op_add (hr := hq0)) (k := ?_); refine yv (op_quo (hr := hq)) (k := ?_)) | (refine sy_region (id := 2) ?_; refine y_move ?_; refine y_len ?_; refine y_move ?_) | (refine ys op_makeB (k := ?_); rintro _ _ ⟨b3, rfl, rfl⟩) | (refine syl_id ?_; first | refine y_assign ?_ | fail) | fail)
  rename_i b1
  refine sy_loop (γ := Nat) (fun i => [(1, .pointer (some ⟨b1, 0, none⟩)), (3, .slice (some ⟨b3, 0, none⟩) n n), (11, .slice (some ⟨b3, 0, none⟩) n n), (12, .int .i64 n), (13, .int .i64 i)])
    (fun i => [.blk b3 5 (((byt x).take i ++ List.replicate (n - i) 0).map v8), .blk b1 44 (natC x)])
    (fun i => i ≤ n) (fun i => n - i) 0 (Nat.zero_le _) ?_ ?_ ?_
  · exact Sub.go
  · show SubR [.blk b3 5 (((byt x).take 0 ++ List.replicate (n - 0) 0).map v8), .blk b1 44 (natC x)] _
    rw [List.take_zero, List.nil_append, List.map_replicate, Nat.sub_zero, ← v8_zero]
    exact SubR.go
  intro i hi
  by_cases hlt : i < n
  · obtain ⟨p, hp⟩ : ∃ p, p = n - 1 - i := ⟨_, rfl⟩
    have hd := hgx (p / 8) (by omega)
    have hpd := place_digit 8 8 x p rfl (by decide)
    have hbi := hbg i hlt
    rw [← hp] at hbi
    have hu : (byt x)[i]? = some (UInt8.ofNat (x / 256 ^ p % 256)) := by
      unfold byt; rw [List.getElem?_map, hbi]; rfl
    have hset := take_set (byt x) 0 _ n i hu hlt hbl
    have hdl : x / 18446744073709551616 ^ (p / 8) % 18446744073709551616 < 18446744073709551616 := Nat.mod_lt _ (by decide)
    generalize x / 18446744073709551616 ^ (p / 8) % 18446744073709551616 = d at *
    have hml : (((byt x).take i ++ List.replicate (n - i) 0).map v8).length = n := by rw [List.length_map, List.length_append, List.length_take, List.length_replicate]; omega
    have hsub : IntKind.i64.wrap ((n : Int) - 1 - (i : Int)) = ((p : Nat) : Int) := by rw [IntWalk.i64_in _ (by omega)]; omega
    have q1 : IntKind.i64.wrap ((p : Int).tdiv 8) = ((p / 8 : Nat) : Int) := quoI (k := 8) (by omega)
    have q2 : (p : Int).tmod 8 = ((p % 8 : Nat) : Int) := remI p 8
    have q3 : IntKind.i64.wrap (((p % 8 : Nat) : Int) * 8) = ((p % 8 * 8 : Nat) : Int) := by rw [IntWalk.i64_in _ (by omega)]; omega
    have q4 : IntKind.u8.wrap ((d / 2 ^ (p % 8 * 8) : Nat) : Int) = Wd.n8 (UInt8.ofNat (x / 256 ^ p % 256)) := by
      rw [Wd.wrap_u8_nat, Wd.n8_of_nat]
      rw [show (2 : Nat) ^ 8 = 256 from rfl] at hpd
      rw [hpd, Nat.mod_mod]
    have hp8 : p / 8 < 16 := by omega
    generalize UInt8.ofNat (x / 256 ^ p % 256) = u at *
    repeat' (first | refine sy_seqC ?_ | refine syl_nil ?_ | refine sy_if_t rfl ?_ | refine sy_block ?_ | refine sy_skip ?_ | refine syx_then ?_ | refine syx_go ?_ | (refine sy_region (id := 3) ?_; refine y_lss ?_) | (refine sy_region (id := 4) ?_; refine y_move ?_; refine y_assign ?_) | (refine sy_region (id := 5) ?_; refine y_move ?_; refine y_len ?_; refine y_sub ?_; refine y_move ?_; refine yv (op_sub (hr := hsub)) (k := ?_); refine y_assign ?_) | (refine sy_region (id := 6) ?_; refine y_move ?_; refine y_move ?_; refine y_move ?_; refine yv (op_quo (hr := q1)) (k := ?_); refine y_fieldAddr ?_; refine y_indexAddr ?_; refine yv (op_load (hv := hd)) (k := ?_); refine y_move ?_; refine yv (op_rem (hr := q2)) (k := ?_); refine yv (op_mul (hr := q3)) (k := ?_); refine yv (op_shrN64 (a := d) (n := p % 8 * 8) hdl) (k := ?_); refine yv (op_conv (hr := q4)) (k := ?_); refine y_indexAddr ?_; refine y_store ?_) | (refine sy_region (id := 7) ?_; refine y_add ?_; refine y_move ?_) | fail)
    refine syx_back (i + 1) ?_ ?_ ?_ ?_
    · show i + 1 ≤ n; omega
    · show n - (i + 1) < n - i; omega
    · exact Sub.go
    · show SubR [.blk b3 5 (((byt x).take (i + 1) ++ List.replicate (n - (i + 1)) 0).map v8), .blk b1 44 (natC x)] _
      rw [← hset, List.map_set]
      exact SubR.go
  obtain rfl : i = n := by omega
  rw [Nat.sub_self, List.replicate_zero, List.append_nil, ← hbl, List.take_length]
  repeat' (first | refine sy_seqC ?_ | refine syl_nil ?_ | refine sy_if_f rfl ?_ | refine sy_ret ?_ | refine sy_exit ?_ | refine syx_then ?_ | refine syx_go ?_ | (refine sy_region (id := 3) ?_; refine y_lss ?_) | (refine sy_region (id := 8) ?_; refine y_move ?_; refine y_assign ?_) | fail)
  exact ret1 rfl (resTmp rfl) (by exact SubR.go) ⟨b3, rfl, rfl⟩
theorem value_fn (u : UInt8) (w : World) :
    Sy.Fn Tryz.prog 85 [v8 u] w No (Gives (.int .i64 (match hexv u with | some d => ((d : Nat) : Int) | none => -1))) := by
  refine fn_enter Tryz.func85 rfl Tryz.ntmps85 (by simp) Holds.nil ?_
  have hu : (Wd.n8 u) = ((u.toNat : Nat) : Int) := rfl
  have hul := u.toNat_lt
  unfold hexv
  unfold v8
  rw [hu]
  generalize u.toNat = d at *
  by_cases h1 : 48 ≤ d ∧ d ≤ 57
  · rw [if_pos h1]
    repeat' (first | refine sy_seqC ?_ | refine syl_nil ?_ | refine sy_if_t rfl ?_ | refine sy_block ?_ | refine sy_ret ?_ | refine syx_then ?_ | refine syx_go ?_ | refine syx_then_ret ?_ | refine syx_in_ret ?_ | (refine sy_region (id := 0) ?_; refine y_assign ?_) | (refine sy_region (id := 1) ?_; refine y_move ?_; refine y_geq ?_; refine y_move ?_; refine y_move ?_; refine y_leq ?_; refine y_pick ?_; refine y_assign ?_) | (refine sy_region (id := 2) ?_; refine y_move ?_; refine y_sub ?_; refine y_convert ?_; refine y_assign ?_) | fail)
    exact ret1 rfl (resTmp rfl) SubR.nil ⟨congrArg (Value.int .i64) (show (d : Int) - 48 = ((d - 48 : Nat) : Int) by omega), rfl⟩
  · rw [if_neg h1]
    by_cases h2 : 97 ≤ d ∧ d ≤ 102
    · rw [if_pos h2]
      repeat' (first | refine sy_seqC ?_ | refine syl_nil ?_ | refine sy_if_t rfl ?_ | refine sy_if_f rfl ?_ | refine sy_block ?_ | refine sy_ret ?_ | refine syx_then ?_ | refine syx_go ?_ | refine syx_then_ret ?_ | refine syx_in_ret ?_ | (refine sy_region (id := 0) ?_; refine y_assign ?_) | (refine sy_region (id := 1) ?_; refine y_move ?_; refine y_geq ?_; refine y_move ?_; refine y_move ?_; refine y_leq ?_; refine y_pick ?_; refine y_assign ?_) | (refine sy_region (id := 3) ?_; refine y_move ?_; refine y_geq ?_; refine y_move ?_; refine y_move ?_; refine y_leq ?_; refine y_pick ?_; refine y_assign ?_) | (refine sy_region (id := 4) ?_; refine y_move ?_; refine y_sub ?_; refine y_convert ?_; refine y_add ?_; refine y_assign ?_) | fail)
      exact ret1 rfl (resTmp rfl) SubR.nil ⟨congrArg (Value.int .i64) (show (d : Int) - 97 + 10 = ((d - 87 : Nat) : Int) by omega), rfl⟩
    · rw [if_neg h2]
      rcases Nat.lt_or_ge d 48 with h3 | h3
      · repeat' (first | refine sy_seqC ?_ | refine syl_nil ?_ | refine sy_if_f rfl ?_ | refine sy_block ?_ | refine sy_skip ?_ | refine sy_ret ?_ | refine syx_then ?_ | refine syx_go ?_ | (refine sy_region (id := 0) ?_; refine y_assign ?_) | (refine sy_region (id := 1) ?_; refine y_move ?_; refine y_geq ?_; refine y_move ?_; refine syl_skip rfl rfl rfl ?_; refine syl_skip rfl rfl rfl ?_; refine y_pick ?_; refine y_assign ?_) | (refine sy_region (id := 3) ?_; refine y_move ?_; refine y_geq ?_; refine y_move ?_; refine syl_skip rfl rfl rfl ?_; refine syl_skip rfl rfl rfl ?_; refine y_pick ?_; refine y_assign ?_) | (refine sy_region (id := 5) ?_; refine y_assign ?_) | fail)
        exact ret1 rfl (resTmp rfl) SubR.nil ⟨rfl, rfl⟩
      · rcases Nat.lt_or_ge d 97 with h4 | h4
        · repeat' (first | refine sy_seqC ?_ | refine syl_nil ?_ | refine sy_if_f rfl ?_ | refine sy_block ?_ | refine sy_skip ?_ | refine sy_ret ?_ | refine syx_then ?_ | refine syx_go ?_ | (refine sy_region (id := 0) ?_; refine y_assign ?_) | (refine sy_region (id := 1) ?_; refine y_move ?_; refine y_geq ?_; refine y_move ?_; refine y_move ?_; refine y_leq ?_; refine y_pick ?_; refine y_assign ?_) | (refine sy_region (id := 3) ?_; refine y_move ?_; refine y_geq ?_; refine y_move ?_; refine syl_skip rfl rfl rfl ?_; refine syl_skip rfl rfl rfl ?_; refine y_pick ?_; refine y_assign ?_) | (refine sy_region (id := 5) ?_; refine y_assign ?_) | fail)
          exact ret1 rfl (resTmp rfl) SubR.nil ⟨rfl, rfl⟩
        · repeat' (first | refine sy_seqC ?_ | refine syl_nil ?_ | refine sy_if_f rfl ?_ | refine sy_block ?_ | refine sy_skip ?_ | refine sy_ret ?_ | refine syx_then ?_ | refine syx_go ?_ | (refine sy_region (id := 0) ?_; refine y_assign ?_) | (refine sy_region (id := 1) ?_; refine y_move ?_; refine y_geq ?_; refine y_move ?_; refine y_move ?_; refine y_leq ?_; refine y_pick ?_; refine y_assign ?_) | (refine sy_region (id := 3) ?_; refine y_move ?_; refine y_geq ?_; refine y_move ?_; refine y_move ?_; refine y_leq ?_; refine y_pick ?_; refine y_assign ?_) | (refine sy_region (id := 5) ?_; refine y_assign ?_) | fail)
          exact ret1 rfl (resTmp rfl) SubR.nil ⟨rfl, rfl⟩
end Go.Proofs.YtaeddmcoanefhaaGreatDoor
namespace Go.Nt
open Go Go.Sy
def hexs : List UInt8 → Option (List Nat)
  | [] => some []
  | u :: l => match hexv u, hexs l with
    | some d, some r => some (d :: r)
    | _, _ => none
theorem hexv_lt {u : UInt8} {d : Nat} (h : hexv u = some d) : d < 16 := by
  unfold hexv at h
  split at h
  · cases h; omega
  · split at h
    · cases h; omega
    · cases h
theorem hexs_len : ∀ {l : List UInt8} {r : List Nat}, hexs l = some r → r.length = l.length
  | [], _, h => by cases h; rfl
  | u :: l, r, h => by
    unfold hexs at h
    split at h
    · rename_i d r' h1 h2
      cases h
      rw [List.length_cons, List.length_cons, hexs_len h2]
    · cases h
theorem hexs_get : ∀ {l : List UInt8} {r : List Nat}, hexs l = some r → ∀ (i : Nat) (u : UInt8), l[i]? = some u → ∃ d, hexv u = some d ∧ r[i]? = some d
  | [], _, _, i, u, hu => by simp at hu
  | a :: l, r, h, i, u, hu => by
    unfold hexs at h
    split at h
    · rename_i d r' h1 h2
      cases h
      cases i with
      | zero =>
        simp only [List.getElem?_cons_zero, Option.some.injEq] at hu
        subst hu
        exact ⟨d, h1, rfl⟩
      | succ i =>
        rw [List.getElem?_cons_succ] at hu ⊢
        exact hexs_get h2 i u hu
    · cases h
theorem hexs_none : ∀ {l : List UInt8}, hexs l = none → ∃ (i : Nat) (u : UInt8), l[i]? = some u ∧ hexv u = none ∧ ∀ j < i, ∃ v d, l[j]? = some v ∧ hexv v = some d
  | [], h => by cases h
  | a :: l, h => by
    unfold hexs at h
    cases ha : hexv a with
    | none => exact ⟨0, a, rfl, ha, fun j hj => absurd hj (by omega)⟩
    | some d =>
      cases hl : hexs l with
      | some r => rw [ha, hl] at h; cases h
      | none =>
        obtain ⟨i, u, h1, h2, h3⟩ := hexs_none hl
        refine ⟨i + 1, u, h1, h2, fun j hj => ?_⟩
        cases j with
        | zero => exact ⟨a, d, rfl, ha⟩
        | succ j => exact h3 j (by omega)
theorem hexs_lt {l : List UInt8} {r : List Nat} (h : hexs l = some r) : ∀ d ∈ r, d < 16 := by
  intro d hd
  obtain ⟨i, hi⟩ := List.getElem?_of_mem hd
  have hl := hexs_len h
  have hir : i < r.length := by
    rcases Nat.lt_or_ge i r.length with h1 | h1
    · exact h1
    · rw [List.getElem?_eq_none h1] at hi; cases hi
  obtain ⟨d', h1, h2⟩ := hexs_get h i (l[i]'(by omega)) (List.getElem?_eq_getElem _)
  rw [hi] at h2
  cases h2
  exact hexv_lt h1
def badS (l : List UInt8) : Bool := match l with
  | [] => true
  | u :: r => decide (u = 48) && decide (0 < r.length)
def parse (l : List UInt8) : Option Nat := if badS l = true then none else (hexs l).map (bev 16)
theorem w16 : 18446744073709551616 ^ 16 = 16 ^ 256 := w_of 16 4 256 rfl rfl
theorem hexv_zero {u : UInt8} (h : hexv u = some 0) : u = 48 := by
  unfold hexv at h
  split at h
  · have := Option.some.inj h
    exact UInt8.toNat_inj.1 (show u.toNat = 48 by omega)
  · split at h
    · have := Option.some.inj h; omega
    · cases h
theorem hexs_small {l : List UInt8} {r : List Nat} (hb : badS l = false) (h : hexs l = some r) : l.length ≤ 256 ↔ bev 16 r < 18446744073709551616 ^ 16 := by
  rw [w16]
  have hl := hexs_len h
  have hlt := hexs_lt h
  have hbl := bev_lt 16 r hlt
  rw [← hl]
  cases l with
  | nil => cases hb
  | cons u l =>
    obtain ⟨d, h1, h2⟩ := hexs_get h 0 u rfl
    cases r with
    | nil => simp at hl
    | cons e r =>
      simp only [List.getElem?_cons_zero, Option.some.injEq] at h2
      subst h2
      constructor
      · intro hle
        exact Nat.lt_of_lt_of_le hbl (Nat.pow_le_pow_right (by decide) hle)
      · intro hlt'
        rcases Nat.eq_zero_or_pos e with h0 | h0
        · subst h0
          have hu := hexv_zero h1
          simp only [badS, hu, decide_true, Bool.true_and, decide_eq_false_iff_not] at hb
          simp only [List.length_cons] at hl ⊢
          omega
        · have h3 := nd_bev 16 (by decide) e r h0 hlt
          have := nd_le 16 _ 256 (by decide) hlt'
          rw [h3] at this
          exact this
theorem bev_take_succ (b : Nat) (l : List Nat) (i d : Nat) (h : l[i]? = some d) : bev b (l.take (i + 1)) = bev b (l.take i) * b + d := by
  rw [List.take_succ, h]
  exact bev_snoc b _ _
end Go.Nt
namespace Go.Proofs.YtaeddmcoanefhaaGreatDoor
open Go Go.Sy Go.Nt Go.RowKit
attribute [local irreducible] Sy SyL SyX Sy.Fn callFunc natC
set_option maxRecDepth 10000
set_option maxHeartbeats 1000000 in
theorem parse_fn (l : List UInt8) (w : World) (hx : l.length < 4611686018427387904) :
    Sy.Fn Tryz.prog 62 [.string (str l)] w No (Gives (match parse l with
      | none => .tuple #[natV 0, .int .i64 6]
      | some v => if v < 18446744073709551616 ^ 16 then .tuple #[natV v, .int .i64 0] else .tuple #[natV 0, .int .i64 7])) := by
  refine fn_enter Tryz.func62 rfl Tryz.ntmps62 (by simp) Holds.nil ?_
  repeat' (first | refine sy_seqC ?_ | refine syl_nil ?_ | refine syx_then ?_ | refine syx_go ?_ | (refine sy_region (id := 0) ?_; (refine y_new ?_; intro _); refine y_assign ?_) | fail)
  rename_i b2
  refine sy_cut (γ := Unit) (fun _ => [(0, .string (str l)), (2, .pointer (some ⟨b2, 0, none⟩)), (3, .int .i64 0), (19, .bool (badS l))]) (fun _ => [.blk b2 44 (List.replicate 16 (Value.int IntKind.u64 0))]) (fun _ => True) ?_ ?_
  · cases l with
    | nil =>
      rw [show badS [] = true from rfl]
      repeat' (first | refine syl_nil ?_ | refine syx_then ?_ | (refine sy_region (id := 1) ?_; refine y_move ?_; refine yv (op_eqStr (a := []) (b := []) (r := true) (hr := rfl)) (k := ?_); refine y_move ?_; refine syl_skip rfl rfl rfl ?_; refine syl_skip rfl rfl rfl ?_; refine syl_skip rfl rfl rfl ?_; refine syl_skip rfl rfl rfl ?_; refine syl_skip rfl rfl rfl ?_; refine syl_skip rfl rfl rfl ?_; refine syl_skip rfl rfl rfl ?_; refine syl_skip rfl rfl rfl ?_; refine y_pick ?_) | fail)
      exact syx_cut () trivial (by exact Sub.go) (by exact SubR.go)
    | cons u r =>
      have hsz : (str (u :: r)).size = r.length + 1 := rfl
      have hne : decide (u :: r = []) = false := decide_eq_false (by simp)
      by_cases hu : u = 48
      · have h48 : decide (((u.toNat : Nat) : Int) = 48) = true := decide_eq_true (by rw [hu]; rfl)
        by_cases hr : 0 < r.length
        · rw [show badS (u :: r) = true by simp only [badS, hu, decide_true, hr, Bool.and_self]]
          have hg : decide (1 < (((str (u :: r)).size : Nat) : Int)) = true := decide_eq_true (by rw [hsz]; omega)
          repeat' (first | refine syl_nil ?_ | refine syx_then ?_ | (refine sy_region (id := 1) ?_; refine y_move ?_; refine yv (op_eqStr (a := u :: r) (b := []) (r := false) (hr := hne)) (k := ?_); refine y_move ?_; refine y_move ?_; refine yv (op_indexStr (s := str (u :: r)) (u := u) (hv := rfl)) (k := ?_); refine yv (op_eql (hr := h48)) (k := ?_); refine y_move ?_; refine y_move ?_; refine y_len ?_; refine yv (op_gtr (hr := hg)) (k := ?_); refine y_pick ?_; refine y_pick ?_) | fail)
          exact syx_cut () trivial (by exact Sub.go) (by exact SubR.go)
        · rw [show badS (u :: r) = false by simp only [badS, hr, decide_false, Bool.and_false]]
          have hg : decide (1 < (((str (u :: r)).size : Nat) : Int)) = false := decide_eq_false (by rw [hsz]; omega)
          repeat' (first | refine syl_nil ?_ | refine syx_then ?_ | (refine sy_region (id := 1) ?_; refine y_move ?_; refine yv (op_eqStr (a := u :: r) (b := []) (r := false) (hr := hne)) (k := ?_); refine y_move ?_; refine y_move ?_; refine yv (op_indexStr (s := str (u :: r)) (u := u) (hv := rfl)) (k := ?_); refine yv (op_eql (hr := h48)) (k := ?_); refine y_move ?_; refine y_move ?_; refine y_len ?_; refine yv (op_gtr (hr := hg)) (k := ?_); refine y_pick ?_; refine y_pick ?_) | fail)
          exact syx_cut () trivial (by exact Sub.go) (by exact SubR.go)
      · rw [show badS (u :: r) = false by simp only [badS, hu, decide_false, Bool.false_and]]
        have h48 : decide (((u.toNat : Nat) : Int) = 48) = false := decide_eq_false (fun h => hu (UInt8.toNat_inj.1 (show u.toNat = 48 by omega)))
        repeat' (first | refine syl_nil ?_ | refine syx_then ?_ | (refine sy_region (id := 1) ?_; refine y_move ?_; refine yv (op_eqStr (a := u :: r) (b := []) (r := false) (hr := hne)) (k := ?_); refine y_move ?_; refine y_move ?_; refine yv (op_indexStr (s := str (u :: r)) (u := u) (hv := rfl)) (k := ?_); refine yv (op_eql (hr := h48)) (k := ?_); refine y_move ?_; refine syl_skip rfl rfl rfl ?_; refine syl_skip rfl rfl rfl ?_; refine syl_skip rfl rfl rfl ?_; refine y_pick ?_; refine y_pick ?_) | fail)
        exact syx_cut () trivial (by exact Sub.go) (by exact SubR.go)
  rintro - -
  unfold parse
  cases hb : badS l with
  | true =>
    rw [if_pos rfl]
    repeat' (first | refine sy_seqC ?_ | refine syl_nil ?_ | refine sy_if_t rfl ?_ | refine sy_ret ?_ | refine syx_then ?_ | refine syx_go ?_ | refine syx_then_ret ?_ | (refine sy_region (id := 2) ?_; refine y_build ?_; refine y_store ?_; refine y_assign ?_) | fail)
    exact ret2 rfl (resCells (B := List.replicate 16 (Value.int IntKind.u64 0)) rfl (ty rfl) rfl Has.go Seg.all rfl) (resTmp rfl) SubR.nil ⟨by rw [← natV0], rfl⟩
  | false =>
  rw [if_neg (by decide)]
  repeat' (first | refine sy_seqC ?_ | refine syl_nil ?_ | refine sy_if_f rfl ?_ | refine sy_block ?_ | refine sy_skip ?_ | refine syx_then ?_ | refine syx_go ?_ | (refine sy_region (id := 3) ?_; refine y_move ?_; refine y_len ?_; refine y_move ?_) | fail)
  obtain ⟨n, hn⟩ : ∃ n, n = l.length := ⟨_, rfl⟩
  have hsz : (str l).size = n := by rw [hn]; rfl
  rw [← hn] at hx
  refine sy_loop (γ := Nat) (fun i => [(0, .string (str l)), (2, .pointer (some ⟨b2, 0, none⟩)), (3, .int .i64 0), (22, .int .i64 n), (23, .int .i64 i)])
    (fun _ => [.blk b2 44 (List.replicate 16 (Value.int IntKind.u64 0))])
    (fun i => i ≤ n ∧ ∀ j < i, ∃ v d, l[j]? = some v ∧ hexv v = some d) (fun i => n - i) 0 ⟨Nat.zero_le _, fun j hj => absurd hj (by omega)⟩ ?_ ?_ ?_
  · rw [hsz]
    exact Sub.go
  · exact SubR.go
  rintro i ⟨hi, hok⟩
  by_cases hlt : i < n
  · obtain ⟨u, hu⟩ : ∃ u, l[i]? = some u := ⟨l[i]'(by omega), List.getElem?_eq_getElem _⟩
    have hch : (str l).data[i]? = some u := by
      show l.toArray[i]? = _
      rw [List.getElem?_toArray, hu]
    have hv := fun w => value_fn u w
    cases hd : hexv u with
    | none =>
      simp only [hd] at hv
      have hnone : hexs l = none := by
        cases hh : hexs l with
        | none => rfl
        | some r =>
          obtain ⟨d, h1, _⟩ := hexs_get hh i u hu
          rw [hd] at h1; cases h1
      rw [hnone]
      repeat' (first | refine sy_seqC ?_ | refine syl_nil ?_ | refine sy_if_t rfl ?_ | refine sy_block ?_ | refine sy_skip ?_ | refine sy_ret ?_ | refine syx_then ?_ | refine syx_go ?_ | refine syx_then_ret ?_ | refine syx_in_ret ?_ | (refine sy_region (id := 4) ?_; refine y_lss ?_) | (refine sy_region (id := 5) ?_; refine y_move ?_; refine y_assign ?_) | (refine sy_region (id := 6) ?_; refine y_move ?_; refine y_move ?_; refine yv (op_indexStr (s := str l) (u := u) (hv := hch)) (k := ?_); refine yv (op_callV (hc := fun _ _ _ _ => (hv _))) (k := ?_); refine y_lss ?_) | (refine sy_region (id := 7) ?_; refine y_build ?_; refine y_store ?_; refine y_assign ?_) | fail)
      exact ret2 rfl (resCells (B := List.replicate 16 (Value.int IntKind.u64 0)) rfl (ty rfl) rfl Has.go Seg.all rfl) (resTmp rfl) SubR.nil ⟨by rw [← natV0]; rfl, rfl⟩
    | some d =>
      simp only [hd] at hv
      have hge : decide (((d : Nat) : Int) < 0) = false := decide_eq_false (by omega)
      repeat' (first | refine sy_seqC ?_ | refine syl_nil ?_ | refine sy_if_t rfl ?_ | refine sy_if_f rfl ?_ | refine sy_block ?_ | refine sy_skip ?_ | refine syx_then ?_ | refine syx_go ?_ | (refine sy_region (id := 4) ?_; refine y_lss ?_) | (refine sy_region (id := 5) ?_; refine y_move ?_; refine y_assign ?_) | (refine sy_region (id := 6) ?_; refine y_move ?_; refine y_move ?_; refine yv (op_indexStr (s := str l) (u := u) (hv := hch)) (k := ?_); refine yv (op_callV (hc := fun _ _ _ _ => (hv _))) (k := ?_); refine y_lss ?_) | (refine sy_region (id := 8) ?_; refine y_add ?_; refine y_move ?_) | fail)
      refine syx_back (i + 1) ⟨by show i + 1 ≤ n; omega, fun j hj => ?_⟩ ?_ ?_ ?_
      · rcases Nat.lt_or_ge j i with h | h
        · exact hok j h
        · obtain rfl : j = i := by omega
          exact ⟨u, d, hu, hd⟩
      · show n - (i + 1) < n - i; omega
      · exact Sub.go
      · exact SubR.go
  obtain rfl : i = n := by omega
  obtain ⟨r, hr⟩ : ∃ r, hexs l = some r := by
    cases hh : hexs l with
    | some r => exact ⟨r, rfl⟩
    | none =>
      obtain ⟨j, u, h1, h2, _⟩ := hexs_none hh
      have hj : j < l.length := by
        rcases Nat.lt_or_ge j l.length with h | h
        · exact h
        · rw [List.getElem?_eq_none h] at h1; cases h1
      obtain ⟨v, d, h3, h4⟩ := hok j (by omega)
      rw [h1] at h3
      cases h3
      rw [h2] at h4; cases h4
  have hsm := hexs_small hb hr
  have hrl := hexs_len hr
  rw [hr, Option.map_some]
  dsimp only
  rw [← hn] at hsm hrl
  by_cases hbig : i ≤ 256
  · rw [if_pos (hsm.1 hbig)]
    repeat' (first | refine sy_seqC ?_ | refine syl_nil ?_ | refine sy_if_f rfl ?_ | refine sy_block ?_ | refine sy_skip ?_ | refine sy_exit ?_ | refine syx_then ?_ | refine syx_go ?_ | (refine sy_region (id := 4) ?_; refine y_lss ?_) | (refine sy_region (id := 9) ?_; refine y_move ?_; refine y_len ?_; refine y_gtr ?_) | (refine sy_region (id := 11) ?_; (refine y_new ?_; intro _)) | (refine sy_region (id := 12) ?_; refine y_move ?_; refine y_len ?_; refine y_move ?_) | fail)
    rename_i b5
    refine sy_loop (γ := Nat) (fun q => [(0, .string (str l)), (2, .pointer (some ⟨b2, 0, none⟩)), (3, .int .i64 0), (5, .pointer (some ⟨b5, 0, none⟩)), (38, .int .i64 i), (39, .int .i64 q)])
      (fun q => [.blk b5 44 (natC (bev 16 (r.take q) * 16 ^ (i - q))), .blk b2 44 (List.replicate 16 (Value.int IntKind.u64 0))])
      (fun q => q ≤ i) (fun q => i - q) 0 (Nat.zero_le _) ?_ ?_ ?_
    · rw [hsz]
      exact Sub.go
    · show SubR [.blk b5 44 (natC (bev 16 (r.take 0) * 16 ^ (i - 0))), .blk b2 44 (List.replicate 16 (Value.int IntKind.u64 0))] _
      rw [show bev 16 (r.take 0) = 0 from rfl, Nat.zero_mul, ← natC0]
      exact SubR.go
    intro q hq
    by_cases hlt : q < i
    · obtain ⟨u, hu⟩ : ∃ u, l[q]? = some u := ⟨l[q]'(by omega), List.getElem?_eq_getElem _⟩
      obtain ⟨d, hd, hrd⟩ := hexs_get hr q u hu
      have hch : (str l).data[q]? = some u := by
        show l.toArray[q]? = _
        rw [List.getElem?_toArray, hu]
      have hv := fun w => value_fn u w
      simp only [hd] at hv
      obtain ⟨p, hp⟩ : ∃ p, p = i - 1 - q := ⟨_, rfl⟩
      have hpn : i - q = p + 1 := by omega
      have hsub : IntKind.i64.wrap ((((str l).size : Nat) : Int) - 1 - (q : Int)) = ((p : Nat) : Int) := by rw [hsz, IntWalk.i64_in _ (by omega)]; omega
      have hd16 := hexv_lt hd
      obtain ⟨e1, e2, e3, e4, e5, e6⟩ := put_word 4 16 (bev 16 (r.take q)) p d rfl (by decide) hd16
      rw [show (2 : Nat) ^ 4 = 16 from rfl] at e1 e4 e5 e6
      have hlN := natC_len (bev 16 (r.take q) * 16 ^ (i - q))
      have hdg := natC_get (bev 16 (r.take q) * 16 ^ (i - q)) (p / 16) (by omega)
      have hset := natC_set (bev 16 (r.take q) * 16 ^ (i - q)) (p / 16) (d * 2 ^ (p % 16 * 4))
      have htk := bev_take_succ 16 r q d hrd
      rw [hpn] at hdg hset hlN ⊢
      rw [e6, ← htk] at hset
      have hset := hset e5
      rw [← e4, ← e2] at hset
      have hni : i - (q + 1) = p := by omega
      generalize bev 16 (r.take q) * 16 ^ (p + 1) = X at *
      generalize X / 18446744073709551616 ^ (p / 16) % 18446744073709551616 = y at *
      have q1 : IntKind.i64.wrap ((p : Int).tdiv 16) = ((p / 16 : Nat) : Int) := quoI (k := 16) (by omega)
      have q2 : (p : Int).tmod 16 = ((p % 16 : Nat) : Int) := remI p 16
      have q3 : IntKind.i64.wrap (((p % 16 : Nat) : Int) * 4) = ((p % 16 * 4 : Nat) : Int) := by rw [IntWalk.i64_in _ (by omega)]; omega
      have q4 : IntKind.u64.wrap ((d : Nat) : Int) = ((d : Nat) : Int) := IntWalk.u64_in _ (by omega)
      have hp8 : p / 16 < 16 := by omega
      repeat' (first | refine sy_seqC ?_ | refine syl_nil ?_ | refine sy_if_t rfl ?_ | refine sy_block ?_ | refine sy_skip ?_ | refine syx_then ?_ | refine syx_go ?_ | (refine sy_region (id := 13) ?_; refine y_lss ?_) | (refine sy_region (id := 14) ?_; refine y_move ?_; refine y_assign ?_) | (refine sy_region (id := 15) ?_; refine y_move ?_; refine y_len ?_; refine y_sub ?_; refine y_move ?_; refine yv (op_sub (hr := hsub)) (k := ?_); refine y_assign ?_) | (refine sy_draw (id := 16) 16 [[], [0], [], [0, 1, 2], [0, 1, 2, 3], [], [], [5, 6], [5, 6, 7], [5, 6, 7, 8], [], [10], [10, 11], [5, 6, 7, 8, 9, 10, 11, 12], [0, 1, 2, 3, 4, 5, 6, 7, 8, 9, 10, 11, 12, 13], [], [0, 1, 2, 3, 4, 5, 6, 7, 8, 9, 10, 11, 12, 13, 14, 15], [0, 1, 2, 3, 4, 5, 6, 7, 8, 9, 10, 11, 12, 13, 14, 15, 16]] mixed ?_ ?_; kernel_rfl; refine d_move ?_; refine dc (fun _ _ => op_quo (hr := q1)) (k := ?_); refine d_fieldAddr ?_; refine d_indexAddr ?_; refine dc (fun _ _ => op_load (hv := hdg)) (k := ?_); refine d_move ?_; refine d_move ?_; refine dc (fun _ _ => op_indexStr (s := str l) (u := u) (hv := hch)) (k := ?_); refine dc (fun _ _ => op_callV (hc := fun _ _ _ _ => (hv _))) (k := ?_); refine dc (fun _ _ => op_conv (hr := q4)) (k := ?_); refine d_move ?_; refine dc (fun _ _ => op_rem (hr := q2)) (k := ?_); refine dc (fun _ _ => op_mul (hr := q3)) (k := ?_); refine dc (fun _ _ => op_shlN64 (a := d) (n := p % 16 * 4)) (k := ?_); refine dc (fun _ _ => op_orN (a := y) (b := d * 2 ^ (p % 16 * 4) % 18446744073709551616) e1 (Nat.mod_lt _ (by decide))) (k := ?_); refine d_fieldAddr ?_; refine dh_0n ?_; refine y_indexAddr ?_; refine y_store ?_) | (refine sy_region (id := 17) ?_; refine y_add ?_; refine y_move ?_) | fail)
      refine syx_back (q + 1) ?_ ?_ ?_ ?_
      · show q + 1 ≤ i; omega
      · show i - (q + 1) < p + 1; omega
      · exact Sub.go
      · show SubR [.blk b5 44 (natC (bev 16 (r.take (q + 1)) * 16 ^ (i - (q + 1)))), .blk b2 44 (List.replicate 16 (Value.int IntKind.u64 0))] _
        rw [hni, ← hset]
        exact SubR.go
    obtain rfl : q = i := by omega
    have htake : r.take q = r := by rw [← hrl]; exact List.take_length
    rw [htake, Nat.sub_self, Nat.pow_zero, Nat.mul_one]
    have hlN := natC_len (bev 16 r)
    have hx2 := hsm.1 hbig
    generalize bev 16 r = x at *
    repeat' (first | refine sy_seqC ?_ | refine syl_nil ?_ | refine sy_if_f rfl ?_ | refine sy_ret ?_ | refine sy_exit ?_ | refine syx_then ?_ | refine syx_go ?_ | (refine sy_region (id := 13) ?_; refine y_lss ?_) | (refine sy_region (id := 18) ?_; refine yv (op_loads (B := natC x)) (k := ?_); refine yn (op_storeNat (n := x)) (k := ?_); refine y_assign ?_) | fail)
    exact ret2 rfl (resCells (B := natC x) rfl (ty rfl) rfl Has.go Seg.all (natC_len _).symm) (resTmp rfl) SubR.nil ⟨rfl, rfl⟩
  · rw [if_neg (fun h => hbig (hsm.2 h))]
    have hgt : decide (256 < (((str l).size : Nat) : Int)) = true := decide_eq_true (by rw [hsz]; omega)
    repeat' (first | refine sy_seqC ?_ | refine syl_nil ?_ | refine sy_if_t rfl ?_ | refine sy_if_f rfl ?_ | refine sy_ret ?_ | refine sy_exit ?_ | refine syx_then ?_ | refine syx_go ?_ | refine syx_then_ret ?_ | (refine sy_region (id := 4) ?_; refine y_lss ?_) | (refine sy_region (id := 9) ?_; refine y_move ?_; refine y_len ?_; refine yv (op_gtr (hr := hgt)) (k := ?_)) | (refine sy_region (id := 10) ?_; refine y_build ?_; refine y_store ?_; refine y_assign ?_) | fail)
    exact ret2 rfl (resCells (B := List.replicate 16 (Value.int IntKind.u64 0)) rfl (ty rfl) rfl Has.go Seg.all rfl) (resTmp rfl) SubR.nil ⟨by rw [← natV0], rfl⟩
end Go.Proofs.YtaeddmcoanefhaaGreatDoor
end
