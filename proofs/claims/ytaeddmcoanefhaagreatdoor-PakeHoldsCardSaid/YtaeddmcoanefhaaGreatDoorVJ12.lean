/- Bytes without zeros ahead. -/
import Derived.Test.YtaeddmcoanefhaaGreatDoorVJ11
import Derived.Test.YtaeddmcoanefhaaGreatDoorVJ03
set_option linter.all false
section
namespace Go.Nt
open Go Go.Sy
def tz (l : List UInt8) : List UInt8 := l.dropWhile (· == 0)
def bn (l : List UInt8) : List Nat := l.map (·.toNat)
theorem bn_lt (l : List UInt8) : ∀ d ∈ bn l, d < 256 := by
  intro d hd
  obtain ⟨u, _, rfl⟩ := List.mem_map.1 hd
  exact u.toNat_lt
theorem bn_tz (l : List UInt8) : bn (tz l) = (bn l).dropWhile (· == 0) := by
  unfold bn tz
  induction l with
  | nil => rfl
  | cons u l ih =>
    rw [List.dropWhile_cons, List.map_cons, List.dropWhile_cons]
    by_cases h : u = 0
    · subst h; simpa using ih
    · have h1 : (u == 0) = false := by simpa using h
      have h2 : (u.toNat == 0) = false := by
        rw [beq_eq_false_iff_ne]
        intro h3
        exact h (UInt8.toNat_inj.1 (by rw [h3]; rfl))
      rw [h1, h2]; rfl
theorem bev_tz (l : List UInt8) : bev 256 (bn (tz l)) = bev 256 (bn l) := by rw [bn_tz, bev_trim]
theorem tz_cons0 (l : List UInt8) : tz (0 :: l) = tz l := by unfold tz; rw [List.dropWhile_cons]; rfl
theorem tz_cons (u : UInt8) (l : List UInt8) (h : u ≠ 0) : tz (u :: l) = u :: l := by
  unfold tz; rw [List.dropWhile_cons, if_neg (by simpa using h)]
theorem tz_le (l : List UInt8) : (tz l).length ≤ l.length := by
  unfold tz; exact (List.dropWhile_sublist _).length_le
theorem tz_head (l : List UInt8) (u : UInt8) (r : List UInt8) (h : tz l = u :: r) : u ≠ 0 := by
  induction l with
  | nil => cases h
  | cons a l ih =>
    by_cases ha : a = 0
    · subst ha; rw [tz_cons0] at h; exact ih h
    · rw [tz_cons a l ha] at h
      rw [← (List.cons.inj h).1]; exact ha
end Go.Nt
namespace Go.Proofs.YtaeddmcoanefhaaGreatDoor
open Go Go.Sy Go.Nt Go.RowKit
attribute [local irreducible] Sy SyL SyX Sy.Fn callFunc natC
set_option maxRecDepth 10000
theorem trimByte_fn (b o len c : Nat) (bl : List UInt8) (w : World) (hl : bl.length = len) (hc : len ≤ c) (hb : w.rangeAt b o (bl.map v8)) (h0 : 0 < len) :
    Sy.Fn Tryz.prog 114 [.slice (some ⟨b, o, none⟩) len c, v8 0] w No (Gives (if tz bl = [] then .slice none 0 0 else .slice (some ⟨b, o + (len - (tz bl).length), none⟩) (tz bl).length (c - (len - (tz bl).length)))) := by
  refine fn_enter Tryz.func114 rfl Tryz.ntmps114 (by simp) Holds.nil ?_
  repeat' (first | refine sy_seqC ?_ | refine syl_nil ?_ | refine sy_block ?_ | refine syx_then ?_ | refine syx_go ?_ | (refine sy_region (id := 0) ?_; refine y_assign ?_) | fail)
  refine sy_loop (γ := Nat × Option Addr) (fun g => [(0, .slice g.2 (len - g.1) (c - g.1)), (1, v8 0)]) (fun _ => []) (fun g => g.1 ≤ len ∧ tz (bl.drop g.1) = tz bl ∧ (g.1 < len → g.2 = some ⟨b, o + g.1, none⟩)) (fun g => len - g.1) (0, some ⟨b, o, none⟩) ⟨Nat.zero_le _, rfl, fun _ => rfl⟩ ?_ ?_ ?_
  · exact Sub.go
  · exact SubR.go
  rintro ⟨i, a⟩ ⟨hi, ht, ha⟩
  dsimp only at hi ht ha ⊢
  by_cases hlt : i < len
  · obtain rfl := ha hlt
    obtain ⟨u, hu⟩ : ∃ u, bl[i]? = some u := ⟨bl[i]'(by omega), List.getElem?_eq_getElem _⟩
    have hcell : w.cell? ⟨b, o + i, none⟩ = some (v8 u) := hb i (v8 u) (by rw [List.getElem?_map, hu]; rfl)
    have hdrop : bl.drop i = u :: bl.drop (i + 1) := by
      rw [List.drop_eq_getElem_cons (by omega)]
      rw [List.getElem?_eq_getElem (by omega)] at hu
      rw [Option.some.inj hu]
    have hpos : decide (0 < ((len - i : Nat) : Int)) = true := decide_eq_true (by omega)
    by_cases hz : u = 0
    · subst hz
      rw [hdrop, tz_cons0] at ht
      repeat' (first | refine sy_seqC ?_ | refine syl_nil ?_ | refine sy_if_t rfl ?_ | refine sy_block ?_ | refine sy_skip ?_ | refine syx_then ?_ | refine syx_go ?_ | refine syx_in ?_ | (refine sy_region (id := 1) ?_; refine y_move ?_; refine y_len ?_; refine yv (op_gtr (hr := hpos)) (k := ?_); refine y_move ?_; refine y_move ?_; refine y_indexAddr ?_; refine yv (op_load_old (hv := hcell)) (k := ?_); refine y_move ?_; refine y_eql ?_; refine y_pick ?_) | (refine sy_region (id := 2) ?_; refine y_move ?_; refine y_slice ?_; refine y_assign ?_) | fail)
      refine syx_back (i + 1, movA (some ⟨b, o + i, none⟩) 1 (c - i) 1) ⟨by show i + 1 ≤ len; omega, ht, fun h => movA_lt1 (by omega)⟩ ?_ ?_ ?_
      · show len - (i + 1) < len - i; omega
      · exact Sub.go
      · exact SubR.go
    · rw [hdrop, tz_cons u _ hz] at ht
      have hne' : decide (Wd.n8 u = Wd.n8 0) = false := decide_eq_false (fun h => hz (Wd.n8_inj h))
      have htl : (tz bl).length = len - i := by rw [← ht, ← hdrop, List.length_drop, hl]
      have hnz : decide (((len - i : Nat) : Int) = 0) = false := decide_eq_false (by omega)
      rw [htl, if_neg (by rw [← ht]; simp), show len - (len - i) = i by omega]
      repeat' (first | refine sy_seqC ?_ | refine syl_nil ?_ | refine sy_if_f rfl ?_ | refine sy_skip ?_ | refine sy_ret ?_ | refine sy_exit ?_ | refine syx_then ?_ | refine syx_go ?_ | (refine sy_region (id := 1) ?_; refine y_move ?_; refine y_len ?_; refine yv (op_gtr (hr := hpos)) (k := ?_); refine y_move ?_; refine y_move ?_; refine y_indexAddr ?_; refine yv (op_load_old (hv := hcell)) (k := ?_); refine y_move ?_; refine yv (op_eql (hr := hne')) (k := ?_); refine y_pick ?_) | (refine sy_region (id := 3) ?_; refine y_move ?_; refine y_len ?_; refine yv (op_eql (hr := hnz)) (k := ?_)) | (refine sy_region (id := 5) ?_; refine y_move ?_; refine y_assign ?_) | fail)
      exact ret1 rfl (resTmp rfl) SubR.nil ⟨rfl, rfl⟩
  · obtain rfl : i = len := by omega
    rw [List.drop_eq_nil_of_le (by omega)] at ht
    have hz0 : decide (0 < ((i - i : Nat) : Int)) = false := decide_eq_false (by omega)
    have hz1 : decide (((i - i : Nat) : Int) = 0) = true := decide_eq_true (by omega)
    rw [if_pos (show tz bl = [] from ht.symm)]
    repeat' (first | refine sy_seqC ?_ | refine syl_nil ?_ | refine sy_if_t rfl ?_ | refine sy_if_f rfl ?_ | refine sy_ret ?_ | refine sy_exit ?_ | refine syx_then ?_ | refine syx_go ?_ | refine syx_then_ret ?_ | (refine sy_region (id := 1) ?_; refine y_move ?_; refine y_len ?_; refine yv (op_gtr (hr := hz0)) (k := ?_); refine y_move ?_; refine syl_skip rfl rfl rfl ?_; refine syl_skip rfl rfl rfl ?_; refine syl_skip rfl rfl rfl ?_; refine syl_skip rfl rfl rfl ?_; refine syl_skip rfl rfl rfl ?_; refine y_pick ?_) | (refine sy_region (id := 3) ?_; refine y_move ?_; refine y_len ?_; refine yv (op_eql (hr := hz1)) (k := ?_)) | (refine sy_region (id := 4) ?_; refine y_assign ?_) | fail)
    exact ret1 rfl (resTmp rfl) SubR.nil ⟨rfl, rfl⟩
theorem trimLeft_ex (a : Option Addr) (len c : Nat) (bl : List UInt8) (w : World) (hl : bl.length = len) (hc : len ≤ c) (hb : SlA w a (bl.map v8)) :
    ∃ a' c', (tz bl).length ≤ c' ∧ SlA w a' ((tz bl).map v8) ∧ ∀ w', Keep No w w' → Sy.Fn Tryz.prog 96 [.slice a len c, .string (str [0])] w' No (Gives (.slice a' (tz bl).length c')) := by
  rcases Nat.eq_zero_or_pos len with h0 | h0
  · obtain rfl : bl = [] := List.length_eq_zero_iff.1 (by omega)
    subst h0
    refine ⟨none, 0, Nat.le_refl _, .inl rfl, fun w' hk => ?_⟩
    refine fn_enter Tryz.func96 rfl Tryz.ntmps96 (by simp) Holds.nil ?_
    repeat' (first | refine sy_seqC ?_ | refine syl_nil ?_ | refine sy_if_t rfl ?_ | refine sy_ret ?_ | refine syx_then ?_ | refine syx_go ?_ | refine syx_then_ret ?_ | (refine sy_region (id := 0) ?_; refine y_assign ?_) | (refine sy_region (id := 1) ?_; refine y_move ?_; refine y_len ?_; refine y_eql ?_) | (refine sy_region (id := 2) ?_; refine y_assign ?_) | fail)
    exact ret1 rfl (resTmp rfl) SubR.nil ⟨rfl, rfl⟩
  obtain ⟨b, o, rfl, hr⟩ : ∃ b o, a = some ⟨b, o, none⟩ ∧ w.rangeAt b o (bl.map v8) := by
    rcases hb with h | h
    · have := congrArg List.length h; rw [List.length_map, hl] at this; exact absurd this (by show ¬ len = 0; omega)
    · exact h
  have htb := fun w' (hk : Keep No w w') => trimByte_fn b o len c bl w' hl hc (range_keep hr hk (fun h => h)) h0
  have hle := tz_le bl
  have hdt : (tz bl).map v8 = (bl.map v8).drop (len - (tz bl).length) := by
    rw [← List.map_drop]
    congr 1
    have : tz bl <:+ bl := List.dropWhile_suffix _
    rw [← hl]
    exact List.suffix_iff_eq_drop.1 this
  by_cases ht : tz bl = []
  · simp only [if_pos ht] at htb
    refine ⟨none, 0, by rw [ht]; exact Nat.le_refl _, .inl (by rw [ht]; rfl), fun w' hk => ?_⟩
    rw [ht]
    refine fn_enter Tryz.func96 rfl Tryz.ntmps96 (by simp) Holds.nil ?_
    have hnz : decide (((len : Nat) : Int) = 0) = false := decide_eq_false (by omega)
    repeat' (first | refine sy_seqC ?_ | refine syl_nil ?_ | refine sy_if_t rfl ?_ | refine sy_if_f rfl ?_ | refine sy_skip ?_ | refine sy_ret ?_ | refine syx_then ?_ | refine syx_go ?_ | refine syx_then_ret ?_ | (refine sy_region (id := 0) ?_; refine y_assign ?_) | (refine sy_region (id := 1) ?_; refine y_move ?_; refine y_len ?_; refine yv (op_eql (hr := hnz)) (k := ?_)) | (refine sy_region (id := 3) ?_; refine y_move ?_; refine yv (op_eqStr (a := [0]) (b := []) (r := false) (hr := rfl)) (k := ?_)) | (refine sy_region (id := 5) ?_; refine y_move ?_; refine y_len ?_; refine y_eql ?_; refine y_move ?_; refine y_move ?_; refine yv (op_indexStr (s := str [0]) (u := 0) (hv := rfl)) (k := ?_); refine y_lss ?_; refine y_pick ?_) | (refine sy_region (id := 6) ?_; refine y_move ?_; refine y_move ?_; refine yv (op_indexStr (s := str [0]) (u := 0) (hv := rfl)) (k := ?_); refine yv (op_callV (hc := fun w'' _ hk' _ => htb w'' (hk.trans hk' (fun _ h => h.elim)))) (k := ?_); refine y_assign ?_) | fail)
    exact ret1 rfl (resTmp rfl) SubR.nil ⟨rfl, rfl⟩
  · simp only [if_neg ht] at htb
    refine ⟨some ⟨b, o + (len - (tz bl).length), none⟩, c - (len - (tz bl).length), by omega, ?_, fun w' hk => ?_⟩
    · refine .inr ⟨b, _, rfl, fun j v hj => ?_⟩
      rw [hdt, List.getElem?_drop] at hj
      rw [Nat.add_assoc]
      exact hr _ v hj
    · refine fn_enter Tryz.func96 rfl Tryz.ntmps96 (by simp) Holds.nil ?_
      have hnz : decide (((len : Nat) : Int) = 0) = false := decide_eq_false (by omega)
      repeat' (first | refine sy_seqC ?_ | refine syl_nil ?_ | refine sy_if_t rfl ?_ | refine sy_if_f rfl ?_ | refine sy_skip ?_ | refine sy_ret ?_ | refine syx_then ?_ | refine syx_go ?_ | refine syx_then_ret ?_ | (refine sy_region (id := 0) ?_; refine y_assign ?_) | (refine sy_region (id := 1) ?_; refine y_move ?_; refine y_len ?_; refine yv (op_eql (hr := hnz)) (k := ?_)) | (refine sy_region (id := 3) ?_; refine y_move ?_; refine yv (op_eqStr (a := [0]) (b := []) (r := false) (hr := rfl)) (k := ?_)) | (refine sy_region (id := 5) ?_; refine y_move ?_; refine y_len ?_; refine y_eql ?_; refine y_move ?_; refine y_move ?_; refine yv (op_indexStr (s := str [0]) (u := 0) (hv := rfl)) (k := ?_); refine y_lss ?_; refine y_pick ?_) | (refine sy_region (id := 6) ?_; refine y_move ?_; refine y_move ?_; refine yv (op_indexStr (s := str [0]) (u := 0) (hv := rfl)) (k := ?_); refine yv (op_callV (hc := fun w'' _ hk' _ => htb w'' (hk.trans hk' (fun _ h => h.elim)))) (k := ?_); refine y_assign ?_) | fail)
      exact ret1 rfl (resTmp rfl) SubR.nil ⟨rfl, rfl⟩
end Go.Proofs.YtaeddmcoanefhaaGreatDoor
namespace Go.Nt
theorem put_word (t k A p u : Nat) (hW : t * k = 64) (hk : 0 < k) (hu : u < 2 ^ t) :
    A * (2 ^ t) ^ (p + 1) / 18446744073709551616 ^ (p / k) % 18446744073709551616 < 18446744073709551616 ∧
    u * 2 ^ (p % k * t) % 18446744073709551616 = u * 2 ^ (p % k * t) ∧
    u * 2 ^ (p % k * t) < 18446744073709551616 ∧
    (A * (2 ^ t) ^ (p + 1) / 18446744073709551616 ^ (p / k) % 18446744073709551616 ||| u * 2 ^ (p % k * t)) = A * (2 ^ t) ^ (p + 1) / 18446744073709551616 ^ (p / k) % 18446744073709551616 + u * 2 ^ (p % k * t) ∧
    A * (2 ^ t) ^ (p + 1) / 18446744073709551616 ^ (p / k) % 18446744073709551616 + u * 2 ^ (p % k * t) < 18446744073709551616 ∧
    A * (2 ^ t) ^ (p + 1) + u * 2 ^ (p % k * t) * 18446744073709551616 ^ (p / k) = (A * 2 ^ t + u) * (2 ^ t) ^ p := by
  have hb : (2 ^ t) ^ k = 18446744073709551616 := by rw [← Nat.pow_mul, hW]
  have hr : p % k < k := Nat.mod_lt _ hk
  have hp : k * (p / k) + p % k = p := Nat.div_add_mod p k
  have hd := digit_put (2 ^ t) k A (p / k) (p % k) u hr hu
  have hs := pow_split (2 ^ t) (p / k) (p % k) k
  rw [hp, hb] at hd hs
  have h2 : (2 ^ t) ^ (p % k) = 2 ^ (p % k * t) := by rw [← Nat.pow_mul, Nat.mul_comm]
  have h3 : (2 ^ t) ^ (p % k + 1) = 2 ^ (p % k * t + t) := by rw [← Nat.pow_mul, Nat.mul_add, Nat.mul_one, Nat.mul_comm]
  rw [h2] at hs hd
  rw [h3] at hd
  obtain ⟨hd1, hd2⟩ := hd
  have h4 : u * 2 ^ (p % k * t) < 2 ^ (p % k * t + t) := by
    rw [Nat.pow_add, Nat.mul_comm]
    exact Nat.mul_lt_mul_of_pos_left hu (Nat.pow_pos (by decide))
  refine ⟨Nat.mod_lt _ (by decide), Nat.mod_eq_of_lt (by omega), by omega, ?_, by rw [hd1]; exact hd2, ?_⟩
  · rw [hd1]; exact or_add _ _ _ h4
  · rw [Nat.pow_succ, hs, Nat.add_mul]
    congr 1
    · ac_rfl
    · ac_rfl
theorem bev_snoc (b : Nat) (l : List Nat) (d : Nat) : bev b (l ++ [d]) = bev b l * b + d := by
  rw [bev_append]; simp [bev]
theorem bn_take_succ (l : List UInt8) (i : Nat) (u : UInt8) (h : l[i]? = some u) : bev 256 (bn (l.take (i + 1))) = bev 256 (bn (l.take i)) * 256 + u.toNat := by
  have hi : i < l.length := by
    rcases Nat.lt_or_ge i l.length with h1 | h1
    · exact h1
    · rw [List.getElem?_eq_none h1] at h; cases h
  have : l.take (i + 1) = l.take i ++ [u] := by
    rw [List.take_succ, h]; rfl
  rw [this]
  unfold bn
  rw [List.map_append]
  exact bev_snoc 256 _ _
theorem w256 : 18446744073709551616 ^ 16 = 256 ^ 128 := w_of 256 8 128 rfl rfl
theorem tz_small (l : List UInt8) : (tz l).length ≤ 128 ↔ bev 256 (bn l) < 18446744073709551616 ^ 16 := by
  rw [w256, ← bev_tz l]
  cases ht : tz l with
  | nil => simp only [List.length_nil]; exact ⟨fun _ => Nat.pow_pos (by decide), fun _ => by omega⟩
  | cons u r =>
    have hu := tz_head l u r ht
    have hu0 : 0 < u.toNat := by
      rcases Nat.eq_zero_or_pos u.toNat with h | h
      · exact absurd (UInt8.toNat_inj.1 (by rw [h]; rfl)) hu
      · exact h
    have h1 := nd_bev 256 (by decide) u.toNat (bn r) hu0 (bn_lt (u :: r))
    have h2 := bev_lt 256 (bn (u :: r)) (bn_lt _)
    have h3 : (bn (u :: r)).length = (u :: r).length := List.length_map _
    have h4 : (u.toNat :: bn r).length = (u :: r).length := h3
    rw [h4] at h1
    rw [h3] at h2
    constructor
    · intro h
      exact Nat.lt_of_lt_of_le h2 (Nat.pow_le_pow_right (by decide) h)
    · intro h
      have := nd_le 256 _ 128 (by decide) h
      rw [show bev 256 (bn (u :: r)) = bev 256 (u.toNat :: bn r) from rfl, h1] at this
      exact this
end Go.Nt
namespace Go.Proofs.YtaeddmcoanefhaaGreatDoor
open Go Go.Sy Go.Nt Go.RowKit
attribute [local irreducible] Sy SyL SyX Sy.Fn callFunc natC
set_option maxRecDepth 10000
theorem fromBytes_fn (a : Option Addr) (len c : Nat) (bl : List UInt8) (w : World) (hl : bl.length = len) (hc : len ≤ c) (hb : SlA w a (bl.map v8)) (hx : len < 9223372036854775808) :
    Sy.Fn Tryz.prog 72 [.slice a len c] w No (Gives (if bev 256 (bn bl) < 18446744073709551616 ^ 16 then .tuple #[natV (bev 256 (bn bl)), .int .i64 0] else .tuple #[natV 0, .int .i64 7])) := by
  refine fn_enter Tryz.func72 rfl Tryz.ntmps72 (by simp) Holds.nil ?_
  obtain ⟨a', c', hc', hs, htl⟩ := trimLeft_ex a len c bl w hl hc hb
  have hle := tz_le bl
  have hsm := tz_small bl
  rw [← bev_tz bl] at hsm ⊢
  generalize tz bl = l at *
  obtain ⟨n, hn⟩ : ∃ n, n = l.length := ⟨_, rfl⟩
  rw [← hn] at htl hc' hsm hle
  by_cases hbig : n ≤ 128
  · rw [if_pos (hsm.1 hbig)]
    repeat' (first | refine sy_seqC ?_ | refine syl_nil ?_ | refine sy_if_f rfl ?_ | refine sy_block ?_ | refine sy_skip ?_ | refine syx_then ?_ | refine syx_go ?_ | (refine sy_region (id := 0) ?_; (refine y_new ?_; intro _); refine y_assign ?_) | (refine sy_region (id := 1) ?_; refine y_move ?_; refine yv (op_callV (hc := fun w' _ hk _ => htl w' hk)) (k := ?_); refine y_assign ?_) | (refine sy_region (id := 2) ?_; refine y_move ?_; refine y_len ?_; refine y_gtr ?_) | (refine sy_region (id := 4) ?_; (refine y_new ?_; intro _)) | (refine sy_region (id := 5) ?_; refine y_move ?_; refine y_len ?_; refine y_move ?_) | fail)
    rename_i b2 b4
    refine sy_loop (γ := Nat) (fun i => [(0, .slice a' n c'), (2, .pointer (some ⟨b2, 0, none⟩)), (3, .int .i64 0), (4, .pointer (some ⟨b4, 0, none⟩)), (14, .slice a' n c'), (15, .int .i64 n), (16, .int .i64 i)])
      (fun i => [.blk b4 44 (natC (bev 256 (bn (l.take i)) * 256 ^ (n - i))), .blk b2 44 (List.replicate 16 (Value.int IntKind.u64 0))])
      (fun i => i ≤ n) (fun i => n - i) 0 (Nat.zero_le _) ?_ ?_ ?_
    · exact Sub.go
    · show SubR [.blk b4 44 (natC (bev 256 (bn (l.take 0)) * 256 ^ (n - 0))), .blk b2 44 (List.replicate 16 (Value.int IntKind.u64 0))] _
      rw [show bev 256 (bn (l.take 0)) = 0 from rfl, Nat.zero_mul, ← natC0]
      exact SubR.go
    intro i hi
    by_cases hlt : i < n
    · obtain ⟨u, hu⟩ : ∃ u, l[i]? = some u := ⟨l[i]'(by omega), List.getElem?_eq_getElem _⟩
      obtain ⟨b, o, rfl, hr⟩ : ∃ b o, a' = some ⟨b, o, none⟩ ∧ w.rangeAt b o (l.map v8) := by
        rcases hs with h | h
        · have := congrArg List.length h; rw [List.length_map, ← hn] at this; exact absurd this (by show ¬ n = 0; omega)
        · exact h
      have hcell : w.cell? ⟨b, o + i, none⟩ = some (v8 u) := hr i (v8 u) (by rw [List.getElem?_map, hu]; rfl)
      obtain ⟨p, hp⟩ : ∃ p, p = n - 1 - i := ⟨_, rfl⟩
      have hpn : n - i = p + 1 := by omega
      have hsub : IntKind.i64.wrap ((n : Int) - 1 - (i : Int)) = ((p : Nat) : Int) := by rw [IntWalk.i64_in _ (by omega)]; omega
      obtain ⟨e1, e2, e3, e4, e5, e6⟩ := put_word 8 8 (bev 256 (bn (l.take i))) p u.toNat rfl (by decide) u.toNat_lt
      rw [show (2 : Nat) ^ 8 = 256 from rfl] at e1 e4 e5 e6
      have hlN := natC_len (bev 256 (bn (l.take i)) * 256 ^ (n - i))
      have hd := natC_get (bev 256 (bn (l.take i)) * 256 ^ (n - i)) (p / 8) (by omega)
      have hset := natC_set (bev 256 (bn (l.take i)) * 256 ^ (n - i)) (p / 8) (u.toNat * 2 ^ (p % 8 * 8))
      have htk := bn_take_succ l i u hu
      rw [hpn] at hd hset hlN ⊢
      rw [e6, ← htk] at hset
      have hset := hset e5
      rw [← e4, ← e2] at hset
      have hni : n - (i + 1) = p := by omega
      generalize bev 256 (bn (l.take i)) * 256 ^ (p + 1) = X at *
      generalize X / 18446744073709551616 ^ (p / 8) % 18446744073709551616 = d at *
      have q1 : IntKind.i64.wrap ((p : Int).tdiv 8) = ((p / 8 : Nat) : Int) := quoI (k := 8) (by omega)
      have q2 : (p : Int).tmod 8 = ((p % 8 : Nat) : Int) := remI p 8
      have q3 : IntKind.i64.wrap (((p % 8 : Nat) : Int) * 8) = ((p % 8 * 8 : Nat) : Int) := by rw [IntWalk.i64_in _ (by omega)]; omega
      have q4 : IntKind.u64.wrap (Wd.n8 u) = ((u.toNat : Nat) : Int) := IntWalk.u64_in _ (by have := Wd.n8_lt u; have := Wd.n8_nonneg u; omega)
      have hp8 : p / 8 < 16 := by omega
      repeat' (first | refine sy_seqC ?_ | refine syl_nil ?_ | refine sy_if_t rfl ?_ | refine sy_block ?_ | refine sy_skip ?_ | refine syx_then ?_ | refine syx_go ?_ | (refine sy_region (id := 6) ?_; refine y_lss ?_) | (refine sy_region (id := 7) ?_; refine y_move ?_; refine y_indexAddr ?_; refine yv (op_load_old (hv := hcell)) (k := ?_); refine y_assign ?_; refine y_assign ?_) | (refine sy_region (id := 8) ?_; refine y_move ?_; refine y_len ?_; refine y_sub ?_; refine y_move ?_; refine yv (op_sub (hr := hsub)) (k := ?_); refine y_assign ?_) | (refine sy_draw (id := 9) 13 [[], [0], [], [0, 1, 2], [0, 1, 2, 3], [], [5], [], [7], [7, 8], [5, 6, 7, 8, 9], [0, 1, 2, 3, 4, 5, 6, 7, 8, 9, 10], [], [0, 1, 2, 3, 4, 5, 6, 7, 8, 9, 10, 11, 12], [0, 1, 2, 3, 4, 5, 6, 7, 8, 9, 10, 11, 12, 13]] mixed ?_ ?_; kernel_rfl; refine d_move ?_; refine dc (fun _ _ => op_quo (hr := q1)) (k := ?_); refine d_fieldAddr ?_; refine d_indexAddr ?_; refine dc (fun _ _ => op_load (hv := hd)) (k := ?_); refine d_move ?_; refine dc (fun _ _ => op_conv (hr := q4)) (k := ?_); refine d_move ?_; refine dc (fun _ _ => op_rem (hr := q2)) (k := ?_); refine dc (fun _ _ => op_mul (hr := q3)) (k := ?_); refine dc (fun _ _ => op_shlN64 (a := u.toNat) (n := p % 8 * 8)) (k := ?_); refine dc (fun _ _ => op_orN (a := d) (b := u.toNat * 2 ^ (p % 8 * 8) % 18446744073709551616) e1 (Nat.mod_lt _ (by decide))) (k := ?_); refine d_fieldAddr ?_; refine dh_0n ?_; refine y_indexAddr ?_; refine y_store ?_) | (refine sy_region (id := 10) ?_; refine y_add ?_; refine y_move ?_) | fail)
      refine syx_back (i + 1) ?_ ?_ ?_ ?_
      · show i + 1 ≤ n; omega
      · show n - (i + 1) < p + 1; omega
      · exact Sub.go
      · show SubR [.blk b4 44 (natC (bev 256 (bn (l.take (i + 1))) * 256 ^ (n - (i + 1)))), .blk b2 44 (List.replicate 16 (Value.int IntKind.u64 0))] _
        rw [hni, ← hset]
        exact SubR.go
    obtain rfl : i = n := by omega
    have htake : l.take i = l := by rw [hn]; exact List.take_length
    rw [htake, Nat.sub_self, Nat.pow_zero, Nat.mul_one]
    have hlN := natC_len (bev 256 (bn l))
    have hx2 := hsm.1 hbig
    generalize bev 256 (bn l) = x at *
    repeat' (first | refine sy_seqC ?_ | refine syl_nil ?_ | refine sy_if_f rfl ?_ | refine sy_ret ?_ | refine sy_exit ?_ | refine syx_then ?_ | refine syx_go ?_ | (refine sy_region (id := 6) ?_; refine y_lss ?_) | (refine sy_region (id := 11) ?_; refine yv (op_loads (B := natC x)) (k := ?_); refine yn (op_storeNat (n := x)) (k := ?_); refine y_assign ?_) | fail)
    exact ret2 rfl (resCells (B := natC x) rfl (ty rfl) rfl Has.go Seg.all (natC_len _).symm) (resTmp rfl) SubR.nil ⟨rfl, rfl⟩
  · rw [if_neg (fun h => hbig (hsm.2 h))]
    have hgt : decide (128 < (n : Int)) = true := decide_eq_true (by omega)
    repeat' (first | refine sy_seqC ?_ | refine syl_nil ?_ | refine sy_if_t rfl ?_ | refine sy_ret ?_ | refine syx_then ?_ | refine syx_go ?_ | refine syx_then_ret ?_ | (refine sy_region (id := 0) ?_; (refine y_new ?_; intro _); refine y_assign ?_) | (refine sy_region (id := 1) ?_; refine y_move ?_; refine yv (op_callV (hc := fun w' _ hk _ => htl w' hk)) (k := ?_); refine y_assign ?_) | (refine sy_region (id := 2) ?_; refine y_move ?_; refine y_len ?_; refine yv (op_gtr (hr := hgt)) (k := ?_)) | (refine sy_region (id := 3) ?_; refine y_build ?_; refine y_store ?_; refine y_assign ?_) | fail)
    exact ret2 rfl (resCells (B := List.replicate 16 (Value.int IntKind.u64 0)) rfl (ty rfl) rfl Has.go Seg.all rfl) (resTmp rfl) SubR.nil ⟨by rw [← natV0], rfl⟩
end Go.Proofs.YtaeddmcoanefhaaGreatDoor
end
section
namespace Go.Sy
theorem permr {L L' R : List Res} {r : Res} (h : Rem L r L') (k : L'.Perm R) : L.Perm (r :: R) := h.perm.trans (List.Perm.cons _ k)
end Go.Sy
end
