/- Bytes without zeros ahead. -/
import Derived.Test.YtjidkoabdmjgkaaGreatDoorXJ12
set_option linter.all false
section
namespace Go.Nt
open Go Go.Sy
def tz (l : List UInt8) : List UInt8 := l.dropWhile (· == 0)
def bn (l : List UInt8) : List Nat := l.map (·.toNat)
theorem zdK (l : List UInt8) : ∀ d ∈ bn l, d < 256 := by
  intro d hd
  obtain ⟨u, _, rfl⟩ := List.mem_map.1 hd
  exact u.toNat_lt
theorem znm (l : List UInt8) : bn (tz l) = (bn l).dropWhile (· == 0) := by
  unfold bn tz
  induction l with
  | nil => rfl
  | cons u l ih =>
    rw [List.dropWhile_cons, List.map_cons, List.dropWhile_cons]
    by_cases h : u = 0
    · subst h; simpa using ih
    · have h1 : (u == 0) = false := by simpa using h
      have h2 : (u.toNat == 0) = false := by
        rw [beq_eq_false_iff_ne]
        intro h3
        exact h (UInt8.toNat_inj.1 (by rw [h3]; rfl))
      rw [h1, h2]; rfl
theorem zkb (l : List UInt8) : bev 256 (bn (tz l)) = bev 256 (bn l) := by rw [znm, zhD]
theorem zhX (l : List UInt8) : tz (0 :: l) = tz l := by unfold tz; rw [List.dropWhile_cons]; rfl
theorem ziA (u : UInt8) (l : List UInt8) (h : u ≠ 0) : tz (u :: l) = u :: l := by
  unfold tz; rw [List.dropWhile_cons, if_neg (by simpa using h)]
theorem zlJ (l : List UInt8) : (tz l).length ≤ l.length := by
  unfold tz; exact (List.dropWhile_sublist _).length_le
theorem zlQ (l : List UInt8) (u : UInt8) (r : List UInt8) (h : tz l = u :: r) : u ≠ 0 := by
  induction l with
  | nil => cases h
  | cons a l ih =>
    by_cases ha : a = 0
    · subst ha; rw [zhX] at h; exact ih h
    · rw [ziA a l ha] at h
      rw [← (List.cons.inj h).1]; exact ha
end Go.Nt
namespace Go.Proofs.YtjidkoabdmjgkaaGreatDoor
open Go Go.Sy Go.Nt Go.RowKit
attribute [local irreducible] Sy SyL SyX Sy.Fn callFunc natC
set_option maxRecDepth 10000
theorem zii (b o len c : Nat) (bl : List UInt8) (w : World) (hl : bl.length = len) (hc : len ≤ c) (hb : w.rangeAt b o (bl.map v8)) (h0 : 0 < len) :
    Sy.Fn Tryz.prog 126 [.slice (some ⟨b, o, none⟩) len c, v8 0] w No (Gives (if tz bl = [] then .slice none 0 0 else .slice (some ⟨b, o + (len - (tz bl).length), none⟩) (tz bl).length (c - (len - (tz bl).length)))) := by
  refine zq Tryz.func126 rfl Tryz.ntmps126 (by simp) Holds.nil ?_
  repeat' (first | refine zh ?_ | refine zf ?_ | refine zu ?_ | refine ze ?_ | refine zj ?_ | (refine za (id := 0) ?_; refine zd ?_) | fail)
  refine zQ (γ := Nat × Option Addr) (fun g => [(0, .slice g.2 (len - g.1) (c - g.1)), (1, v8 0)]) (fun _ => []) (fun g => g.1 ≤ len ∧ tz (bl.drop g.1) = tz bl ∧ (g.1 < len → g.2 = some ⟨b, o + g.1, none⟩)) (fun g => len - g.1) (0, some ⟨b, o, none⟩) ⟨Nat.zero_le _, rfl, fun _ => rfl⟩ ?_ ?_ ?_
  · exact Sub.go
  · exact SubR.go
  rintro ⟨i, a⟩ ⟨hi, ht, ha⟩
  dsimp only at hi ht ha ⊢
  by_cases hlt : i < len
  · obtain rfl := ha hlt
    obtain ⟨u, hu⟩ : ∃ u, bl[i]? = some u := ⟨bl[i]'(by omega), List.getElem?_eq_getElem _⟩
    have hcell : w.cell? ⟨b, o + i, none⟩ = some (v8 u) := hb i (v8 u) (by rw [List.getElem?_map, hu]; rfl)
    have hdrop : bl.drop i = u :: bl.drop (i + 1) := by
      rw [List.drop_eq_getElem_cons (by omega)]
      rw [List.getElem?_eq_getElem (by omega)] at hu
      rw [Option.some.inj hu]
    have hpos : decide (0 < ((len - i : Nat) : Int)) = true := decide_eq_true (by omega)
    by_cases hz : u = 0
    · subst hz
      rw [hdrop, zhX] at ht
      repeat' (first | refine zh ?_ | refine zf ?_ | refine zw rfl ?_ | refine zu ?_ | refine zr ?_ | refine ze ?_ | refine zj ?_ | refine zaq ?_ | (refine za (id := 1) ?_; refine zb ?_; refine zA ?_; refine yv (zae (hr := hpos)) (k := ?_); refine zb ?_; refine zb ?_; refine zC ?_; refine yv (zN (hv := hcell)) (k := ?_); refine zb ?_; refine zai ?_; refine zx ?_) | (refine za (id := 2) ?_; refine zb ?_; refine zbn ?_; refine zd ?_) | fail)
      refine zI (i + 1, movA (some ⟨b, o + i, none⟩) 1 (c - i) 1) ⟨by show i + 1 ≤ len; omega, ht, fun h => zdJ (by omega)⟩ ?_ ?_ ?_
      · show len - (i + 1) < len - i; omega
      · exact Sub.go
      · exact SubR.go
    · rw [hdrop, ziA u _ hz] at ht
      have hne' : decide (Wd.n8 u = Wd.n8 0) = false := decide_eq_false (fun h => hz (Wd.n8_inj h))
      have htl : (tz bl).length = len - i := by rw [← ht, ← hdrop, List.length_drop, hl]
      have hnz : decide (((len - i : Nat) : Int) = 0) = false := decide_eq_false (by omega)
      rw [htl, if_neg (by rw [← ht]; simp), show len - (len - i) = i by omega]
      repeat' (first | refine zh ?_ | refine zf ?_ | refine zt rfl ?_ | refine zr ?_ | refine zp ?_ | refine zE ?_ | refine ze ?_ | refine zj ?_ | (refine za (id := 1) ?_; refine zb ?_; refine zA ?_; refine yv (zae (hr := hpos)) (k := ?_); refine zb ?_; refine zb ?_; refine zC ?_; refine yv (zN (hv := hcell)) (k := ?_); refine zb ?_; refine yv (z3 (hr := hne')) (k := ?_); refine zx ?_) | (refine za (id := 3) ?_; refine zb ?_; refine zA ?_; refine yv (z3 (hr := hnz)) (k := ?_)) | (refine za (id := 5) ?_; refine zb ?_; refine zd ?_) | fail)
      exact ret1 rfl (resTmp rfl) SubR.nil ⟨rfl, rfl⟩
  · obtain rfl : i = len := by omega
    rw [List.drop_eq_nil_of_le (by omega)] at ht
    have hz0 : decide (0 < ((i - i : Nat) : Int)) = false := decide_eq_false (by omega)
    have hz1 : decide (((i - i : Nat) : Int) = 0) = true := decide_eq_true (by omega)
    rw [if_pos (show tz bl = [] from ht.symm)]
    repeat' (first | refine zh ?_ | refine zf ?_ | refine zw rfl ?_ | refine zt rfl ?_ | refine zp ?_ | refine zE ?_ | refine ze ?_ | refine zj ?_ | refine zy ?_ | (refine za (id := 1) ?_; refine zb ?_; refine zA ?_; refine yv (zae (hr := hz0)) (k := ?_); refine zb ?_; refine zo rfl rfl rfl ?_; refine zo rfl rfl rfl ?_; refine zo rfl rfl rfl ?_; refine zo rfl rfl rfl ?_; refine zo rfl rfl rfl ?_; refine zx ?_) | (refine za (id := 3) ?_; refine zb ?_; refine zA ?_; refine yv (z3 (hr := hz1)) (k := ?_)) | (refine za (id := 4) ?_; refine zd ?_) | fail)
    exact ret1 rfl (resTmp rfl) SubR.nil ⟨rfl, rfl⟩
theorem zif (a : Option Addr) (len c : Nat) (bl : List UInt8) (w : World) (hl : bl.length = len) (hc : len ≤ c) (hb : SlA w a (bl.map v8)) :
    ∃ a' c', (tz bl).length ≤ c' ∧ SlA w a' ((tz bl).map v8) ∧ ∀ w', Keep No w w' → Sy.Fn Tryz.prog 103 [.slice a len c, .string (str [0])] w' No (Gives (.slice a' (tz bl).length c')) := by
  rcases Nat.eq_zero_or_pos len with h0 | h0
  · obtain rfl : bl = [] := List.length_eq_zero_iff.1 (by omega)
    subst h0
    refine ⟨none, 0, Nat.le_refl _, .inl rfl, fun w' hk => ?_⟩
    refine zq Tryz.func103 rfl Tryz.ntmps103 (by simp) Holds.nil ?_
    repeat' (first | refine zh ?_ | refine zf ?_ | refine zw rfl ?_ | refine zp ?_ | refine ze ?_ | refine zj ?_ | refine zy ?_ | (refine za (id := 0) ?_; refine zd ?_) | (refine za (id := 1) ?_; refine zb ?_; refine zA ?_; refine zai ?_) | (refine za (id := 2) ?_; refine zd ?_) | fail)
    exact ret1 rfl (resTmp rfl) SubR.nil ⟨rfl, rfl⟩
  obtain ⟨b, o, rfl, hr⟩ : ∃ b o, a = some ⟨b, o, none⟩ ∧ w.rangeAt b o (bl.map v8) := by
    rcases hb with h | h
    · have := congrArg List.length h; rw [List.length_map, hl] at this; exact absurd this (by show ¬ len = 0; omega)
    · exact h
  have htb := fun w' (hk : Keep No w w') => zii b o len c bl w' hl hc (zaw hr hk (fun h => h)) h0
  have hle := zlJ bl
  have hdt : (tz bl).map v8 = (bl.map v8).drop (len - (tz bl).length) := by
    rw [← List.map_drop]
    congr 1
    have : tz bl <:+ bl := List.dropWhile_suffix _
    rw [← hl]
    exact List.suffix_iff_eq_drop.1 this
  by_cases ht : tz bl = []
  · simp only [if_pos ht] at htb
    refine ⟨none, 0, by rw [ht]; exact Nat.le_refl _, .inl (by rw [ht]; rfl), fun w' hk => ?_⟩
    rw [ht]
    refine zq Tryz.func103 rfl Tryz.ntmps103 (by simp) Holds.nil ?_
    have hnz : decide (((len : Nat) : Int) = 0) = false := decide_eq_false (by omega)
    repeat' (first | refine zh ?_ | refine zf ?_ | refine zw rfl ?_ | refine zt rfl ?_ | refine zr ?_ | refine zp ?_ | refine ze ?_ | refine zj ?_ | refine zy ?_ | (refine za (id := 0) ?_; refine zd ?_) | (refine za (id := 1) ?_; refine zb ?_; refine zA ?_; refine yv (z3 (hr := hnz)) (k := ?_)) | (refine za (id := 3) ?_; refine zb ?_; refine yv (zbL (a := [0]) (b := []) (r := false) (hr := rfl)) (k := ?_)) | (refine za (id := 5) ?_; refine zb ?_; refine zA ?_; refine zai ?_; refine zb ?_; refine zb ?_; refine yv (z5 (s := str [0]) (u := 0) (hv := rfl)) (k := ?_); refine zX ?_; refine zx ?_) | (refine za (id := 6) ?_; refine zb ?_; refine zb ?_; refine yv (z5 (s := str [0]) (u := 0) (hv := rfl)) (k := ?_); refine yv (zi (hc := fun w'' _ hk' _ => htb w'' (hk.trans hk' (fun _ h => h.elim)))) (k := ?_); refine zd ?_) | fail)
    exact ret1 rfl (resTmp rfl) SubR.nil ⟨rfl, rfl⟩
  · simp only [if_neg ht] at htb
    refine ⟨some ⟨b, o + (len - (tz bl).length), none⟩, c - (len - (tz bl).length), by omega, ?_, fun w' hk => ?_⟩
    · refine .inr ⟨b, _, rfl, fun j v hj => ?_⟩
      rw [hdt, List.getElem?_drop] at hj
      rw [Nat.add_assoc]
      exact hr _ v hj
    · refine zq Tryz.func103 rfl Tryz.ntmps103 (by simp) Holds.nil ?_
      have hnz : decide (((len : Nat) : Int) = 0) = false := decide_eq_false (by omega)
      repeat' (first | refine zh ?_ | refine zf ?_ | refine zw rfl ?_ | refine zt rfl ?_ | refine zr ?_ | refine zp ?_ | refine ze ?_ | refine zj ?_ | refine zy ?_ | (refine za (id := 0) ?_; refine zd ?_) | (refine za (id := 1) ?_; refine zb ?_; refine zA ?_; refine yv (z3 (hr := hnz)) (k := ?_)) | (refine za (id := 3) ?_; refine zb ?_; refine yv (zbL (a := [0]) (b := []) (r := false) (hr := rfl)) (k := ?_)) | (refine za (id := 5) ?_; refine zb ?_; refine zA ?_; refine zai ?_; refine zb ?_; refine zb ?_; refine yv (z5 (s := str [0]) (u := 0) (hv := rfl)) (k := ?_); refine zX ?_; refine zx ?_) | (refine za (id := 6) ?_; refine zb ?_; refine zb ?_; refine yv (z5 (s := str [0]) (u := 0) (hv := rfl)) (k := ?_); refine yv (zi (hc := fun w'' _ hk' _ => htb w'' (hk.trans hk' (fun _ h => h.elim)))) (k := ?_); refine zd ?_) | fail)
      exact ret1 rfl (resTmp rfl) SubR.nil ⟨rfl, rfl⟩
end Go.Proofs.YtjidkoabdmjgkaaGreatDoor
namespace Go.Nt
theorem zfd (t k A p u : Nat) (hW : t * k = 64) (hk : 0 < k) (hu : u < 2 ^ t) :
    A * (2 ^ t) ^ (p + 1) / 18446744073709551616 ^ (p / k) % 18446744073709551616 < 18446744073709551616 ∧
    u * 2 ^ (p % k * t) % 18446744073709551616 = u * 2 ^ (p % k * t) ∧
    u * 2 ^ (p % k * t) < 18446744073709551616 ∧
    (A * (2 ^ t) ^ (p + 1) / 18446744073709551616 ^ (p / k) % 18446744073709551616 ||| u * 2 ^ (p % k * t)) = A * (2 ^ t) ^ (p + 1) / 18446744073709551616 ^ (p / k) % 18446744073709551616 + u * 2 ^ (p % k * t) ∧
    A * (2 ^ t) ^ (p + 1) / 18446744073709551616 ^ (p / k) % 18446744073709551616 + u * 2 ^ (p % k * t) < 18446744073709551616 ∧
    A * (2 ^ t) ^ (p + 1) + u * 2 ^ (p % k * t) * 18446744073709551616 ^ (p / k) = (A * 2 ^ t + u) * (2 ^ t) ^ p := by
  have hb : (2 ^ t) ^ k = 18446744073709551616 := by rw [← Nat.pow_mul, hW]
  have hr : p % k < k := Nat.mod_lt _ hk
  have hp : k * (p / k) + p % k = p := Nat.div_add_mod p k
  have hd := zky (2 ^ t) k A (p / k) (p % k) u hr hu
  have hs := zer (2 ^ t) (p / k) (p % k) k
  rw [hp, hb] at hd hs
  have h2 : (2 ^ t) ^ (p % k) = 2 ^ (p % k * t) := by rw [← Nat.pow_mul, Nat.mul_comm]
  have h3 : (2 ^ t) ^ (p % k + 1) = 2 ^ (p % k * t + t) := by rw [← Nat.pow_mul, Nat.mul_add, Nat.mul_one, Nat.mul_comm]
  rw [h2] at hs hd
  rw [h3] at hd
  obtain ⟨hd1, hd2⟩ := hd
  have h4 : u * 2 ^ (p % k * t) < 2 ^ (p % k * t + t) := by
    rw [Nat.pow_add, Nat.mul_comm]
    exact Nat.mul_lt_mul_of_pos_left hu (Nat.pow_pos (by decide))
  refine ⟨Nat.mod_lt _ (by decide), Nat.mod_eq_of_lt (by omega), by omega, ?_, by rw [hd1]; exact hd2, ?_⟩
  · rw [hd1]; exact zgY _ _ _ h4
  · rw [Nat.pow_succ, hs, Nat.add_mul]
    congr 1
    · ac_rfl
    · ac_rfl
theorem zhB (b : Nat) (l : List Nat) (d : Nat) : bev b (l ++ [d]) = bev b l * b + d := by
  rw [zdU]; simp [bev]
theorem zhY (l : List UInt8) (i : Nat) (u : UInt8) (h : l[i]? = some u) : bev 256 (bn (l.take (i + 1))) = bev 256 (bn (l.take i)) * 256 + u.toNat := by
  have hi : i < l.length := by
    rcases Nat.lt_or_ge i l.length with h1 | h1
    · exact h1
    · rw [List.getElem?_eq_none h1] at h; cases h
  have : l.take (i + 1) = l.take i ++ [u] := by
    rw [List.take_succ, h]; rfl
  rw [this]
  unfold bn
  rw [List.map_append]
  exact zhB 256 _ _
theorem w256 : 18446744073709551616 ^ 16 = 256 ^ 128 := zdt 256 8 128 rfl rfl
theorem zkI (l : List UInt8) : (tz l).length ≤ 128 ↔ bev 256 (bn l) < 18446744073709551616 ^ 16 := by
  rw [w256, ← zkb l]
  cases ht : tz l with
  | nil => simp only [List.length_nil]; exact ⟨fun _ => Nat.pow_pos (by decide), fun _ => by omega⟩
  | cons u r =>
    have hu := zlQ l u r ht
    have hu0 : 0 < u.toNat := by
      rcases Nat.eq_zero_or_pos u.toNat with h | h
      · exact absurd (UInt8.toNat_inj.1 (by rw [h]; rfl)) hu
      · exact h
    have h1 := zki 256 (by decide) u.toNat (bn r) hu0 (zdK (u :: r))
    have h2 := zcx 256 (bn (u :: r)) (zdK _)
    have h3 : (bn (u :: r)).length = (u :: r).length := List.length_map _
    have h4 : (u.toNat :: bn r).length = (u :: r).length := h3
    rw [h4] at h1
    rw [h3] at h2
    constructor
    · intro h
      exact Nat.lt_of_lt_of_le h2 (Nat.pow_le_pow_right (by decide) h)
    · intro h
      have := zam 256 _ 128 (by decide) h
      rw [show bev 256 (bn (u :: r)) = bev 256 (u.toNat :: bn r) from rfl, h1] at this
      exact this
end Go.Nt
namespace Go.Proofs.YtjidkoabdmjgkaaGreatDoor
open Go Go.Sy Go.Nt Go.RowKit
attribute [local irreducible] Sy SyL SyX Sy.Fn callFunc natC
set_option maxRecDepth 10000
theorem za1 (a : Option Addr) (len c : Nat) (bl : List UInt8) (w : World) (hl : bl.length = len) (hc : len ≤ c) (hb : SlA w a (bl.map v8)) (hx : len < 9223372036854775808) :
    Sy.Fn Tryz.prog 68 [.slice a len c] w No (Gives (if bev 256 (bn bl) < 18446744073709551616 ^ 16 then .tuple #[natV (bev 256 (bn bl)), .int .i64 0] else .tuple #[natV 0, .int .i64 7])) := by
  refine zq Tryz.func68 rfl Tryz.ntmps68 (by simp) Holds.nil ?_
  obtain ⟨a', c', hc', hs, htl⟩ := zif a len c bl w hl hc hb
  have hle := zlJ bl
  have hsm := zkI bl
  rw [← zkb bl] at hsm ⊢
  generalize tz bl = l at *
  obtain ⟨n, hn⟩ : ∃ n, n = l.length := ⟨_, rfl⟩
  rw [← hn] at htl hc' hsm hle
  by_cases hbig : n ≤ 128
  · rw [if_pos (hsm.1 hbig)]
    repeat' (first | refine zh ?_ | refine zf ?_ | refine zt rfl ?_ | refine zu ?_ | refine zr ?_ | refine ze ?_ | refine zj ?_ | (refine za (id := 0) ?_; (refine zm ?_; intro _); refine zd ?_) | (refine za (id := 1) ?_; refine zb ?_; refine yv (zi (hc := fun w' _ hk _ => htl w' hk)) (k := ?_); refine zd ?_) | (refine za (id := 2) ?_; refine zb ?_; refine zA ?_; refine z6 ?_) | (refine za (id := 4) ?_; (refine zm ?_; intro _)) | (refine za (id := 5) ?_; refine zb ?_; refine zA ?_; refine zb ?_) | fail)
    rename_i b2 b4
    refine zQ (γ := Nat) (fun i => [(0, .slice a' n c'), (2, .pointer (some ⟨b2, 0, none⟩)), (3, .int .i64 0), (4, .pointer (some ⟨b4, 0, none⟩)), (14, .slice a' n c'), (15, .int .i64 n), (16, .int .i64 i)])
      (fun i => [.blk b4 43 (natC (bev 256 (bn (l.take i)) * 256 ^ (n - i))), .blk b2 43 (List.replicate 16 (Value.int IntKind.u64 0))])
      (fun i => i ≤ n) (fun i => n - i) 0 (Nat.zero_le _) ?_ ?_ ?_
    · exact Sub.go
    · show SubR [.blk b4 43 (natC (bev 256 (bn (l.take 0)) * 256 ^ (n - 0))), .blk b2 43 (List.replicate 16 (Value.int IntKind.u64 0))] _
      rw [show bev 256 (bn (l.take 0)) = 0 from rfl, Nat.zero_mul, ← natC0]
      exact SubR.go
    intro i hi
    by_cases hlt : i < n
    · obtain ⟨u, hu⟩ : ∃ u, l[i]? = some u := ⟨l[i]'(by omega), List.getElem?_eq_getElem _⟩
      obtain ⟨b, o, rfl, hr⟩ : ∃ b o, a' = some ⟨b, o, none⟩ ∧ w.rangeAt b o (l.map v8) := by
        rcases hs with h | h
        · have := congrArg List.length h; rw [List.length_map, ← hn] at this; exact absurd this (by show ¬ n = 0; omega)
        · exact h
      have hcell : w.cell? ⟨b, o + i, none⟩ = some (v8 u) := hr i (v8 u) (by rw [List.getElem?_map, hu]; rfl)
      obtain ⟨p, hp⟩ : ∃ p, p = n - 1 - i := ⟨_, rfl⟩
      have hpn : n - i = p + 1 := by omega
      have hsub : IntKind.i64.wrap ((n : Int) - 1 - (i : Int)) = ((p : Nat) : Int) := by rw [IntWalk.i64_in _ (by omega)]; omega
      obtain ⟨e1, e2, e3, e4, e5, e6⟩ := zfd 8 8 (bev 256 (bn (l.take i))) p u.toNat rfl (by decide) u.toNat_lt
      rw [show (2 : Nat) ^ 8 = 256 from rfl] at e1 e4 e5 e6
      have hlN := zg (bev 256 (bn (l.take i)) * 256 ^ (n - i))
      have hd := zay (bev 256 (bn (l.take i)) * 256 ^ (n - i)) (p / 8) (by omega)
      have hset := zca (bev 256 (bn (l.take i)) * 256 ^ (n - i)) (p / 8) (u.toNat * 2 ^ (p % 8 * 8))
      have htk := zhY l i u hu
      rw [hpn] at hd hset hlN ⊢
      rw [e6, ← htk] at hset
      have hset := hset e5
      rw [← e4, ← e2] at hset
      have hni : n - (i + 1) = p := by omega
      generalize bev 256 (bn (l.take i)) * 256 ^ (p + 1) = X at *
      generalize X / 18446744073709551616 ^ (p / 8) % 18446744073709551616 = d at *
      have q1 : IntKind.i64.wrap ((p : Int).tdiv 8) = ((p / 8 : Nat) : Int) := quoI (k := 8) (by omega)
      have q2 : (p : Int).tmod 8 = ((p % 8 : Nat) : Int) := remI p 8
      have q3 : IntKind.i64.wrap (((p % 8 : Nat) : Int) * 8) = ((p % 8 * 8 : Nat) : Int) := by rw [IntWalk.i64_in _ (by omega)]; omega
      have q4 : IntKind.u64.wrap (Wd.n8 u) = ((u.toNat : Nat) : Int) := IntWalk.u64_in _ (by have := Wd.n8_lt u; have := Wd.n8_nonneg u; omega)
      have hp8 : p / 8 < 16 := by omega
      repeat' (first | refine zh ?_ | refine zf ?_ | refine zw rfl ?_ | refine zu ?_ | refine zr ?_ | refine ze ?_ | refine zj ?_ | (refine za (id := 6) ?_; refine zX ?_) | (refine za (id := 7) ?_; refine zb ?_; refine zC ?_; refine yv (zN (hv := hcell)) (k := ?_); refine zd ?_; refine zd ?_) | (refine za (id := 8) ?_; refine zb ?_; refine zA ?_; refine zcX ?_; refine zb ?_; refine yv (zM (hr := hsub)) (k := ?_); refine zd ?_) | (refine zV (id := 9) 13 [[], [0], [], [0, 1, 2], [0, 1, 2, 3], [], [5], [], [7], [7, 8], [5, 6, 7, 8, 9], [0, 1, 2, 3, 4, 5, 6, 7, 8, 9, 10], [], [0, 1, 2, 3, 4, 5, 6, 7, 8, 9, 10, 11, 12], [0, 1, 2, 3, 4, 5, 6, 7, 8, 9, 10, 11, 12, 13]] mixed ?_ ?_; kernel_rfl; refine zB ?_; refine dc (fun _ _ => zaN (hr := q1)) (k := ?_); refine zbt ?_; refine zZ ?_; refine dc (fun _ _ => zP (hv := hd)) (k := ?_); refine zB ?_; refine dc (fun _ _ => zaM (hr := q4)) (k := ?_); refine zB ?_; refine dc (fun _ _ => za2 (hr := q2)) (k := ?_); refine dc (fun _ _ => zab (hr := q3)) (k := ?_); refine dc (fun _ _ => zdj (a := u.toNat) (n := p % 8 * 8)) (k := ?_); refine dc (fun _ _ => zem (a := d) (b := u.toNat * 2 ^ (p % 8 * 8) % 18446744073709551616) e1 (Nat.mod_lt _ (by decide))) (k := ?_); refine zbt ?_; refine z7 ?_; refine zC ?_; refine zH ?_) | (refine za (id := 10) ?_; refine zah ?_; refine zb ?_) | fail)
      refine zI (i + 1) ?_ ?_ ?_ ?_
      · show i + 1 ≤ n; omega
      · show n - (i + 1) < p + 1; omega
      · exact Sub.go
      · show SubR [.blk b4 43 (natC (bev 256 (bn (l.take (i + 1))) * 256 ^ (n - (i + 1)))), .blk b2 43 (List.replicate 16 (Value.int IntKind.u64 0))] _
        rw [hni, ← hset]
        exact SubR.go
    obtain rfl : i = n := by omega
    have htake : l.take i = l := by rw [hn]; exact List.take_length
    rw [htake, Nat.sub_self, Nat.pow_zero, Nat.mul_one]
    have hlN := zg (bev 256 (bn l))
    have hx2 := hsm.1 hbig
    generalize bev 256 (bn l) = x at *
    repeat' (first | refine zh ?_ | refine zf ?_ | refine zt rfl ?_ | refine zp ?_ | refine zE ?_ | refine ze ?_ | refine zj ?_ | (refine za (id := 6) ?_; refine zX ?_) | (refine za (id := 11) ?_; refine yv (zl (B := natC x)) (k := ?_); refine yn (zn (n := x)) (k := ?_); refine zd ?_) | fail)
    exact ret2 rfl (resCells (B := natC x) rfl (ty rfl) rfl Has.go Seg.all (zg _).symm) (resTmp rfl) SubR.nil ⟨rfl, rfl⟩
  · rw [if_neg (fun h => hbig (hsm.2 h))]
    have hgt : decide (128 < (n : Int)) = true := decide_eq_true (by omega)
    repeat' (first | refine zh ?_ | refine zf ?_ | refine zw rfl ?_ | refine zp ?_ | refine ze ?_ | refine zj ?_ | refine zy ?_ | (refine za (id := 0) ?_; (refine zm ?_; intro _); refine zd ?_) | (refine za (id := 1) ?_; refine zb ?_; refine yv (zi (hc := fun w' _ hk _ => htl w' hk)) (k := ?_); refine zd ?_) | (refine za (id := 2) ?_; refine zb ?_; refine zA ?_; refine yv (zae (hr := hgt)) (k := ?_)) | (refine za (id := 3) ?_; refine zbV ?_; refine zH ?_; refine zd ?_) | fail)
    exact ret2 rfl (resCells (B := List.replicate 16 (Value.int IntKind.u64 0)) rfl (ty rfl) rfl Has.go Seg.all rfl) (resTmp rfl) SubR.nil ⟨by rw [← natV0], rfl⟩
end Go.Proofs.YtjidkoabdmjgkaaGreatDoor
end
