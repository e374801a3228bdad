/- The specification's padding, walked. -/
import Derived.Test.YtjidkoabdmjgkaaGreatDoorVJ38
import Derived.Test.YtjidkoabdmjgkaaGreatDoorVJ41
import Derived.Test.YtjidkoabdmjgkaaGreatDoorVJ39
import Derived.Test.YtjidkoabdmjgkaaGreatDoorVJ40
set_option linter.all false
section
namespace Go.Sh
open Go.Wd Go.RowKit
def zeros (n : Nat) : Nat := (119 - n % 64) % 64
def padded (b : List UInt8) : List UInt8 := b ++ 128 :: (List.replicate (zeros b.length) 0 ++ be8 (8 * b.length))
theorem zmF (n z : Nat) (hz : z ≤ zeros n) : (n + 1 + z) % 64 ≠ 56 ↔ z < zeros n := by
  unfold zeros at *
  omega
theorem zd1 (b : List UInt8) : (padded b).length = b.length + 9 + zeros b.length := by simp [padded, zdg]; omega
theorem zeh : ∀ (n : Nat) (b c : List UInt8), 64 * n ≤ b.length → whole n (b ++ c) = whole n b
  | 0, _, _, _ => rfl
  | n + 1, b, c, h => by
    simp only [whole]
    rw [List.take_append_of_le_length (by omega), List.drop_append_of_le_length (by omega), zeh n _ c (by rw [List.length_drop]; omega)]
theorem zg1 : ∀ (n m : Nat) (b : List UInt8), whole (n + m) b = whole n b ++ whole m (b.drop (64 * n))
  | 0, m, b => by simp [whole]
  | n + 1, m, b => by
    rw [show n + 1 + m = (n + m) + 1 from by omega]
    simp only [whole, List.cons_append]
    rw [zg1 n m, List.drop_drop]; congr 4; omega
theorem zhD (b : List UInt8) : blocks b b.length = whole ((padded b).length / 64) (padded b) := by
  have hr : (b.drop (64 * (b.length / 64))).length = b.length % 64 := by rw [List.length_drop]; omega
  have ht := zhO (b.drop (64 * (b.length / 64))) b.length (by omega)
  have hp : padded b = b.take (64 * (b.length / 64)) ++ tail (b.drop (64 * (b.length / 64))) b.length := by
    unfold padded tail
    have : zeros b.length = (if b.length % 64 + 9 > 64 then 128 else 64) - b.length % 64 - 9 := by unfold zeros; split <;> omega
    rw [hr, ← this]
    simp only [List.append_assoc, List.cons_append]
    rw [← List.append_assoc (List.take _ _) (List.drop _ _), List.take_append_drop]
  have hl := zd1 b
  rw [hr] at ht
  have hz : zeros b.length = (119 - b.length % 64) % 64 := rfl
  have hn : (padded b).length / 64 = b.length / 64 + (tail (b.drop (64 * (b.length / 64))) b.length).length / 64 := by
    rw [ht, hl, hz]; split <;> omega
  rw [hn, zg1]
  have e1 : whole (b.length / 64) b = whole (b.length / 64) (padded b) := by
    have e2 : whole (b.length / 64) (b.take (64 * (b.length / 64)) ++ b.drop (64 * (b.length / 64))) = whole (b.length / 64) (b.take (64 * (b.length / 64))) := zeh _ _ _ (by rw [List.length_take]; omega)
    rw [List.take_append_drop] at e2
    rw [e2, hp, zeh _ _ _ (by rw [List.length_take]; omega)]
  have e3 : (padded b).drop (64 * (b.length / 64)) = tail (b.drop (64 * (b.length / 64))) b.length := by
    rw [hp]; exact List.drop_left' (by rw [List.length_take]; omega)
  rw [← e1, e3]; rfl
theorem zmL (n i : Nat) (hn : n < 1000000000000000) (hi : i < 8) : Op.shift .shr .i64 (8 * (n : Int)) .i64 (8 * (i : Int)) = pure (.int .i64 (((8 * n) / 256 ^ i : Nat) : Int)) ∧
    (((8 * n) / 256 ^ i : Nat) : Int).tmod 256 = (((8 * n) / 256 ^ i % 256 : Nat) : Int) ∧ IntKind.u8.wrap (((8 * n) / 256 ^ i % 256 : Nat) : Int) = n8 (UInt8.ofNat ((8 * n) / 256 ^ i)) := by
  refine ⟨?_, ?_, ?_⟩
  · rw [show (8 * (i : Int)) = ((8 * i : Nat) : Int) from (Int.natCast_mul 8 i).symm, shri _ _ (8 * i) (by omega), Nat.pow_mul 2 8 i |> fun h => show ((2 : Int) ^ (8 * i)) = ((256 ^ i : Nat) : Int) by rw [show (256 : Nat) = 2 ^ 8 from rfl, ← h, Int.natCast_pow]; rfl]
    rw [show (8 * (n : Int)) = ((8 * n : Nat) : Int) from (Int.natCast_mul 8 n).symm, ← Int.natCast_ediv]
  · rw [Int.tmod_eq_emod_of_nonneg (Int.natCast_nonneg _)]; rfl
  · rw [wrap_u8_nat, n8_of_nat, Nat.mod_mod]
theorem zmi (n j : Nat) (hj : j < 8) : (be8 n).take (j + 1) = (be8 n).take j ++ [UInt8.ofNat (n / 256 ^ (7 - j))] := by
  have hl : j < (be8 n).length := by rw [zdg]; exact hj
  rw [List.take_succ_eq_append_getElem hl]; congr 2; simp [be8]
end Go.Sh
namespace Go.Proofs.YtjidkoabdmjgkaaGreatDoor
open Go Go.Sy Go.Wd Go.Sh
theorem v8_0 : Value.int .u8 0 = Go.Sy.v8 0 := rfl
theorem v8_128 : Value.int .u8 128 = Go.Sy.v8 128 := rfl
attribute [local irreducible] Sy SyL SyX Sy.Fn callFunc n8 n32
set_option maxRecDepth 10000
set_option maxHeartbeats 1000000 in
theorem zjV (a0 : Option Addr) (n c : Nat) (l : List UInt8) (w : World) (hn : l.length = n) (hb : n < 1000000000000) (hl : SlA w a0 (l.map Sy.v8)) (hc : a0 = none → c = 0) :
    Sy.Fn Tryz.prog 119 [.slice a0 n c] w No (fun v R => ∃ a k, v = .slice a (padded l).length k ∧ R = [.row v 5 1 (padded l).length ((padded l).map Sy.v8)]) := by
  refine zq Tryz.func119 rfl Tryz.ntmps119 (by simp) Holds.nil ?_
  repeat' (first | refine zg ?_ | refine zf ?_ | refine zr ?_ | refine ze ?_ | refine zj ?_ | (refine za (id := 0) ?_; refine zd ?_) | (refine za (id := 1) ?_; (refine ys zgP (k := ?_); rintro _ _ ⟨_, rfl, rfl⟩); refine zb ?_; (refine ys zcH (k := ?_); rintro _ _ ⟨rfl, _, _, rfl⟩); (refine ys zR (k := ?_); rintro _ _ ⟨_, rfl, rfl⟩); (refine ys zap (k := ?_); rintro _ _ ⟨rfl, _, _, rfl⟩); refine zd ?_) | fail)
  rename_i b6 a8 c8 b9 a1 c1
  refine zQ (γ := Nat × Option Addr × Nat) (fun g => [(0, .slice a0 n c), (2, .slice none 0 0), (3, .slice g.2.1 (n + 1 + g.1) g.2.2)])
    (fun g => [.row (.slice g.2.1 (n + 1 + g.1) g.2.2) 5 1 (n + 1 + g.1) ((l ++ 128 :: List.replicate g.1 0).map Sy.v8)])
    (fun g => g.1 ≤ zeros n) (fun g => zeros n - g.1) (0, a1, c1) (Nat.zero_le _) ?_ ?_ ?_
  · exact Sub.go
  · (repeat' (first | exact SubR.nil | (apply SubR.same; with_reducible (focus ((repeat (first | exact Rem.here | apply Rem.there)); done))) | (apply SubR.blk; (focus ((repeat (first | exact Rem.here | apply Rem.there)); done))) | (apply SubR.pick; (focus ((repeat (first | exact Rem.here | apply Rem.there)); done))) | rfl))
    simp [v8_128]
  rintro ⟨z, a2, c2⟩ hz
  dsimp only at *
  have hzl := zmF n z hz
  have hz64 : zeros n < 64 := by unfold zeros; omega
  by_cases hlt : z < zeros n
  · have hne := hzl.2 hlt
    repeat' (first | refine zg ?_ | refine zf ?_ | refine zu rfl ?_ | refine zr ?_ | refine zt ?_ | refine ze ?_ | refine zj ?_ | refine zaC ?_ | (refine za (id := 2) ?_; refine zb ?_; refine zB ?_; refine zj0 ?_; refine z8 ?_) | (refine za (id := 3) ?_; refine zb ?_; (refine ys zR (k := ?_); rintro _ _ ⟨_, rfl, rfl⟩); (refine ys zap (k := ?_); rintro _ _ ⟨rfl, _, _, rfl⟩); refine zd ?_) | fail)
    rename_i b16 a3 c3
    refine zG (z + 1, a3, c3) ?_ ?_ ?_ ?_
    · show z + 1 ≤ zeros n; omega
    · show zeros n - (z + 1) < zeros n - z; omega
    · exact Sub.go
    · (repeat' (first | exact SubR.nil | (apply SubR.same; with_reducible (focus ((repeat (first | exact Rem.here | apply Rem.there)); done))) | (apply SubR.blk; (focus ((repeat (first | exact Rem.here | apply Rem.there)); done))) | (apply SubR.pick; (focus ((repeat (first | exact Rem.here | apply Rem.there)); done))) | rfl))
      simp [List.replicate_succ', v8_0]; omega
  obtain rfl : z = zeros n := by omega
  have hne : ¬ (n + 1 + zeros n) % 64 ≠ 56 := fun h => hlt (hzl.1 h)
  repeat' (first | refine zg ?_ | refine zf ?_ | refine zw rfl ?_ | refine zr ?_ | refine zE ?_ | refine ze ?_ | refine zj ?_ | (refine za (id := 2) ?_; refine zb ?_; refine zB ?_; refine zj0 ?_; refine z8 ?_) | (refine za (id := 4) ?_; refine zb ?_; refine zB ?_; refine zcX ?_; refine zd ?_) | (refine za (id := 5) ?_; refine zd ?_) | fail)
  refine zQ (γ := Nat × Option Addr × Nat) (fun g => [(0, .slice a0 n c), (2, .slice none 0 0), (3, .slice g.2.1 (n + 1 + zeros n + g.1) g.2.2), (4, .int .i64 (8 * (n : Int))), (5, .int .i64 (7 - (g.1 : Int)))])
    (fun g => [.row (.slice g.2.1 (n + 1 + zeros n + g.1) g.2.2) 5 1 (n + 1 + zeros n + g.1) ((l ++ 128 :: (List.replicate (zeros n) 0 ++ (be8 (8 * n)).take g.1)).map Sy.v8)])
    (fun g => g.1 ≤ 8) (fun g => 8 - g.1) (0, a2, c2) (Nat.zero_le _) ?_ ?_ ?_
  · exact Sub.go
  · (repeat' (first | exact SubR.nil | (apply SubR.same; with_reducible (focus ((repeat (first | exact Rem.here | apply Rem.there)); done))) | (apply SubR.blk; (focus ((repeat (first | exact Rem.here | apply Rem.there)); done))) | (apply SubR.pick; (focus ((repeat (first | exact Rem.here | apply Rem.there)); done))) | rfl))
    simp
  rintro ⟨j, a3, c3⟩ hj
  dsimp only at *
  by_cases hlt8 : j < 8
  · obtain ⟨i, hi⟩ : ∃ i, i + j = 7 := ⟨7 - j, by omega⟩
    have e7 : 7 - (j : Int) = (i : Int) := by omega
    rw [e7]
    obtain ⟨q1, q2, q3⟩ := zmL n i (by omega) (by omega)
    repeat' (first | refine zg ?_ | refine zf ?_ | refine zu rfl ?_ | refine zr ?_ | refine zt ?_ | refine ze ?_ | refine zj ?_ | (refine za (id := 6) ?_; refine zb ?_; refine zai ?_) | (refine za (id := 8) ?_; refine zb ?_; refine zb ?_; refine zb ?_; refine zcX ?_; refine yv (za9 (hr := q1)) (k := ?_); refine yv (zaA (hr := q2)) (k := ?_); refine yv (zaD (hr := q3)) (k := ?_); (refine ys zR (k := ?_); rintro _ _ ⟨_, rfl, rfl⟩); (refine ys zap (k := ?_); rintro _ _ ⟨rfl, _, _, rfl⟩); refine zd ?_) | (refine za (id := 7) ?_; refine zb ?_; refine zcW ?_; refine zd ?_) | fail)
    rename_i b32 a4 c4
    refine zG (j + 1, a4, c4) ?_ ?_ ?_ ?_
    · show j + 1 ≤ 8; omega
    · show 8 - (j + 1) < 8 - j; omega
    · (repeat' (first | exact Sub.nil | refine Sub.cons rfl ?_ ?_ | rfl))
      rw [show (i : Int) - 1 = 7 - ((j + 1 : Nat) : Int) from by omega]
    · (repeat' (first | exact SubR.nil | (apply SubR.same; with_reducible (focus ((repeat (first | exact Rem.here | apply Rem.there)); done))) | (apply SubR.blk; (focus ((repeat (first | exact Rem.here | apply Rem.there)); done))) | (apply SubR.pick; (focus ((repeat (first | exact Rem.here | apply Rem.there)); done))) | rfl))
      rw [zmi _ _ hlt8, show 7 - j = i from by omega]
      simp
      exact ⟨by omega, rfl⟩
  obtain rfl : j = 8 := by omega
  repeat' (first | refine zg ?_ | refine zf ?_ | refine zw rfl ?_ | refine zo ?_ | refine zE ?_ | refine ze ?_ | refine zj ?_ | (refine za (id := 6) ?_; refine zb ?_; refine zai ?_) | (refine za (id := 9) ?_; refine zb ?_; refine zd ?_) | fail)
  have hp : (padded l).length = n + 1 + zeros n + 8 := by rw [zd1, hn]; omega
  have hpe : l ++ 128 :: (List.replicate (zeros n) 0 ++ (be8 (8 * n)).take 8) = padded l := by
    rw [List.take_of_length_le (by rw [zdg]; omega)]; unfold padded; rw [hn]
  rw [hpe, ← hp]
  exact ret1 rfl (resTmp rfl) (by exact SubR.go) ⟨_, _, rfl, rfl⟩
end Go.Proofs.YtjidkoabdmjgkaaGreatDoor
end
section
namespace Go.Sh
open Go.Wd Go.RowKit
theorem zfq (s : List UInt32) : (ser s).length = 4 * s.length := by
  induction s with
  | nil => rfl
  | cons x s ih => simp only [ser, List.flatMap_cons, List.length_append] at *; rw [ih]; simp [be4]; omega
theorem zjA : ∀ (s : List UInt32) (i : Nat), i < 4 * s.length → (ser s)[i]? = some ((s.getD (i / 4) 0 >>> UInt32.ofNat (24 - 8 * (i % 4))).toUInt8)
  | [], i, h => by simp at h
  | x :: s, i, h => by
    have e : ser (x :: s) = be4 x ++ ser s := by simp [ser]
    rw [e]
    by_cases h4 : i < 4
    · rw [List.getElem?_append_left (by simp [be4]; omega)]
      have : i = 0 ∨ i = 1 ∨ i = 2 ∨ i = 3 := by omega
      rcases this with rfl | rfl | rfl | rfl <;> rfl
    · rw [List.getElem?_append_right (by simp [be4]; omega)]
      have hl : (be4 x).length = 4 := rfl
      rw [hl, zjA s (i - 4) (by simp at h; omega)]
      rw [show i / 4 = (i - 4) / 4 + 1 from by omega, show i % 4 = (i - 4) % 4 from by omega]; rfl
theorem zhp {α : Type} {C L : List α} {k : Nat} {v : α} (h : k < C.length) (hL : C.take k = L.take k) (hv : L[k]? = some v) : (C.set k v).take (k + 1) = L.take (k + 1) := by
  obtain ⟨hk, he⟩ := List.getElem?_eq_some_iff.1 hv
  rw [zas h hL v, List.take_succ_eq_append_getElem hk, he]
def nthBlock (b : List UInt8) (q : Nat) : List UInt8 := (b.drop (64 * q)).take 64
theorem zgd (n q : Nat) (b : List UInt8) (h : q < n) : (whole n b).take (q + 1) = (whole n b).take q ++ [nthBlock b q] := by
  have := zeM n q b h
  obtain ⟨hk, he⟩ := List.getElem?_eq_some_iff.1 this
  rw [List.take_succ_eq_append_getElem hk, he]; rfl
theorem fold_snoc (s : List UInt32) (l : List (List UInt8)) (x : List UInt8) : fold s (l ++ [x]) = compress (fold s l) x := by simp [fold]
theorem zcR : ∀ (l : List (List UInt8)) (s : List UInt32), s.length = 8 → (fold s l).length = 8
  | [], s, h => h
  | x :: l, s, h => zcR l _ (zbA s x h)
theorem zlD (x : UInt32) (m : Nat) : (n32 (x >>> UInt32.ofNat m)).tmod 256 = n32 (x >>> UInt32.ofNat m) % 256 ∧ IntKind.u8.wrap (n32 (x >>> UInt32.ofNat m) % 256) = n8 ((x >>> UInt32.ofNat m).toUInt8) := by
  refine ⟨Int.tmod_eq_emod_of_nonneg (zH _), ?_⟩
  rw [← zbU, IntKind.wrap_u8, IntKind.wrap_u8, Int.emod_emod_of_dvd _ (Int.dvd_refl _)]
end Go.Sh
namespace Go.Proofs.YtjidkoabdmjgkaaGreatDoor
open Go Go.Sy Go.Wd Go.Sh
attribute [local irreducible] Sy SyL SyX Sy.Fn callFunc
set_option maxRecDepth 10000
set_option maxHeartbeats 1000000 in
theorem zl6 (a0 : Option Addr) (n c kb ko kc : Nat) (l : List UInt8) (w : World) (hn : l.length = n) (hb : n < 1000000000000) (hl : SlA w a0 (l.map Sy.v8)) (hc : a0 = none → c = 0)
    (hG : w.cell? ⟨5, 0, none⟩ = some (.slice (some ⟨kb, ko, none⟩) 64 kc)) (hK : w.rangeAt kb ko (kC.map vi)) :
    Sy.Fn Tryz.prog 89 [.slice a0 n c] w No (Gives (.agg ((sum l).map Sy.v8).toArray)) := by
  refine zq Tryz.func89 rfl Tryz.ntmps89 (by simp) Holds.nil ?_
  repeat' (first | refine zg ?_ | refine zf ?_ | refine ze ?_ | refine zj ?_ | (refine za (id := 0) ?_; (refine zm ?_; intro _)) | (refine za (id := 1) ?_; refine zbE ?_; (refine zm ?_; intro _); refine zS ?_) | (refine za (id := 2) ?_; refine zb ?_) | fail)
  rename_i b2 b3
  refine ys (zy (hc := fun w' X hk hh => zjV a0 n c l w' hn hb (hl.keep hk (fun _ _ h => h)) hc)) (k := ?_)
  rintro _ _ ⟨R, rfl, a, cp, rfl, rfl⟩
  repeat' (first | refine zg ?_ | refine zf ?_ | refine zr ?_ | refine ze ?_ | refine zj ?_ | (refine za (id := 3) ?_; refine zd ?_) | (refine zV ?_; first | refine zd ?_ | fail) | fail)
  have hpl := zd1 l
  have hz : zeros l.length = (119 - l.length % 64) % 64 := rfl
  generalize hp : padded l = p at *
  generalize hm : p.length = m at *
  refine zjl (by exact Rem.here) (by omega) ?_
  rintro b J rfl h1 h2 h3 h4
  obtain ⟨q0, hq0⟩ : ∃ q0, m = 64 * q0 := ⟨m / 64, by omega⟩
  refine zQ (γ := Nat) (fun q => [(2, .pointer (some ⟨b2, 0, none⟩)), (3, .pointer (some ⟨b3, 0, none⟩)), (4, .slice (some ⟨b, 0, none⟩) m cp), (5, .int .i64 ((64 * q : Nat) : Int))])
    (fun q => [.blk b 5 (p.map Sy.v8 ++ J), .blk b3 127 ((fold h0 ((whole q0 p).take q)).map vi), .blk b2 92 (List.replicate 32 (.int .u8 0))])
    (fun q => q ≤ q0) (fun q => q0 - q) 0 (Nat.zero_le _) ?_ ?_ ?_
  · exact Sub.go
  · exact SubR.go
  intro q hq
  by_cases hlt : q < q0
  · generalize hs : fold h0 ((whole q0 p).take q) = s
    have hs8 : s.length = 8 := by rw [← hs]; exact zcR _ _ rfl
    have hbl : (nthBlock p q).length = 64 := by unfold nthBlock; rw [List.length_take, List.length_drop]; omega
    have hcl := zbA s (nthBlock p q) hs8
    have hseg : Seg (p.map Sy.v8 ++ J) (64 * q) ((nthBlock p q).map Sy.v8) := by
      refine Seg.at ?_
      unfold nthBlock
      rw [List.length_map, List.length_take, List.length_drop, Nat.min_eq_left (by omega), List.drop_append_of_le_length (by simp; omega), List.take_append_of_le_length (by simp; omega)]
      rw [← List.map_drop, ← List.map_take]
    have hmv : movA (some ⟨b, 0, none⟩) (64 * q) cp 1 = some ⟨b, 64 * q, none⟩ := by rw [zdX (by omega)]; simp
    repeat' (first | refine zg ?_ | refine zf ?_ | refine zu rfl ?_ | refine zr ?_ | refine zt ?_ | refine ze ?_ | refine zj ?_ | (refine za (id := 4) ?_; refine zb ?_; refine zb ?_; refine zB ?_; refine zY ?_) | (refine zW (id := 6) 6 [[], [], [], [], [3], [1, 2, 3, 4], [0, 1, 2, 3, 4, 5], [0, 1, 2, 3, 4, 5, 6]] mixed ?_ ?_; kernel_rfl; refine zau ?_; refine zA ?_; refine zA ?_; refine zA ?_; refine zj4 ?_; refine zm3 ?_; refine z5 ?_; refine yv (zi (hc := fun w' X hk hh => zk7 b (64 * q) _ kb ko kc s (nthBlock p q) w' hs8 hbl (Reads.blk (by exact Has.here) hseg w' X hk hh) (hk.cell hG (fun h => h)) (fun j v hj => hk.cell (hK j v hj) (fun h => h)))) (k := ?_); refine zS ?_) | (refine za (id := 5) ?_; refine zb ?_; refine zaf ?_; refine zd ?_) | fail)
    refine zG (q + 1) ?_ ?_ ?_ ?_
    · show q + 1 ≤ q0; omega
    · show q0 - (q + 1) < q0 - q; omega
    · exact Sub.go
    · (repeat' (first | exact SubR.nil | (apply SubR.same; with_reducible (focus ((repeat (first | exact Rem.here | apply Rem.there)); done))) | (apply SubR.blk; (focus ((repeat (first | exact Rem.here | apply Rem.there)); done))) | (apply SubR.pick; (focus ((repeat (first | exact Rem.here | apply Rem.there)); done))) | rfl))
      rw [zgd _ _ _ hlt, fold_snoc, hs]
  obtain rfl : q = q0 := by omega
  have hw : fold h0 ((whole q p).take q) = fold h0 (blocks l l.length) := by
    rw [List.take_of_length_le (by rw [zc6]; omega), zhD, hp, hm]; congr 2; omega
  rw [hw]
  generalize hs : fold h0 (blocks l l.length) = s
  have hs8 : s.length = 8 := by rw [← hs]; exact zcR _ _ rfl
  have hser : (ser s).length = 32 := by rw [zfq, hs8]
  repeat' (first | refine zg ?_ | refine zf ?_ | refine zw rfl ?_ | refine zr ?_ | refine zE ?_ | refine ze ?_ | refine zj ?_ | (refine za (id := 4) ?_; refine zb ?_; refine zb ?_; refine zB ?_; refine zY ?_) | (refine za (id := 7) ?_; (refine zm ?_; intro _)) | (refine za (id := 8) ?_; refine zd ?_) | fail)
  rename_i b6
  refine zQ (γ := Nat × List UInt8) (fun g => [(2, .pointer (some ⟨b2, 0, none⟩)), (3, .pointer (some ⟨b3, 0, none⟩)), (6, .pointer (some ⟨b6, 0, none⟩)), (7, .int .i64 g.1)])
    (fun g => [.blk b6 92 (g.2.map Sy.v8), .blk b3 127 (s.map vi), .blk b2 92 (List.replicate 32 (.int .u8 0))])
    (fun g => g.1 ≤ 32 ∧ g.2.length = 32 ∧ g.2.take g.1 = (ser s).take g.1) (fun g => 32 - g.1) (0, List.replicate 32 0) ⟨by omega, by simp, rfl⟩ ?_ ?_ ?_
  · exact Sub.go
  · exact SubR.go
  rintro ⟨i, C⟩ ⟨hi, hC, hT⟩
  dsimp only at *
  by_cases hlt : i < 32
  · have cw := zbI vi (l := s) (i := i / 4) (by omega) 0
    have cg := zjA s i (by omega)
    generalize hx : s.getD (i / 4) 0 = x at *
    obtain ⟨m, hmm⟩ : ∃ m, m + 8 * (i % 4) = 24 := ⟨24 - 8 * (i % 4), by omega⟩
    have e24 : IntKind.i64.wrap (24 - 8 * ((i % 4 : Nat) : Int)) = (m : Int) := by rw [wrapi _ (by omega) (by omega)]; omega
    rw [show 24 - 8 * (i % 4) = m from by omega] at cg
    obtain ⟨q1, q2⟩ := zlD x m
    repeat' (first | refine zg ?_ | refine zf ?_ | refine zu rfl ?_ | refine zr ?_ | refine zt ?_ | refine ze ?_ | refine zj ?_ | (refine za (id := 9) ?_; refine zb ?_; refine zY ?_) | (refine za (id := 11) ?_; refine zb ?_; refine zb ?_; refine zox ?_; refine zC ?_; refine zK ?_; refine zb ?_; refine zj0 ?_; refine zcX ?_; refine yv (zL (hr := e24)) (k := ?_); refine yv (za9 (hr := shri32 _ _ m (by omega))) (k := ?_); refine yv (zaA (hr := q1)) (k := ?_); refine yv (zaD (hr := q2)) (k := ?_); refine zC ?_; refine zS ?_) | (refine za (id := 10) ?_; refine zb ?_; refine zaf ?_; refine zd ?_) | fail)
    refine zG (i + 1, C.set i ((x >>> UInt32.ofNat m).toUInt8)) ?_ ?_ ?_ ?_
    · exact ⟨by omega, by simp [hC], zhp (by omega) hT cg⟩
    · show 32 - (i + 1) < 32 - i; omega
    · exact Sub.go
    · (repeat' (first | exact SubR.nil | (apply SubR.same; with_reducible (focus ((repeat (first | exact Rem.here | apply Rem.there)); done))) | (apply SubR.blk; (focus ((repeat (first | exact Rem.here | apply Rem.there)); done))) | (apply SubR.pick; (focus ((repeat (first | exact Rem.here | apply Rem.there)); done))) | rfl))
      rw [List.map_set]; rfl
  obtain rfl : i = 32 := by omega
  rw [List.take_of_length_le (by omega), List.take_of_length_le (by omega)] at hT
  repeat' (first | refine zg ?_ | refine zf ?_ | refine zw rfl ?_ | refine zo ?_ | refine zE ?_ | refine ze ?_ | refine zj ?_ | (refine za (id := 9) ?_; refine zb ?_; refine zY ?_) | (refine za (id := 12) ?_; refine zK ?_; refine zS ?_) | fail)
  refine ret1 rfl (resCells rfl (ty rfl) rfl Has.go Seg.all (by first | rfl | (simp only [List.length_map, List.length_set, List.length_replicate, List.length_append]; omega) | (simp only [List.length_map]; first | assumption | omega) | (simp; omega) | fail)) SubR.nil ⟨?_, rfl⟩
  rw [hT, ← hs]; rfl
end Go.Proofs.YtjidkoabdmjgkaaGreatDoor
end
section
namespace Go.Proofs.YtjidkoabdmjgkaaGreatDoor
open Go Go.Sy Go.Sh Go.RowKit
attribute [local irreducible] Sy SyL SyX Sy.Fn callFunc
set_option maxRecDepth 10000
structure Tab (w : World) (M : Nat → Prop) : Prop where
  start : w.rangeAt 2 0 (h0.map Sy.v32)
  konst : w.rangeAt 3 0 (kC.map Sy.v32)
  ns : ¬ M 2
  nk : ¬ M 3
theorem Tab.to {w0 w : World} {M Mi : Nat → Prop} (h : Tab w0 M) (hk : Keep M w0 w) (hm : ∀ b, Mi b → w0.heap.size ≤ b ∨ M b) : Tab w Mi := by
  obtain ⟨a1, a2⟩ := zbZ h.start (by decide) h.ns hk hm
  obtain ⟨a3, a4⟩ := zbZ h.konst (by decide) h.nk hk hm
  exact ⟨a1, a3, a2, a4⟩
theorem Tab.no {w0 w : World} {M : Nat → Prop} (h : Tab w0 M) (hk : Keep M w0 w) : Tab w No := h.to hk (fun _ h => h.elim)
theorem zmI (S T o b bo : Nat) (C : List Value) (s : List UInt32) (blk : List UInt8) (w : World) (hs : s.length = 8) (hb : blk.length = 64) (hC : (Res.blk S T C).holds w) (hseg : Seg C o (s.map Sy.v32)) (ho : o + 8 ≤ C.length)
    (hB : w.rangeAt b bo (blk.map Sy.v8)) (hK : w.rangeAt 3 0 (kC.map Sy.v32)) :
    Sy.Fn Tryz.prog 112 [.pointer (some ⟨S, o, none⟩), .slice (some ⟨b, bo, none⟩) 64 64] w (fun x => x = S) (fun v R => v = .tuple #[] ∧ R = [.blk S T (setSeg C o ((compress s blk).map Sy.v32))]) := by
  have h := znL S o b bo s blk w hs hb (zN hC hseg) (zfd hC ho) hB hK
  unfold Sy.Fn
  refine Calls.mono h ?_
  rintro e w' ⟨rfl, hw⟩
  have hsz : (w.setCells S o ((compress s blk).map Sy.v32)).heap.size = w.heap.size := Go.Wd.size_setCells S _ o w
  have hk1 := Sy.Keep.setCells S ((compress s blk).map Sy.v32) o w
  have hk2 : Sy.Keep (fun x => x = S) (w.setCells S o ((compress s blk).map Sy.v32)) w' := Sy.Keep.of_below (by rw [hsz]; exact hw)
  have hb1 := zcz ((compress s blk).map Sy.v32) C o w hC (by rw [List.length_map, zbA _ _ hs]; exact ho)
  refine ⟨_, _, rfl, ⟨rfl, rfl⟩, hk1.trans hk2 (fun x hx => .inr hx), ⟨?_, List.pairwise_singleton _ _, ?_⟩⟩
  · intro r hr
    obtain rfl := List.mem_singleton.1 hr
    refine Res.holds_congr hb1 fun x hx => ?_
    have hx : S = x := hx
    subst hx
    exact hw.block _ (Res.own_lt hC rfl)
  · intro r hr x hx
    obtain rfl := List.mem_singleton.1 hr
    exact .inr (Eq.symm hx)
theorem zm2 (S T b bo : Nat) (s : List UInt32) (blk : List UInt8) (w : World) (hs : s.length = 8) (hb : blk.length = 64) (hC : (Res.blk S T (s.map Sy.v32)).holds w)
    (hB : w.rangeAt b bo (blk.map Sy.v8)) (hK : w.rangeAt 3 0 (kC.map Sy.v32)) :
    Sy.Fn Tryz.prog 112 [.pointer (some ⟨S, 0, none⟩), .slice (some ⟨b, bo, none⟩) 64 64] w (fun x => x = S) (fun v R => v = .tuple #[] ∧ R = [.blk S T ((compress s blk).map Sy.v32)]) := by
  have h := zmI S T 0 b bo _ s blk w hs hb hC Seg.all (by simp [hs]) hB hK
  rw [zf8 (by simp [hs, zbA s blk hs])] at h
  exact h
theorem zgA (s : List UInt32) (bs : List (List UInt8)) (k : Nat) (h : k < bs.length) : fold s (bs.take (k + 1)) = compress (fold s (bs.take k)) bs[k] := by
  rw [List.take_succ_eq_append_getElem h, Sh.fold_snoc]
set_option maxHeartbeats 1000000 in
theorem zlW (a0 : Option Addr) (n c : Nat) (l : List UInt8) (w : World) (hn : l.length = n) (hc : n ≤ c) (hb : n < 1000000000000) (hsl : SlA w a0 (l.map Sy.v8)) (hT : Tab w No) :
    Sy.Fn Tryz.prog 78 [.slice a0 n c] w No (Gives (.agg ((sum l).map Sy.v8).toArray)) := by
  refine zq Tryz.func78 rfl Tryz.ntmps78 (by simp) Holds.nil ?_
  have hstart := hT.start
  repeat' (first | refine zg ?_ | refine zf ?_ | refine ze ?_ | refine zj ?_ | (refine za (id := 0) ?_; (refine zm ?_; intro _)) | (refine za (id := 1) ?_; refine zK ?_; (refine zm ?_; intro _); refine zS ?_) | (refine za (id := 2) ?_; refine zb ?_; refine zb ?_; refine zB ?_) | fail)
  rename_i bo bs
  refine ys (zy (hc := fun w' X hk hh => zkq _ _ w' rfl)) (k := ?_)
  rintro _ _ ⟨R, rfl, b1, b2, rfl, rfl⟩
  repeat' (first | refine zf ?_ | refine zr ?_ | refine ze ?_ | refine zj ?_ | fail)
  refine zdo (γ := Nat) (xs := blocks l n) (Arg := ArgB) zbL rfl (en rfl) rfl (fun k s => s = k) (fun _ _ _ => False) (fun k => [.blk bs 121 ((fold h0 ((blocks l n).take k)).map Sy.v32)])
    [.blk b1 22 [.slice a0 n c], .blk b2 3 [.int .i64 n]] [.blk bo 92 (List.replicate 32 (.int .u8 0))] 0 rfl ?_ ?_ ?_ ?_ ?_ ?_
  · exact (List.perm_append_comm (l₁ := [_, _]) (l₂ := [_])).append_right _
  · exact fun w' Mi X hk hm _ _ => zjN b1 b2 a0 n c n l w' Mi hn hc (by omega) (hsl.to hk hm)
  · rintro O x vs RA w' ⟨b, o, rfl, _⟩; rfl
  · rintro lp k hk s vs RA W rec hrec rfl ⟨b, o, rfl, rfl, hrd, hno⟩ hkW hmine
    have hT' := hT.to hkW hmine
    have hl8 : (fold h0 ((blocks l n).take s)).length = 8 := zcR _ _ rfl
    have hl64 : (blocks l n)[s].length = 64 := zjR _ _ _ (List.getElem_mem hk)
    have hfs := zgA h0 (blocks l n) s hk
    generalize fold h0 ((blocks l n).take s) = st at *
    generalize (blocks l n)[s] = x at *
    have hcl := zbA st x hl8
    repeat' (first | refine zf ?_ | refine zr ?_ | refine ze ?_ | refine zaC ?_ | (apply zbk; (focus ((repeat (first | exact Rem.here | apply Rem.there)); done)); assumption) | (refine za (id := 3) ?_; refine zd ?_) | (refine za (id := 4) ?_; refine zb ?_; refine yv (ziM (hc := fun w' X hk hh => zm2 bs 121 b o st x w' hl8 hl64 (hh.has (Has.append (Has.there Has.here))) (zaK hrd hk hno) (hT'.no hk).konst)) (k := ?_)) | fail)
    refine zdV (s + 1) rfl ?_
    (repeat' (first | exact SubR.nil | (apply SubR.same; with_reducible (focus ((repeat (first | exact Rem.here | apply Rem.there)); done))) | (apply SubR.blk; (focus ((repeat (first | exact Rem.here | apply Rem.there)); done))) | (apply SubR.pick; (focus ((repeat (first | exact Rem.here | apply Rem.there)); done))) | rfl))
    rw [hfs]
  · rintro s rfl
    rw [List.take_length]
    have hf8 : (fold h0 (blocks l n)).length = 8 := zcR _ _ rfl
    have hsum : ser (fold h0 (blocks l n)) = sum l := by subst hn; rfl
    generalize fold h0 (blocks l n) = st at *
    have hs32 : (ser st).length = 32 := by rw [zfq, hf8]
    repeat' (first | refine zg ?_ | refine zf ?_ | refine zo ?_ | refine ze ?_ | refine zj ?_ | (refine za (id := 5) ?_; refine zK ?_; refine yv (zi (hc := fun w' _ _ _ => zls st w' hf8)) (k := ?_); refine zS ?_) | fail)
    exact ret1 rfl (resCells rfl (ty rfl) rfl Has.go Seg.all (by first | rfl | (simp only [List.length_map, List.length_set, List.length_replicate, List.length_append]; omega) | (simp only [List.length_map]; first | assumption | omega) | (simp; omega) | fail)) SubR.nil ⟨by rw [hsum], rfl⟩
  · exact fun _ _ _ _ h => h.elim
structure RTab (w : World) (M : Nat → Prop) (kb ko kc : Nat) : Prop where
  cell : w.cell? ⟨5, 0, none⟩ = some (.slice (some ⟨kb, ko, none⟩) 64 kc)
  row : w.rangeAt kb ko (kC.map Wd.vi)
  nc : ¬ M 5
  nr : ¬ M kb
theorem RTab.to {w0 w : World} {M Mi : Nat → Prop} {kb ko kc : Nat} (h : RTab w0 M kb ko kc) (hk : Keep M w0 w) (hm : ∀ b, Mi b → w0.heap.size ≤ b ∨ M b) : RTab w Mi kb ko kc := by
  obtain ⟨a1, a2⟩ := zbZ h.row (by decide) h.nr hk hm
  have hlt := World.block_lt_of_cell? w0 _ h.cell
  exact ⟨hk.cell h.cell h.nc, a1, fun hb => (hm _ hb).elim (fun h' => by dsimp only at hlt; omega) h.nc, a2⟩
theorem RTab.no {w0 w : World} {M : Nat → Prop} {kb ko kc : Nat} (h : RTab w0 M kb ko kc) (hk : Keep M w0 w) : RTab w No kb ko kc := h.to hk (fun _ h => h.elim)
theorem zjq (l : List UInt8) : (Sh.sum l).length = 32 := by
  unfold Sh.sum; rw [zfq, zcR _ _ rfl]
end Go.Proofs.YtjidkoabdmjgkaaGreatDoor
end
