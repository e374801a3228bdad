/- The walk of the specification's block function. -/
import Derived.Test.YtjidkoabdmjgkaaGreatDoorVJ38
set_option linter.all false
section
namespace Go.Sh
open Go.Wd Go.RowKit
def wp (b : List UInt8) (t j : Nat) : Nat := ((List.range j).foldl (fun a i => 256 * a + (b.getD (4 * t + i) 0).toNat) 0)
theorem zdj (b : List UInt8) (t j : Nat) : wp b t (j + 1) = 256 * wp b t j + (b.getD (4 * t + j) 0).toNat := by simp [wp, List.range_succ]
theorem zkc (b : List UInt8) (t j : Nat) : wp b t j < 256 ^ j := by
  induction j with
  | zero => simp [wp]
  | succ j ih => have := (b.getD (4 * t + j) 0).toNat_lt; rw [zdj, Nat.pow_succ]; omega
theorem zlO (a b c d : UInt8) : (word a b c d).toNat = 256 * (256 * (256 * a.toNat + b.toNat) + c.toNat) + d.toNat := by
  have ha := a.toNat_lt
  have hb := b.toNat_lt
  have hc := c.toNat_lt
  have hd := d.toNat_lt
  unfold word
  simp only [UInt32.toNat_or, UInt32.toNat_shiftLeft, UInt8.toNat_toUInt32]
  rw [show (24 : UInt32).toNat % 32 = 24 from rfl, show (16 : UInt32).toNat % 32 = 16 from rfl, show (8 : UInt32).toNat % 32 = 8 from rfl]
  rw [Nat.mod_eq_of_lt (by rw [Nat.shiftLeft_eq]; omega), Nat.mod_eq_of_lt (by rw [Nat.shiftLeft_eq]; omega), Nat.mod_eq_of_lt (by rw [Nat.shiftLeft_eq]; omega)]
  have e8 : c.toNat <<< 8 = c.toNat * 256 := Nat.shiftLeft_eq _ _
  have e16 : b.toNat <<< 16 = b.toNat * 65536 := Nat.shiftLeft_eq _ _
  have h16 : c.toNat <<< 8 + d.toNat < 2 ^ 16 := by omega
  have h24 : b.toNat <<< 16 + (c.toNat <<< 8 + d.toNat) < 2 ^ 24 := by omega
  rw [Nat.or_assoc, Nat.or_assoc, ← Nat.shiftLeft_add_eq_or_of_lt hd, ← Nat.shiftLeft_add_eq_or_of_lt h16, ← Nat.shiftLeft_add_eq_or_of_lt h24]
  simp only [Nat.shiftLeft_eq]; omega
theorem zni (b : List UInt8) (t : Nat) : UInt32.ofNat (wp b t 4) = wordAt b t := by
  apply UInt32.toNat_inj.1
  have := zkc b t 4
  unfold wordAt
  rw [zlO, UInt32.toNat_ofNat', Nat.mod_eq_of_lt (by omega), zdj, zdj, zdj, zdj]; simp [wp]
theorem zn3 (b : List UInt8) (t j : Nat) (hj : j < 4) : IntKind.i64.wrap (256 * n32 (UInt32.ofNat (wp b t j))) = 256 * n32 (UInt32.ofNat (wp b t j)) ∧ IntKind.i64.wrap (n8 (b.getD (4 * t + j) 0)) = n8 (b.getD (4 * t + j) 0) ∧
    IntKind.i64.wrap (256 * n32 (UInt32.ofNat (wp b t j)) + n8 (b.getD (4 * t + j) 0)) = n32 (UInt32.ofNat (wp b t (j + 1))) := by
  have h0 := zkc b t j
  have h1 := zkc b t (j + 1)
  have h2 : 256 ^ j ≤ 256 ^ 3 := Nat.pow_le_pow_right (by decide) (by omega)
  have h3 : 256 ^ (j + 1) ≤ 256 ^ 4 := Nat.pow_le_pow_right (by decide) (by omega)
  have hb := n8_lt (b.getD (4 * t + j) 0)
  have hb0 := n8_nonneg (b.getD (4 * t + j) 0)
  rw [zge, zge, Nat.mod_eq_of_lt (by omega), Nat.mod_eq_of_lt (by omega), zdj]
  refine ⟨wrapi _ (by omega) (by omega), wrapi _ (by omega) (by omega), ?_⟩
  rw [wrapi _ (by omega) (by omega)]
  unfold n8; omega
theorem turn2 (x : UInt32) (a b : Nat) : turn x [a, b] = rotr x a ^^^ rotr x b := by show ((0 ^^^ rotr x a) ^^^ rotr x b) = _; rw [UInt32.zero_xor]
theorem turn3 (x : UInt32) (a b c : Nat) : turn x [a, b, c] = (rotr x a ^^^ rotr x b) ^^^ rotr x c := by show (((0 ^^^ rotr x a) ^^^ rotr x b) ^^^ rotr x c) = _; rw [UInt32.zero_xor]
theorem zas {α : Type} {C L : List α} {k : Nat} (h : k < C.length) (hL : C.take k = L) (v : α) : (C.set k v).take (k + 1) = L ++ [v] := by
  rw [List.take_succ_eq_append_getElem (by simpa using h), List.take_set_of_le (Nat.le_refl k), hL]; simp
theorem zbC {α : Type} {C L : List α} {k i : Nat} (hL : C.take k = L) (hi : i < k) (d : α) : C.getD i d = L.getD i d := by
  subst hL; simp [List.getD, hi]
theorem zbI {α : Type} (f : α → Value) {l : List α} {i : Nat} (h : i < l.length) (d : α) : (l.map f)[i]? = some (f (l.getD i d)) := by
  simp [List.getD, h]
theorem zgg {α : Type} {f : α → Value} {w : World} {b o : Nat} {l : List α} (h : w.rangeAt b o (l.map f)) {i : Nat} (hi : i < l.length) (d : α) : w.cell? ⟨b, o + i, none⟩ = some (f (l.getD i d)) := h i _ (zbI f hi d)
theorem shri32 (x : UInt32) (k : IntKind) (n : Nat) (h : n < 32) : Op.shift .shr .i64 (n32 x) k (n : Int) = pure (.int .i64 (n32 (x >>> UInt32.ofNat n))) := by
  rw [shri _ _ n (by omega), ← shr32 x n h, Int.natCast_pow]; rfl
theorem zhu {C : List UInt32} {k : Nat} (h : C.getD k 0 = 0) (hk : k < C.length) : C.set k 0 = C := by
  apply List.ext_getElem (by simp)
  intro i h1 h2
  rw [List.getElem_set]
  split
  · rename_i hki
    subst hki
    simp only [List.getD, h2, List.getElem?_eq_getElem, Option.getD_some] at h; rw [h]
  · rfl
theorem zfl (k n : Nat) (h : n ≤ k) (hk : k < 9000000000) : IntKind.i64.wrap ((k : Int) - (n : Int)) = ((k - n : Nat) : Int) := by
  rw [wrapi _ (by omega) (by omega)]; omega
theorem zmD (f : UInt32 → UInt32 → UInt32) {a b : List UInt32} {k : Nat} (ha : k < a.length) (hb : k < b.length) : (List.zipWith f a b).getD k 0 = f (a.getD k 0) (b.getD k 0) := by
  simp [List.getD, List.getElem?_zipWith, ha, hb]
theorem ziG {s r C : List UInt32} {k : Nat} (hs : s.length = 8) (hk : k < 8) (hC : C.length = 8) (hT : C.take k = (List.zipWith (· + ·) s r).take k) (hr : r.length = 8) :
    (C.set k (s.getD k 0 + r.getD k 0)).take (k + 1) = (List.zipWith (· + ·) s r).take (k + 1) := by
  have hz : (List.zipWith (· + ·) s r).length = 8 := by simp [hs, hr]
  rw [zas (by omega) hT]
  conv => rhs; rw [List.take_succ_eq_append_getElem (by omega)]
  congr 2
  have := zmD (· + ·) (a := s) (b := r) (k := k) (by omega) (by omega)
  rw [← this, List.getD, List.getElem?_eq_getElem (by omega)]; rfl
theorem znW : List.replicate 64 (Value.int .i64 0) = (List.replicate 64 (0 : UInt32)).map vi := rfl
theorem zjL (s : List UInt32) (hs : s.length = 8) : (rounds s [] 0).list = s := by
  match s, hs with
  | [a, b, c, d, e, f, g, h], _ => rfl
theorem ziW (s W : List UInt32) : rounds s W 0 = rounds s [] 0 := rfl
end Go.Sh
namespace Go.Proofs.YtjidkoabdmjgkaaGreatDoor
open Go Go.Sy Go.Wd Go.Sh
attribute [local irreducible] Sy SyL SyX Sy.Fn callFunc n8 n32 IntKind.wrap Int.tmod
set_option maxRecDepth 10000
set_option maxHeartbeats 4000000 in
theorem zk7 (b bo c kb ko kc : Nat) (s : List UInt32) (blk : List UInt8) (w : World) (hs : s.length = 8) (hb : blk.length = 64)
    (hB : w.rangeAt b bo (blk.map Sy.v8)) (hG : w.cell? ⟨5, 0, none⟩ = some (.slice (some ⟨kb, ko, none⟩) 64 kc)) (hK : w.rangeAt kb ko (kC.map vi)) :
    Sy.Fn Tryz.prog 120 [.agg (s.map vi).toArray, .slice (some ⟨b, bo, none⟩) 64 c] w No (Gives (.agg ((compress s blk).map vi).toArray)) := by
  refine zq Tryz.func120 rfl Tryz.ntmps120 (by simp) Holds.nil ?_
  repeat' (first | refine zg ?_ | refine zf ?_ | refine zr ?_ | refine ze ?_ | refine zj ?_ | (refine za (id := 0) ?_; (refine zm ?_; intro _); (refine zm ?_; intro _)) | (refine za (id := 1) ?_; (refine zm ?_; intro _)) | (refine za (id := 2) ?_; refine zd ?_) | fail)
  rename_i b2 b4 b5
  refine zQ (γ := Nat × List UInt32) (fun g => [(1, .slice (some ⟨b, bo, none⟩) 64 c), (2, .pointer (some ⟨b2, 0, none⟩)), (4, .pointer (some ⟨b4, 0, none⟩)), (5, .pointer (some ⟨b5, 0, none⟩)), (6, .int .i64 g.1)])
    (fun g => [.blk b5 154 (g.2.map vi), .blk b4 127 (List.replicate 8 (.int .i64 0)), .blk b2 127 (s.map vi)])
    (fun g => g.1 ≤ 16 ∧ g.2.length = 64 ∧ g.2.take g.1 = sched blk g.1 ∧ ∀ j, g.1 ≤ j → g.2.getD j 0 = 0) (fun g => 16 - g.1) (0, List.replicate 64 0) ⟨by omega, by simp, rfl, fun j _ => by rw [List.getD_eq_getElem?_getD, List.getElem?_replicate]; split <;> rfl⟩ ?_ ?_ ?_
  · exact Sub.go
  · (repeat' (first | exact SubR.nil | (apply SubR.same; with_reducible (focus ((repeat (first | exact Rem.here | apply Rem.there)); done))) | (apply SubR.blk; (focus ((repeat (first | exact Rem.here | apply Rem.there)); done))) | (apply SubR.pick; (focus ((repeat (first | exact Rem.here | apply Rem.there)); done))) | rfl))
    exact znW
  rintro ⟨k, C⟩ ⟨hk, hC, hW, hZ⟩
  dsimp only at *
  by_cases hlt : k < 16
  · repeat' (first | refine zg ?_ | refine zf ?_ | refine zu rfl ?_ | refine zr ?_ | refine zt ?_ | refine ze ?_ | refine zj ?_ | (refine za (id := 3) ?_; refine zb ?_; refine zY ?_) | (refine za (id := 5) ?_; refine zd ?_) | fail)
    refine zQ (γ := Nat) (fun j => [(1, .slice (some ⟨b, bo, none⟩) 64 c), (2, .pointer (some ⟨b2, 0, none⟩)), (4, .pointer (some ⟨b4, 0, none⟩)), (5, .pointer (some ⟨b5, 0, none⟩)), (6, .int .i64 k), (7, .int .i64 j)])
      (fun j => [.blk b5 154 ((C.set k (UInt32.ofNat (wp blk k j))).map vi), .blk b4 127 (List.replicate 8 (.int .i64 0)), .blk b2 127 (s.map vi)]) (fun j => j ≤ 4) (fun j => 4 - j) 0 (by omega) ?_ ?_ ?_
    · exact Sub.go
    · (repeat' (first | exact SubR.nil | (apply SubR.same; with_reducible (focus ((repeat (first | exact Rem.here | apply Rem.there)); done))) | (apply SubR.blk; (focus ((repeat (first | exact Rem.here | apply Rem.there)); done))) | (apply SubR.pick; (focus ((repeat (first | exact Rem.here | apply Rem.there)); done))) | rfl))
      have : C.set k (UInt32.ofNat (wp blk k 0)) = C := zhu (hZ k (Nat.le_refl _)) (by omega)
      rw [this]
    intro j hj
    by_cases hlt4 : j < 4
    · obtain ⟨e1, e2, e3⟩ := zn3 blk k j hlt4
      have cb := zgg hB (i := 4 * k + j) (by omega) 0
      have ct : ((C.set k (UInt32.ofNat (wp blk k j))).map vi)[k]? = some (vi (UInt32.ofNat (wp blk k j))) := by rw [List.getElem?_map, List.getElem?_set_self (by omega)]; rfl
      have hl : k < ((C.set k (UInt32.ofNat (wp blk k j))).map vi).length := by simp [hC]; omega
      repeat' (first | refine zg ?_ | refine zf ?_ | refine zu rfl ?_ | refine zr ?_ | refine zt ?_ | refine ze ?_ | refine zj ?_ | (refine za (id := 6) ?_; refine zb ?_; refine zY ?_) | (refine zW (id := 8) 14 [[], [], [1], [1, 2], [1, 2, 3], [], [], [6], [], [6, 7, 8], [5, 6, 7, 8, 9], [5, 6, 7, 8, 9, 10], [5, 6, 7, 8, 9, 10, 11], [1, 2, 3, 4, 5, 6, 7, 8, 9, 10, 11, 12], [0, 1, 2, 3, 4, 5, 6, 7, 8, 9, 10, 11, 12, 13], [0, 1, 2, 3, 4, 5, 6, 7, 8, 9, 10, 11, 12, 13, 14]] mixed ?_ ?_; kernel_rfl; refine zA ?_; refine zA ?_; refine zJ ?_; refine dc (fun _ _ => zT rfl rfl (ty rfl) rfl Has.go ct) (k := ?_); refine dc (fun _ _ => zab rfl rfl rfl e1) (k := ?_); refine zA ?_; refine zA ?_; refine zos ?_; refine zA ?_; refine zj4 ?_; refine zJ ?_; refine dc (fun _ _ => zO rfl rfl (ty rfl) rfl cb (fun h => h)) (k := ?_); refine dc (fun _ _ => zaD rfl rfl (tyU rfl) (tyI rfl rfl) e2) (k := ?_); refine dc (fun _ _ => zM rfl rfl rfl e3) (k := ?_); refine z5 ?_; refine zC ?_; refine zS ?_) | (refine za (id := 7) ?_; refine zb ?_; refine zaf ?_; refine zd ?_) | fail)
      refine zG (j + 1) ?_ ?_ ?_ ?_
      · show j + 1 ≤ 4; omega
      · show 4 - (j + 1) < 4 - j; omega
      · exact Sub.go
      · (repeat' (first | exact SubR.nil | (apply SubR.same; with_reducible (focus ((repeat (first | exact Rem.here | apply Rem.there)); done))) | (apply SubR.blk; (focus ((repeat (first | exact Rem.here | apply Rem.there)); done))) | (apply SubR.pick; (focus ((repeat (first | exact Rem.here | apply Rem.there)); done))) | rfl))
        show ((C.set k (UInt32.ofNat (wp blk k j))).map vi).set k (vi (UInt32.ofNat (wp blk k (j + 1)))) = _
        rw [← List.map_set, List.set_set]
    · obtain rfl : j = 4 := by omega
      repeat' (first | refine zg ?_ | refine zf ?_ | refine zw rfl ?_ | refine zE ?_ | refine ze ?_ | refine zj ?_ | (refine za (id := 6) ?_; refine zb ?_; refine zY ?_) | (refine za (id := 4) ?_; refine zb ?_; refine zaf ?_; refine zd ?_) | fail)
      refine zG (k + 1, C.set k (UInt32.ofNat (wp blk k 4))) ?_ ?_ ?_ ?_
      · refine ⟨by omega, by simp [hC], ?_, ?_⟩
        · show List.take (k + 1) _ = sched blk (k + 1)
          rw [zho _ _ hlt, ← zni]; exact zas (by omega) hW _
        · intro i hi
          have := hZ i (by omega)
          simp only [List.getD, List.getElem?_set] at this ⊢
          rw [if_neg (by omega)]; exact this
      · show 16 - (k + 1) < 16 - k; omega
      · exact Sub.go
      · exact SubR.go
  obtain rfl : k = 16 := by omega
  clear hZ
  repeat' (first | refine zg ?_ | refine zf ?_ | refine zw rfl ?_ | refine zr ?_ | refine zE ?_ | refine ze ?_ | refine zj ?_ | (refine za (id := 9) ?_; refine zd ?_) | (refine zV ?_; first | refine zY ?_ | refine zb ?_ | fail) | refine za ?_ | fail)
  refine zQ (γ := Nat × List UInt32) (fun g => [(1, .slice (some ⟨b, bo, none⟩) 64 c), (2, .pointer (some ⟨b2, 0, none⟩)), (4, .pointer (some ⟨b4, 0, none⟩)), (5, .pointer (some ⟨b5, 0, none⟩)), (8, .int .i64 g.1)])
    (fun g => [.blk b5 154 (g.2.map vi), .blk b4 127 (List.replicate 8 (.int .i64 0)), .blk b2 127 (s.map vi)])
    (fun g => 16 ≤ g.1 ∧ g.1 ≤ 64 ∧ g.2.length = 64 ∧ g.2.take g.1 = sched blk g.1) (fun g => 64 - g.1) (16, C) ⟨by omega, by omega, hC, hW⟩ ?_ ?_ ?_
  · exact Sub.go
  · exact SubR.go
  clear hW hC C hlt hk
  rintro ⟨k, C⟩ ⟨hk0, hk, hC, hW⟩
  dsimp only at *
  by_cases hlt : k < 64
  · have c2 := zbI vi (l := C) (i := k - 2) (by omega) 0
    have c7 := zbI vi (l := C) (i := k - 7) (by omega) 0
    have c15 := zbI vi (l := C) (i := k - 15) (by omega) 0
    have c16 := zbI vi (l := C) (i := k - 16) (by omega) 0
    repeat' (first | refine zg ?_ | refine zf ?_ | refine zu rfl ?_ | refine zr ?_ | refine zt ?_ | refine ze ?_ | refine zj ?_ | (refine za (id := 10) ?_; refine zb ?_; refine zY ?_) | (refine zW (id := 12) 9 [[], [0], [0, 1], [0, 1, 2], [], [4], [4, 5], [4, 5, 6], [0, 1, 2, 3], [0, 1, 2, 3, 4, 5, 6, 7, 8]] mixed ?_ ?_; kernel_rfl; refine zA ?_; refine dc (fun _ _ => zL rfl rfl rfl (zfl k 15 (by omega) (by omega))) (k := ?_); refine zJ ?_; refine zau ?_; refine zA ?_; refine dc (fun _ _ => zL rfl rfl rfl (zfl k 2 (by omega) (by omega))) (k := ?_); refine zJ ?_; refine zau ?_; refine zfZ ?_; refine z5 ?_; refine zd ?_) | (refine za (id := 13) ?_; refine zb ?_; refine yv (zi (hc := fun _ _ _ _ => (zbm _ 7 _ (by decide) (by decide)))) (k := ?_); refine zb ?_; refine yv (zi (hc := fun _ _ _ _ => (zbm _ 18 _ (by decide) (by decide)))) (k := ?_); refine yv (zbQ rfl rfl rfl (xori _ _)) (k := ?_); refine zb ?_; refine yv (za9 rfl rfl rfl (shri32 _ _ 3 (by decide))) (k := ?_); refine yv (zbQ rfl rfl rfl (xori _ _)) (k := ?_); refine zd ?_) | (refine za (id := 14) ?_; refine zb ?_; refine yv (zi (hc := fun _ _ _ _ => (zbm _ 17 _ (by decide) (by decide)))) (k := ?_); refine zb ?_; refine yv (zi (hc := fun _ _ _ _ => (zbm _ 19 _ (by decide) (by decide)))) (k := ?_); refine yv (zbQ rfl rfl rfl (xori _ _)) (k := ?_); refine zb ?_; refine yv (za9 rfl rfl rfl (shri32 _ _ 10 (by decide))) (k := ?_); refine yv (zbQ rfl rfl rfl (xori _ _)) (k := ?_); refine zd ?_) | (refine zW (id := 15) 15 [[], [], [], [2], [2, 3], [2, 3, 4], [1, 2, 3, 4, 5], [], [1, 2, 3, 4, 5, 6, 7], [], [9], [9, 10], [9, 10, 11], [1, 2, 3, 4, 5, 6, 7, 8, 9, 10, 11, 12], [1, 2, 3, 4, 5, 6, 7, 8, 9, 10, 11, 12, 13], [0, 1, 2, 3, 4, 5, 6, 7, 8, 9, 10, 11, 12, 13, 14], [0, 1, 2, 3, 4, 5, 6, 7, 8, 9, 10, 11, 12, 13, 14, 15]] mixed ?_ ?_; kernel_rfl; refine zA ?_; refine zA ?_; refine zA ?_; refine dc (fun _ _ => zL rfl rfl rfl (zfl k 7 (by omega) (by omega))) (k := ?_); refine zJ ?_; refine zau ?_; refine dc (fun _ _ => zM rfl rfl rfl (ws2 _ _)) (k := ?_); refine zA ?_; refine dc (fun _ _ => zM rfl rfl rfl (ws3 _ _ _)) (k := ?_); refine zA ?_; refine dc (fun _ _ => zL rfl rfl rfl (zfl k 16 (by omega) (by omega))) (k := ?_); refine zJ ?_; refine zau ?_; refine dc (fun _ _ => zM rfl rfl rfl (ws4 _ _ _ _)) (k := ?_); refine dc (fun _ _ => zaA rfl rfl rfl (by decide) (rs4 _ _ _ _)) (k := ?_); refine z5 ?_; refine zC ?_; refine zS ?_) | (refine za (id := 11) ?_; refine zb ?_; refine zaf ?_; refine zd ?_) | fail)
    refine zG (k + 1, C.set k (next (C.getD (k - 2) 0) (C.getD (k - 7) 0) (C.getD (k - 15) 0) (C.getD (k - 16) 0))) ?_ ?_ ?_ ?_
    · refine ⟨by omega, by omega, by simp [hC], ?_⟩
      show List.take (k + 1) _ = sched blk (k + 1)
      rw [zgq _ _ hk0, ← zbC hW (by omega), ← zbC hW (by omega), ← zbC hW (by omega), ← zbC hW (by omega)]; exact zas (by omega) hW _
    · show 64 - (k + 1) < 64 - k; omega
    · exact Sub.go
    · (repeat' (first | exact SubR.nil | (apply SubR.same; with_reducible (focus ((repeat (first | exact Rem.here | apply Rem.there)); done))) | (apply SubR.blk; (focus ((repeat (first | exact Rem.here | apply Rem.there)); done))) | (apply SubR.pick; (focus ((repeat (first | exact Rem.here | apply Rem.there)); done))) | rfl))
      rw [List.map_set]; simp only [next, turn2]; rfl
  obtain rfl : k = 64 := by omega
  have hW : C = sched blk 64 := by rw [← hW, List.take_of_length_le (by omega)]
  repeat' (first | refine zg ?_ | refine zf ?_ | refine zw rfl ?_ | refine zr ?_ | refine zE ?_ | refine ze ?_ | refine zj ?_ | (refine za (id := 16) ?_; refine zK ?_; (refine zm ?_; intro _); refine zS ?_) | (refine za (id := 17) ?_; refine zd ?_) | (refine zV ?_; first | refine zY ?_ | refine zb ?_ | fail) | refine za ?_ | fail)
  rename_i b13
  refine zQ (γ := Nat) (fun t => [(1, .slice (some ⟨b, bo, none⟩) 64 c), (2, .pointer (some ⟨b2, 0, none⟩)), (4, .pointer (some ⟨b4, 0, none⟩)), (5, .pointer (some ⟨b5, 0, none⟩)), (13, .pointer (some ⟨b13, 0, none⟩)), (14, .int .i64 t)])
    (fun t => [.blk b13 127 ((rounds s C t).list.map vi), .blk b5 154 (C.map vi), .blk b4 127 (List.replicate 8 (.int .i64 0)), .blk b2 127 (s.map vi)])
    (fun t => t ≤ 64) (fun t => 64 - t) 0 (by omega) ?_ ?_ ?_
  · exact Sub.go
  · (repeat' (first | exact SubR.nil | (apply SubR.same; with_reducible (focus ((repeat (first | exact Rem.here | apply Rem.there)); done))) | (apply SubR.blk; (focus ((repeat (first | exact Rem.here | apply Rem.there)); done))) | (apply SubR.pick; (focus ((repeat (first | exact Rem.here | apply Rem.there)); done))) | rfl))
    rw [ziW, zjL s hs]
  intro t ht
  by_cases hlt : t < 64
  · have ck := zgg hK (i := t) (by rw [ziA]; exact hlt) 0
    have cw := zbI vi (l := C) (i := t) (by omega) 0
    generalize hv : rounds s C t = v
    repeat' (first | refine zg ?_ | refine zf ?_ | refine zu rfl ?_ | refine zr ?_ | refine zt ?_ | refine ze ?_ | refine zj ?_ | (refine za (id := 18) ?_; refine zb ?_; refine zY ?_) | (refine zW (id := 20) 10 [[], [0], [0, 1], [], [3], [0, 1, 2, 3, 4], [0, 1, 2, 3, 4, 5], [], [7], [0, 1, 2, 3, 4, 5, 7, 8], [0, 1, 2, 3, 4, 5, 6, 7, 8, 9], [0, 1, 2, 3, 4, 5, 6, 7, 8, 9, 10]] mixed ?_ ?_; kernel_rfl; refine zJ ?_; refine zau ?_; refine dc (fun _ _ => zi (hc := fun _ _ _ _ => (zbm _ 6 _ (by decide) (by decide)))) (k := ?_); refine zJ ?_; refine zau ?_; refine dc (fun _ _ => zi (hc := fun _ _ _ _ => (zbm _ 11 _ (by decide) (by decide)))) (k := ?_); refine dc (fun _ _ => zbQ rfl rfl rfl (xori _ _)) (k := ?_); refine zJ ?_; refine zau ?_; refine dc (fun _ _ => zi (hc := fun _ _ _ _ => (zbm _ 25 _ (by decide) (by decide)))) (k := ?_); refine z5 ?_; refine yv (zbQ rfl rfl rfl (xori _ _)) (k := ?_); refine zd ?_) | (refine zW (id := 21) 10 [[], [0], [0, 1], [], [3], [0, 1, 2, 3, 4], [0, 1, 2, 3, 4, 5], [], [7], [0, 1, 2, 3, 4, 5, 7, 8], [0, 1, 2, 3, 4, 5, 6, 7, 8, 9], [0, 1, 2, 3, 4, 5, 6, 7, 8, 9, 10]] mixed ?_ ?_; kernel_rfl; refine zJ ?_; refine zau ?_; refine dc (fun _ _ => zi (hc := fun _ _ _ _ => (zbm _ 2 _ (by decide) (by decide)))) (k := ?_); refine zJ ?_; refine zau ?_; refine dc (fun _ _ => zi (hc := fun _ _ _ _ => (zbm _ 13 _ (by decide) (by decide)))) (k := ?_); refine dc (fun _ _ => zbQ rfl rfl rfl (xori _ _)) (k := ?_); refine zJ ?_; refine zau ?_; refine dc (fun _ _ => zi (hc := fun _ _ _ _ => (zbm _ 22 _ (by decide) (by decide)))) (k := ?_); refine z5 ?_; refine yv (zbQ rfl rfl rfl (xori _ _)) (k := ?_); refine zd ?_) | (refine zW (id := 22) 20 [[], [0], [], [0, 1, 2], [], [4], [], [6], [], [8], [4, 5, 6, 7, 8, 9], [0, 1, 2, 3, 4, 5, 6, 7, 8, 9, 10], [], [], [12, 13], [12, 13, 14], [0, 1, 2, 3, 4, 5, 6, 7, 8, 9, 10, 11, 12, 13, 14, 15], [], [17], [17, 18], [0, 1, 2, 3, 4, 5, 6, 7, 8, 9, 10, 11, 12, 13, 14, 15, 16, 17, 18, 19], [0, 1, 2, 3, 4, 5, 6, 7, 8, 9, 10, 11, 12, 13, 14, 15, 16, 17, 18, 19, 20]] mixed ?_ ?_; kernel_rfl; refine zJ ?_; refine zau ?_; refine zA ?_; refine dc (fun _ _ => zM rfl rfl rfl (ws2 _ _)) (k := ?_); refine zJ ?_; refine zau ?_; refine zJ ?_; refine zau ?_; refine zJ ?_; refine zau ?_; refine dc (fun _ _ => zi (hc := fun _ _ _ _ => (zlH _ _ _ _))) (k := ?_); refine dc (fun _ _ => zM rfl rfl rfl (ws3 _ _ _)) (k := ?_); refine dc (fun _ _ => zO rfl rfl (ty rfl) rfl hG (fun h => h)) (k := ?_); refine zA ?_; refine zJ ?_; refine dc (fun _ _ => zO rfl rfl (ty rfl) rfl ck (fun h => h)) (k := ?_); refine dc (fun _ _ => zM rfl rfl rfl (ws4 _ _ _ _)) (k := ?_); refine zA ?_; refine zJ ?_; refine zau ?_; refine z5 ?_; refine yv (zM rfl rfl rfl (ws5 _ _ _ _ _)) (k := ?_); refine zd ?_) | (refine za (id := 23) ?_; refine zb ?_; refine zC ?_; refine zK ?_; refine zC ?_; refine zK ?_; refine zC ?_; refine zK ?_; refine yv (zi (hc := fun _ _ _ _ => (zmg _ _ _ _))) (k := ?_); refine yv (zM rfl rfl rfl (ws2 _ _)) (k := ?_); refine zd ?_) | (refine za (id := 24) ?_; refine zb ?_; refine zb ?_; refine yv (zM rfl rfl rfl (ws7 _ _ _ _ _ _ _)) (k := ?_); refine yv (zaA rfl rfl rfl (by decide) (rs7 _ _ _ _ _ _ _)) (k := ?_); refine zC ?_; refine zK ?_; refine zC ?_; refine zK ?_; refine zC ?_; refine zK ?_; refine zC ?_; refine zK ?_; refine zb ?_; refine yv (zM rfl rfl rfl (ws6 _ _ _ _ _ _)) (k := ?_); refine yv (zaA rfl rfl rfl (by decide) (rs6 _ _ _ _ _ _)) (k := ?_); refine zC ?_; refine zK ?_; refine zC ?_; refine zK ?_; refine zC ?_; refine zK ?_; refine zbE ?_; refine zS ?_) | (refine za (id := 19) ?_; refine zb ?_; refine zaf ?_; refine zd ?_) | fail)
    refine zG (t + 1) ?_ ?_ ?_ ?_
    · show t + 1 ≤ 64; omega
    · show 64 - (t + 1) < 64 - t; omega
    · exact Sub.go
    · (repeat' (first | exact SubR.nil | (apply SubR.same; with_reducible (focus ((repeat (first | exact Rem.here | apply Rem.there)); done))) | (apply SubR.blk; (focus ((repeat (first | exact Rem.here | apply Rem.there)); done))) | (apply SubR.pick; (focus ((repeat (first | exact Rem.here | apply Rem.there)); done))) | rfl))
      simp only [rounds, hv, St.step, t1, t2, turn2, turn3, St.list]; rfl
  obtain rfl : t = 64 := by omega
  generalize hv : rounds s C 64 = v
  have hvl : v.list.length = 8 := rfl
  repeat' (first | refine zg ?_ | refine zf ?_ | refine zw rfl ?_ | refine zr ?_ | refine zE ?_ | refine ze ?_ | refine zj ?_ | (refine za (id := 25) ?_; refine zd ?_) | (refine zV ?_; first | refine zY ?_ | refine zb ?_ | fail) | refine za ?_ | fail)
  refine zQ (γ := Nat × List UInt32) (fun g => [(2, .pointer (some ⟨b2, 0, none⟩)), (4, .pointer (some ⟨b4, 0, none⟩)), (13, .pointer (some ⟨b13, 0, none⟩)), (19, .int .i64 g.1)])
    (fun g => [.blk b13 127 (v.list.map vi), .blk b4 127 (List.replicate 8 (.int .i64 0)), .blk b2 127 (g.2.map vi)])
    (fun g => g.1 ≤ 8 ∧ g.2.length = 8 ∧ g.2.take g.1 = (List.zipWith (· + ·) s v.list).take g.1 ∧ ∀ j, g.1 ≤ j → g.2.getD j 0 = s.getD j 0) (fun g => 8 - g.1) (0, s) ⟨by omega, hs, rfl, fun _ _ => rfl⟩ ?_ ?_ ?_
  · exact Sub.go
  · exact SubR.go
  rintro ⟨k, D⟩ ⟨hk, hD, hT, hU⟩
  dsimp only at *
  by_cases hlt : k < 8
  · have ca := zbI vi (l := D) (i := k) (by omega) 0
    have cb := zbI vi (l := v.list) (i := k) (by omega) 0
    generalize v.list = r at *
    repeat' (first | refine zg ?_ | refine zf ?_ | refine zu rfl ?_ | refine zr ?_ | refine zt ?_ | refine ze ?_ | refine zj ?_ | (refine za (id := 26) ?_; refine zb ?_; refine zY ?_) | (refine zW (id := 28) 9 [[], [], [1], [1, 2], [], [4], [4, 5], [1, 2, 3, 4, 5, 6], [1, 2, 3, 4, 5, 6, 7], [0, 1, 2, 3, 4, 5, 6, 7, 8], [0, 1, 2, 3, 4, 5, 6, 7, 8, 9]] mixed ?_ ?_; kernel_rfl; refine zA ?_; refine zA ?_; refine zJ ?_; refine zau ?_; refine zA ?_; refine zJ ?_; refine zau ?_; refine dc (fun _ _ => zM rfl rfl rfl (ws2 _ _)) (k := ?_); refine dc (fun _ _ => zaA rfl rfl rfl (by decide) (rs2 _ _)) (k := ?_); refine z5 ?_; refine zC ?_; refine zS ?_) | (refine za (id := 27) ?_; refine zb ?_; refine zaf ?_; refine zd ?_) | fail)
    refine zG (k + 1, D.set k (D.getD k 0 + r.getD k 0)) ?_ ?_ ?_ ?_
    · refine ⟨by omega, by simp [hD], ?_, ?_⟩
      · show List.take (k + 1) _ = _
        rw [hU k (Nat.le_refl _)]
        exact ziG hs hlt hD hT hvl
      · intro j hj
        have := hU j (by omega)
        simp only [List.getD, List.getElem?_set] at this ⊢
        rw [if_neg (by omega)]; exact this
    · show 8 - (k + 1) < 8 - k; omega
    · exact Sub.go
    · (repeat' (first | exact SubR.nil | (apply SubR.same; with_reducible (focus ((repeat (first | exact Rem.here | apply Rem.there)); done))) | (apply SubR.blk; (focus ((repeat (first | exact Rem.here | apply Rem.there)); done))) | (apply SubR.pick; (focus ((repeat (first | exact Rem.here | apply Rem.there)); done))) | rfl))
      rw [List.map_set]; rfl
  obtain rfl : k = 8 := by omega
  repeat' (first | refine zg ?_ | refine zf ?_ | refine zw rfl ?_ | refine zo ?_ | refine zE ?_ | refine ze ?_ | refine zj ?_ | (refine za (id := 26) ?_; refine zb ?_; refine zY ?_) | (refine za (id := 29) ?_; refine zK ?_; refine zS ?_) | fail)
  rw [List.take_of_length_le (by omega), List.take_of_length_le (by rw [List.length_zipWith, hs]; omega)] at hT
  subst hT
  refine ret1 rfl (resCells rfl (ty rfl) rfl Has.go Seg.all (by first | rfl | (simp only [List.length_map, List.length_set, List.length_replicate, List.length_append]; omega) | (simp only [List.length_map]; first | assumption | omega) | (simp; omega) | fail)) SubR.nil ⟨?_, rfl⟩
  rw [← hv, hW]; rfl
end Go.Proofs.YtjidkoabdmjgkaaGreatDoor
end
