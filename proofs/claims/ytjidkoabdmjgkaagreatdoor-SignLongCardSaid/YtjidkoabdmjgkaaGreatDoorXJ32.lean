/- Layer group: one contract for a function, whatever the group is. -/
import Derived.Test.YtjidkoabdmjgkaaGreatDoorXJ31
import Derived.Test.YtjidkoabdmjgkaaGreatDoorXJ01
import Derived.Test.YtjidkoabdmjgkaaGreatDoorXJ07
set_option linter.all false
section
namespace Go.Proofs.YtjidkoabdmjgkaaGreatDoor
open Go Go.Sy Go.Nt Go.RowKit
attribute [local irreducible] Sy SyL SyX Sy.Fn callFunc natC rowN refC iC gP gQ gL memB safeC fixB
set_option maxRecDepth 10000
def gnum (z : Int) (l : List UInt8) : Nat × Int :=
  if 1 ≤ z ∧ z ≤ 4 then if l.length < gL z.toNat then (0, 4) else if gL z.toNat < l.length then (0, 5) else if bev 256 (bn l) < gQ z.toNat then (bev 256 (bn l), 0) else (0, 3) else (0, 2)
def gel (z : Int) (l : List UInt8) : Nat × Int :=
  if 1 ≤ z ∧ z ≤ 4 then if l.length < gL z.toNat then (0, 4) else if gL z.toNat < l.length then (0, 5) else if memB (gP z.toNat) (gQ z.toNat) (bev 256 (bn l)) then (bev 256 (bn l), 0) else (0, 3) else (0, 2)
def gsca (z : Int) (l : List UInt8) : Nat × Int := if 1 ≤ z ∧ z ≤ 4 then (bev 256 (bn l) % gQ z.toNat, 0) else (0, 2)
def gord (z : Int) : Nat × Int := if 1 ≤ z ∧ z ≤ 4 then (gQ z.toNat, 0) else (0, 2)
def glen (z : Int) : Nat := if 1 ≤ z ∧ z ≤ 4 then gL z.toNat else 0
theorem zbc {z : Int} (hz : 1 ≤ z ∧ z ≤ 4) : ∃ i : Nat, z = (i : Int) ∧ z.toNat = i ∧ 1 ≤ i ∧ i ≤ 4 := ⟨z.toNat, by omega, rfl, by omega, by omega⟩
theorem ziQ (z : Int) (l : List UInt8) : (gsca z l).1 < 18446744073709551616 ^ 16 := by
  unfold gsca
  by_cases hz : 1 ≤ z ∧ z ≤ 4
  · rw [if_pos hz]
    obtain ⟨i, -, hi, h0, h5⟩ := zbc hz
    rw [hi]
    exact Nat.lt_trans (Nat.mod_lt _ (Nat.lt_of_lt_of_le (by decide) (zak i h0 h5))) (zaE i h0 h5)
  · rw [if_neg hz]; exact Nat.pow_pos (by decide)
theorem zc3 {z : Int} {l : List UInt8} (h : (gnum z l).2 = 0) : (1 ≤ z ∧ z ≤ 4) ∧ l.length = gL z.toNat ∧ bev 256 (bn l) < gQ z.toNat ∧ (gnum z l).1 = bev 256 (bn l) := by
  unfold gnum at h ⊢
  by_cases hz : 1 ≤ z ∧ z ≤ 4
  · rw [if_pos hz] at h ⊢
    by_cases h1 : l.length < gL z.toNat
    · rw [if_pos h1] at h; cases h
    rw [if_neg h1] at h ⊢
    by_cases h2 : gL z.toNat < l.length
    · rw [if_pos h2] at h; cases h
    rw [if_neg h2] at h ⊢
    by_cases h3 : bev 256 (bn l) < gQ z.toNat
    · rw [if_pos h3]; exact ⟨hz, by omega, h3, rfl⟩
    · rw [if_neg h3] at h; cases h
  · rw [if_neg hz] at h; cases h
theorem zjx {z : Int} {l : List UInt8} (h : (gel z l).2 = 0) : (1 ≤ z ∧ z ≤ 4) ∧ l.length = gL z.toNat ∧ memB (gP z.toNat) (gQ z.toNat) (bev 256 (bn l)) = true ∧ (gel z l).1 = bev 256 (bn l) := by
  unfold gel at h ⊢
  by_cases hz : 1 ≤ z ∧ z ≤ 4
  · rw [if_pos hz] at h ⊢
    by_cases h1 : l.length < gL z.toNat
    · rw [if_pos h1] at h; cases h
    rw [if_neg h1] at h ⊢
    by_cases h2 : gL z.toNat < l.length
    · rw [if_pos h2] at h; cases h
    rw [if_neg h2] at h ⊢
    by_cases h3 : memB (gP z.toNat) (gQ z.toNat) (bev 256 (bn l)) = true
    · rw [if_pos h3]; exact ⟨hz, by omega, h3, rfl⟩
    · rw [if_neg h3] at h; cases h
  · rw [if_neg hz] at h; cases h
theorem zga (z : Int) (l : List UInt8) : (gnum z l).1 < 18446744073709551616 ^ 16 := by
  by_cases h : (gnum z l).2 = 0
  · obtain ⟨hz, -, h3, h4⟩ := zc3 h
    obtain ⟨i, -, hi, h0, h5⟩ := zbc hz
    rw [h4]; rw [hi] at h3
    exact Nat.lt_trans h3 (zaE i h0 h5)
  · have : (gnum z l).1 = 0 := by
      unfold gnum at h ⊢
      split
      · rename_i hz; rw [if_pos hz] at h
        split
        · rfl
        · rename_i h1; rw [if_neg h1] at h
          split
          · rfl
          · rename_i h2; rw [if_neg h2] at h
            split
            · rename_i h3; rw [if_pos h3] at h; exact absurd rfl h
            · rfl
      · rfl
    rw [this]; exact Nat.pow_pos (by decide)
theorem zmP (z : Int) (l : List UInt8) : (gel z l).1 < 18446744073709551616 ^ 16 := by
  by_cases h : (gel z l).2 = 0
  · obtain ⟨hz, -, h3, h4⟩ := zjx h
    obtain ⟨i, -, hi, h0, h5⟩ := zbc hz
    rw [h4]; rw [hi] at h3
    exact Nat.lt_trans (zbE h3) (zaH i h0 h5)
  · have : (gel z l).1 = 0 := by
      unfold gel at h ⊢
      split
      · rename_i hz; rw [if_pos hz] at h
        split
        · rfl
        · rename_i h1; rw [if_neg h1] at h
          split
          · rfl
          · rename_i h2; rw [if_neg h2] at h
            split
            · rename_i h3; rw [if_pos h3] at h; exact absurd rfl h
            · rfl
      · rfl
    rw [this]; exact Nat.pow_pos (by decide)
theorem zlZ (z : Int) (a : Option Addr) (n c : Nat) (bl : List UInt8) (w : World) (hG : GT w) (hl : bl.length = n) (hc : n ≤ c) (hb : SlA w a (bl.map v8)) :
    Sy.Fn Tryz.prog 73 [.int .i64 z, .slice a n c] w No (Gives (.tuple #[natV (gnum z bl).1, .int .i64 (gnum z bl).2])) := by
  unfold gnum
  by_cases hz : 1 ≤ z ∧ z ≤ 4
  · rw [if_pos hz]
    obtain ⟨i, rfl, hi, h0, h5⟩ := zbc hz
    rw [hi, hl]
    by_cases h1 : n < gL i
    · rw [if_pos h1]; exact zgO i a n c w h0 h5 hG h1
    rw [if_neg h1]
    by_cases h2 : gL i < n
    · rw [if_pos h2]; exact zhR i a n c w h0 h5 hG h2
    rw [if_neg h2]
    by_cases h3 : bev 256 (bn bl) < gQ i
    · rw [if_pos h3]; exact zjk i a n c bl w h0 h5 hG (by omega) hl hc hb (decide_eq_true h3)
    · rw [if_neg h3]; exact zjj i a n c bl w h0 h5 hG (by omega) hl hc hb (decide_eq_false h3)
  · rw [if_neg hz]; exact zid z a n c w hz
theorem zka (z : Int) (a : Option Addr) (n c : Nat) (bl : List UInt8) (w : World) (hG : GT w) (hl : bl.length = n) (hc : n ≤ c) (hb : SlA w a (bl.map v8)) :
    Sy.Fn Tryz.prog 45 [.int .i64 z, .slice a n c] w No (Gives (.tuple #[natV (gel z bl).1, .int .i64 (gel z bl).2])) := by
  unfold gel
  by_cases hz : 1 ≤ z ∧ z ≤ 4
  · rw [if_pos hz]
    obtain ⟨i, rfl, hi, h0, h5⟩ := zbc hz
    rw [hi, hl]
    by_cases h1 : n < gL i
    · rw [if_pos h1]; exact zfY i a n c w h0 h5 hG h1
    rw [if_neg h1]
    by_cases h2 : gL i < n
    · rw [if_pos h2]; exact zgM i a n c w h0 h5 hG h2
    rw [if_neg h2]
    by_cases h3 : memB (gP i) (gQ i) (bev 256 (bn bl)) = true
    · rw [if_pos h3]; exact zia i a n c bl w h0 h5 hG (by omega) hl hc hb h3
    · rw [if_neg h3]; exact zh5 i a n c bl w h0 h5 hG (by omega) hl hc hb (by simpa using h3)
  · rw [if_neg hz]; exact zg6 z a n c w hz
theorem zin (z : Int) (a : Option Addr) (n c : Nat) (bl : List UInt8) (w : World) (hG : GT w) (hl : bl.length = n) (hc : n ≤ c) (hn : n < 1000000) (hb : SlA w a (bl.map v8)) :
    Sy.Fn Tryz.prog 27 [.int .i64 z, .slice a n c] w No (Gives (.tuple #[natV (gsca z bl).1, .int .i64 (gsca z bl).2])) := by
  unfold gsca
  by_cases hz : 1 ≤ z ∧ z ≤ 4
  · rw [if_pos hz]
    obtain ⟨i, rfl, hi, h0, h5⟩ := zbc hz
    rw [hi]; exact zfN i a n c bl w h0 h5 hG hl hc hn hb
  · rw [if_neg hz]; exact zh8 z a n c w hz
theorem zmr (z : Int) (w : World) (hG : GT w) : Sy.Fn Tryz.prog 46 [.int .i64 z] w No (Gives (.tuple #[natV (gord z).1, .int .i64 (gord z).2])) := by
  unfold gord
  by_cases hz : 1 ≤ z ∧ z ≤ 4
  · rw [if_pos hz]
    obtain ⟨i, rfl, hi, h0, h5⟩ := zbc hz
    rw [hi]; exact zko i w h0 h5 hG
  · rw [if_neg hz]; exact zjf z w hz
theorem zg9 (z : Int) (w : World) (hG : GT w) : Sy.Fn Tryz.prog 72 [.int .i64 z] w No (Gives (.int .i64 ((glen z : Nat) : Int))) := by
  unfold glen
  by_cases hz : 1 ≤ z ∧ z ≤ 4
  · rw [if_pos hz]
    obtain ⟨i, rfl, hi, h0, h5⟩ := zbc hz
    rw [hi]; exact zmC i w h0 h5 hG
  · rw [if_neg hz]; exact zk2 z w hz
end Go.Proofs.YtjidkoabdmjgkaaGreatDoor
end
section
namespace Go.Sh
def rotr (x : UInt32) (n : Nat) : UInt32 := (x <<< UInt32.ofNat (32 - n)) ||| (x >>> UInt32.ofNat n)
def turn (x : UInt32) (ns : List Nat) : UInt32 := ns.foldl (fun y n => y ^^^ rotr x n) 0
theorem zjR (x : UInt32) (ns : List Nat) (k : Nat) (h : k < ns.length) : turn x (ns.take (k + 1)) = turn x (ns.take k) ^^^ rotr x ns[k] := by
  unfold turn; rw [List.take_succ_eq_append_getElem h, List.foldl_append]; rfl
def kC : List UInt32 := [
  0x428a2f98, 0x71374491, 0xb5c0fbcf, 0xe9b5dba5, 0x3956c25b, 0x59f111f1, 0x923f82a4, 0xab1c5ed5,
  0xd807aa98, 0x12835b01, 0x243185be, 0x550c7dc3, 0x72be5d74, 0x80deb1fe, 0x9bdc06a7, 0xc19bf174,
  0xe49b69c1, 0xefbe4786, 0x0fc19dc6, 0x240ca1cc, 0x2de92c6f, 0x4a7484aa, 0x5cb0a9dc, 0x76f988da,
  0x983e5152, 0xa831c66d, 0xb00327c8, 0xbf597fc7, 0xc6e00bf3, 0xd5a79147, 0x06ca6351, 0x14292967,
  0x27b70a85, 0x2e1b2138, 0x4d2c6dfc, 0x53380d13, 0x650a7354, 0x766a0abb, 0x81c2c92e, 0x92722c85,
  0xa2bfe8a1, 0xa81a664b, 0xc24b8b70, 0xc76c51a3, 0xd192e819, 0xd6990624, 0xf40e3585, 0x106aa070,
  0x19a4c116, 0x1e376c08, 0x2748774c, 0x34b0bcb5, 0x391c0cb3, 0x4ed8aa4a, 0x5b9cca4f, 0x682e6ff3,
  0x748f82ee, 0x78a5636f, 0x84c87814, 0x8cc70208, 0x90befffa, 0xa4506ceb, 0xbef9a3f7, 0xc67178f2]
theorem zjJ : kC.length = 64 := rfl
def h0 : List UInt32 := [0x6a09e667, 0xbb67ae85, 0x3c6ef372, 0xa54ff53a, 0x510e527f, 0x9b05688c, 0x1f83d9ab, 0x5be0cd19]
def word (a b c d : UInt8) : UInt32 := (((a.toUInt32 <<< 24) ||| (b.toUInt32 <<< 16)) ||| (c.toUInt32 <<< 8)) ||| d.toUInt32
def wordAt (b : List UInt8) (t : Nat) : UInt32 := word (b.getD (4 * t) 0) (b.getD (4 * t + 1) 0) (b.getD (4 * t + 2) 0) (b.getD (4 * t + 3) 0)
def next (y w7 x w16 : UInt32) : UInt32 := (((turn y [17, 19] ^^^ (y >>> 10)) + w7) + (turn x [7, 18] ^^^ (x >>> 3))) + w16
def sched (b : List UInt8) : Nat → List UInt32
  | 0 => []
  | t + 1 => let w := sched b t
    w ++ [if t < 16 then wordAt b t else next (w.getD (t - 2) 0) (w.getD (t - 7) 0) (w.getD (t - 15) 0) (w.getD (t - 16) 0)]
theorem zj0 (b : List UInt8) (t : Nat) (h : t < 16) : sched b (t + 1) = sched b t ++ [wordAt b t] := by simp [sched, h]
theorem zjb (b : List UInt8) (t : Nat) (h : 16 ≤ t) : sched b (t + 1) = sched b t ++ [next ((sched b t).getD (t - 2) 0) ((sched b t).getD (t - 7) 0) ((sched b t).getD (t - 15) 0) ((sched b t).getD (t - 16) 0)] := by
  simp [sched, Nat.not_lt.2 h]
structure St where
  a : UInt32
  b : UInt32
  c : UInt32
  d : UInt32
  e : UInt32
  f : UInt32
  g : UInt32
  h : UInt32
def St.list (v : St) : List UInt32 := [v.a, v.b, v.c, v.d, v.e, v.f, v.g, v.h]
def St.of (l : List UInt32) : St := ⟨l.getD 0 0, l.getD 1 0, l.getD 2 0, l.getD 3 0, l.getD 4 0, l.getD 5 0, l.getD 6 0, l.getD 7 0⟩
def t1 (v : St) (k w : UInt32) : UInt32 := (((v.h + turn v.e [6, 11, 25]) + ((v.e &&& v.f) ^^^ (~~~v.e &&& v.g))) + k) + w
def t2 (v : St) : UInt32 := turn v.a [2, 13, 22] + (((v.a &&& v.b) ^^^ (v.a &&& v.c)) ^^^ (v.b &&& v.c))
def St.step (v : St) (k w : UInt32) : St := ⟨t1 v k w + t2 v, v.a, v.b, v.c, v.d + t1 v k w, v.e, v.f, v.g⟩
def rounds (s : List UInt32) (W : List UInt32) : Nat → St
  | 0 => St.of s
  | t + 1 => (rounds s W t).step (kC.getD t 0) (W.getD t 0)
def compress (s : List UInt32) (b : List UInt8) : List UInt32 := List.zipWith (· + ·) s (rounds s (sched b 64) 64).list
theorem zbU (s : List UInt32) (b : List UInt8) (h : s.length = 8) : (compress s b).length = 8 := by simp [compress, h, St.list]
def be8 (n : Nat) : List UInt8 := (List.range 8).map fun i => UInt8.ofNat (n / 256 ^ (7 - i))
def tail (b : List UInt8) (total : Nat) : List UInt8 := b ++ 128 :: List.replicate ((if b.length + 9 > 64 then 128 else 64) - b.length - 9) 0 ++ be8 (8 * total)
def whole : Nat → List UInt8 → List (List UInt8)
  | 0, _ => []
  | n + 1, b => b.take 64 :: whole n (b.drop 64)
def blocks (b : List UInt8) (total : Nat) : List (List UInt8) :=
  let n := b.length / 64
  let t := tail (b.drop (64 * n)) total
  whole n b ++ whole (t.length / 64) t
def fold (s : List UInt32) (l : List (List UInt8)) : List UInt32 := l.foldl compress s
def be4 (v : UInt32) : List UInt8 := [(v >>> 24).toUInt8, (v >>> 16).toUInt8, (v >>> 8).toUInt8, v.toUInt8]
def ser (s : List UInt32) : List UInt8 := s.flatMap be4
def sum (b : List UInt8) : List UInt8 := ser (fold h0 (blocks b b.length))
theorem zdn (n : Nat) (b : List UInt8) : (whole n b).length = n := by induction n generalizing b with | zero => rfl | succ n ih => simp [whole, ih]
theorem zgh (n j : Nat) (b : List UInt8) (h : j < n) : (whole n b)[j]? = some ((b.drop (64 * j)).take 64) := by
  induction n generalizing b j with
  | zero => omega
  | succ n ih =>
    cases j with
    | zero => simp [whole]
    | succ j => simp only [whole, List.getElem?_cons_succ]; rw [ih j (b.drop 64) (by omega), List.drop_drop]; congr 3; omega
theorem zfU (n : Nat) : (be8 n).length = 8 := by simp [be8]
theorem zlt (r : List UInt8) (total : Nat) (h : r.length < 64) : (tail r total).length = if r.length + 9 > 64 then 128 else 64 := by
  simp only [tail, List.length_append, List.length_cons, List.length_replicate, zfU]; split <;> omega
theorem zfs (b : List UInt8) (total : Nat) : (blocks b total).length = b.length / 64 + (tail (b.drop (64 * (b.length / 64))) total).length / 64 := by
  simp [blocks, zdn]
theorem zji (b : List UInt8) (total j : Nat) (h : j < b.length / 64) : (blocks b total)[j]? = some ((b.drop (64 * j)).take 64) := by
  simp only [blocks]; rw [List.getElem?_append_left (by rw [zdn]; exact h)]; exact zgh _ _ _ h
theorem zh4 (b : List UInt8) (total i : Nat) (h : i < (tail (b.drop (64 * (b.length / 64))) total).length / 64) :
    (blocks b total)[b.length / 64 + i]? = some (((tail (b.drop (64 * (b.length / 64))) total).drop (64 * i)).take 64) := by
  simp only [blocks]; rw [List.getElem?_append_right (by rw [zdn]; omega), zdn, show b.length / 64 + i - b.length / 64 = i from by omega]; exact zgh _ _ _ h
theorem zjc (b : List UInt8) (total : Nat) : ∀ x ∈ blocks b total, x.length = 64 := by
  have hw : ∀ (n : Nat) (b : List UInt8), 64 * n ≤ b.length → ∀ x ∈ whole n b, x.length = 64 := by
    intro n
    induction n with
    | zero => intro b _ x hx; simp [whole] at hx
    | succ n ih =>
      intro b hb x hx
      simp only [whole, List.mem_cons] at hx
      rcases hx with rfl | hx
      · rw [List.length_take]; omega
      · exact ih _ (by rw [List.length_drop]; omega) x hx
  intro x hx
  simp only [blocks, List.mem_append] at hx
  rcases hx with hx | hx
  · exact hw _ _ (by omega) x hx
  · exact hw _ _ (by omega) x hx
theorem zmo (n j : Nat) (h : j < 8) : (be8 n).drop j = UInt8.ofNat (n / 256 ^ (7 - j)) :: (be8 n).drop (j + 1) := by
  have hl : j < (be8 n).length := by rw [zfU]; exact h
  rw [List.drop_eq_getElem_cons hl]; congr 1; simp [be8]
theorem zlh (r : List UInt8) (d n i : Nat) (hi : i < 8) :
    (r ++ 128 :: (List.replicate (d + 8 - i) 0 ++ (be8 n).drop (8 - i))).set (r.length + 1 + (d + 7 - i)) (UInt8.ofNat (n / 256 ^ i)) =
      r ++ 128 :: (List.replicate (d + 8 - (i + 1)) 0 ++ (be8 n).drop (8 - (i + 1))) := by
  rw [List.set_append_right _ _ (by omega), show r.length + 1 + (d + 7 - i) - r.length = (d + 7 - i) + 1 from by omega, List.set_cons_succ]
  congr 2
  rw [show d + 8 - i = (d + 7 - i) + 1 from by omega, List.replicate_succ', List.append_assoc, List.set_append_right _ _ (by simp)]
  rw [List.length_replicate, Nat.sub_self, List.cons_append, List.set_cons_zero, List.nil_append]
  rw [show d + 8 - (i + 1) = d + 7 - i from by omega, zmo n (8 - (i + 1)) (by omega), show 7 - (8 - (i + 1)) = i from by omega, show 8 - (i + 1) + 1 = 8 - i from by omega]
end Go.Sh
end
section
namespace Go.Nt
theorem zkg {m a b : Nat} (h : Cg m a b) (n : Nat) : Cg m (a ^ n) (b ^ n) := h.pow n
theorem zkQ {i k e x : Nat} (h0 : 1 ≤ i) (h5 : i ≤ 4) (he : e ≤ gQ i) :
    (4 ^ ((k + e * x % gQ i) % gQ i) % gP i) * ((4 ^ x % gP i) ^ ((gQ i - e) % gQ i) % gP i) % gP i = 4 ^ k % gP i := by
  have hg : Cg (gP i) (4 ^ gQ i) 1 := zee h0 h5 (g4 i h0 h5)
  have h1 : Cg (gP i) (4 ^ ((k + e * x % gQ i) % gQ i)) (4 ^ k * 4 ^ (e * x)) := by
    refine (zf5 (e := k + e * x % gQ i) hg).trans ?_
    rw [Nat.pow_add]
    exact (Cg.refl _ _).mul (zf5 hg)
  have hx : Cg (gP i) ((4 ^ x) ^ gQ i) 1 := by
    rw [← Nat.pow_mul, Nat.mul_comm, Nat.pow_mul]
    have := zkg hg x
    rwa [Nat.one_pow] at this
  have h2 : Cg (gP i) ((4 ^ x % gP i) ^ ((gQ i - e) % gQ i)) (4 ^ (x * (gQ i - e))) := by
    refine (zkg (zb1 _ _) _).trans ?_
    rw [Nat.pow_mul]
    exact zf5 hx
  have h3 : Cg (gP i) (4 ^ ((k + e * x % gQ i) % gQ i) * (4 ^ x % gP i) ^ ((gQ i - e) % gQ i)) (4 ^ k) := by
    refine (h1.mul h2).trans ?_
    rw [Nat.mul_assoc, ← Nat.pow_add, show e * x + x * (gQ i - e) = x * gQ i by rw [Nat.mul_comm e x, ← Nat.mul_add, Nat.add_sub_cancel' he], Nat.pow_mul]
    have := (Cg.refl (gP i) (4 ^ k)).mul hx
    rwa [Nat.mul_one] at this
  rw [← Nat.mul_mod]
  exact h3.mod
end Go.Nt
end
