/- The hash function SHA-256 in plain Lean, over words of 32 bits. -/
import Derived.Test.YtcahnkdnhejkkaaDoorWords
set_option linter.all false
namespace Go.Sh

def rotr (x : UInt32) (n : Nat) : UInt32 := (x <<< UInt32.ofNat (32 - n)) ||| (x >>> UInt32.ofNat n)
def turn (x : UInt32) (ns : List Nat) : UInt32 := ns.foldl (fun y n => y ^^^ rotr x n) 0
theorem turn_succ (x : UInt32) (ns : List Nat) (k : Nat) (h : k < ns.length) : turn x (ns.take (k + 1)) = turn x (ns.take k) ^^^ rotr x ns[k] := by
  unfold turn; rw [List.take_succ_eq_append_getElem h, List.foldl_append]; rfl

def kC : List UInt32 := [
  0x428a2f98, 0x71374491, 0xb5c0fbcf, 0xe9b5dba5, 0x3956c25b, 0x59f111f1, 0x923f82a4, 0xab1c5ed5,
  0xd807aa98, 0x12835b01, 0x243185be, 0x550c7dc3, 0x72be5d74, 0x80deb1fe, 0x9bdc06a7, 0xc19bf174,
  0xe49b69c1, 0xefbe4786, 0x0fc19dc6, 0x240ca1cc, 0x2de92c6f, 0x4a7484aa, 0x5cb0a9dc, 0x76f988da,
  0x983e5152, 0xa831c66d, 0xb00327c8, 0xbf597fc7, 0xc6e00bf3, 0xd5a79147, 0x06ca6351, 0x14292967,
  0x27b70a85, 0x2e1b2138, 0x4d2c6dfc, 0x53380d13, 0x650a7354, 0x766a0abb, 0x81c2c92e, 0x92722c85,
  0xa2bfe8a1, 0xa81a664b, 0xc24b8b70, 0xc76c51a3, 0xd192e819, 0xd6990624, 0xf40e3585, 0x106aa070,
  0x19a4c116, 0x1e376c08, 0x2748774c, 0x34b0bcb5, 0x391c0cb3, 0x4ed8aa4a, 0x5b9cca4f, 0x682e6ff3,
  0x748f82ee, 0x78a5636f, 0x84c87814, 0x8cc70208, 0x90befffa, 0xa4506ceb, 0xbef9a3f7, 0xc67178f2]
theorem kC_len : kC.length = 64 := rfl
def h0 : List UInt32 := [0x6a09e667, 0xbb67ae85, 0x3c6ef372, 0xa54ff53a, 0x510e527f, 0x9b05688c, 0x1f83d9ab, 0x5be0cd19]

/-- A word out of four bytes. -/
def word (a b c d : UInt8) : UInt32 := (((a.toUInt32 <<< 24) ||| (b.toUInt32 <<< 16)) ||| (c.toUInt32 <<< 8)) ||| d.toUInt32
/-- Word t of a block. -/
def wordAt (b : List UInt8) (t : Nat) : UInt32 := word (b.getD (4 * t) 0) (b.getD (4 * t + 1) 0) (b.getD (4 * t + 2) 0) (b.getD (4 * t + 3) 0)
/-- The next word of the schedule. -/
def next (y w7 x w16 : UInt32) : UInt32 := (((turn y [17, 19] ^^^ (y >>> 10)) + w7) + (turn x [7, 18] ^^^ (x >>> 3))) + w16
/-- The first n words of the schedule of a block. -/
def sched (b : List UInt8) : Nat → List UInt32
  | 0 => []
  | t + 1 => let w := sched b t
    w ++ [if t < 16 then wordAt b t else next (w.getD (t - 2) 0) (w.getD (t - 7) 0) (w.getD (t - 15) 0) (w.getD (t - 16) 0)]
theorem sched_len (b : List UInt8) (t : Nat) : (sched b t).length = t := by induction t with | zero => rfl | succ t ih => simp [sched, ih]
theorem sched_low (b : List UInt8) (t : Nat) (h : t < 16) : sched b (t + 1) = sched b t ++ [wordAt b t] := by simp [sched, h]
theorem sched_high (b : List UInt8) (t : Nat) (h : 16 ≤ t) : sched b (t + 1) = sched b t ++ [next ((sched b t).getD (t - 2) 0) ((sched b t).getD (t - 7) 0) ((sched b t).getD (t - 15) 0) ((sched b t).getD (t - 16) 0)] := by
  simp [sched, Nat.not_lt.2 h]

/-- The eight words within a block's rounds. -/
structure St where
  a : UInt32
  b : UInt32
  c : UInt32
  d : UInt32
  e : UInt32
  f : UInt32
  g : UInt32
  h : UInt32
def St.list (v : St) : List UInt32 := [v.a, v.b, v.c, v.d, v.e, v.f, v.g, v.h]
def St.of (l : List UInt32) : St := ⟨l.getD 0 0, l.getD 1 0, l.getD 2 0, l.getD 3 0, l.getD 4 0, l.getD 5 0, l.getD 6 0, l.getD 7 0⟩
def t1 (v : St) (k w : UInt32) : UInt32 := (((v.h + turn v.e [6, 11, 25]) + ((v.e &&& v.f) ^^^ (~~~v.e &&& v.g))) + k) + w
def t2 (v : St) : UInt32 := turn v.a [2, 13, 22] + (((v.a &&& v.b) ^^^ (v.a &&& v.c)) ^^^ (v.b &&& v.c))
def St.step (v : St) (k w : UInt32) : St := ⟨t1 v k w + t2 v, v.a, v.b, v.c, v.d + t1 v k w, v.e, v.f, v.g⟩
/-- The words after t rounds. -/
def rounds (s : List UInt32) (W : List UInt32) : Nat → St
  | 0 => St.of s
  | t + 1 => (rounds s W t).step (kC.getD t 0) (W.getD t 0)
/-- The words of the hash after a block. -/
def compress (s : List UInt32) (b : List UInt8) : List UInt32 := List.zipWith (· + ·) s (rounds s (sched b 64) 64).list
theorem compress_len (s : List UInt32) (b : List UInt8) (h : s.length = 8) : (compress s b).length = 8 := by simp [compress, h, St.list]

/-- The eight bytes that close the padded string. -/
def be8 (n : Nat) : List UInt8 := (List.range 8).map fun i => UInt8.ofNat (n / 256 ^ (7 - i))
/-- The padded end: the last bytes (fewer than 64), of a string of 'total' bytes. -/
def tail (b : List UInt8) (total : Nat) : List UInt8 := b ++ 128 :: List.replicate ((if b.length + 9 > 64 then 128 else 64) - b.length - 9) 0 ++ be8 (8 * total)
/-- The blocks of a string, 64 bytes each, as many as are whole. -/
def whole : Nat → List UInt8 → List (List UInt8)
  | 0, _ => []
  | n + 1, b => b.take 64 :: whole n (b.drop 64)
/-- The blocks of the padded string from the given last bytes on. -/
def blocks (b : List UInt8) (total : Nat) : List (List UInt8) :=
  let n := b.length / 64
  let t := tail (b.drop (64 * n)) total
  whole n b ++ whole (t.length / 64) t
def fold (s : List UInt32) (l : List (List UInt8)) : List UInt32 := l.foldl compress s
/-- The bytes of a word. -/
def be4 (v : UInt32) : List UInt8 := [(v >>> 24).toUInt8, (v >>> 16).toUInt8, (v >>> 8).toUInt8, v.toUInt8]
def ser (s : List UInt32) : List UInt8 := s.flatMap be4
/-- The hash of a string. -/
def sum (b : List UInt8) : List UInt8 := ser (fold h0 (blocks b b.length))
theorem whole_len (n : Nat) (b : List UInt8) : (whole n b).length = n := by induction n generalizing b with | zero => rfl | succ n ih => simp [whole, ih]
theorem whole_get (n j : Nat) (b : List UInt8) (h : j < n) : (whole n b)[j]? = some ((b.drop (64 * j)).take 64) := by
  induction n generalizing b j with
  | zero => omega
  | succ n ih =>
    cases j with
    | zero => simp [whole]
    | succ j => simp only [whole, List.getElem?_cons_succ]; rw [ih j (b.drop 64) (by omega), List.drop_drop]; congr 3; omega
theorem be8_len (n : Nat) : (be8 n).length = 8 := by simp [be8]
theorem tail_len (r : List UInt8) (total : Nat) (h : r.length < 64) : (tail r total).length = if r.length + 9 > 64 then 128 else 64 := by
  simp only [tail, List.length_append, List.length_cons, List.length_replicate, be8_len]; split <;> omega
theorem blocks_len (b : List UInt8) (total : Nat) : (blocks b total).length = b.length / 64 + (tail (b.drop (64 * (b.length / 64))) total).length / 64 := by
  simp [blocks, whole_len]
theorem blocks_low (b : List UInt8) (total j : Nat) (h : j < b.length / 64) : (blocks b total)[j]? = some ((b.drop (64 * j)).take 64) := by
  simp only [blocks]; rw [List.getElem?_append_left (by rw [whole_len]; exact h)]; exact whole_get _ _ _ h
theorem blocks_high (b : List UInt8) (total i : Nat) (h : i < (tail (b.drop (64 * (b.length / 64))) total).length / 64) :
    (blocks b total)[b.length / 64 + i]? = some (((tail (b.drop (64 * (b.length / 64))) total).drop (64 * i)).take 64) := by
  simp only [blocks]; rw [List.getElem?_append_right (by rw [whole_len]; omega), whole_len, show b.length / 64 + i - b.length / 64 = i from by omega]; exact whole_get _ _ _ h
theorem blocks_all (b : List UInt8) (total : Nat) : ∀ x ∈ blocks b total, x.length = 64 := by
  have hw : ∀ (n : Nat) (b : List UInt8), 64 * n ≤ b.length → ∀ x ∈ whole n b, x.length = 64 := by
    intro n
    induction n with
    | zero => intro b _ x hx; simp [whole] at hx
    | succ n ih =>
      intro b hb x hx
      simp only [whole, List.mem_cons] at hx
      rcases hx with rfl | hx
      · rw [List.length_take]; omega
      · exact ih _ (by rw [List.length_drop]; omega) x hx
  intro x hx
  simp only [blocks, List.mem_append] at hx
  rcases hx with hx | hx
  · exact hw _ _ (by omega) x hx
  · exact hw _ _ (by omega) x hx
theorem be8_get (n j : Nat) (h : j < 8) : (be8 n).drop j = UInt8.ofNat (n / 256 ^ (7 - j)) :: (be8 n).drop (j + 1) := by
  have hl : j < (be8 n).length := by rw [be8_len]; exact h
  rw [List.drop_eq_getElem_cons hl]; congr 1; simp [be8]
/-- One more byte of the length has been written. -/
theorem pad_step (r : List UInt8) (d n i : Nat) (hi : i < 8) :
    (r ++ 128 :: (List.replicate (d + 8 - i) 0 ++ (be8 n).drop (8 - i))).set (r.length + 1 + (d + 7 - i)) (UInt8.ofNat (n / 256 ^ i)) =
      r ++ 128 :: (List.replicate (d + 8 - (i + 1)) 0 ++ (be8 n).drop (8 - (i + 1))) := by
  rw [List.set_append_right _ _ (by omega), show r.length + 1 + (d + 7 - i) - r.length = (d + 7 - i) + 1 from by omega, List.set_cons_succ]
  congr 2
  rw [show d + 8 - i = (d + 7 - i) + 1 from by omega, List.replicate_succ', List.append_assoc, List.set_append_right _ _ (by simp)]
  rw [List.length_replicate, Nat.sub_self, List.cons_append, List.set_cons_zero, List.nil_append]
  rw [show d + 8 - (i + 1) = d + 7 - i from by omega, be8_get n (8 - (i + 1)) (by omega), show 7 - (8 - (i + 1)) = i from by omega, show 8 - (i + 1) + 1 = 8 - i from by omega]
end Go.Sh
