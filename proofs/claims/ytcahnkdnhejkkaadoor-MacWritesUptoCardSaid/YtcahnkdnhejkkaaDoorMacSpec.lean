/- The keyed hash, in plain lists. -/
import Derived.Test.YtcahnkdnhejkkaaDoorShaSpec
set_option linter.all false
namespace Go.Sh
open Go
/-- The key's block: the key, or its hash, filled with 0. -/
def kbase (key : List UInt8) : List UInt8 := if 64 < key.length then sum key else key
def kpad (key : List UInt8) : List UInt8 := kbase key ++ List.replicate (64 - (kbase key).length) 0
def kxor (k : List UInt8) (m : UInt8) : List UInt8 := k.map (· ^^^ m)
def hmac (key text : List UInt8) : List UInt8 := sum (kxor (kpad key) 92 ++ sum (kxor (kpad key) 54 ++ text))
theorem kbase_le (key : List UInt8) (h : (sum key).length = 32) : (kbase key).length ≤ 64 := by unfold kbase; split <;> omega
theorem kpad_len (key : List UInt8) (h : (sum key).length = 32) : (kpad key).length = 64 := by
  have := kbase_le key h
  unfold kpad; rw [List.length_append, List.length_replicate]; omega
theorem kxor_len (k : List UInt8) (m : UInt8) : (kxor k m).length = k.length := List.length_map _
/-- A key filled up is as good as the key. -/
theorem kpad_long (key : List UInt8) (h : key.length ≤ 64) : kpad (key ++ List.replicate (64 - key.length) 0) = kpad key := by
  have e1 : kbase key = key := by unfold kbase; rw [if_neg (by omega)]
  have e2 : kbase (key ++ List.replicate (64 - key.length) 0) = key ++ List.replicate (64 - key.length) 0 := by
    unfold kbase; rw [if_neg (by rw [List.length_append, List.length_replicate]; omega)]
  unfold kpad; rw [e1, e2]
  have : (key ++ List.replicate (64 - key.length) (0 : UInt8)).length = 64 := by rw [List.length_append, List.length_replicate]; omega
  rw [this]; simp
end Go.Sh
/- Derivation of keys, in plain lists. -/
namespace Go.Sh
open Go
/-- A number in 4 bytes. -/
def four (v : Nat) : List UInt8 := [UInt8.ofNat (v / 16777216), UInt8.ofNat (v / 65536), UInt8.ofNat (v / 256), UInt8.ofNat v]
theorem four_len (v : Nat) : (four v).length = 4 := rfl
/-- A block of a derivation. -/
def dblock (key label ctx : List UInt8) (n i : Nat) : List UInt8 := hmac key (four i ++ label ++ [0] ++ ctx ++ four (8 * n))
/-- The first blocks of a row of blocks, numbered from 1. -/
def rows (f : Nat → List UInt8) (k : Nat) : List UInt8 := (List.range k).flatMap fun i => f (i + 1)
theorem rows_succ (f : Nat → List UInt8) (k : Nat) : rows f (k + 1) = rows f k ++ f (k + 1) := by
  unfold rows; rw [List.range_succ, List.flatMap_append]; simp
theorem rows_len (f : Nat → List UInt8) (h : ∀ i, (f i).length = 32) : ∀ k, (rows f k).length = 32 * k
  | 0 => rfl
  | k + 1 => by rw [rows_succ, List.length_append, rows_len f h k, h]; omega
/-- The first n bytes. -/
def firstN (f : Nat → List UInt8) (n : Nat) : List UInt8 := (rows f ((n + 31) / 32)).take n
theorem firstN_len (f : Nat → List UInt8) (h : ∀ i, (f i).length = 32) (n : Nat) : (firstN f n).length = n := by
  unfold firstN; rw [List.length_take, rows_len f h]; omega
theorem rows_prefix (f : Nat → List UInt8) (h : ∀ i, (f i).length = 32) (k : Nat) : ∀ j, (rows f (k + j)).take (32 * k) = rows f k
  | 0 => by rw [Nat.add_zero, List.take_of_length_le]; rw [rows_len f h]; exact Nat.le_refl _
  | j + 1 => by
    rw [← Nat.add_assoc, rows_succ, List.take_append_of_le_length (by rw [rows_len f h]; omega)]
    exact rows_prefix f h k j
theorem firstN_of (f : Nat → List UInt8) (h : ∀ i, (f i).length = 32) (n k : Nat) (hk : n ≤ 32 * k) : (rows f k).take n = firstN f n := by
  obtain ⟨j, rfl⟩ : ∃ j, k = (n + 31) / 32 + j := ⟨k - (n + 31) / 32, by omega⟩
  unfold firstN
  rw [← rows_prefix f h ((n + 31) / 32) j, List.take_take, Nat.min_eq_left (by omega)]
theorem firstN_take (f : Nat → List UInt8) (h : ∀ i, (f i).length = 32) (n m : Nat) (hnm : n ≤ m) : (firstN f m).take n = firstN f n := by
  unfold firstN
  rw [List.take_take, Nat.min_eq_left hnm]
  exact firstN_of f h n _ (by omega)
/-- Exclusive or, place by place. -/
def xorl (a b : List UInt8) : List UInt8 := List.zipWith (· ^^^ ·) a b
/-- The chain of a password's block: what is folded in after k rounds, and the last. -/
def pwU (pw salt : List UInt8) (i : Nat) : Nat → List UInt8
  | 0 => hmac pw (salt ++ four i)
  | k + 1 => hmac pw (pwU pw salt i k)
def pwB (pw salt : List UInt8) (i : Nat) : Nat → List UInt8
  | 0 => pwU pw salt i 0
  | k + 1 => xorl (pwB pw salt i k) (pwU pw salt i (k + 1))
end Go.Sh
