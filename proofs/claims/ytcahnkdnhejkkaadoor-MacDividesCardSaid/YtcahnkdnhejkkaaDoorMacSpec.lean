/- The keyed hash, in plain lists. -/
import Derived.Test.YtcahnkdnhejkkaaDoorShaSpec
set_option linter.all false
namespace Go.Sh
open Go
/-- The key's block: the key, or its hash, filled with 0. -/
def kbase (key : List UInt8) : List UInt8 := if 64 < key.length then sum key else key
def kpad (key : List UInt8) : List UInt8 := kbase key ++ List.replicate (64 - (kbase key).length) 0
def kxor (k : List UInt8) (m : UInt8) : List UInt8 := k.map (· ^^^ m)
def hmac (key text : List UInt8) : List UInt8 := sum (kxor (kpad key) 92 ++ sum (kxor (kpad key) 54 ++ text))
theorem kbase_le (key : List UInt8) (h : (sum key).length = 32) : (kbase key).length ≤ 64 := by unfold kbase; split <;> omega
theorem kpad_len (key : List UInt8) (h : (sum key).length = 32) : (kpad key).length = 64 := by
  have := kbase_le key h
  unfold kpad; rw [List.length_append, List.length_replicate]; omega
theorem kxor_len (k : List UInt8) (m : UInt8) : (kxor k m).length = k.length := List.length_map _
/-- A key filled up is as good as the key. -/
theorem kpad_long (key : List UInt8) (h : key.length ≤ 64) : kpad (key ++ List.replicate (64 - key.length) 0) = kpad key := by
  have e1 : kbase key = key := by unfold kbase; rw [if_neg (by omega)]
  have e2 : kbase (key ++ List.replicate (64 - key.length) 0) = key ++ List.replicate (64 - key.length) 0 := by
    unfold kbase; rw [if_neg (by rw [List.length_append, List.length_replicate]; omega)]
  unfold kpad; rw [e1, e2]
  have : (key ++ List.replicate (64 - key.length) (0 : UInt8)).length = 64 := by rw [List.length_append, List.length_replicate]; omega
  rw [this]; simp
end Go.Sh
