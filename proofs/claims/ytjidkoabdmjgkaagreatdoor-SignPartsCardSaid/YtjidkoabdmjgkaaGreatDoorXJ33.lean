/- Signatures: what keys, signatures and verification are, in numbers and bytes. -/
import Derived.Test.YtjidkoabdmjgkaaGreatDoorXJ32
set_option linter.all false
section
namespace Go.Nt
theorem bevW' {l : List UInt8} (h : l.length ≤ 128) : bev 256 (bn l) < 18446744073709551616 ^ 16 := by
  rw [zdt 256 8 128 rfl rfl]
  refine Nat.lt_of_lt_of_le (zcx 256 (bn l) (zdK l)) ?_
  rw [show (bn l).length = l.length from List.length_map _]
  exact Nat.pow_le_pow_right (by decide) h
end Go.Nt
namespace Go.Proofs.YtjidkoabdmjgkaaGreatDoor
open Go Go.Sy Go.Nt Go.RowKit
theorem zcZ (z : Int) : glen z ≤ 96 := by
  unfold glen
  by_cases hz : 1 ≤ z ∧ z ≤ 4
  · rw [if_pos hz]
    obtain ⟨i, -, hi, h0, h5⟩ := zbc hz
    rw [hi]
    exact za7 (p := fun i => gL i ≤ 96) (by decide) (by decide) (by decide) (by decide) i h0 h5
  · rw [if_neg hz]; decide
def chal (i : Nat) (y : List UInt8) (r : Nat) (m : List UInt8) : Nat := bev 256 (bn (Sh.sum (UInt8.ofNat i :: (y ++ (fixB (gL i) r ++ m))))) % gQ i
def skey (z : Int) (l : List UInt8) : Bool := decide ((gnum z l).2 = 0) && decide ((gnum z l).1 ≠ 0)
def sPriv (z : Int) (seed : List UInt8) : Option (List UInt8) := if (gsca z seed).2 = 0 ∧ (gsca z seed).1 ≠ 0 then some (fixB (gL z.toNat) (gsca z seed).1) else none
def sPub (z : Int) (l : List UInt8) : Option (List UInt8) := if skey z l then some (fixB (gL z.toNat) (4 ^ (gnum z l).1 % gP z.toNat)) else none
def sE (i x k : Nat) (m : List UInt8) : Nat := chal i (fixB (gL i) (4 ^ x % gP i)) (4 ^ k % gP i) m
def sS (i x k : Nat) (m : List UInt8) : Nat := (k + sE i x k m * x % gQ i) % gQ i
def sSig (z : Int) (key nonce m : List UInt8) : Option (List UInt8) :=
  if skey z key = true ∧ (gsca z nonce).2 = 0 ∧ (gsca z nonce).1 ≠ 0 ∧ m.length ≤ 65536 then
    some (fixB (gL z.toNat) (sE z.toNat (gnum z key).1 (gsca z nonce).1 m) ++ fixB (gL z.toNat) (sS z.toNat (gnum z key).1 (gsca z nonce).1 m)) else none
def sR (i y e s : Nat) : Nat := (4 ^ s % gP i) * (y ^ ((gQ i - e) % gQ i) % gP i) % gP i
def sVer (z : Int) (pub m sig : List UInt8) : Int :=
  if (gel z pub).2 ≠ 0 ∨ 65536 < m.length then 2
  else if sig.length ≠ 2 * gL z.toNat then 10
  else if gQ z.toNat ≤ bev 256 (bn (sig.take (gL z.toNat))) ∨ gQ z.toNat ≤ bev 256 (bn (sig.drop (gL z.toNat))) then 10
  else if chal z.toNat pub (sR z.toNat (gel z pub).1 (bev 256 (bn (sig.take (gL z.toNat)))) (bev 256 (bn (sig.drop (gL z.toNat))))) m = bev 256 (bn (sig.take (gL z.toNat))) then 0 else 10
def sParts (z : Int) (sig : List UInt8) : List Nat :=
  if glen z = 0 ∨ sig.length ≠ 2 * glen z then [] else [bev 256 (bn (sig.take (glen z))), bev 256 (bn (sig.drop (glen z)))]
theorem zdF (l x : Nat) : bev 256 (bn (fixB l x)) = x := by unfold fixB; rw [zen, zim]
theorem zeO {i : Nat} (h0 : 1 ≤ i) (h5 : i ≤ 4) (y : List UInt8) (r : Nat) (m : List UInt8) : chal i y r m < gQ i :=
  Nat.mod_lt _ (Nat.lt_of_lt_of_le (by decide) (zak i h0 h5))
theorem zdl {i x : Nat} (h0 : 1 ≤ i) (h5 : i ≤ 4) (h : x < gQ i) : nd 256 x ≤ gL i := zfw h0 h5 (Nat.lt_of_lt_of_le h (zmO i))
theorem zks {i e : Nat} (h0 : 1 ≤ i) (h5 : i ≤ 4) (x : Nat) : nd 256 (x ^ e % gP i) ≤ gL i := zfw h0 h5 (Nat.mod_lt _ (Nat.lt_trans Nat.zero_lt_one (zap i h0 h5)))
theorem zhv {z : Int} {l p : List UInt8} (h : sPub z l = some p) : p.length = gL z.toNat := by
  unfold sPub at h
  split at h
  · rename_i hk
    cases h
    unfold skey at hk
    rw [Bool.and_eq_true, decide_eq_true_eq] at hk
    obtain ⟨i, -, hi, h0, h5⟩ := zbc (zc3 hk.1).1
    rw [hi]; exact za5 _ _ (zks h0 h5 4)
  · cases h
theorem zfQ {z : Int} {l p : List UInt8} (h : sPub z l = some p) : gel z p = (4 ^ (gnum z l).1 % gP z.toNat, 0) := by
  have hl := zhv h
  unfold sPub at h
  split at h
  · rename_i hk
    cases h
    unfold skey at hk
    rw [Bool.and_eq_true, decide_eq_true_eq] at hk
    obtain ⟨hz, -, -, -⟩ := zc3 hk.1
    obtain ⟨i, -, hi, h0, h5⟩ := zbc hz
    rw [hi] at hl ⊢
    unfold gel
    rw [if_pos hz, hi, hl, if_neg (Nat.lt_irrefl _), if_neg (Nat.lt_irrefl _), zdF]
    have hm : memB (gP i) (gQ i) (4 ^ (gnum z l).1 % gP i) = true := zbs.2 (zdw h0 h5 _)
    rw [if_pos hm]
  · cases h
theorem ziu {z : Int} {key nonce m p s : List UInt8} (hp : sPub z key = some p) (hs : sSig z key nonce m = some s) : sVer z p m s = 0 := by
  have hg := zfQ hp
  unfold sSig at hs
  split at hs
  · rename_i hk
    obtain ⟨hk, hn, -, hm⟩ := hk
    cases hs
    have hkey := hk
    unfold skey at hk
    rw [Bool.and_eq_true, decide_eq_true_eq] at hk
    obtain ⟨hz, -, hx, hx2⟩ := zc3 hk.1
    obtain ⟨i, -, hi, h0, h5⟩ := zbc hz
    rw [hi] at hx
    have hp2 : p = fixB (gL i) (4 ^ (gnum z key).1 % gP i) := by
      unfold sPub at hp
      rw [if_pos hkey, hi] at hp
      exact (Option.some.inj hp).symm
    unfold sVer
    rw [hg, hi]
    generalize (gnum z key).1 = x at *
    generalize (gsca z nonce).1 = k at *
    have hE : sE i x k m < gQ i := zeO h0 h5 _ _ _
    have hQ0 : 0 < gQ i := Nat.lt_of_lt_of_le (by decide) (zak i h0 h5)
    have hS : sS i x k m < gQ i := Nat.mod_lt _ hQ0
    have l1 := za5 (gL i) (sE i x k m) (zdl h0 h5 hE)
    have l2 := za5 (gL i) (sS i x k m) (zdl h0 h5 hS)
    rw [if_neg (by simp only [ne_eq, not_true, false_or]; omega), if_neg (by rw [List.length_append]; omega), List.take_left' l1, List.drop_left' l1, zdF, zdF, if_neg (by omega), if_pos]
    have hR : sR i (4 ^ x % gP i) (sE i x k m) (sS i x k m) = 4 ^ k % gP i := zkQ h0 h5 (Nat.le_of_lt hE)
    rw [hR, hp2]
    rfl
  · cases hs
end Go.Proofs.YtjidkoabdmjgkaaGreatDoor
end
