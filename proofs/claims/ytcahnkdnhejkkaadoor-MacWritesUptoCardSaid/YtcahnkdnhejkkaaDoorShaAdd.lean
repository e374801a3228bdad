/- The walks of the block function of layer sha: rotations, choice, majority, and the change of the eight words by a block. -/
import Derived.Test.YtcahnkdnhejkkaaDoorProg
import Derived.Test.YtcahnkdnhejkkaaDoorWords
import Derived.Test.YtcahnkdnhejkkaaDoorShaSpec
import Derived.Test.YtcahnkdnhejkkaaDoorBlk
import Derived.WalkKit
import Derived.WalkSpells
import Derived.WalkLawsBesides
import Derived.Lib.Hide
import Derived.Deep.QuietTactic
import Derived.BigQuiet
import Derived.Deep.RegionHeld3
import Derived.Deep.DrawnRows
import Derived.StillTailTactics
set_option linter.all false
namespace Go.Proofs.YtcahnkdnhejkkaaDoor
open Go.RowKit Go.Wd Go.Sh
attribute [local go_sem] and32 or32 xor32 not32 add32 n32_of_n8 n8_of_n32 n8_fold
attribute [local go_sem ↓] Go.wp_at_zero Go.wp_at_succ

theorem and31_neg (n : Nat) (h0 : 0 < n) (h1 : n < 32) : bits .and .u64 (IntKind.u64.wrap (-(n:Int))) 31 = ((32 - n : Nat):Int) := by
  have h : n = 1 ∨ n = 2 ∨ n = 3 ∨ n = 4 ∨ n = 5 ∨ n = 6 ∨ n = 7 ∨ n = 8 ∨ n = 9 ∨ n = 10 ∨ n = 11 ∨ n = 12 ∨ n = 13 ∨ n = 14 ∨ n = 15 ∨ n = 16 ∨ n = 17 ∨ n = 18 ∨ n = 19 ∨ n = 20 ∨ n = 21 ∨ n = 22 ∨ n = 23 ∨ n = 24 ∨ n = 25 ∨ n = 26 ∨ n = 27 ∨ n = 28 ∨ n = 29 ∨ n = 30 ∨ n = 31 := by omega
  rcases h with h | h | h | h | h | h | h | h | h | h | h | h | h | h | h | h | h | h | h | h | h | h | h | h | h | h | h | h | h | h | h <;> subst h <;> rfl
theorem rot_eq (x : UInt32) (n : Nat) (h0 : 0 < n) (h1 : n < 32) : bits .or .u32 (n32 x * 2 ^ (32 - n) % 4294967296) (n32 x / 2 ^ n) = n32 (rotr x n) := by
  have e1 := shl32 x (32 - n) (by omega)
  have e2 := shr32 x n h1
  rw [IntKind.wrap_u32] at e1
  simp only [Int.natCast_pow, Int.cast_ofNat_Int] at e1 e2
  rw [e1, e2, or32]; rfl
set_option maxHeartbeats 400000 in
theorem rot_any (x : UInt32) (n : Nat) (w : World) (h0 : 0 < n) (h1 : n < 32) :
    Calls Tryd.prog 110 #[.int .u32 (n32 x), .int .i64 (-(n:Int))] w fun e w' => e = .returned (.int .u32 (n32 (rotr x n))) ∧ w' = w := by
  have e1 := and31_neg n h0 h1
  have e2 : IntKind.u64.wrap (32 - ((32 - n : Nat):Int)) = (n : Int) := by rw [wrap_u64]; omega
  go_enter Tryd.func110, Tryd.ntmps110
  go_wp2
  go_ret
  exact ⟨ret_int (rot_eq x n h0 h1), rfl⟩
set_option maxHeartbeats 400000 in
theorem turned_any (x : UInt32) (ns : List Nat) (B : Nat) (w : World) (hn : ∀ n ∈ ns, 0 < n ∧ n < 32) (hl : ns.length < 32)
    (hc : ∀ i (h : i < ns.length), w.cell? ⟨B, i, none⟩ = some (.int .i64 (ns[i] : Nat))) :
    Calls Tryd.prog 102 #[.int .u32 (n32 x), .slice (some ⟨B, 0, none⟩) ns.length ns.length] w fun e w' => e = .returned (.int .u32 (n32 (turn x ns))) ∧ w' = w := by
  have Hn := Lib.hid hn
  have Hc := Lib.hid hc
  clear hn hc
  go_enter Tryd.func102, Tryd.ntmps102
  go_wp2
  go_loop [4, 9] (fun y i => ∃ k : Nat, k ≤ ns.length ∧ i = .int .i64 k ∧ y = .int .u32 (n32 (turn x (ns.take k)))) (fun _ i => ns.length - (intOf i).toNat)
  case atStart => exact ⟨0, Nat.zero_le _, rfl, rfl⟩
  case round =>
    obtain ⟨k, hk, rfl, rfl⟩ := hrel
    by_cases hlt : k < ns.length
    · have hcell := Hc.out k hlt
      obtain ⟨hn0, hn1⟩ := Hn.out _ (List.getElem_mem hlt)
      have HS := Lib.hid (turn_succ x ns k hlt)
      generalize ns[k] = n at *
      go_wp2_with (go_at_call 110; refine (rot_any _ _ _ hn0 hn1).mono ?_; rintro e w' ⟨rfl, rfl⟩)
      go_round
      case rel => exact ⟨k + 1, by omega, by go_num, by rw [HS.out]⟩
      case measure => simp [intOf]; omega
    · go_wp2
      go_ret
      exact ⟨ret_int (by rw [List.take_of_length_le (by omega)]), rfl⟩
/-- The same at the places that the block function uses, in the form of a variadic call. -/
theorem turned_17_19 (x : UInt32) (B : Nat) (w : World) (h0 : w.cell? ⟨B, 0, none⟩ = some (.int .i64 17)) (h1 : w.cell? ⟨B, 1, none⟩ = some (.int .i64 19)) :
    Calls Tryd.prog 102 #[.int .u32 (n32 x), .slice (some ⟨B, 0, none⟩) 2 2] w fun e w' => e = .returned (.int .u32 (n32 (turn x [17, 19]))) ∧ w' = w :=
  turned_any x [17, 19] B w (by simp) (by simp) fun i hi => by
    match i, hi with
    | 0, _ => exact h0
    | 1, _ => exact h1
theorem turned_7_18 (x : UInt32) (B : Nat) (w : World) (h0 : w.cell? ⟨B, 0, none⟩ = some (.int .i64 7)) (h1 : w.cell? ⟨B, 1, none⟩ = some (.int .i64 18)) :
    Calls Tryd.prog 102 #[.int .u32 (n32 x), .slice (some ⟨B, 0, none⟩) 2 2] w fun e w' => e = .returned (.int .u32 (n32 (turn x [7, 18]))) ∧ w' = w :=
  turned_any x [7, 18] B w (by simp) (by simp) fun i hi => by
    match i, hi with
    | 0, _ => exact h0
    | 1, _ => exact h1
theorem turned_6_11_25 (x : UInt32) (B : Nat) (w : World) (h0 : w.cell? ⟨B, 0, none⟩ = some (.int .i64 6)) (h1 : w.cell? ⟨B, 1, none⟩ = some (.int .i64 11)) (h2 : w.cell? ⟨B, 2, none⟩ = some (.int .i64 25)) :
    Calls Tryd.prog 102 #[.int .u32 (n32 x), .slice (some ⟨B, 0, none⟩) 3 3] w fun e w' => e = .returned (.int .u32 (n32 (turn x [6, 11, 25]))) ∧ w' = w :=
  turned_any x [6, 11, 25] B w (by simp) (by simp) fun i hi => by
    match i, hi with
    | 0, _ => exact h0
    | 1, _ => exact h1
    | 2, _ => exact h2
theorem turned_2_13_22 (x : UInt32) (B : Nat) (w : World) (h0 : w.cell? ⟨B, 0, none⟩ = some (.int .i64 2)) (h1 : w.cell? ⟨B, 1, none⟩ = some (.int .i64 13)) (h2 : w.cell? ⟨B, 2, none⟩ = some (.int .i64 22)) :
    Calls Tryd.prog 102 #[.int .u32 (n32 x), .slice (some ⟨B, 0, none⟩) 3 3] w fun e w' => e = .returned (.int .u32 (n32 (turn x [2, 13, 22]))) ∧ w' = w :=
  turned_any x [2, 13, 22] B w (by simp) (by simp) fun i hi => by
    match i, hi with
    | 0, _ => exact h0
    | 1, _ => exact h1
    | 2, _ => exact h2
set_option maxHeartbeats 400000 in
theorem choice_any (x y z : UInt32) (w : World) :
    Calls Tryd.prog 103 #[.int .u32 (n32 x), .int .u32 (n32 y), .int .u32 (n32 z)] w fun e w' => e = .returned (.int .u32 (n32 ((x &&& y) ^^^ (~~~x &&& z)))) ∧ w' = w := by
  go_enter Tryd.func103, Tryd.ntmps103
  go_wp2
  go_ret
  exact ⟨rfl, rfl⟩
set_option maxHeartbeats 400000 in
theorem majority_any (x y z : UInt32) (w : World) :
    Calls Tryd.prog 104 #[.int .u32 (n32 x), .int .u32 (n32 y), .int .u32 (n32 z)] w fun e w' => e = .returned (.int .u32 (n32 (((x &&& y) ^^^ (x &&& z)) ^^^ (y &&& z)))) ∧ w' = w := by
  go_enter Tryd.func104, Tryd.ntmps104
  go_wp2
  go_ret
  exact ⟨rfl, rfl⟩
end Go.Proofs.YtcahnkdnhejkkaaDoor
