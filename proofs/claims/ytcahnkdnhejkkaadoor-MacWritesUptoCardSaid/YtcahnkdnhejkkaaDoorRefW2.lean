/- Layer sha's specification, with ints as words: the laws of its arithmetic and the walks of its small functions. -/
import Derived.Test.YtcahnkdnhejkkaaDoorTy
import Derived.Test.YtcahnkdnhejkkaaDoorSyApp
import Derived.Test.YtcahnkdnhejkkaaDoorShaSpec
set_option linter.all false
namespace Go.Wd
open Go Go.RowKit Go.Sy
/-- A word held as an int. -/
def vi (x : UInt32) : Value := .int .i64 (n32 x)
theorem wrapi (a : Int) (h0 : -9223372036854775808 ≤ a) (h1 : a < 9223372036854775808) : IntKind.i64.wrap a = a := IntWalk.i64_in _ (by omega)
theorem ofInt_i64 (x : UInt32) : BitVec.ofInt 64 (n32 x) = x.toBitVec.setWidth 64 := by
  unfold n32; rw [BitVec.ofInt_natCast]; apply BitVec.eq_of_toNat_eq; simp
theorem back_i64 (r : BitVec 32) : IntKind.i64.wrap ((r.setWidth 64).toNat : Int) = n32 (UInt32.ofBitVec r) := by
  have := r.isLt
  rw [BitVec.toNat_setWidth, Nat.mod_eq_of_lt (by omega), wrapi _ (by omega) (by omega)]; rfl
theorem andi (x y : UInt32) : bits .and .i64 (n32 x) (n32 y) = n32 (x &&& y) := by
  simp only [bits]; rw [show IntKind.i64.bits = 64 from rfl, ofInt_i64, ofInt_i64, ← BitVec.setWidth_and, back_i64]; rfl
theorem xori (x y : UInt32) : bits .xor .i64 (n32 x) (n32 y) = n32 (x ^^^ y) := by
  simp only [bits]; rw [show IntKind.i64.bits = 64 from rfl, ofInt_i64, ofInt_i64, ← BitVec.setWidth_xor, back_i64]; rfl
theorem noti (x : UInt32) : IntKind.i64.wrap (4294967295 - n32 x) = n32 (~~~x) := by
  have h0 := n32_nonneg x
  have h1 := n32_lt x
  rw [wrapi _ (by omega) (by omega)]
  have h2 : (~~~x).toNat = 4294967295 - x.toNat := by
    rw [UInt32.toNat_not]; rfl
  unfold n32 at *; rw [h2]; omega
theorem self_mod (x : UInt32) : n32 x % (4294967296 : Int) = n32 x := Int.emod_eq_of_lt (n32_nonneg x) (n32_lt x)
theorem late (a b : Int) (p q : UInt32) (ha : a % 4294967296 = n32 p) (hb : b % 4294967296 = n32 q) : (a + b) % 4294967296 = n32 (p + q) := by
  rw [← add32m p q, ← ha, ← hb, Int.emod_add_emod, Int.add_emod_emod]
theorem lateT (a : Int) (p : UInt32) (h0 : 0 ≤ a) (ha : a % 4294967296 = n32 p) : a.tmod 4294967296 = n32 p := by
  rw [Int.tmod_eq_emod_of_nonneg h0]; exact ha
section sums
variable (a b c d e f g : UInt32)
theorem ws2 : IntKind.i64.wrap (n32 a + n32 b) = n32 a + n32 b := by
  have := n32_lt a; have := n32_lt b; have := n32_nonneg a; have := n32_nonneg b
  exact wrapi _ (by omega) (by omega)
theorem ws3 : IntKind.i64.wrap (n32 a + n32 b + n32 c) = n32 a + n32 b + n32 c := by
  have := n32_lt a; have := n32_lt b; have := n32_lt c; have := n32_nonneg a; have := n32_nonneg b; have := n32_nonneg c
  exact wrapi _ (by omega) (by omega)
theorem ws4 : IntKind.i64.wrap (n32 a + n32 b + n32 c + n32 d) = n32 a + n32 b + n32 c + n32 d := by
  have := n32_lt a; have := n32_lt b; have := n32_lt c; have := n32_lt d; have := n32_nonneg a; have := n32_nonneg b; have := n32_nonneg c; have := n32_nonneg d
  exact wrapi _ (by omega) (by omega)
theorem ws5 : IntKind.i64.wrap (n32 a + n32 b + n32 c + n32 d + n32 e) = n32 a + n32 b + n32 c + n32 d + n32 e := by
  have := n32_lt a; have := n32_lt b; have := n32_lt c; have := n32_lt d; have := n32_lt e; have := n32_nonneg a; have := n32_nonneg b; have := n32_nonneg c; have := n32_nonneg d; have := n32_nonneg e
  exact wrapi _ (by omega) (by omega)
theorem ws7 : IntKind.i64.wrap (n32 a + n32 b + n32 c + n32 d + n32 e + (n32 f + n32 g)) = n32 a + n32 b + n32 c + n32 d + n32 e + (n32 f + n32 g) := by
  have := n32_lt a; have := n32_lt b; have := n32_lt c; have := n32_lt d; have := n32_lt e; have := n32_nonneg a; have := n32_nonneg b; have := n32_nonneg c; have := n32_nonneg d; have := n32_nonneg e
  have := n32_lt f; have := n32_lt g; have := n32_nonneg f; have := n32_nonneg g
  exact wrapi _ (by omega) (by omega)
theorem ws6 : IntKind.i64.wrap (n32 f + (n32 a + n32 b + n32 c + n32 d + n32 e)) = n32 f + (n32 a + n32 b + n32 c + n32 d + n32 e) := by
  have := n32_lt a; have := n32_lt b; have := n32_lt c; have := n32_lt d; have := n32_lt e; have := n32_nonneg a; have := n32_nonneg b; have := n32_nonneg c; have := n32_nonneg d; have := n32_nonneg e
  have := n32_lt f; have := n32_nonneg f
  exact wrapi _ (by omega) (by omega)
theorem rs2 : (n32 a + n32 b).tmod 4294967296 = n32 (a + b) := by
  have := n32_nonneg a; have := n32_nonneg b
  exact lateT _ _ (by omega) (late _ _ _ _ (self_mod a) (self_mod b))
theorem rs4 : (n32 a + n32 b + n32 c + n32 d).tmod 4294967296 = n32 (a + b + c + d) := by
  have := n32_nonneg a; have := n32_nonneg b; have := n32_nonneg c; have := n32_nonneg d
  exact lateT _ _ (by omega) (late _ _ _ _ (late _ _ _ _ (late _ _ _ _ (self_mod a) (self_mod b)) (self_mod c)) (self_mod d))
theorem rs7 : (n32 a + n32 b + n32 c + n32 d + n32 e + (n32 f + n32 g)).tmod 4294967296 = n32 ((((a + b + c) + d) + e) + (f + g)) := by
  have := n32_nonneg a; have := n32_nonneg b; have := n32_nonneg c; have := n32_nonneg d; have := n32_nonneg e; have := n32_nonneg f; have := n32_nonneg g
  exact lateT _ _ (by omega) (late _ _ _ _ (late _ _ _ _ (late _ _ _ _ (late _ _ _ _ (late _ _ _ _ (self_mod a) (self_mod b)) (self_mod c)) (self_mod d)) (self_mod e)) (late _ _ _ _ (self_mod f) (self_mod g)))
theorem rs6 : (n32 f + (n32 a + n32 b + n32 c + n32 d + n32 e)).tmod 4294967296 = n32 (f + ((((a + b) + c) + d) + e)) := by
  have := n32_nonneg a; have := n32_nonneg b; have := n32_nonneg c; have := n32_nonneg d; have := n32_nonneg e; have := n32_nonneg f
  exact lateT _ _ (by omega) (late _ _ _ _ (self_mod f) (late _ _ _ _ (late _ _ _ _ (late _ _ _ _ (late _ _ _ _ (self_mod a) (self_mod b)) (self_mod c)) (self_mod d)) (self_mod e)))
end sums
/-- Shifts of an int. -/
theorem shli (a : Int) (k : IntKind) (n : Nat) (h : n < 64) : Op.shift .shl .i64 a k (n : Int) = pure (.int .i64 (IntKind.i64.wrap (a * 2 ^ n))) := by
  rw [shift_shl_any _ _ _ _ (Int.natCast_nonneg _), Int.toNat_natCast, show min n IntKind.i64.bits = n from Nat.min_eq_left (Nat.le_of_lt h)]
theorem shri (a : Int) (k : IntKind) (n : Nat) (h : n < 64) : Op.shift .shr .i64 a k (n : Int) = pure (.int .i64 (a / 2 ^ n)) := by
  rw [shift_shr_any _ _ _ _ (Int.natCast_nonneg _), Int.toNat_natCast, show min n IntKind.i64.bits = n from Nat.min_eq_left (Nat.le_of_lt h)]
end Go.Wd
namespace Go.Sh
open Go.Wd Go.RowKit
theorem rotr_add (x n : Nat) (hx : x < 4294967296) (hn : n ≤ 32) : x / 2 ^ n + x * 2 ^ (32 - n) % 4294967296 = (x <<< (32 - n)) % 4294967296 ||| (x >>> n) := by
  have e : (4294967296 : Nat) = 2 ^ n * 2 ^ (32 - n) := by rw [← Nat.pow_add]; rw [show n + (32 - n) = 32 by omega]
  have e2 : x * 2 ^ (32 - n) % 4294967296 = (x % 2 ^ n) * 2 ^ (32 - n) := by rw [e, Nat.mul_mod_mul_right]
  rw [Nat.shiftLeft_eq, e2, Nat.shiftRight_eq_div_pow, ← Nat.shiftLeft_eq, ← Nat.shiftLeft_add_eq_or_of_lt, Nat.add_comm]
  rw [Nat.div_lt_iff_lt_mul (Nat.two_pow_pos n), Nat.mul_comm, ← e]; exact hx
theorem right_eq (x : UInt32) (n : Nat) (h0 : 0 < n) (h1 : n < 32) : n32 x / 2 ^ n + n32 x * 2 ^ (32 - n) % 4294967296 = n32 (rotr x n) := by
  have h := rotr_add x.toNat n x.toNat_lt (by omega)
  have r : (rotr x n).toNat = (x.toNat <<< (32 - n)) % 4294967296 ||| (x.toNat >>> n) := by
    unfold rotr
    rw [UInt32.toNat_or, UInt32.toNat_shiftLeft, UInt32.toNat_shiftRight, UInt32.toNat_ofNat', UInt32.toNat_ofNat',
      show (32 - n) % 2 ^ 32 % 32 = 32 - n from by omega, show n % 2 ^ 32 % 32 = n from by omega]
  have c : ∀ a b p q m s : Nat, a / p + b * q % m = s → (a : Int) / (p : Int) + (b : Int) * (q : Int) % (m : Int) = (s : Int) := fun a b p q m s hs => by
    rw [← hs, Int.natCast_add, Int.natCast_ediv, Int.natCast_emod, Int.natCast_mul]
  have := c _ _ _ _ _ _ h
  unfold n32; rw [r, ← this, Int.natCast_pow, Int.natCast_pow]; rfl
theorem pow_pos' (n : Nat) : (0 : Int) < 2 ^ n := Int.pow_pos (by decide)
theorem right_shl (x : UInt32) (n : Nat) (h0 : 0 < n) (h1 : n < 32) : IntKind.i64.wrap (n32 x * 2 ^ (32 - n)) = n32 x * 2 ^ (32 - n) ∧ 0 ≤ n32 x * 2 ^ (32 - n) := by
  have a0 := n32_nonneg x
  have a1 := n32_lt x
  have p : (2 : Int) ^ (32 - n) ≤ 2147483648 := by
    have : 2 ^ (32 - n) ≤ 2 ^ 31 := Nat.pow_le_pow_right (by decide) (by omega)
    have h2 := Int.ofNat_le.2 this
    rw [Int.natCast_pow, Int.natCast_pow] at h2
    exact Int.le_trans h2 (by decide)
  have p0 := pow_pos' (32 - n)
  have m0 : 0 ≤ n32 x * 2 ^ (32 - n) := Int.mul_nonneg a0 (by omega)
  have m1 : n32 x * 2 ^ (32 - n) ≤ 4294967295 * 2147483648 := Int.mul_le_mul (by omega) p (by omega) (by omega)
  exact ⟨wrapi _ (by omega) (by omega), m0⟩
theorem right_sum (x : UInt32) (n : Nat) (h0 : 0 < n) (h1 : n < 32) : IntKind.i64.wrap (n32 x / 2 ^ n + n32 x * 2 ^ (32 - n) % 4294967296) = n32 (rotr x n) := by
  rw [right_eq x n h0 h1]; have := n32_lt (rotr x n); have := n32_nonneg (rotr x n); exact wrapi _ (by omega) (by omega)
end Go.Sh
namespace Go.Proofs.YtcahnkdnhejkkaaDoor
open Go Go.Sy Go.Wd Go.Sh
attribute [local irreducible] Sy SyL SyX
set_option maxRecDepth 10000
theorem right_any (x : UInt32) (n : Nat) (w : World) (h0 : 0 < n) (h1 : n < 32) : Sy.Fn Tryd.prog 105 [.int .i64 (n32 x), .int .i64 n] w No (Gives (vi (rotr x n))) := by
  refine fn_enter Tryd.func105 rfl Tryd.ntmps105 (by simp) Holds.nil ?_
  have e32 : IntKind.i64.wrap (32 - (n : Int)) = ((32 - n : Nat) : Int) := by rw [wrapi _ (by omega) (by omega)]; omega
  obtain ⟨e1, e2⟩ := right_shl x n h0 h1
  repeat' (first | refine sy_seqC ?_ | refine syl_nil ?_ | refine sy_if_t rfl ?_ | refine sy_if_f rfl ?_ | refine sy_block ?_ | refine sy_skip ?_ | refine sy_ret ?_ | refine sy_exit ?_ | refine sy_label ?_ | refine syx_then ?_ | refine syx_go ?_ | refine syx_then_ret ?_ | refine syx_then_exit ?_ | refine syx_in ?_ | refine syx_in_ret ?_ | refine syx_in_here ?_ | refine syx_in_past rfl ?_ | (apply syx_begin; (focus ((repeat (first | exact Rem.here | apply Rem.there)); done)); assumption) | (refine sy_region (id := 0) ?_; try refine y_assign ?_) | (refine sy_draw (id := 1) 8 [[], [], [0, 1], [], [], [4], [3, 4, 5], [3, 4, 5, 6], [0, 1, 2, 3, 4, 5, 6, 7], [0, 1, 2, 3, 4, 5, 6, 7, 8]] mixed ?_ ?_; kernel_rfl; try refine d_move ?_; try refine d_move ?_; try refine dc (fun _ _ => op_shr rfl rfl rfl (shri _ _ n (by omega))) (k := ?_); try refine d_move ?_; try refine d_move ?_; try (first | refine dc (fun _ _ => op_sub rfl rfl rfl e32) (k := ?_) | refine d_sub ?_ | fail); try refine dc (fun _ _ => op_shl rfl rfl rfl ((shli _ _ (32 - n) (by omega)).trans (by rw [e1]))) (k := ?_); try (first | refine dc (fun _ _ => op_rem rfl rfl rfl (by decide) (Int.tmod_eq_emod_of_nonneg e2)) (k := ?_) | refine d_rem ?_ | fail); try refine dh_0n ?_; try (first | refine yv (op_add rfl rfl rfl (right_sum x n h0 h1)) (k := ?_) | refine y_add ?_ | fail); try refine y_assign ?_) | (refine syl_id ?_; first | refine yv (op_shr rfl rfl rfl (shri _ _ n (by omega))) (k := ?_) | refine yv (op_sub rfl rfl rfl e32) (k := ?_) | refine yv (op_shl rfl rfl rfl ((shli _ _ (32 - n) (by omega)).trans (by rw [e1]))) (k := ?_) | refine yv (op_rem rfl rfl rfl (by decide) (Int.tmod_eq_emod_of_nonneg e2)) (k := ?_) | refine yv (op_add rfl rfl rfl (right_sum x n h0 h1)) (k := ?_) | refine y_assign ?_ | refine y_add ?_ | refine y_rem ?_ | refine y_sub ?_ | refine y_move ?_ | fail) | refine dh_0n ?_ | (refine dh_id ?_; first | refine dc (fun _ _ => op_shr rfl rfl rfl (shri _ _ n (by omega))) (k := ?_) | refine dc (fun _ _ => op_sub rfl rfl rfl e32) (k := ?_) | refine dc (fun _ _ => op_shl rfl rfl rfl ((shli _ _ (32 - n) (by omega)).trans (by rw [e1]))) (k := ?_) | refine dc (fun _ _ => op_rem rfl rfl rfl (by decide) (Int.tmod_eq_emod_of_nonneg e2)) (k := ?_) | refine dc (fun _ _ => op_add rfl rfl rfl (right_sum x n h0 h1)) (k := ?_) | refine d_assign ?_ | refine d_add ?_ | refine d_rem ?_ | refine d_sub ?_ | refine d_move ?_ | fail) | refine sy_region ?_ | fail)
  exact ret1 rfl (resTmp rfl) SubR.nil ⟨rfl, rfl⟩
theorem pick_any (x y z : UInt32) (w : World) : Sy.Fn Tryd.prog 106 [.int .i64 (n32 x), .int .i64 (n32 y), .int .i64 (n32 z)] w No (Gives (vi ((x &&& y) ^^^ (~~~x &&& z)))) := by
  refine fn_enter Tryd.func106 rfl Tryd.ntmps106 (by simp) Holds.nil ?_
  repeat' (first | refine sy_seqC ?_ | refine syl_nil ?_ | refine sy_if_t rfl ?_ | refine sy_if_f rfl ?_ | refine sy_block ?_ | refine sy_skip ?_ | refine sy_ret ?_ | refine sy_exit ?_ | refine sy_label ?_ | refine syx_then ?_ | refine syx_go ?_ | refine syx_then_ret ?_ | refine syx_then_exit ?_ | refine syx_in ?_ | refine syx_in_ret ?_ | refine syx_in_here ?_ | refine syx_in_past rfl ?_ | (apply syx_begin; (focus ((repeat (first | exact Rem.here | apply Rem.there)); done)); assumption) | (refine sy_region (id := 0) ?_; try refine y_assign ?_) | (refine sy_region (id := 1) ?_; try refine y_move ?_; try refine y_move ?_; try (first | refine yv (op_and rfl rfl rfl (andi _ _)) (k := ?_) | refine y_and ?_ | fail); try refine y_move ?_; try (first | refine yv (op_sub rfl rfl rfl (noti _)) (k := ?_) | refine y_sub ?_ | fail); try refine y_move ?_; try (first | refine yv (op_and rfl rfl rfl (andi _ _)) (k := ?_) | refine y_and ?_ | fail); try (first | refine yv (op_xor rfl rfl rfl (xori _ _)) (k := ?_) | refine y_xor ?_ | fail); try refine y_assign ?_) | (refine syl_id ?_; first | refine yv (op_and rfl rfl rfl (andi _ _)) (k := ?_) | refine yv (op_xor rfl rfl rfl (xori _ _)) (k := ?_) | refine yv (op_sub rfl rfl rfl (noti _)) (k := ?_) | refine y_assign ?_ | refine y_and ?_ | refine y_sub ?_ | refine y_xor ?_ | refine y_move ?_ | fail) | refine sy_region ?_ | fail)
  exact ret1 rfl (resTmp rfl) SubR.nil ⟨rfl, rfl⟩
theorem most_any (x y z : UInt32) (w : World) : Sy.Fn Tryd.prog 107 [.int .i64 (n32 x), .int .i64 (n32 y), .int .i64 (n32 z)] w No (Gives (vi (((x &&& y) ^^^ (x &&& z)) ^^^ (y &&& z)))) := by
  refine fn_enter Tryd.func107 rfl Tryd.ntmps107 (by simp) Holds.nil ?_
  repeat' (first | refine sy_seqC ?_ | refine syl_nil ?_ | refine sy_if_t rfl ?_ | refine sy_if_f rfl ?_ | refine sy_block ?_ | refine sy_skip ?_ | refine sy_ret ?_ | refine sy_exit ?_ | refine sy_label ?_ | refine syx_then ?_ | refine syx_go ?_ | refine syx_then_ret ?_ | refine syx_then_exit ?_ | refine syx_in ?_ | refine syx_in_ret ?_ | refine syx_in_here ?_ | refine syx_in_past rfl ?_ | (apply syx_begin; (focus ((repeat (first | exact Rem.here | apply Rem.there)); done)); assumption) | (refine sy_region (id := 0) ?_; try refine y_assign ?_) | (refine sy_region (id := 1) ?_; try refine y_move ?_; try refine y_move ?_; try (first | refine yv (op_and rfl rfl rfl (andi _ _)) (k := ?_) | refine y_and ?_ | fail); try refine y_move ?_; try refine y_move ?_; try (first | refine yv (op_and rfl rfl rfl (andi _ _)) (k := ?_) | refine y_and ?_ | fail); try (first | refine yv (op_xor rfl rfl rfl (xori _ _)) (k := ?_) | refine y_xor ?_ | fail); try refine y_move ?_; try refine y_move ?_; try (first | refine yv (op_and rfl rfl rfl (andi _ _)) (k := ?_) | refine y_and ?_ | fail); try (first | refine yv (op_xor rfl rfl rfl (xori _ _)) (k := ?_) | refine y_xor ?_ | fail); try refine y_assign ?_) | (refine syl_id ?_; first | refine yv (op_and rfl rfl rfl (andi _ _)) (k := ?_) | refine yv (op_xor rfl rfl rfl (xori _ _)) (k := ?_) | refine y_assign ?_ | refine y_and ?_ | refine y_xor ?_ | refine y_move ?_ | fail) | refine sy_region ?_ | fail)
  exact ret1 rfl (resTmp rfl) SubR.nil ⟨rfl, rfl⟩
end Go.Proofs.YtcahnkdnhejkkaaDoor
