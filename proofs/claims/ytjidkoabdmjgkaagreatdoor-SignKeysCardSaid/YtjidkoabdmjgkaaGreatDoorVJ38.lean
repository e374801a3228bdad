/- Layer sha's specification, with ints as words: the laws of its arithmetic and the walks of its small functions. -/
import Derived.Test.YtjidkoabdmjgkaaGreatDoorVJ08
import Derived.Test.YtjidkoabdmjgkaaGreatDoorVJ02
import Derived.Test.YtjidkoabdmjgkaaGreatDoorVJ29
import Derived.Test.YtjidkoabdmjgkaaGreatDoorVJ03
set_option linter.all false
section
namespace Go.Wd
open Go Go.RowKit Go.Sy
def vi (x : UInt32) : Value := .int .i64 (n32 x)
theorem wrapi (a : Int) (h0 : -9223372036854775808 ≤ a) (h1 : a < 9223372036854775808) : IntKind.i64.wrap a = a := IntWalk.i64_in _ (by omega)
theorem zdB (x : UInt32) : BitVec.ofInt 64 (n32 x) = x.toBitVec.setWidth 64 := by
  unfold n32; rw [BitVec.ofInt_natCast]; apply BitVec.eq_of_toNat_eq; simp
theorem zhY (r : BitVec 32) : IntKind.i64.wrap ((r.setWidth 64).toNat : Int) = n32 (UInt32.ofBitVec r) := by
  have := r.isLt
  rw [BitVec.toNat_setWidth, Nat.mod_eq_of_lt (by omega), wrapi _ (by omega) (by omega)]; rfl
theorem andi (x y : UInt32) : bits .and .i64 (n32 x) (n32 y) = n32 (x &&& y) := by
  simp only [bits]; rw [show IntKind.i64.bits = 64 from rfl, zdB, zdB, ← BitVec.setWidth_and, zhY]; rfl
theorem xori (x y : UInt32) : bits .xor .i64 (n32 x) (n32 y) = n32 (x ^^^ y) := by
  simp only [bits]; rw [show IntKind.i64.bits = 64 from rfl, zdB, zdB, ← BitVec.setWidth_xor, zhY]; rfl
theorem noti (x : UInt32) : IntKind.i64.wrap (4294967295 - n32 x) = n32 (~~~x) := by
  have h0 := zH x
  have h1 := zal x
  rw [wrapi _ (by omega) (by omega)]
  have h2 : (~~~x).toNat = 4294967295 - x.toNat := by
    rw [UInt32.toNat_not]; rfl
  unfold n32 at *; rw [h2]; omega
theorem zay (x : UInt32) : n32 x % (4294967296 : Int) = n32 x := Int.emod_eq_of_lt (zH x) (zal x)
theorem late (a b : Int) (p q : UInt32) (ha : a % 4294967296 = n32 p) (hb : b % 4294967296 = n32 q) : (a + b) % 4294967296 = n32 (p + q) := by
  rw [← add32m p q, ← ha, ← hb, Int.emod_add_emod, Int.add_emod_emod]
theorem lateT (a : Int) (p : UInt32) (h0 : 0 ≤ a) (ha : a % 4294967296 = n32 p) : a.tmod 4294967296 = n32 p := by
  rw [Int.tmod_eq_emod_of_nonneg h0]; exact ha
section sums
variable (a b c d e f g : UInt32)
theorem ws2 : IntKind.i64.wrap (n32 a + n32 b) = n32 a + n32 b := by
  have := zal a; have := zal b; have := zH a; have := zH b
  exact wrapi _ (by omega) (by omega)
theorem ws3 : IntKind.i64.wrap (n32 a + n32 b + n32 c) = n32 a + n32 b + n32 c := by
  have := zal a; have := zal b; have := zal c; have := zH a; have := zH b; have := zH c
  exact wrapi _ (by omega) (by omega)
theorem ws4 : IntKind.i64.wrap (n32 a + n32 b + n32 c + n32 d) = n32 a + n32 b + n32 c + n32 d := by
  have := zal a; have := zal b; have := zal c; have := zal d; have := zH a; have := zH b; have := zH c; have := zH d
  exact wrapi _ (by omega) (by omega)
theorem ws5 : IntKind.i64.wrap (n32 a + n32 b + n32 c + n32 d + n32 e) = n32 a + n32 b + n32 c + n32 d + n32 e := by
  have := zal a; have := zal b; have := zal c; have := zal d; have := zal e; have := zH a; have := zH b; have := zH c; have := zH d; have := zH e
  exact wrapi _ (by omega) (by omega)
theorem ws7 : IntKind.i64.wrap (n32 a + n32 b + n32 c + n32 d + n32 e + (n32 f + n32 g)) = n32 a + n32 b + n32 c + n32 d + n32 e + (n32 f + n32 g) := by
  have := zal a; have := zal b; have := zal c; have := zal d; have := zal e; have := zH a; have := zH b; have := zH c; have := zH d; have := zH e
  have := zal f; have := zal g; have := zH f; have := zH g
  exact wrapi _ (by omega) (by omega)
theorem ws6 : IntKind.i64.wrap (n32 f + (n32 a + n32 b + n32 c + n32 d + n32 e)) = n32 f + (n32 a + n32 b + n32 c + n32 d + n32 e) := by
  have := zal a; have := zal b; have := zal c; have := zal d; have := zal e; have := zH a; have := zH b; have := zH c; have := zH d; have := zH e
  have := zal f; have := zH f
  exact wrapi _ (by omega) (by omega)
theorem rs2 : (n32 a + n32 b).tmod 4294967296 = n32 (a + b) := by
  have := zH a; have := zH b
  exact lateT _ _ (by omega) (late _ _ _ _ (zay a) (zay b))
theorem rs4 : (n32 a + n32 b + n32 c + n32 d).tmod 4294967296 = n32 (a + b + c + d) := by
  have := zH a; have := zH b; have := zH c; have := zH d
  exact lateT _ _ (by omega) (late _ _ _ _ (late _ _ _ _ (late _ _ _ _ (zay a) (zay b)) (zay c)) (zay d))
theorem rs7 : (n32 a + n32 b + n32 c + n32 d + n32 e + (n32 f + n32 g)).tmod 4294967296 = n32 ((((a + b + c) + d) + e) + (f + g)) := by
  have := zH a; have := zH b; have := zH c; have := zH d; have := zH e; have := zH f; have := zH g
  exact lateT _ _ (by omega) (late _ _ _ _ (late _ _ _ _ (late _ _ _ _ (late _ _ _ _ (late _ _ _ _ (zay a) (zay b)) (zay c)) (zay d)) (zay e)) (late _ _ _ _ (zay f) (zay g)))
theorem rs6 : (n32 f + (n32 a + n32 b + n32 c + n32 d + n32 e)).tmod 4294967296 = n32 (f + ((((a + b) + c) + d) + e)) := by
  have := zH a; have := zH b; have := zH c; have := zH d; have := zH e; have := zH f
  exact lateT _ _ (by omega) (late _ _ _ _ (zay f) (late _ _ _ _ (late _ _ _ _ (late _ _ _ _ (late _ _ _ _ (zay a) (zay b)) (zay c)) (zay d)) (zay e)))
end sums
theorem shli (a : Int) (k : IntKind) (n : Nat) (h : n < 64) : Op.shift .shl .i64 a k (n : Int) = pure (.int .i64 (IntKind.i64.wrap (a * 2 ^ n))) := by
  rw [shift_shl_any _ _ _ _ (Int.natCast_nonneg _), Int.toNat_natCast, show min n IntKind.i64.bits = n from Nat.min_eq_left (Nat.le_of_lt h)]
theorem shri (a : Int) (k : IntKind) (n : Nat) (h : n < 64) : Op.shift .shr .i64 a k (n : Int) = pure (.int .i64 (a / 2 ^ n)) := by
  rw [shift_shr_any _ _ _ _ (Int.natCast_nonneg _), Int.toNat_natCast, show min n IntKind.i64.bits = n from Nat.min_eq_left (Nat.le_of_lt h)]
end Go.Wd
namespace Go.Sh
open Go.Wd Go.RowKit
theorem zmx (x n : Nat) (hx : x < 4294967296) (hn : n ≤ 32) : x / 2 ^ n + x * 2 ^ (32 - n) % 4294967296 = (x <<< (32 - n)) % 4294967296 ||| (x >>> n) := by
  have e : (4294967296 : Nat) = 2 ^ n * 2 ^ (32 - n) := by rw [← Nat.pow_add]; rw [show n + (32 - n) = 32 by omega]
  have e2 : x * 2 ^ (32 - n) % 4294967296 = (x % 2 ^ n) * 2 ^ (32 - n) := by rw [e, Nat.mul_mod_mul_right]
  rw [Nat.shiftLeft_eq, e2, Nat.shiftRight_eq_div_pow, ← Nat.shiftLeft_eq, ← Nat.shiftLeft_add_eq_or_of_lt, Nat.add_comm]
  rw [Nat.div_lt_iff_lt_mul (Nat.two_pow_pos n), Nat.mul_comm, ← e]; exact hx
theorem zlR (x : UInt32) (n : Nat) (h0 : 0 < n) (h1 : n < 32) : n32 x / 2 ^ n + n32 x * 2 ^ (32 - n) % 4294967296 = n32 (rotr x n) := by
  have h := zmx x.toNat n x.toNat_lt (by omega)
  have r : (rotr x n).toNat = (x.toNat <<< (32 - n)) % 4294967296 ||| (x.toNat >>> n) := by
    unfold rotr
    rw [UInt32.toNat_or, UInt32.toNat_shiftLeft, UInt32.toNat_shiftRight, UInt32.toNat_ofNat', UInt32.toNat_ofNat',
      show (32 - n) % 2 ^ 32 % 32 = 32 - n from by omega, show n % 2 ^ 32 % 32 = n from by omega]
  have c : ∀ a b p q m s : Nat, a / p + b * q % m = s → (a : Int) / (p : Int) + (b : Int) * (q : Int) % (m : Int) = (s : Int) := fun a b p q m s hs => by
    rw [← hs, Int.natCast_add, Int.natCast_ediv, Int.natCast_emod, Int.natCast_mul]
  have := c _ _ _ _ _ _ h
  unfold n32; rw [r, ← this, Int.natCast_pow, Int.natCast_pow]; rfl
theorem zmq (n : Nat) : (0 : Int) < 2 ^ n := Int.pow_pos (by decide)
theorem zlv (x : UInt32) (n : Nat) (h0 : 0 < n) (h1 : n < 32) : IntKind.i64.wrap (n32 x * 2 ^ (32 - n)) = n32 x * 2 ^ (32 - n) ∧ 0 ≤ n32 x * 2 ^ (32 - n) := by
  have a0 := zH x
  have a1 := zal x
  have p : (2 : Int) ^ (32 - n) ≤ 2147483648 := by
    have : 2 ^ (32 - n) ≤ 2 ^ 31 := Nat.pow_le_pow_right (by decide) (by omega)
    have h2 := Int.ofNat_le.2 this
    rw [Int.natCast_pow, Int.natCast_pow] at h2
    exact Int.le_trans h2 (by decide)
  have p0 := zmq (32 - n)
  have m0 : 0 ≤ n32 x * 2 ^ (32 - n) := Int.mul_nonneg a0 (by omega)
  have m1 : n32 x * 2 ^ (32 - n) ≤ 4294967295 * 2147483648 := Int.mul_le_mul (by omega) p (by omega) (by omega)
  exact ⟨wrapi _ (by omega) (by omega), m0⟩
theorem zk6 (x : UInt32) (n : Nat) (h0 : 0 < n) (h1 : n < 32) : IntKind.i64.wrap (n32 x / 2 ^ n + n32 x * 2 ^ (32 - n) % 4294967296) = n32 (rotr x n) := by
  rw [zlR x n h0 h1]; have := zal (rotr x n); have := zH (rotr x n); exact wrapi _ (by omega) (by omega)
end Go.Sh
namespace Go.Proofs.YtjidkoabdmjgkaaGreatDoor
open Go Go.Sy Go.Wd Go.Sh
attribute [local irreducible] Sy SyL SyX
set_option maxRecDepth 10000
theorem zbm (x : UInt32) (n : Nat) (w : World) (h0 : 0 < n) (h1 : n < 32) : Sy.Fn Tryz.prog 142 [.int .i64 (n32 x), .int .i64 n] w No (Gives (vi (rotr x n))) := by
  refine zq Tryz.func142 rfl Tryz.ntmps142 (by simp) Holds.nil ?_
  have e32 : IntKind.i64.wrap (32 - (n : Int)) = ((32 - n : Nat) : Int) := by rw [wrapi _ (by omega) (by omega)]; omega
  obtain ⟨e1, e2⟩ := zlv x n h0 h1
  repeat' (first | refine zg ?_ | refine zf ?_ | refine zo ?_ | refine ze ?_ | refine zj ?_ | (refine za (id := 0) ?_; refine zd ?_) | (refine zW (id := 1) 8 [[], [], [0, 1], [], [], [4], [3, 4, 5], [3, 4, 5, 6], [0, 1, 2, 3, 4, 5, 6, 7], [0, 1, 2, 3, 4, 5, 6, 7, 8]] mixed ?_ ?_; kernel_rfl; refine zA ?_; refine zA ?_; refine dc (fun _ _ => za9 rfl rfl rfl (shri _ _ n (by omega))) (k := ?_); refine zA ?_; refine zA ?_; refine dc (fun _ _ => zL rfl rfl rfl e32) (k := ?_); refine dc (fun _ _ => zdp rfl rfl rfl ((shli _ _ (32 - n) (by omega)).trans (by rw [e1]))) (k := ?_); refine dc (fun _ _ => zaA rfl rfl rfl (by decide) (Int.tmod_eq_emod_of_nonneg e2)) (k := ?_); refine z5 ?_; refine yv (zM rfl rfl rfl (zk6 x n h0 h1)) (k := ?_); refine zd ?_) | fail)
  exact ret1 rfl (resTmp rfl) SubR.nil ⟨rfl, rfl⟩
theorem zlH (x y z : UInt32) (w : World) : Sy.Fn Tryz.prog 143 [.int .i64 (n32 x), .int .i64 (n32 y), .int .i64 (n32 z)] w No (Gives (vi ((x &&& y) ^^^ (~~~x &&& z)))) := by
  refine zq Tryz.func143 rfl Tryz.ntmps143 (by simp) Holds.nil ?_
  repeat' (first | refine zg ?_ | refine zf ?_ | refine zo ?_ | refine ze ?_ | refine zj ?_ | (refine za (id := 0) ?_; refine zd ?_) | (refine za (id := 1) ?_; refine zb ?_; refine zb ?_; refine yv (zc2 rfl rfl rfl (andi _ _)) (k := ?_); refine zb ?_; refine yv (zL rfl rfl rfl (noti _)) (k := ?_); refine zb ?_; refine yv (zc2 rfl rfl rfl (andi _ _)) (k := ?_); refine yv (zbQ rfl rfl rfl (xori _ _)) (k := ?_); refine zd ?_) | fail)
  exact ret1 rfl (resTmp rfl) SubR.nil ⟨rfl, rfl⟩
theorem zmg (x y z : UInt32) (w : World) : Sy.Fn Tryz.prog 144 [.int .i64 (n32 x), .int .i64 (n32 y), .int .i64 (n32 z)] w No (Gives (vi (((x &&& y) ^^^ (x &&& z)) ^^^ (y &&& z)))) := by
  refine zq Tryz.func144 rfl Tryz.ntmps144 (by simp) Holds.nil ?_
  repeat' (first | refine zg ?_ | refine zf ?_ | refine zo ?_ | refine ze ?_ | refine zj ?_ | (refine za (id := 0) ?_; refine zd ?_) | (refine za (id := 1) ?_; refine zb ?_; refine zb ?_; refine yv (zc2 rfl rfl rfl (andi _ _)) (k := ?_); refine zb ?_; refine zb ?_; refine yv (zc2 rfl rfl rfl (andi _ _)) (k := ?_); refine yv (zbQ rfl rfl rfl (xori _ _)) (k := ?_); refine zb ?_; refine zb ?_; refine yv (zc2 rfl rfl rfl (andi _ _)) (k := ?_); refine yv (zbQ rfl rfl rfl (xori _ _)) (k := ?_); refine zd ?_) | fail)
  exact ret1 rfl (resTmp rfl) SubR.nil ⟨rfl, rfl⟩
end Go.Proofs.YtjidkoabdmjgkaaGreatDoor
end
section
namespace Go.Sh
open Go.Wd Go.RowKit Go.Sy
def ArgB (O : Nat → Prop) (x : List UInt8) (vs : List Value) (RA : List Res) (W : World) : Prop := ∃ b o, vs = [.slice (some ⟨b, o, none⟩) 64 64] ∧ RA = [] ∧ W.rangeAt b o (x.map Sy.v8) ∧ ¬ O b
theorem zl0 (n i : Nat) (hi : i < 8) : Op.shift .shr .u64 ((n : Int) * 8) .i64 (8 * (i : Int)) = pure (.int .u64 (((8 * n) / 256 ^ i : Nat) : Int)) ∧ IntKind.u8.wrap (((8 * n) / 256 ^ i : Nat) : Int) = n8 (UInt8.ofNat ((8 * n) / 256 ^ i)) := by
  refine ⟨?_, ?_⟩
  · rw [show (8 * (i : Int)) = ((8 * i : Nat) : Int) from (Int.natCast_mul 8 i).symm, shift_shr_any _ _ _ _ (Int.natCast_nonneg _), Int.toNat_natCast, show min (8 * i) IntKind.u64.bits = 8 * i from Nat.min_eq_left (by show 8 * i ≤ 64; omega)]
    congr 2
    rw [show ((n : Int) * 8) = ((8 * n : Nat) : Int) from by omega, show ((2 : Int) ^ (8 * i)) = ((256 ^ i : Nat) : Int) by rw [Int.natCast_pow, Int.pow_mul]; rfl, ← Int.natCast_ediv]
  · rw [wrap_u8_nat, n8_of_nat]
end Go.Sh
namespace Go.Proofs.YtjidkoabdmjgkaaGreatDoor
open Go Go.Sy Go.Wd Go.Sh
attribute [local irreducible] Sy SyL SyX Sy.Fn callFunc n8 n32 Rem Has Upd SubR Sy.Sub SetAt Rd Reads Seg RemL
set_option maxRecDepth 10000
theorem zkq (v : Value) (n : Int) (w : World) (hv : v.oneCell' = true) :
    Sy.Fn Tryz.prog 111 [v, .int .i64 n] w No (fun u R => ∃ b1 b2, u = .func (.func 136) #[] #[.pointer (some ⟨b1, 0, none⟩), .pointer (some ⟨b2, 0, none⟩)] ∧ R = [.blk b1 22 [v], .blk b2 3 [.int .i64 n]]) := by
  refine zq Tryz.func111 rfl Tryz.ntmps111 (by simp) Holds.nil ?_
  refine zg ?_
  refine za ?_
  refine ya (zlq (hv := hv)) (k := ?_); intro b1
  repeat' (first | refine zg ?_ | refine zf ?_ | refine zo ?_ | refine ze ?_ | refine zj ?_ | (refine za (id := 1) ?_; refine zan ?_; refine zd ?_) | (refine zV ?_; first | refine zd ?_ | (refine zm ?_; intro _) | fail) | fail)
  rename_i b2
  exact ret1 rfl (resTmp rfl) (by exact SubR.go) ⟨b1, b2, rfl, rfl⟩
set_option maxHeartbeats 1000000 in
theorem zjN (b1 b2 : Nat) (a0 : Option Addr) (n cap total : Nat) (last : List UInt8) (w : World) (M : Nat → Prop) (hn : last.length = n) (hcap : n ≤ cap) (ht : total < 2305843009213693952)
    (hsl : SlF w M a0 (last.map Sy.v8)) :
    IterC Tryz.prog 136 [.pointer (some ⟨b1, 0, none⟩), .pointer (some ⟨b2, 0, none⟩)] (blocks last total) ArgB w M [.blk b1 22 [.slice a0 n cap], .blk b2 3 [.int .i64 total]] := by
  intro l J Jx j0 hJ0 hh hY
  refine zq Tryz.func136 rfl Tryz.ntmps136 (by simp) hh ?_
  repeat' (first | refine zg ?_ | refine zf ?_ | refine zr ?_ | refine ze ?_ | refine zj ?_ | (refine za (id := 0) ?_; refine zK ?_; refine zd ?_) | fail)
  refine zQ (γ := Nat × Nat × Nat × Option Addr × Res) (fun g => [(0, .func (.yield l) #[] #[]), (1, .pointer (some ⟨b1, 0, none⟩)), (2, .pointer (some ⟨b2, 0, none⟩)), (4, .slice g.2.2.2.1 g.2.1 g.2.2.1)])
    (fun g => [g.2.2.2.2, .blk b1 22 [.slice a0 n cap], .blk b2 3 [.int .i64 total]])
    (fun g => 64 * g.1 + g.2.1 = n ∧ g.2.1 ≤ g.2.2.1 ∧ g.2.2.1 ≤ cap ∧ J g.1 g.2.2.2.2 ∧ SlF w M g.2.2.2.1 ((last.drop (64 * g.1)).map Sy.v8))
    (fun g => g.2.1) (0, n, cap, a0, j0) ⟨by simp, hcap, Nat.le_refl _, hJ0, by simpa using hsl⟩ ?_ ?_ ?_
  · exact Sub.go
  · exact SubR.go
  rintro ⟨q, m, c, a1, j⟩ ⟨hq, hmc, hcc, hJ, hs1⟩
  dsimp only at *
  have hrl : (last.drop (64 * q)).length = m := by rw [List.length_drop]; omega
  by_cases hge : 64 ≤ m
  · have hjq : q < last.length / 64 := by omega
    have hkx : q < (blocks last total).length := by rw [zf2]; omega
    have hxj : (blocks last total)[q] = (last.drop (64 * q)).take 64 := by
      have := zjO last total q hjq
      rw [List.getElem?_eq_getElem hkx] at this; exact Option.some.inj this
    obtain ⟨b, o, rfl, hr, hnM⟩ : ∃ b o, a1 = some ⟨b, o, none⟩ ∧ w.rangeAt b o ((last.drop (64 * q)).map Sy.v8) ∧ ¬ M b := by
      rcases hs1 with h | h
      · exfalso; have := congrArg List.length h; rw [List.length_map, hrl] at this; simp at this; omega
      · exact h
    have harg : ∀ (w' : World) (X : List Res), Keep M w w' → Holds w.heap.size M (j :: [] ++ X) w' → ArgB j.own (blocks last total)[q] [.slice (some ⟨b, o, none⟩) 64 64] [] w' := fun w' X hk hh' =>
      ⟨b, o, rfl, rfl, fun i v hv => hk.cell (hr i v (by
        rw [hxj, List.map_take, List.getElem?_take] at hv
        split at hv
        · exact hv
        · cases hv)) hnM, fun hb => by
        rcases hh'.mine j List.mem_cons_self b hb with h | h
        · have := World.block_lt_of_cell? w ⟨b, o, none⟩ (u := Sy.v8 ((last.drop (64 * q)).getD 0 0)) (by
            have := hr 0 (Sy.v8 ((last.drop (64 * q)).getD 0 0)) (by rw [List.getElem?_map, List.getD_eq_getElem?_getD, List.getElem?_eq_getElem (by omega)]; rfl)
            rw [Nat.add_zero] at this; exact this)
          dsimp only at this; omega
        · exact hnM h⟩
    repeat' (first | refine zg ?_ | refine zf ?_ | refine zu rfl ?_ | refine zr ?_ | refine zt ?_ | refine ze ?_ | refine zj ?_ | (refine za (id := 1) ?_; refine zb ?_; refine zB ?_; refine zai ?_) | (refine za (id := 2) ?_; refine zb ?_; refine zb ?_; refine zbp ?_; (refine ys (zce hY hkx hJ (hL := RemL.cons (by exact Rem.here) rfl RemL.nil) (harg := fun w' X hk hh' => harg w' _ hk hh')) (k := ?_); rintro _ _ ⟨y, j', rfl, rfl, hy⟩); refine z4 ?_) | fail)
    refine zcs rfl (fun h => ?_) (fun h => ?_)
    · obtain rfl : y = false := by simpa using h
      repeat' (first | refine zo ?_ | refine zx ?_ | refine zae ?_ | fail)
      exact ret0 rfl (by exact SubR.go) ⟨j', rfl, .inr ⟨q + 1, by omega, hy⟩⟩
    · obtain rfl : y = true := by simpa using h
      repeat' (first | refine zf ?_ | refine zt ?_ | refine ze ?_ | refine zj ?_ | refine zaC ?_ | (refine za (id := 3) ?_; refine zb ?_; refine zbp ?_; refine zd ?_) | fail)
      refine zG (q + 1, m - 64, c - 64, movA (some ⟨b, o, none⟩) 64 c 1, j') ?_ ?_ ?_ ?_
      · refine ⟨by dsimp only; omega, by dsimp only; omega, by dsimp only; omega, hy, ?_⟩
        · have := hs1.mov (l := 64) (m := c) (by rw [List.length_map, hrl]; exact hmc)
          rw [← List.map_drop, List.drop_drop, show 64 * q + 64 = 64 * (q + 1) from by omega] at this; exact this
      · show m - 64 < m; omega
      · exact Sub.go
      · exact SubR.go
  -- the end
  obtain ⟨r, hr⟩ : ∃ r, r = last.drop (64 * q) := ⟨_, rfl⟩
  have hq2 : last.length / 64 = q := by omega
  rw [← hr] at hrl hs1
  repeat' (first | refine zg ?_ | refine zf ?_ | refine zw rfl ?_ | refine zE ?_ | refine ze ?_ | refine zj ?_ | (refine za (id := 1) ?_; refine zb ?_; refine zB ?_; refine zai ?_) | (refine za (id := 4) ?_; refine zd ?_) | (refine za (id := 5) ?_; refine zb ?_; refine zB ?_; refine zaf ?_; refine z6 ?_) | fail)
  refine zbq (γ := Nat) (fun S => [(0, .func (.yield l) #[] #[]), (1, .pointer (some ⟨b1, 0, none⟩)), (2, .pointer (some ⟨b2, 0, none⟩)), (4, .slice a1 m c), (5, .int .i64 S)])
    (fun _ => [j, .blk b1 22 [.slice a0 n cap], .blk b2 3 [.int .i64 total]]) (fun S => S = if m + 9 > 64 then 128 else 64) ?_ ?_
  · refine zcs rfl (fun h => ?_) (fun h => ?_)
    · repeat' (first | refine zf ?_ | refine ze ?_ | (refine za (id := 6) ?_; refine zd ?_) | fail)
      refine zZ 128 ?_ ?_ ?_
      · rw [if_pos (by have := of_decide_eq_true h; omega)]
      · exact Sub.go
      · exact SubR.go
    · repeat' (first | refine zt ?_ | refine ze ?_ | fail)
      refine zZ 64 ?_ ?_ ?_
      · rw [if_neg (by have := of_decide_eq_false h; omega)]
      · exact Sub.go
      · exact SubR.go
  intro S hS
  have hS2 : m + 9 ≤ S ∧ S ≤ 128 := by split at hS <;> omega
  have hzero : setSeg (List.replicate S (Value.int .u8 0)) 0 (r.map Sy.v8) = (r ++ List.replicate (S - m) 0).map Sy.v8 := by
    rw [setSeg0, List.length_map, hrl, List.drop_replicate, List.map_append, List.map_replicate, zjb]
  repeat' (first | refine zg ?_ | refine zf ?_ | refine zr ?_ | refine ze ?_ | refine zj ?_ | (refine za (id := 7) ?_; refine zb ?_) | (refine za (id := 8) ?_; refine zb ?_; refine zb ?_; refine yv (zcO (Rd.oldF hs1) (by rw [List.length_map, hrl]) hzero) (k := ?_)) | (refine za (id := 9) ?_; refine zb ?_; refine zb ?_; refine zB ?_; refine zC ?_; refine zS ?_) | (refine za (id := 10) ?_; refine zb ?_) | (refine ys zcN (k := ?_); rintro _ _ ⟨b6, rfl, rfl⟩) | (refine zV ?_; first | refine zd ?_ | fail) | fail)
  obtain ⟨d, hd⟩ : ∃ d, S = m + 1 + d + 8 := ⟨S - m - 9, by omega⟩
  refine zQ (γ := Nat) (fun i => [(0, .func (.yield l) #[] #[]), (1, .pointer (some ⟨b1, 0, none⟩)), (2, .pointer (some ⟨b2, 0, none⟩)), (5, .int .i64 S), (6, .slice (some ⟨b6, 0, none⟩) S S), (32, .int .i64 i)])
    (fun i => [.blk b6 5 ((r ++ 128 :: (List.replicate (d + 8 - i) 0 ++ (be8 (8 * total)).drop (8 - i))).map Sy.v8), j, .blk b1 22 [.slice a0 n cap], .blk b2 3 [.int .i64 total]])
    (fun i => i ≤ 8) (fun i => 8 - i) 0 (Nat.zero_le _) ?_ ?_ ?_
  · exact Sub.go
  · (repeat' (first | exact SubR.nil | (apply SubR.same; with_reducible (focus ((repeat (first | exact Rem.here | apply Rem.there)); done))) | (apply SubR.blk; (focus ((repeat (first | exact Rem.here | apply Rem.there)); done))) | (apply SubR.pick; (focus ((repeat (first | exact Rem.here | apply Rem.there)); done))) | rfl))
    have e1 : (be8 (8 * total)).drop 8 = [] := List.drop_eq_nil_of_le (by rw [zdg]; omega)
    have e2 : S - m = (d + 8) + 1 := by omega
    show _ = List.map Sy.v8 (r ++ 128 :: (List.replicate (d + 8) 0 ++ (be8 (8 * total)).drop 8))
    rw [e1, e2, List.append_nil, show Value.int .u8 128 = Sy.v8 128 from Sy.v8_lit 128 (by decide), ← List.map_set, List.set_append_right _ _ (by omega), hrl, Nat.sub_self]; rfl
  intro i hi
  by_cases hlt : i < 8
  · obtain ⟨q1, q2⟩ := zl0 total i hlt
    have q3 : IntKind.i64.wrap (8 * (i : Int)) = 8 * (i : Int) := wrapi _ (by omega) (by omega)
    have q4 : IntKind.i64.wrap ((S : Int) - 1 - (i : Int)) = ((r.length + 1 + (d + 7 - i) : Nat) : Int) := by rw [wrapi _ (by omega) (by omega), hrl]; omega
    repeat' (first | refine zg ?_ | refine zf ?_ | refine zu rfl ?_ | refine zr ?_ | refine zt ?_ | refine ze ?_ | refine zj ?_ | (refine za (id := 11) ?_; refine zY ?_) | (refine za (id := 12) ?_; refine zb ?_; refine zd ?_) | (refine za (id := 13) ?_; refine zb ?_; refine zb ?_; refine zcW ?_; refine zb ?_; refine yv (zL (hr := q4)) (k := ?_); refine zK ?_; refine zbT ?_; refine zcX ?_; refine zb ?_; refine zcX ?_; refine yv (za9 (hr := q1)) (k := ?_); refine yv (zaD (hr := q2)) (k := ?_); refine zC ?_; refine zS ?_) | (refine za (id := 14) ?_; refine zaf ?_; refine zb ?_) | fail)
    refine zG (i + 1) ?_ ?_ ?_ ?_
    · show i + 1 ≤ 8; omega
    · show 8 - (i + 1) < 8 - i; omega
    · exact Sub.go
    · (repeat' (first | exact SubR.nil | (apply SubR.same; with_reducible (focus ((repeat (first | exact Rem.here | apply Rem.there)); done))) | (apply SubR.blk; (focus ((repeat (first | exact Rem.here | apply Rem.there)); done))) | (apply SubR.pick; (focus ((repeat (first | exact Rem.here | apply Rem.there)); done))) | rfl))
      rw [← zmK r d (8 * total) i hlt, List.map_set]; rfl
  obtain rfl : i = 8 := by omega
  have htail : r ++ 128 :: (List.replicate (d + 8 - 8) 0 ++ (be8 (8 * total)).drop (8 - 8)) = tail r total := by
    unfold tail
    rw [hrl, ← hS, show S - m - 9 = d from by omega]; simp
  rw [htail]
  have htl : (tail r total).length = S := by rw [zhO r total (by omega), hrl, hS]
  have hbl : (blocks last total).length = q + S / 64 := by rw [zf2, hq2, ← hr, htl]
  have hx0 : ∀ i, i < S / 64 → ∃ h : q + i < (blocks last total).length, (blocks last total)[q + i] = ((tail r total).drop (64 * i)).take 64 := fun i hi => by
    have h1 : q + i < (blocks last total).length := by omega
    have := ziU last total i (by rw [hq2, ← hr, htl]; exact hi)
    rw [hq2, ← hr, List.getElem?_eq_getElem h1] at this
    exact ⟨h1, Option.some.inj this⟩
  have hS64 : S = 64 ∨ S = 128 := by split at hS <;> omega
  generalize tail r total = tl at *
  generalize blocks last total = bl at *
  -- what is handed over
  have harg : ∀ (i : Nat) (j : Res) (h1 : q + i < bl.length) (Rest : List Res), i < S / 64 → ∀ (w' : World) (X : List Res), Keep M w w' → Holds w.heap.size M (j :: [] ++ ((.blk b6 5 (tl.map Sy.v8) :: Rest) ++ X)) w' → ArgB j.own bl[q + i] [.slice (some ⟨b6, 64 * i, none⟩) 64 64] [] w' := fun i j h1 Rest hi w' X hk hh' => by
    refine ⟨b6, 64 * i, rfl, rfl, ?_, fun hb => ?_⟩
    · have hb : (Res.blk b6 5 (tl.map Sy.v8)).holds w' := hh'.all _ (by simp)
      rw [(hx0 i hi).2]
      intro k v hv
      rw [zdn hb]
      rw [List.map_take, List.map_drop, List.getElem?_take] at hv
      split at hv
      · rw [List.getElem?_drop] at hv; exact hv
      · cases hv
    · have := (List.pairwise_cons.1 hh'.apart).1 (Res.blk b6 5 (tl.map Sy.v8)) (by simp) b6 hb
      exact this rfl
  have h0 : q + 0 < bl.length := by omega
  rcases hS64 with hS1 | hS1
  · subst hS1
    have hq1 : bl.length = q + 1 := by omega
    repeat' (first | refine zg ?_ | refine zf ?_ | refine zw rfl ?_ | refine zt ?_ | refine zE ?_ | refine ze ?_ | refine zj ?_ | (refine za (id := 11) ?_; refine zY ?_) | (refine za (id := 15) ?_; refine zb ?_; refine zb ?_; refine zbp ?_; (refine ys (zce hY h0 hJ (hL := RemL.cons (by exact Rem.there Rem.here) rfl RemL.nil) (harg := fun w' X hk hh' => harg 0 j h0 _ (by decide) w' X hk hh')) (k := ?_); rintro _ _ ⟨y, j', rfl, rfl, hy⟩; cases y); refine zb ?_; refine zp rfl rfl rfl ?_; refine zp rfl rfl rfl ?_; refine zz ?_) | (refine zV ?_; first | refine z6 ?_ | refine zb ?_ | refine zz ?_ | fail) | fail)
    · exact end0 rfl (by exact SubR.go) ⟨j', rfl, .inr ⟨q + 1, by omega, hy⟩⟩
    · exact end0 rfl (by exact SubR.go) ⟨j', rfl, .inl (by rw [hq1]; exact hy)⟩
  · subst hS1
    have hq1 : bl.length = q + 1 + 1 := by omega
    have h1 : q + 1 < bl.length := by omega
    repeat' (first | refine zg ?_ | refine zf ?_ | refine zu rfl ?_ | refine zw rfl ?_ | refine zt ?_ | refine zE ?_ | refine ze ?_ | refine zj ?_ | (refine za (id := 11) ?_; refine zY ?_) | (refine za (id := 15) ?_; refine zb ?_; refine zb ?_; refine zbp ?_; (refine ys (zce hY h0 hJ (hL := RemL.cons (by exact Rem.there Rem.here) rfl RemL.nil) (harg := fun w' X hk hh' => harg 0 j h0 _ (by decide) w' X hk hh')) (k := ?_); rintro _ _ ⟨y, j', rfl, rfl, hy⟩; cases y); refine zb ?_; refine zp rfl rfl rfl ?_; refine zp rfl rfl rfl ?_; refine zz ?_) | (refine za (id := 16) ?_; refine zb ?_; refine zb ?_; refine zb ?_; refine zb ?_; refine zbp ?_) | (refine zV ?_; first | refine z6 ?_ | refine zb ?_ | refine zz ?_ | fail) | fail)
    · exact end0 rfl (by exact SubR.go) ⟨j', rfl, .inr ⟨q + 1, by omega, hy⟩⟩
    · repeat' (first | refine zf ?_ | (refine zV ?_; first | (refine ys (zce hY h1 hy (hL := RemL.cons (by exact Rem.here) rfl RemL.nil) (harg := fun w' X hk hh' => harg 1 j' h1 _ (by decide) w' X hk hh')) (k := ?_); rintro _ _ ⟨y, j'', rfl, rfl, hy2⟩; cases y) | fail) | fail)
      · exact end0 rfl (by exact SubR.go) ⟨j'', rfl, .inr ⟨q + 1 + 1, by omega, hy2⟩⟩
      · exact end0 rfl (by exact SubR.go) ⟨j'', rfl, .inl (by rw [hq1]; exact hy2)⟩
end Go.Proofs.YtjidkoabdmjgkaaGreatDoor
end
