/- Operations on numbers of sixteen words, for the logic of walks. -/
import Derived.Test.YtjidkoabdmjgkaaGreatDoorXJ07
import Derived.Test.YtjidkoabdmjgkaaGreatDoorXJ06
import Derived.Laws.StructEq
import Derived.Laws.Bits64b
import Derived.Lib.Mul64
set_option linter.all false
section
namespace Go.Nt
open Go Go.Sy
def nv (d : Nat) : Value := .int .u64 (d : Int)
def iv (d : Nat) : Value := .int .i64 (d : Int)
def natC (x : Nat) : List Value := (dg 18446744073709551616 16 x).map nv
def natV (x : Nat) : Value := .agg (natC x).toArray
def refC (x : Nat) : List Value := (cd 65536 x).map iv
theorem zg (x : Nat) : (natC x).length = 16 := by unfold natC; rw [List.length_map, za9]
theorem zay (x i : Nat) (h : i < 16) : (natC x)[i]? = some (nv (x / 18446744073709551616 ^ i % 18446744073709551616)) := by
  unfold natC; rw [List.getElem?_map, zcs _ _ _ _ h]; rfl
theorem zcA (x : Nat) : (natC x).all (·.oneCell') = true := by
  unfold natC
  rw [List.all_eq_true]
  intro v hv
  obtain ⟨d, -, rfl⟩ := List.mem_map.1 hv
  rfl
theorem zmR (l : List Nat) : (l.map nv).all (·.oneCell') = true := by
  rw [List.all_eq_true]
  intro v hv
  obtain ⟨d, -, rfl⟩ := List.mem_map.1 hv
  rfl
theorem zm1 (l : List Nat) : (l.map iv).all (·.oneCell') = true := by
  rw [List.all_eq_true]
  intro v hv
  obtain ⟨d, -, rfl⟩ := List.mem_map.1 hv
  rfl
theorem zca (x j e : Nat) (h : x / 18446744073709551616 ^ j % 18446744073709551616 + e < 18446744073709551616) : (natC x).set j (nv (x / 18446744073709551616 ^ j % 18446744073709551616 + e)) = natC (x + e * 18446744073709551616 ^ j) := by
  unfold natC; rw [← List.map_set, zd2 _ _ _ _ _ h]
theorem zec : ∀ (xs ys : List Nat), xs.length = ys.length → ((List.range xs.length).all fun i => xs.getD i 0 == ys.getD i 0) = (xs == ys)
  | [], [], _ => rfl
  | x :: xs, y :: ys, h => by
    have ih := zec xs ys (by simpa using h)
    rw [List.length_cons, List.range_succ_eq_map, List.all_cons, List.all_map]
    simp only [List.getD_cons_zero, Function.comp_def, List.getD_cons_succ, ih]
    simp [List.cons_beq_cons]
  | [], _ :: _, h => by simp at h
  | _ :: _, [], h => by simp at h
section
variable {P : Program} (w : World)
theorem zeV (d : Nat) (t e : TypeId) (n : Nat) (ht : P.underlying t = some (.array n e)) (he : P.underlying e = some (.int .u64)) (hsz : ∀ w, (sizeOf e).run P w = .ok 1 w)
    (xs ys : List Nat) (hx : xs.length = n) (hy : ys.length = n) :
    (Op.equalIn (d + 2) t (.agg (xs.map nv).toArray) (.agg (ys.map nv).toArray)).run P w = .ok (xs == ys) w := by
  rw [← zec xs ys (hx.trans hy.symm), hx, List.range_eq_range', Op.equalIn]
  simp only [Sem.run_bind, run_underlying ht, Result.andThen_ok, hsz, Std.Legacy.Range.forIn_eq_forIn_range', Std.Legacy.Range.size, Nat.sub_zero, Nat.add_sub_cancel, Nat.div_one]
  have hl : ∀ i ∈ List.range' 0 n 1, i < n := fun i hi => by simpa using (List.mem_range'_1.1 hi).2
  generalize List.range' 0 n 1 = l at hl ⊢
  induction l with
  | nil => simp
  | cons i l ih =>
    have hi : i < n := hl i (by simp)
    have px : (part e (xs.map nv).toArray (i * 1)).run P w = .ok (nv (xs.getD i 0)) w := by
      simp [part, isAgg, run_underlying he, List.getD, List.getElem?_eq_getElem (show i < xs.length by omega)]
    have py : (part e (ys.map nv).toArray (i * 1)).run P w = .ok (nv (ys.getD i 0)) w := by
      simp [part, isAgg, run_underlying he, List.getD, List.getElem?_eq_getElem (show i < ys.length by omega)]
    have pe : (Op.equalIn (d + 1) e (nv (xs.getD i 0)) (nv (ys.getD i 0))).run P w = .ok (xs.getD i 0 == ys.getD i 0) w := by
      rw [nv, nv, run_equalIn_int w d e .u64 .u64 _ _ he]
      congr 1
      rw [Bool.eq_iff_iff]
      simp
      omega
    simp only [List.forIn_cons, Sem.run_bind, px, py, pe, Result.andThen_ok, List.all_cons]
    cases hb : (xs.getD i 0 == ys.getD i 0)
    · simp
    · simp only [Bool.not_true, Bool.false_eq_true, if_false, Sem.run_pure, Result.andThen_ok, Bool.true_and]
      exact ih fun j hj => hl j (by simp [hj])
structure NatTy (P : Program) (t td e n : Nat) : Prop where
  und : P.underlying t = some (.struct (P.fieldsOf t))
  stood : P.stoodInHeld t = false
  flds : (P.fieldsOf t).toList.map (fun f => (f.name == "_", f.type, f.offset)) = [(false, td, 0)]
  arr : ∃ y, tyOf P td = some y ∧ y.desc = .array n e ∧ y.size = n
  elem : ∃ y, tyOf P e = some y ∧ y.desc = .int .u64 ∧ y.size = 1
  guard : P.eqGuardType P.depth t = false
theorem zgK {t td e n : Nat} (H : NatTy P t td e n) (xs ys : List Nat) (hx : xs.length = n) (hy : ys.length = n) :
    (Op.equal t (.agg (xs.map nv).toArray) (.agg (ys.map nv).toArray)).run P w = .ok (xs == ys) w := by
  obtain ⟨y, hyt, hyd, hys⟩ := H.arr
  obtain ⟨ye, het, hed, hes⟩ := H.elem
  obtain ⟨d, i', hd, hi', hs', _⟩ := zO hyt
  rw [hyd] at hs'
  have := zbz hs'; subst this
  obtain ⟨de, _, hde, _, hse, _⟩ := zO het
  rw [hed] at hse
  have := zdE hse; subst this
  have hmain := zeV (P := P) w 9997 td e n hd hde (fun w => by rw [zaI het, hes]) xs ys hx hy
  have hpart : ∀ (l : List Nat), l.length = n → (part td (l.map nv).toArray 0).run P w = .ok (.agg (l.map nv).toArray) w := fun l hl => by
    have hsz : (sizeOf td).run P w = .ok n w := by rw [zaI hyt, hys]
    simp only [part, isAgg, Sem.run_bind, run_underlying hd, Result.andThen_ok, Sem.run_pure, if_true, hsz, Nat.zero_add]
    congr 2
    apply Array.toList_inj.1
    rw [Array.toList_extract]
    exact List.take_of_length_le (by simp [hl])
  show (Op.equalIn (9998 + 1 + 1) t _ _).run P w = _
  rw [run_equalIn_struct w (9998 + 1) t _ _ H.und H.stood]
  have hfl := H.flds
  cases hl : (P.fieldsOf t).toList with
  | nil => rw [hl] at hfl; cases hfl
  | cons f fs =>
    rw [hl] at hfl
    simp only [List.map_cons, List.cons.injEq, Prod.mk.injEq, List.map_eq_nil_iff] at hfl
    obtain ⟨⟨h1, h2, h3⟩, rfl⟩ := hfl
    have h1' : f.name ≠ "_" := by simpa using h1
    simp only [Op.eqFields, h1', ne_eq, not_false_eq_true, if_true, Sem.run_bind, h2, h3, hpart xs hx, hpart ys hy, Result.andThen_ok]
    rw [hmain]
    simp only [Result.andThen_ok]
    cases xs == ys <;> simp
end
section
variable {P : Program} {ro : Option Nat} {N : Nat} {w0 : World} {M : Nat → Prop} {ds : List Deferred} {g : Nat → Option Value} {L : List Res} {o : Oper} {t t' : TypeId} {x z : Operand}
theorem zmm (a b : Nat) (ha : a < 18446744073709551616 ^ 16) (hb : b < 18446744073709551616 ^ 16) : (dg 18446744073709551616 16 a == dg 18446744073709551616 16 b) = decide (a = b) := by
  by_cases h : a = b
  · subst h; simp
  · have : dg 18446744073709551616 16 a ≠ dg 18446744073709551616 16 b := fun e => h (zmS _ _ _ _ ha hb e)
    simp [h, this]
theorem zhh {td e : Nat} {a b : Nat} {r : Bool} (H : NatTy P t td e 16) (ha : a < 18446744073709551616 ^ 16) (hb : b < 18446744073709551616 ^ 16) (hr : decide (a = b) = r) (ho : o.op = .binOp .eql t x z t' := by exact rfl) (hx : ev g x = some (natV a) := by exact rfl) (hz : ev g z = some (natV b) := by exact rfl) : OpT P ro N w0 M ds o g L (Det (.bool r) L) :=
  OpT.still (by rw [ho]; rfl) fun ac w X hs => by
    have he : (Op.equal t (natV a) (natV b)).run P w = .ok r w := by
      have := zgK w H (dg 18446744073709551616 16 a) (dg 18446744073709551616 16 b) (za9 _ _ _) (za9 _ _ _)
      rw [zmm a b ha hb, hr] at this
      exact this
    have hg := H.guard
    simp [execOp, ho, hs.agr.eval hx, hs.agr.eval hz, eqGuard, binOp, hg]
    unfold natV at he ⊢
    simp [he, hg]
theorem zi6 {n e : Nat} {y ye : Ty} {parts : Array (Nat × Operand)} {vs Z C : List Value} (he : tyOf P e = some ye) (hf : FillTo (fun i => some (i * ye.size, ye.size)) (List.zip (parts.toList.map (·.1)) vs) Z C) (ho : o.op = .build t parts := by exact rfl) (hv : evs g (parts.toList.map (·.2)) = some vs := by exact rfl) (ht : tyOf P t = some y := by exact ty rfl) (hy : y.desc = .array n e := by exact rfl)
    (hz : zeroC P t = some Z := by exact zc rfl) : OpT P ro N w0 M ds o g L (Det (.agg C.toArray) L) := by
  refine zfl ho hv ?_
  obtain ⟨d, i, hd, hi, hs, _⟩ := zO ht
  rw [hy] at hs
  have := zbz hs; subst this
  obtain ⟨de, ie, hde, hie, _, hez, _⟩ := zO he
  unfold zeroC at hz
  rw [hi] at hz
  simp only [Option.bind_some, Option.map_eq_some_iff] at hz
  obtain ⟨zv, hzv, hze⟩ := hz
  simp only [Program.built, hi, hd, hzv, hie, hez]
  have := zf6 hf
  rw [show zv.cells = Z.toArray by rw [← hze]]
  rw [this]
end
end Go.Nt
namespace Go.Nt
open Go Go.Sy
theorem shrN (a n : Nat) (k : IntKind) (h : n < 64) : Op.shift .shr .u64 (a : Int) k (n : Int) = pure (.int .u64 ((a / 2 ^ n : Nat) : Int)) := by
  have h1 : ¬ ((n : Int) < 0) := by omega
  have h2 : ¬ 64 ≤ n := by omega
  simp [Op.shift, h1, h2, IntKind.bits]
theorem shlN (a n : Nat) (k : IntKind) (h : n < 64) : Op.shift .shl .u64 (a : Int) k (n : Int) = pure (.int .u64 ((a * 2 ^ n % 18446744073709551616 : Nat) : Int)) := by
  have h1 : ¬ ((n : Int) < 0) := by omega
  have h2 : ¬ 64 ≤ n := by omega
  simp [Op.shift, h1, h2, IntKind.bits]
  rw [Wd.wrap_u64]
theorem shrN64 (a n : Nat) (k : IntKind) (ha : a < 18446744073709551616) : Op.shift .shr .u64 (a : Int) k (n : Int) = pure (.int .u64 ((a / 2 ^ n : Nat) : Int)) := by
  rcases Nat.lt_or_ge n 64 with h | h
  · exact shrN a n k h
  · have h1 : ¬ ((n : Int) < 0) := by omega
    have h2 : a / 2 ^ n = 0 := Nat.div_eq_of_lt (Nat.lt_of_lt_of_le (show a < 2 ^ 64 from ha) (Nat.pow_le_pow_right (by decide) h))
    have h3 : ¬ ((a : Int) < 0) := by omega
    simp [Op.shift, h1, h, h2, h3, IntKind.bits]
    rw [Int.fdiv_eq_ediv_of_nonneg _ (by decide), show ((a : Int) / 18446744073709551616) = 0 by omega]
theorem shlN64 (a n : Nat) (k : IntKind) : Op.shift .shl .u64 (a : Int) k (n : Int) = pure (.int .u64 ((a * 2 ^ n % 18446744073709551616 : Nat) : Int)) := by
  rcases Nat.lt_or_ge n 64 with h | h
  · exact shlN a n k h
  · have h1 : ¬ ((n : Int) < 0) := by omega
    have h2 : a * 2 ^ n % 18446744073709551616 = 0 := by
      rw [show n = 64 + (n - 64) by omega, Nat.pow_add, Nat.mul_left_comm]
      exact Nat.mul_mod_right _ _
    rw [h2]
    simp [Op.shift, h1, h, IntKind.bits]
    rw [Wd.wrap_u64, Int.mul_emod_left]
theorem zjg (r k : Nat) (hk : k < 64) (hr : r < 2 ^ k) : bits .andNot .u64 ((2 ^ k + r : Nat) : Int) ((2 ^ k : Nat) : Int) = (r : Int) := by
  have hp : 2 ^ k ≤ 2 ^ 63 := Nat.pow_le_pow_right (by decide) (by omega)
  have hq : 2 ^ k + r < 2 ^ 64 := by omega
  have h1 : (BitVec.ofInt 64 ((2 ^ k + r : Nat) : Int)).toNat = 2 ^ k + r := by
    rw [BitVec.ofInt_natCast, BitVec.toNat_ofNat]; exact Nat.mod_eq_of_lt hq
  have h2 : (BitVec.ofInt 64 ((2 ^ k : Nat) : Int)).toNat = 2 ^ k := by
    rw [BitVec.ofInt_natCast, BitVec.toNat_ofNat]; exact Nat.mod_eq_of_lt (by omega)
  show IntKind.u64.wrap ((BitVec.ofInt 64 ((2 ^ k + r : Nat) : Int) &&& ~~~ BitVec.ofInt 64 ((2 ^ k : Nat) : Int)).toNat : Int) = _
  have h3 : (2 ^ k + r) &&& (2 ^ 64 - 1 - 2 ^ k) = r := by
    apply Nat.eq_of_testBit_eq
    intro j
    rw [Nat.testBit_and, show 2 ^ 64 - 1 - 2 ^ k = 2 ^ 64 - (2 ^ k + 1) by omega, Nat.testBit_two_pow_sub_succ (by omega), Nat.testBit_two_pow]
    have h4 : 2 ^ k + r = 2 ^ k ||| r := by
      have := Nat.two_pow_add_eq_or_of_lt hr 1
      rw [Nat.mul_one] at this; exact this
    rw [h4, Nat.testBit_or, Nat.testBit_two_pow]
    by_cases hj : k = j
    · subst hj
      rw [Nat.testBit_lt_two_pow hr]; simp
    · by_cases h6 : j < 64
      · simp [hj, h6]
      · rw [Nat.testBit_lt_two_pow (Nat.lt_of_lt_of_le (show r < 2 ^ 64 by omega) (Nat.pow_le_pow_right (by decide) (by omega)))]; simp [hj]
  rw [BitVec.toNat_and, BitVec.toNat_not, h1, h2, h3, IntKind.wrap_u64]
  omega
section
variable {P : Program} {ro : Option Nat} {N : Nat} {w0 : World} {M : Nat → Prop} {ds : List Deferred} {g : Nat → Option Value} {L : List Res} {o : Oper} {t t' : TypeId} {x z : Operand}
theorem zfo {a : Nat} (s : Nat) (hs : s ≤ 64) (ha : a < 18446744073709551616) (ho : o.op = .binOp .and t x z t' := by exact rfl) (hx : ev g x = some (nv a) := by exact rfl) (hz : ev g z = some (nv (2 ^ s - 1)) := by exact rfl) : OpT P ro N w0 M ds o g L (Det (nv (a % 2 ^ s)) L) :=
  zhM ho hx hz (by
    have : 2 ^ s ≤ 2 ^ 64 := Nat.pow_le_pow_right (by decide) hs
    rw [bits_and_u64_nat _ _ ha (by omega), Nat.and_two_pow_sub_one_eq_mod])
theorem zce {a : Nat} (n : Nat) {k' : IntKind} (hn : n < 64) (ho : o.op = .binOp .shr t x z t' := by exact rfl) (hx : ev g x = some (nv a) := by exact rfl) (hz : ev g z = some (.int k' (n : Int)) := by exact rfl) : OpT P ro N w0 M ds o g L (Det (nv (a / 2 ^ n)) L) :=
  zbD ho hx hz (shrN a n k' hn)
theorem zdB {a b : Nat} (ho : o.op = .binOp .mul t x z t' := by exact rfl) (hx : ev g x = some (nv a) := by exact rfl) (hz : ev g z = some (nv b) := by exact rfl) : OpT P ro N w0 M ds o g L (Det (nv (a * b % 18446744073709551616)) L) :=
  zab ho hx hz (by rw [show ((a : Nat) : Int) * ((b : Nat) : Int) = ((a * b : Nat) : Int) by simp, Wd.wrap_u64_nat])
theorem zci {a b : Nat} (ho : o.op = .binOp .add t x z t' := by exact rfl) (hx : ev g x = some (nv a) := by exact rfl) (hz : ev g z = some (nv b) := by exact rfl) : OpT P ro N w0 M ds o g L (Det (nv ((a + b) % 18446744073709551616)) L) :=
  zK ho hx hz (by rw [show ((a : Nat) : Int) + ((b : Nat) : Int) = ((a + b : Nat) : Int) by simp, Wd.wrap_u64_nat])
theorem zdf {a n : Nat} {k' : IntKind} (ha : a < 18446744073709551616) (ho : o.op = .binOp .shr t x z t' := by exact rfl) (hx : ev g x = some (nv a) := by exact rfl) (hz : ev g z = some (.int k' (n : Int)) := by exact rfl) : OpT P ro N w0 M ds o g L (Det (nv (a / 2 ^ n)) L) :=
  zbD ho hx hz (shrN64 a n k' ha)
theorem zdj {a n : Nat} {k' : IntKind} (ho : o.op = .binOp .shl t x z t' := by exact rfl) (hx : ev g x = some (nv a) := by exact rfl) (hz : ev g z = some (.int k' (n : Int)) := by exact rfl) : OpT P ro N w0 M ds o g L (Det (nv (a * 2 ^ n % 18446744073709551616)) L) :=
  zdv ho hx hz (shlN64 a n k')
theorem ziR {n : Nat} {k' : IntKind} (hn : n < 64) (ho : o.op = .binOp .shl t x z t' := by exact rfl) (hx : ev g x = some (nv 1) := by exact rfl) (hz : ev g z = some (.int k' (n : Int)) := by exact rfl) : OpT P ro N w0 M ds o g L (Det (nv (2 ^ n)) L) :=
  zdv ho hx hz (by
    have h : 2 ^ n ≤ 2 ^ 63 := Nat.pow_le_pow_right (by decide) (by omega)
    rw [shlN64 1 n k', Nat.one_mul, Nat.mod_eq_of_lt (show 2 ^ n < 18446744073709551616 by omega)])
theorem zem {a b : Nat} (ha : a < 18446744073709551616) (hb : b < 18446744073709551616) (ho : o.op = .binOp .or t x z t' := by exact rfl) (hx : ev g x = some (nv a) := by exact rfl) (hz : ev g z = some (nv b) := by exact rfl) : OpT P ro N w0 M ds o g L (Det (nv (a ||| b)) L) :=
  zlI ho hx hz (bits_or_u64_nat a b ha hb)
theorem zmt {a b : Nat} (hb : 0 < b := by omega) (ha : a < 18446744073709551616 := by omega) (ho : o.op = .binOp .quo t x z t' := by exact rfl) (hx : ev g x = some (nv a) := by exact rfl) (hz : ev g z = some (nv b) := by exact rfl) : OpT P ro N w0 M ds o g L (Det (nv (a / b)) L) :=
  zaN ho hx hz (by omega) (by
    have := Nat.div_le_self a b
    rw [Int.tdiv_eq_ediv_of_nonneg (by omega), show ((a : Int) / (b : Int)) = ((a / b : Nat) : Int) from rfl]
    generalize a / b = q at *
    exact IntWalk.u64_in _ (by omega))
theorem zmA {a b : Nat} (hb : 0 < b := by omega) (ho : o.op = .binOp .rem t x z t' := by exact rfl) (hx : ev g x = some (nv a) := by exact rfl) (hz : ev g z = some (nv b) := by exact rfl) : OpT P ro N w0 M ds o g L (Det (nv (a % b)) L) :=
  za2 ho hx hz (by omega) (by rw [Int.tmod_eq_emod_of_nonneg (by omega)]; rfl)
theorem zjo {r k : Nat} (hk : k < 64) (hr : r < 2 ^ k) (ho : o.op = .binOp .andNot t x z t' := by exact rfl) (hx : ev g x = some (nv (2 ^ k + r)) := by exact rfl) (hz : ev g z = some (nv (2 ^ k)) := by exact rfl) : OpT P ro N w0 M ds o g L (Det (nv r) L) :=
  zj6 ho hx hz (zjg r k hk hr)
end
end Go.Nt
namespace Go.Sy
open Go
section
variable {P : Program} {ro : Option Nat} {N : Nat} {w0 : World} {M : Nat → Prop} {ds : List Deferred} {g : Nat → Option Value} {L : List Res} {o : Oper}
theorem zk4 {t n b off k c e : Nat} {x : Operand} {y : Ty} (ho : o.op = .sliceToArrayPointer t x := by exact rfl) (hx : ev g x = some (.slice (some ⟨b, off, none⟩) k c) := by exact rfl) (hk : n ≤ k := by decide) (hn : n ≠ 0 := by decide) (ht : tyOf P t = some y := by exact ty rfl) (hy : y.desc = .array n e := by exact rfl) : OpT P ro N w0 M ds o g L (Det (.pointer (some ⟨b, off, none⟩)) L) :=
  OpT.still (by rw [ho]; rfl) fun a w X hs => by
    obtain ⟨d, i, hd, hi, hs', _⟩ := zO ht
    rw [hy] at hs'
    have := zbz hs'; subst this
    have h2 : ¬ k < n := by omega
    simp [execOp, ho, hs.agr.eval hx, Instr.arrayAt, run_underlying hd, h2, hn]
end
end Go.Sy
end
