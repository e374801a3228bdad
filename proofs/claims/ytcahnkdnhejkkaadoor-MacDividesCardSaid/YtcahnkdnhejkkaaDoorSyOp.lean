/- The logic of walks: what each operation does. -/
import Derived.Test.YtcahnkdnhejkkaaDoorSyD
import Derived.Great.BuildSlice
import Derived.Laws.Tables
set_option linter.all false
namespace Go.Sy
open Go

section
variable {P : Program} {ro : Option Nat} {N : Nat} {w0 : World} {M : Nat → Prop} {ds : List Deferred} {g : Nat → Option Value} {L : List Res} {o : Oper}

/-- Indices as natural numbers. -/
theorem idx_mul (a j : Nat) : ((OfNat.ofNat a : Nat) : Int) * (j : Int) = ((a * j : Nat) : Int) := (Int.natCast_mul a j).symm
theorem idx_mul1 (a j b : Nat) : ((OfNat.ofNat a : Nat) : Int) * (j : Int) + ((OfNat.ofNat b : Nat) : Int) = ((a * j + b : Nat) : Int) := by rw [Int.natCast_add, Int.natCast_mul]; rfl
theorem idx_add (j b : Nat) : (j : Int) + ((OfNat.ofNat b : Nat) : Int) = ((j + b : Nat) : Int) := rfl
def plainOp : Op → Bool
  | .defer _ => false
  | _ => true
theorem OpT.run {post : Value → List Res → Prop} (hk : plainOp o.op = true) (h : ∀ a w X, St N w0 M ds g (L ++ X) a w → ∃ x v w' L', (execOp a.eval o).run P w = .ok x w' ∧ (x = .value v ∨ (x = .skip ∧ v = undef)) ∧ post v L' ∧ Keep M w0 w' ∧ Holds w0.heap.size M (L' ++ X) w') : OpT P ro N w0 M ds o g L post := by
  intro a w X next Q hs hn
  obtain ⟨x, v, w', L', hr, hx, hp, hkp, hh⟩ := h a w X hs
  refine ⟨fun _ _ => trivial, ?_⟩
  rw [Oper.semAt_plain (FW ro) _ _ (fun c hc => by rw [hc] at hk; cases hk), hr]
  rcases hx with rfl | ⟨rfl, rfl⟩
  · exact hn v w' L' hp hkp hh
  · exact hn undef w' L' hp hkp hh
/-- An operation that only reads. -/
theorem OpT.still {v : Value} (hk : plainOp o.op = true) (h : ∀ a w X, St N w0 M ds g (L ++ X) a w → (execOp a.eval o).run P w = .ok (.value v) w) : OpT P ro N w0 M ds o g L (Det v L) :=
  OpT.run hk fun a w X hs => ⟨_, v, w, L, h a w X hs, .inl rfl, ⟨rfl, rfl⟩, hs.keep, hs.hold⟩
theorem OpT.mono {post post' : Value → List Res → Prop} (h : OpT P ro N w0 M ds o g L post) (hp : ∀ v L', post v L' → post' v L') : OpT P ro N w0 M ds o g L post' :=
  fun a w X next Q hs hn => h a w X next Q hs fun v w' L' hpv => hn v w' L' (hp v L' hpv)

/-! ### What looks at no memory -/
theorem op_move {x : Operand} {v : Value} (ho : o.op = .move x := by exact rfl) (hx : ev g x = some v := by exact rfl) : OpT P ro N w0 M ds o g L (Det v L) :=
  OpT.still (by rw [ho]; rfl) fun a w X hs => by simp only [execOp, ho, hs.agr.eval hx]; rfl
theorem op_assign {x : Operand} {v : Value} (ho : o.op = .assign x := by exact rfl) (hx : ev g x = some v := by exact rfl) : OpT P ro N w0 M ds o g L (Det v L) :=
  OpT.still (by rw [ho]; rfl) fun a w X hs => by simp only [execOp, ho, hs.agr.eval hx]; rfl
theorem op_pick {c x y : Operand} {b : Bool} {v : Value} (ho : o.op = .pick c x y := by exact rfl) (hc : ev g c = some (.bool b) := by exact rfl) (hv : (bif b then ev g x else ev g y) = some v := by exact rfl) : OpT P ro N w0 M ds o g L (Det v L) :=
  OpT.still (by rw [ho]; rfl) fun a w X hs => by
    cases b
    · simp only [cond_false] at hv
      simp [execOp, ho, hs.agr.eval hc, hs.agr.eval hv, asBool]
    · simp only [cond_true] at hv
      simp [execOp, ho, hs.agr.eval hc, hs.agr.eval hv, asBool]
section ints
variable {t t' : TypeId} {x y : Operand} {k : IntKind} {a b c : Int} {r : Bool}
theorem op_add (ho : o.op = .binOp .add t x y t' := by exact rfl) (hx : ev g x = some (.int k a) := by exact rfl) (hy : ev g y = some (.int k b) := by exact rfl) (hr : k.wrap (a + b) = c := by first | exact IntWalk.i64_in _ (by omega) | exact IntWalk.u64_in _ (by omega) | exact IntWalk.u8_in _ (by omega) | exact IntWalk.u32_in _ (by omega) | rfl | fail) : OpT P ro N w0 M ds o g L (Det (.int k c) L) :=
  OpT.still (by rw [ho]; rfl) fun a w X hs => by simp [execOp, ho, hs.agr.eval hx, hs.agr.eval hy, eqGuard, binOp, Op.intArith, hr]
theorem op_sub (ho : o.op = .binOp .sub t x y t' := by exact rfl) (hx : ev g x = some (.int k a) := by exact rfl) (hy : ev g y = some (.int k b) := by exact rfl) (hr : k.wrap (a - b) = c := by first | exact IntWalk.i64_in _ (by omega) | exact IntWalk.u64_in _ (by omega) | exact IntWalk.u8_in _ (by omega) | exact IntWalk.u32_in _ (by omega) | rfl | fail) : OpT P ro N w0 M ds o g L (Det (.int k c) L) :=
  OpT.still (by rw [ho]; rfl) fun a w X hs => by simp [execOp, ho, hs.agr.eval hx, hs.agr.eval hy, eqGuard, binOp, Op.intArith, hr]
theorem op_mul (ho : o.op = .binOp .mul t x y t' := by exact rfl) (hx : ev g x = some (.int k a) := by exact rfl) (hy : ev g y = some (.int k b) := by exact rfl) (hr : k.wrap (a * b) = c := by first | exact IntWalk.i64_in _ (by omega) | exact IntWalk.u64_in _ (by omega) | exact IntWalk.u8_in _ (by omega) | exact IntWalk.u32_in _ (by omega) | rfl | fail) : OpT P ro N w0 M ds o g L (Det (.int k c) L) :=
  OpT.still (by rw [ho]; rfl) fun a w X hs => by simp [execOp, ho, hs.agr.eval hx, hs.agr.eval hy, eqGuard, binOp, Op.intArith, hr]
theorem op_quo (ho : o.op = .binOp .quo t x y t' := by exact rfl) (hx : ev g x = some (.int k a) := by exact rfl) (hy : ev g y = some (.int k b) := by exact rfl) (hb : b ≠ 0 := by first | decide | omega) (hr : k.wrap (a.tdiv b) = c := by first | exact IntWalk.i64_quo _ _ (by omega) | exact IntWalk.u64_quo _ _ (by omega) | rfl) : OpT P ro N w0 M ds o g L (Det (.int k c) L) :=
  OpT.still (by rw [ho]; rfl) fun a w X hs => by simp [execOp, ho, hs.agr.eval hx, hs.agr.eval hy, eqGuard, binOp, Op.intDiv, hr, hb]
theorem op_rem (ho : o.op = .binOp .rem t x y t' := by exact rfl) (hx : ev g x = some (.int k a) := by exact rfl) (hy : ev g y = some (.int k b) := by exact rfl) (hb : b ≠ 0 := by first | decide | omega) (hr : a.tmod b = c := by first | exact IntWalk.rem_in _ _ (by omega) | rfl) : OpT P ro N w0 M ds o g L (Det (.int k c) L) :=
  OpT.still (by rw [ho]; rfl) fun a w X hs => by simp [execOp, ho, hs.agr.eval hx, hs.agr.eval hy, eqGuard, binOp, Op.intDiv, hr, hb]
theorem op_and (ho : o.op = .binOp .and t x y t' := by exact rfl) (hx : ev g x = some (.int k a) := by exact rfl) (hy : ev g y = some (.int k b) := by exact rfl) (hr : bits .and k a b = c := by exact rfl) : OpT P ro N w0 M ds o g L (Det (.int k c) L) :=
  OpT.still (by rw [ho]; rfl) fun a w X hs => by subst hr; simp [execOp, ho, hs.agr.eval hx, hs.agr.eval hy, eqGuard, binOp, Op.intBits, bits]
theorem op_or (ho : o.op = .binOp .or t x y t' := by exact rfl) (hx : ev g x = some (.int k a) := by exact rfl) (hy : ev g y = some (.int k b) := by exact rfl) (hr : bits .or k a b = c := by exact rfl) : OpT P ro N w0 M ds o g L (Det (.int k c) L) :=
  OpT.still (by rw [ho]; rfl) fun a w X hs => by subst hr; simp [execOp, ho, hs.agr.eval hx, hs.agr.eval hy, eqGuard, binOp, Op.intBits, bits]
theorem op_xor (ho : o.op = .binOp .xor t x y t' := by exact rfl) (hx : ev g x = some (.int k a) := by exact rfl) (hy : ev g y = some (.int k b) := by exact rfl) (hr : bits .xor k a b = c := by exact rfl) : OpT P ro N w0 M ds o g L (Det (.int k c) L) :=
  OpT.still (by rw [ho]; rfl) fun a w X hs => by subst hr; simp [execOp, ho, hs.agr.eval hx, hs.agr.eval hy, eqGuard, binOp, Op.intBits, bits]
theorem op_andNot (ho : o.op = .binOp .andNot t x y t' := by exact rfl) (hx : ev g x = some (.int k a) := by exact rfl) (hy : ev g y = some (.int k b) := by exact rfl) (hr : bits .andNot k a b = c := by exact rfl) : OpT P ro N w0 M ds o g L (Det (.int k c) L) :=
  OpT.still (by rw [ho]; rfl) fun a w X hs => by subst hr; simp [execOp, ho, hs.agr.eval hx, hs.agr.eval hy, eqGuard, binOp, Op.intBits, bits]
theorem op_shl {k' : IntKind} (ho : o.op = .binOp .shl t x y t' := by exact rfl) (hx : ev g x = some (.int k a) := by exact rfl) (hy : ev g y = some (.int k' b) := by exact rfl) (hr : Op.shift .shl k a k' b = pure (.int k c)) : OpT P ro N w0 M ds o g L (Det (.int k c) L) :=
  OpT.still (by rw [ho]; rfl) fun a w X hs => by simp [execOp, ho, hs.agr.eval hx, hs.agr.eval hy, eqGuard, binOp, hr]
theorem op_shr {k' : IntKind} (ho : o.op = .binOp .shr t x y t' := by exact rfl) (hx : ev g x = some (.int k a) := by exact rfl) (hy : ev g y = some (.int k' b) := by exact rfl) (hr : Op.shift .shr k a k' b = pure (.int k c)) : OpT P ro N w0 M ds o g L (Det (.int k c) L) :=
  OpT.still (by rw [ho]; rfl) fun a w X hs => by simp [execOp, ho, hs.agr.eval hx, hs.agr.eval hy, eqGuard, binOp, hr]
theorem op_lss (ho : o.op = .binOp .lss t x y t' := by exact rfl) (hx : ev g x = some (.int k a) := by exact rfl) (hy : ev g y = some (.int k b) := by exact rfl) (hr : decide (a < b) = r := by first | exact decide_eq_true (by omega) | exact decide_eq_false (by omega) | rfl | fail) : OpT P ro N w0 M ds o g L (Det (.bool r) L) :=
  OpT.still (by rw [ho]; rfl) fun a w X hs => by simp [execOp, ho, hs.agr.eval hx, hs.agr.eval hy, eqGuard, binOp, Op.intCmp, hr]
theorem op_leq (ho : o.op = .binOp .leq t x y t' := by exact rfl) (hx : ev g x = some (.int k a) := by exact rfl) (hy : ev g y = some (.int k b) := by exact rfl) (hr : decide (a ≤ b) = r := by first | exact decide_eq_true (by omega) | exact decide_eq_false (by omega) | rfl | fail) : OpT P ro N w0 M ds o g L (Det (.bool r) L) :=
  OpT.still (by rw [ho]; rfl) fun a w X hs => by simp [execOp, ho, hs.agr.eval hx, hs.agr.eval hy, eqGuard, binOp, Op.intCmp, hr]
theorem op_gtr (ho : o.op = .binOp .gtr t x y t' := by exact rfl) (hx : ev g x = some (.int k a) := by exact rfl) (hy : ev g y = some (.int k b) := by exact rfl) (hr : decide (b < a) = r := by first | exact decide_eq_true (by omega) | exact decide_eq_false (by omega) | rfl | fail) : OpT P ro N w0 M ds o g L (Det (.bool r) L) :=
  OpT.still (by rw [ho]; rfl) fun a w X hs => by simp [execOp, ho, hs.agr.eval hx, hs.agr.eval hy, eqGuard, binOp, Op.intCmp, hr]
theorem op_geq (ho : o.op = .binOp .geq t x y t' := by exact rfl) (hx : ev g x = some (.int k a) := by exact rfl) (hy : ev g y = some (.int k b) := by exact rfl) (hr : decide (b ≤ a) = r := by first | exact decide_eq_true (by omega) | exact decide_eq_false (by omega) | rfl | fail) : OpT P ro N w0 M ds o g L (Det (.bool r) L) :=
  OpT.still (by rw [ho]; rfl) fun a w X hs => by simp [execOp, ho, hs.agr.eval hx, hs.agr.eval hy, eqGuard, binOp, Op.intCmp, hr]
theorem op_eql (ho : o.op = .binOp .eql t x y t' := by exact rfl) (hx : ev g x = some (.int k a) := by exact rfl) (hy : ev g y = some (.int k b) := by exact rfl) (hr : decide (a = b) = r := by first | exact decide_eq_true (by omega) | exact decide_eq_false (by omega) | rfl | fail) : OpT P ro N w0 M ds o g L (Det (.bool r) L) :=
  OpT.still (by rw [ho]; rfl) fun a' w X hs => by
    have : (a == b) = r := by rw [← hr]; rfl
    simp [execOp, ho, hs.agr.eval hx, hs.agr.eval hy, eqGuard, binOp, Op.intCmp, this]
theorem op_neq (ho : o.op = .binOp .neq t x y t' := by exact rfl) (hx : ev g x = some (.int k a) := by exact rfl) (hy : ev g y = some (.int k b) := by exact rfl) (hr : decide (a ≠ b) = r := by first | exact decide_eq_true (by omega) | exact decide_eq_false (by omega) | rfl | fail) : OpT P ro N w0 M ds o g L (Det (.bool r) L) :=
  OpT.still (by rw [ho]; rfl) fun a' w X hs => by
    have : (a != b) = r := by rw [← hr]; by_cases h : a = b <;> simp [h]
    simp [execOp, ho, hs.agr.eval hx, hs.agr.eval hy, eqGuard, binOp, Op.intCmp, this]
theorem op_conv {d : TypeDesc} (ho : o.op = .convert t t' x := by exact rfl) (hx : ev g x = some (.int k a) := by exact rfl) (hs' : P.underlying t = some d := by exact tyU rfl) {k' : IntKind} (hd : P.underlying t' = some (.int k') := by exact tyI rfl rfl) (hr : k'.wrap a = c := by first | exact IntWalk.i64_in _ (by omega) | exact IntWalk.u64_in _ (by omega) | exact IntWalk.u8_in _ (by omega) | exact IntWalk.u32_in _ (by omega) | rfl | fail) : OpT P ro N w0 M ds o g L (Det (.int k' c) L) :=
  OpT.still (by rw [ho]; rfl) fun a' w X hs => by
    simp [execOp, ho, hs.agr.eval hx, convert, run_underlying hs', run_underlying hd, Conv.intToInt, hr]
theorem op_neg (ho : o.op = .unOp .neg t x := by exact rfl) (hx : ev g x = some (.int k a) := by exact rfl) (hr : k.wrap (0 - a) = c := by first | exact IntWalk.i64_in _ (by omega) | exact IntWalk.u64_in _ (by omega) | exact IntWalk.u8_in _ (by omega) | exact IntWalk.u32_in _ (by omega) | rfl | fail) : OpT P ro N w0 M ds o g L (Det (.int k c) L) :=
  OpT.still (by rw [ho]; rfl) fun a w X hs => by simp only [Int.zero_sub] at hr; simp [execOp, ho, hs.agr.eval hx, Op.unary, Op.intArith, hr]
theorem op_compl (ho : o.op = .unOp .xor t x := by exact rfl) (hx : ev g x = some (.int k a) := by exact rfl) (hr : bits .xor k (if k.signed then -1 else k.max) a = c := by exact rfl) : OpT P ro N w0 M ds o g L (Det (.int k c) L) :=
  OpT.still (by rw [ho]; rfl) fun a w X hs => by subst hr; simp [execOp, ho, hs.agr.eval hx, Op.unary, Op.intBits, bits]
theorem op_not (ho : o.op = .unOp .not t x := by exact rfl) (hx : ev g x = some (.bool r) := by exact rfl) : OpT P ro N w0 M ds o g L (Det (.bool (!r)) L) :=
  OpT.still (by rw [ho]; rfl) fun a w X hs => by simp [execOp, ho, hs.agr.eval hx, Op.unary]
end ints
end
end Go.Sy
