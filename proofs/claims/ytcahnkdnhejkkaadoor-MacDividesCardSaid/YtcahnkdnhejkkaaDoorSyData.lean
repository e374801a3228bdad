/- The logic of walks: comparisons, strings, literals, make, append, copy. -/
import Derived.Test.YtcahnkdnhejkkaaDoorSyCall
import Derived.Laws.IdiomCopy
import Derived.Laws.AppendOwn
import Derived.Laws.OwnMore
import Derived.Laws.BytesString
set_option linter.all false
namespace Go.Sy
open Go

section
variable {P : Program} {ro : Option Nat} {N : Nat} {w0 : World} {M : Nat → Prop} {ds : List Deferred} {g : Nat → Option Value} {L : List Res} {o : Oper}
variable {t t' : TypeId} {x z : Operand} {y : Ty}

/-! ### Comparisons -/
theorem eq_run {w : World} {u v : Value} {b : Bool} (h : ∀ d, (Op.equalIn (d + 1) t u v).run P w = .ok b w) : (Op.equal t u v).run P w = .ok b w := h 9999
theorem op_eqNil {e : Nat} {a0 : Option Addr} (ho : o.op = .binOp .eql t x z t' := by exact rfl) (hx : ev g x = some (.pointer a0) := by exact rfl) (hz : ev g z = some (.pointer none) := by exact rfl) (ht : tyOf P t = some y := by exact ty rfl) (hy : y.desc = .pointer e := by exact rfl) : OpT P ro N w0 M ds o g L (Det (.bool a0.isNone) L) :=
  OpT.still (by rw [ho]; rfl) fun a w X hs => by
    obtain ⟨d, i', hd, hi', hs', _⟩ := tyOf_spec ht
    rw [hy] at hs'
    have := slim_pointer hs'; subst this
    have he : (Op.equal t (.pointer a0) (.pointer none)).run P w = .ok a0.isNone w := eq_run fun d => by cases a0 <;> simp [Op.equalIn, run_underlying hd]
    simp [execOp, ho, hs.agr.eval hx, hs.agr.eval hz, eqGuard, binOp, he]
theorem op_neNil {e : Nat} {a0 : Option Addr} (ho : o.op = .binOp .neq t x z t' := by exact rfl) (hx : ev g x = some (.pointer a0) := by exact rfl) (hz : ev g z = some (.pointer none) := by exact rfl) (ht : tyOf P t = some y := by exact ty rfl) (hy : y.desc = .pointer e := by exact rfl) : OpT P ro N w0 M ds o g L (Det (.bool a0.isSome) L) :=
  OpT.still (by rw [ho]; rfl) fun a w X hs => by
    obtain ⟨d, i', hd, hi', hs', _⟩ := tyOf_spec ht
    rw [hy] at hs'
    have := slim_pointer hs'; subst this
    have he : (Op.equal t (.pointer a0) (.pointer none)).run P w = .ok a0.isNone w := eq_run fun d => by cases a0 <;> simp [Op.equalIn, run_underlying hd]
    simp [execOp, ho, hs.agr.eval hx, hs.agr.eval hz, eqGuard, binOp, he]
theorem op_eqNilS {e n c n' c' : Nat} {a0 : Option Addr} (ho : o.op = .binOp .eql t x z t' := by exact rfl) (hx : ev g x = some (.slice a0 n c) := by exact rfl) (hz : ev g z = some (.slice none n' c') := by exact rfl) (ht : tyOf P t = some y := by exact ty rfl) (hy : y.desc = .slice e := by exact rfl) : OpT P ro N w0 M ds o g L (Det (.bool a0.isNone) L) :=
  OpT.still (by rw [ho]; rfl) fun a w X hs => by
    obtain ⟨d, i', hd, hi', hs', _⟩ := tyOf_spec ht
    rw [hy] at hs'
    have := slim_slice hs'; subst this
    have he : (Op.equal t (.slice a0 n c) (.slice none n' c')).run P w = .ok a0.isNone w := eq_run fun d => by cases a0 <;> simp [Op.equalIn, run_underlying hd]
    simp [execOp, ho, hs.agr.eval hx, hs.agr.eval hz, eqGuard, binOp, he]
theorem slim_func {d : TypeDesc} (h : slim d = .func #[] #[] false) : ∃ a b c, d = .func a b c := by cases d <;> simp_all [slim]
theorem op_eqNilF {f : Go.Fn} {u v : Array Value} (ho : o.op = .binOp .eql t x z t' := by exact rfl) (hx : ev g x = some (.func f u v) := by exact rfl) (hz : ev g z = some .nilFunc := by exact rfl) (ht : tyOf P t = some y := by exact ty rfl) (hy : y.desc = .func #[] #[] false := by exact rfl) : OpT P ro N w0 M ds o g L (Det (.bool false) L) :=
  OpT.still (by rw [ho]; rfl) fun a w X hs => by
    obtain ⟨d, i', hd, hi', hs', _⟩ := tyOf_spec ht
    rw [hy] at hs'
    obtain ⟨_, _, _, rfl⟩ := slim_func hs'
    have he : (Op.equal t (.func f u v) .nilFunc).run P w = .ok false w := eq_run fun d => by simp [Op.equalIn, run_underlying hd]
    simp [execOp, ho, hs.agr.eval hx, hs.agr.eval hz, eqGuard, binOp, he]
theorem op_eqB {a b r : Bool} (ho : o.op = .binOp .eql t x z t' := by exact rfl) (hx : ev g x = some (.bool a) := by exact rfl) (hz : ev g z = some (.bool b) := by exact rfl) (ht : tyOf P t = some y := by exact ty rfl) (hy : y.desc = .bool := by exact rfl) (hr : (a == b) = r := by exact rfl) : OpT P ro N w0 M ds o g L (Det (.bool r) L) :=
  OpT.still (by rw [ho]; rfl) fun _ w X hs => by
    obtain ⟨d, i', hd, hi', hs', _⟩ := tyOf_spec ht
    rw [hy] at hs'
    have := slim_bool hs'; subst this
    have he : (Op.equal t (.bool a) (.bool b)).run P w = .ok (a == b) w := eq_run fun d => by simp [Op.equalIn, run_underlying hd]
    subst hr; simp only [execOp, ho, hs.agr.eval hx, hs.agr.eval hz, eqGuard, binOp, Sem.run_bind, Sem.run_pure]; simp; rw [he]; simp [Result.andThen]
theorem op_neB {a b r : Bool} (ho : o.op = .binOp .neq t x z t' := by exact rfl) (hx : ev g x = some (.bool a) := by exact rfl) (hz : ev g z = some (.bool b) := by exact rfl) (ht : tyOf P t = some y := by exact ty rfl) (hy : y.desc = .bool := by exact rfl) (hr : (!(a == b)) = r := by exact rfl) : OpT P ro N w0 M ds o g L (Det (.bool r) L) :=
  OpT.still (by rw [ho]; rfl) fun _ w X hs => by
    obtain ⟨d, i', hd, hi', hs', _⟩ := tyOf_spec ht
    rw [hy] at hs'
    have := slim_bool hs'; subst this
    have he : (Op.equal t (.bool a) (.bool b)).run P w = .ok (a == b) w := eq_run fun d => by simp [Op.equalIn, run_underlying hd]
    subst hr; simp only [execOp, ho, hs.agr.eval hx, hs.agr.eval hz, eqGuard, binOp, Sem.run_bind, Sem.run_pure]; simp; rw [he]; simp [Result.andThen]
/-- A string of bytes. -/
def str (l : List UInt8) : ByteArray := ⟨l.toArray⟩
theorem str_size (l : List UInt8) : (str l).size = l.length := rfl
theorem str_toList (l : List UInt8) : (str l).toList = l := by rw [ByteArray.toList_eq]; rfl
theorem op_eqStr {a b : List UInt8} {r : Bool} (ho : o.op = .binOp .eql t x z t' := by exact rfl) (hx : ev g x = some (.string (str a)) := by exact rfl) (hz : ev g z = some (.string (str b)) := by exact rfl) (hr : decide (a = b) = r := by first | exact decide_eq_true (by first | rfl | assumption) | exact decide_eq_false (by assumption) | fail) : OpT P ro N w0 M ds o g L (Det (.bool r) L) :=
  OpT.still (by rw [ho]; rfl) fun _ w X hs => by
    have : (a == b) = r := by rw [← hr]; by_cases h : a = b <;> simp [h]
    simp [execOp, ho, hs.agr.eval hx, hs.agr.eval hz, eqGuard, binOp, Op.stringOp, str_toList, this]
theorem op_neStr {a b : List UInt8} {r : Bool} (ho : o.op = .binOp .neq t x z t' := by exact rfl) (hx : ev g x = some (.string (str a)) := by exact rfl) (hz : ev g z = some (.string (str b)) := by exact rfl) (hr : decide (a ≠ b) = r := by first | exact decide_eq_true (by assumption) | exact decide_eq_false (by first | exact fun h => h rfl | assumption) | fail) : OpT P ro N w0 M ds o g L (Det (.bool r) L) :=
  OpT.still (by rw [ho]; rfl) fun _ w X hs => by
    have : (!(a == b)) = r := by rw [← hr]; by_cases h : a = b <;> simp [h]
    simp [execOp, ho, hs.agr.eval hx, hs.agr.eval hz, eqGuard, binOp, Op.stringOp, str_toList, this]
theorem op_addStr {a b : List UInt8} (ho : o.op = .binOp .add t x z t' := by exact rfl) (hx : ev g x = some (.string (str a)) := by exact rfl) (hz : ev g z = some (.string (str b)) := by exact rfl) (hl : a.length + b.length ≤ 9223372036854775807 := by first | omega | (simp only [List.length_map, List.length_set]; omega) | (simp; omega) | fail) : OpT P ro N w0 M ds o g L (Det (.string (str (a ++ b))) L) :=
  OpT.still (by rw [ho]; rfl) fun _ w X hs => by
    have h1 : ¬ ((((str a).size + (str b).size : Nat) : Int) > IntKind.i64.max) := by
      rw [str_size, str_size, show IntKind.i64.max = 9223372036854775807 from rfl]; omega
    have h2 : str a ++ str b = str (a ++ b) := by apply ByteArray.ext; simp [str]
    have h3 : ((str a).size : Int) + ((str b).size : Int) ≤ 9223372036854775807 := by rw [str_size, str_size]; omega
    simp [execOp, ho, hs.agr.eval hx, hs.agr.eval hz, eqGuard, binOp, Op.stringOp, h2, h3]

/-! ### Literals -/
def putFrom (C : List Value) (o : Nat) : List Value → List Value
  | [] => C
  | v :: vs => putFrom (C.set o v) (o + 1) vs
theorem op_build {parts : Array (Nat × Operand)} {vs : List Value} {C : List Value} (ho : o.op = .build t parts) (hv : evs g (parts.toList.map (·.2)) = some vs) (hb : P.built t (List.zip (parts.toList.map (·.1)) vs) = some C.toArray) : OpT P ro N w0 M ds o g L (Det (.agg C.toArray) L) :=
  OpT.still (by rw [ho]; rfl) fun a w X hs => by
    have e : (parts.map fun (i, x) => (i, a.eval x)).toList = List.zip (parts.toList.map (·.1)) vs := by
      rw [Array.toList_map, ← hs.agr.evals hv, List.map_map, List.zip_map']
      rfl
    have := run_build (P := P) w t (parts.map fun (i, x) => (i, a.eval x)) C.toArray (by rw [e]; exact hb)
    simp [execOp, ho, this]
/-- A slice literal whose elements are one cell each, all of them given, in order. -/
def ordered : Nat → List (Nat × Operand) → Bool
  | _, [] => true
  | k, p :: l => Nat.beq p.1 k && ordered (k + 1) l
theorem fill_ones : ∀ (l : List Value) (A D : List Value), D.length = l.length → (∀ v ∈ l, v.cells.size = 1 ∧ v.cells = #[v]) →
    Instr.fill (fun i => some (i * 1, 1)) (A ++ D).toArray (l.zipIdx A.length |>.map fun p => (p.2, p.1)) = some (A ++ l).toArray
  | [], A, D, h, _ => by
    have : D = [] := List.length_eq_zero_iff.1 h
    subst this; simp [Instr.fill]
  | v :: l, A, D, h, h1 => by
    obtain ⟨d, D', rfl⟩ : ∃ d D', D = d :: D' := by cases D with
      | nil => simp at h
      | cons d D' => exact ⟨d, D', rfl⟩
    obtain ⟨e1, e2⟩ := h1 v List.mem_cons_self
    have ih := fill_ones l (A ++ [v]) D' (by simpa using h) (fun u hu => h1 u (List.mem_cons_of_mem _ hu))
    have hs : (A ++ d :: D').toArray.size = A.length + (D'.length + 1) := by simp
    simp only [List.zipIdx_cons, List.map_cons, Instr.fill, e1, Nat.mul_one, hs]
    rw [if_neg (by simp)]
    have e3 : (v.cells.zipIdx.foldl (fun cs (c, j) => cs.setIfInBounds (A.length + j) c) (A ++ d :: D').toArray) = (A ++ [v] ++ D').toArray := by
      rw [e2]; simp [Array.zipIdx]
    simp only [Nat.mul_one] at ih
    rw [e3]
    have e4 : (A ++ [v]).length = A.length + 1 := by simp
    rw [e4] at ih
    rw [ih]; simp
theorem cells_one {v : Value} (h : v.oneCell' = true) : v.cells.size = 1 ∧ v.cells = #[v] := by cases v <;> first | exact ⟨rfl, rfl⟩ | (simp [Value.oneCell'] at h)
theorem op_buildSlice {len e : Nat} {parts : Array (Nat × Operand)} {vs : List Value} {ye : Ty} (ho : o.op = .buildSlice t len parts := by exact rfl) (hp : ordered 0 parts.toList = true := by exact rfl) (hv : evs g (parts.toList.map (·.2)) = some vs := by exact rfl) (hl : vs.length = len := by exact rfl)
    (ht : tyOf P t = some y := by exact ty rfl) (hy : y.desc = .slice e := by exact rfl) (he : tyOf P e = some ye := by exact ty rfl) (h1 : ye.size = 1 := by exact rfl) (hz : (zeroC P e).map (·.length) = some 1 := by (rw [zc rfl]; rfl)) (hc : vs.all (·.oneCell') = true := by exact rfl) (hs : vs.length ≤ 16777216 := by exact Nat.le_of_ble_eq_true rfl) (hpos : vs ≠ [] := by exact List.cons_ne_nil _ _) :
    OpT P ro N w0 M ds o g L (fun v L' => ∃ b, v = .slice (some ⟨b, 0, none⟩) len len ∧ L' = .blk b e vs :: L) :=
  OpT.run (by rw [ho]; rfl) fun a w X hst => by
    obtain ⟨d, i', hd, hi', hs', _⟩ := tyOf_spec ht
    rw [hy] at hs'
    have := slim_slice hs'; subst this
    obtain ⟨de, ie, hde, hie, _, hez, _⟩ := tyOf_spec he
    obtain ⟨zcells, hzc, hzl⟩ := Option.map_eq_some_iff.1 hz
    obtain ⟨h2, h3⟩ := alloc_holds hst e vs
    unfold zeroC at hzc
    rw [hie] at hzc
    simp only [Option.bind_some, Option.map_eq_some_iff] at hzc
    obtain ⟨zv, hzv, hze⟩ := hzc
    have hz1 : ∀ u, ie.zero = some u → u.cells.size = 1 := fun u hu => by rw [hzv] at hu; cases hu; rw [← hze] at hzl; simpa using hzl
    have hlen : (0 : Nat) < len := by rw [← hl]; exact List.length_pos_iff.2 hpos
    have hparts : ∀ (l : List (Nat × Operand)) (k : Nat), ordered k l = true → (l.map fun p => (p.1, a.eval p.2)) = ((l.map fun p => a.eval p.2).zipIdx k).map fun p => (p.2, p.1) := by
      intro l
      induction l with
      | nil => intro k _; rfl
      | cons p l ih =>
        intro k hk
        simp only [ordered, Bool.and_eq_true] at hk
        have := Nat.eq_of_beq_eq_true hk.1
        simp only [List.map_cons, List.zipIdx_cons, ih (k + 1) hk.2, this]
    have hev : (parts.toList.map fun p => a.eval p.2) = vs := by
      have := hst.agr.evals hv
      rw [List.map_map] at this; exact this
    have hf := fill_ones vs [] (List.replicate len (zv.cells[0]!)) (by simp [hl]) (fun v hv' => cells_one (List.all_eq_true.1 hc v hv'))
    have hrun := run_buildSlice (P := P) w t e len (parts.map fun (i, x) => (i, a.eval x)) vs.toArray ie zv hd hie hzv (by rw [hez, h1]; omega) (by rw [hez, h1]; omega) (by
      rw [hez, h1, Array.toList_map]
      have := hparts parts.toList 0 hp
      rw [hev] at this
      have e5 : (parts.toList.map fun (i, x) => (i, a.eval x)) = parts.toList.map fun p => (p.1, a.eval p.2) := rfl
      rw [e5, this]
      have e6 : (Array.range (len * 1)).map (zv.cells[· % zv.cells.size]!) = ([] ++ List.replicate len (zv.cells[0]!)).toArray := by
        have hzs : zv.cells.size = 1 := hz1 zv hzv
        apply Array.ext
        · simp
        · intro k h1 h2; simp [hzs, Nat.mod_one]
      rw [e6]
      simpa using hf)
    refine ⟨_, _, w.alloc (.cells vs.toArray e), _, ?_, .inl rfl, ⟨w.heap.size, rfl, rfl⟩, h2, h3⟩
    simp [execOp, ho, hrun]
/-- An empty slice literal. -/
theorem op_buildSlice0 {e : Nat} (ho : o.op = .buildSlice t 0 #[] := by exact rfl) (ht : tyOf P t = some y := by exact ty rfl) (hy : y.desc = .slice e := by exact rfl) {ye : Ty} (he : tyOf P e = some ye := by exact ty rfl) :
    OpT P ro N w0 M ds o g L (fun v L' => ∃ b, v = .slice (some ⟨b, 0, none⟩) 0 0 ∧ L' = .blk b e [] :: L) :=
  OpT.run (by rw [ho]; rfl) fun a w X hst => by
    obtain ⟨d, i', hd, hi', hs', _⟩ := tyOf_spec ht
    rw [hy] at hs'
    have := slim_slice hs'; subst this
    obtain ⟨h2, h3⟩ := alloc_holds hst e []
    have hrun : (Instr.buildSlice t 0 #[]).run P w = .ok (.slice (some ⟨w.heap.size, 0, none⟩) 0 0) (w.alloc (.cells #[] e)) := by
      simp [Instr.buildSlice, run_underlying hd, run_sizeOf_ty he, Instr.fill, newRow]
      have : Array.map (fun _ => (default : Value)) (Array.range 0) = #[] := Array.eq_empty_of_size_eq_zero (by simp)
      rw [this]
    refine ⟨_, _, w.alloc (.cells #[] e), _, ?_, .inl rfl, ⟨w.heap.size, rfl, rfl⟩, h2, h3⟩
    simp [execOp, ho, hrun]
end
end Go.Sy
