/- The logic of walks: addresses, slices, built-in functions, calls, and a function's own frame. -/
import Derived.Test.YtcahnkdnhejkkaaDoorSyMem
import Derived.Shelf.Abstract
import Derived.RangeFuncLeaves
import Derived.RangeFuncNested
set_option linter.all false
namespace Go.Sy
open Go

section
variable {P : Program} {ro : Option Nat} {N : Nat} {w0 : World} {M : Nat → Prop} {ds : List Deferred} {g : Nat → Option Value} {L : List Res} {o : Oper}

/-! ### Addresses -/
theorem op_nilCheck {x : Operand} {ad : Addr} (ho : o.op = .nilCheck x := by exact rfl) (hx : ev g x = some (.pointer (some ad)) := by exact rfl) : OpT P ro N w0 M ds o g L (Det (.pointer (some ad)) L) :=
  OpT.still (by rw [ho]; rfl) fun a w X hs => by simp [execOp, ho, hs.agr.eval hx]
theorem op_nilCheckF {x : Operand} {f : Nat} {c d : Array Value} (ho : o.op = .nilCheck x := by exact rfl) (hx : ev g x = some (.func (.func f) c d) := by exact rfl) : OpT P ro N w0 M ds o g L (Det (.func (.func f) c d) L) :=
  OpT.still (by rw [ho]; rfl) fun a w X hs => by simp [execOp, ho, hs.agr.eval hx]
theorem op_fieldAddr {s f b off d n : Nat} {x : Operand} {y : Ty} (ho : o.op = .fieldAddr s x f := by exact rfl) (hx : ev g x = some (.pointer (some ⟨b, off, none⟩)) := by exact rfl) (ht : tyOf P s = some y := by exact ty rfl) (hy : y.desc = .struct #[] := by exact rfl) (hf : nth y.flds f = some (d, n) := by exact rfl) (hn : Nat.beq n 0 = false := by exact rfl) :
    OpT P ro N w0 M ds o g L (Det (.pointer (some ⟨b, off + d, none⟩)) L) :=
  OpT.still (by rw [ho]; rfl) fun a w X hs => by
    obtain ⟨dd, i, hd, hi, hs', _, _, hfl⟩ := tyOf_spec ht
    rw [hy] at hs'
    obtain ⟨fs, rfl⟩ := slim_struct hs'
    simp only at hfl
    rw [hfl, nth_eq, List.getElem?_map, Option.map_eq_some_iff] at hf
    obtain ⟨fl, hfl', e⟩ := hf
    rw [Array.getElem?_toList] at hfl'
    cases e
    have hz : (sizeOf fl.type).run P w = .ok (P.cellsOf fl.type) w := by
      unfold Program.cellsOf at hn ⊢
      cases hq : P.info? fl.type with
      | none => rw [hq] at hn; cases hn
      | some j => simp [sizeOf, typeInfo, hq]
    have hne : P.cellsOf fl.type ≠ 0 := Nat.ne_of_beq_eq_false hn
    simp [execOp, ho, hs.agr.eval hx, Instr.fieldAt, run_underlying hd, hfl', Instr.sureAddr, fieldPlace, hz, hne, Addr.add_mid]
theorem op_field {s f d n : Nat} {x : Operand} {y : Ty} {C : List Value} {v : Value} {t' : Nat} (ho : o.op = .field s x f) (hx : ev g x = some (.agg C.toArray)) (ht : tyOf P s = some y) (hy : y.desc = .struct #[]) (hf : nth y.flds f = some (d, n))
    (hv : ∀ fs fl, P.underlying s = some (.struct fs) → fs[f]? = some fl → fl.offset = d → ∀ w, (part fl.type C.toArray fl.offset).run P w = .ok v w) (_ : t' = t') : OpT P ro N w0 M ds o g L (Det v L) :=
  OpT.still (by rw [ho]; rfl) fun a w X hs => by
    obtain ⟨dd, i, hd, hi, hs', _, _, hfl⟩ := tyOf_spec ht
    rw [hy] at hs'
    obtain ⟨fs, rfl⟩ := slim_struct hs'
    simp only at hfl
    rw [hfl, nth_eq, List.getElem?_map, Option.map_eq_some_iff] at hf
    obtain ⟨fl, hfl', e⟩ := hf
    rw [Array.getElem?_toList] at hfl'
    cases e
    simp [execOp, ho, hs.agr.eval hx, Instr.field, run_underlying hd, hfl', asAgg, hv fs fl hd hfl' rfl w]
/-- The address of an element: of a slice. -/
theorem op_indexAddr {t e b off n c j : Nat} {x z : Operand} {k : IntKind} {i : Int} {y ye : Ty} (ho : o.op = .indexAddr t x z := by exact rfl) (hx : ev g x = some (.slice (some ⟨b, off, none⟩) n c) := by exact rfl) (hz : ev g z = some (.int k i) := by exact rfl)
    (ht : tyOf P t = some y := by exact ty rfl) (hy : y.desc = .slice e := by exact rfl) (he : tyOf P e = some ye := by exact ty rfl) (hi : i = (j : Int) := by first | rfl | exact idx_mul _ _ | exact idx_mul1 _ _ _ | exact idx_add _ _ | exact (Int.toNat_of_nonneg (by omega)).symm | fail) (hj : j < n := by first | omega | (simp only [List.length_map, List.length_set]; omega) | (simp; omega) | fail) : OpT P ro N w0 M ds o g L (Det (.pointer (some ⟨b, off + j * ye.size, none⟩)) L) :=
  OpT.still (by rw [ho]; rfl) fun a w X hs => by
    obtain ⟨d, i', hd, hi', hs', _⟩ := tyOf_spec ht
    rw [hy] at hs'
    have := slim_slice hs'; subst this; subst hi
    have hb : (0 : Int) ≤ (j : Int) ∧ (j : Int) < (n : Int) := by omega
    simp [execOp, ho, hs.agr.eval hx, hs.agr.eval hz, Instr.indexAt, run_underlying hd, asIntOf, hj, run_sizeOf_ty he, Addr.add_mid]
theorem op_indexAddr1 {t e b off n c j : Nat} {x z : Operand} {k : IntKind} {i : Int} {y ye : Ty} (ho : o.op = .indexAddr t x z := by exact rfl) (hx : ev g x = some (.slice (some ⟨b, off, none⟩) n c) := by exact rfl) (hz : ev g z = some (.int k i) := by exact rfl)
    (ht : tyOf P t = some y := by exact ty rfl) (hy : y.desc = .slice e := by exact rfl) (he : tyOf P e = some ye := by exact ty rfl) (h1 : ye.size = 1 := by exact rfl) (hi : i = (j : Int) := by first | rfl | exact idx_mul _ _ | exact idx_mul1 _ _ _ | exact idx_add _ _ | exact (Int.toNat_of_nonneg (by omega)).symm | fail) (hj : j < n := by first | omega | (simp only [List.length_map, List.length_set]; omega) | (simp; omega) | fail) : OpT P ro N w0 M ds o g L (Det (.pointer (some ⟨b, off + j, none⟩)) L) := by
  have := op_indexAddr (P := P) (ro := ro) (N := N) (w0 := w0) (M := M) (ds := ds) (L := L) ho hx hz ht hy he hi hj
  rw [h1, Nat.mul_one] at this; exact this
/-- The address of an element: of an array that a pointer leads to. -/
theorem op_indexArr {t e b off n j : Nat} {x z : Operand} {k : IntKind} {i : Int} {y ye : Ty} (ho : o.op = .indexAddr t x z := by exact rfl) (hx : ev g x = some (.pointer (some ⟨b, off, none⟩)) := by exact rfl) (hz : ev g z = some (.int k i) := by exact rfl)
    (ht : tyOf P t = some y := by exact ty rfl) (hy : y.desc = .array n e := by exact rfl) (he : tyOf P e = some ye := by exact ty rfl) (hi : i = (j : Int) := by first | rfl | exact idx_mul _ _ | exact idx_mul1 _ _ _ | exact idx_add _ _ | exact (Int.toNat_of_nonneg (by omega)).symm | fail) (hj : j < n := by first | omega | (simp only [List.length_map, List.length_set]; omega) | (simp; omega) | fail) : OpT P ro N w0 M ds o g L (Det (.pointer (some ⟨b, off + j * ye.size, none⟩)) L) :=
  OpT.still (by rw [ho]; rfl) fun a w X hs => by
    obtain ⟨d, i', hd, hi', hs', _⟩ := tyOf_spec ht
    rw [hy] at hs'
    have := slim_array hs'; subst this; subst hi
    simp [execOp, ho, hs.agr.eval hx, hs.agr.eval hz, Instr.indexAt, Instr.sureAddr, run_underlying hd, asIntOf, hj, run_sizeOf_ty he, Addr.add_mid]
theorem op_indexArr1 {t e b off n j : Nat} {x z : Operand} {k : IntKind} {i : Int} {y ye : Ty} (ho : o.op = .indexAddr t x z := by exact rfl) (hx : ev g x = some (.pointer (some ⟨b, off, none⟩)) := by exact rfl) (hz : ev g z = some (.int k i) := by exact rfl)
    (ht : tyOf P t = some y := by exact ty rfl) (hy : y.desc = .array n e := by exact rfl) (he : tyOf P e = some ye := by exact ty rfl) (h1 : ye.size = 1 := by exact rfl) (hi : i = (j : Int) := by first | rfl | exact idx_mul _ _ | exact idx_mul1 _ _ _ | exact idx_add _ _ | exact (Int.toNat_of_nonneg (by omega)).symm | fail) (hj : j < n := by first | omega | (simp only [List.length_map, List.length_set]; omega) | (simp; omega) | fail) : OpT P ro N w0 M ds o g L (Det (.pointer (some ⟨b, off + j, none⟩)) L) := by
  have := op_indexArr (P := P) (ro := ro) (N := N) (w0 := w0) (M := M) (ds := ds) (L := L) ho hx hz ht hy he hi hj
  rw [h1, Nat.mul_one] at this; exact this
theorem op_indexAddr10 {t e b n c j : Nat} {x z : Operand} {k : IntKind} {i : Int} {y ye : Ty} (ho : o.op = .indexAddr t x z := by exact rfl) (hx : ev g x = some (.slice (some ⟨b, 0, none⟩) n c) := by exact rfl) (hz : ev g z = some (.int k i) := by exact rfl)
    (ht : tyOf P t = some y := by exact ty rfl) (hy : y.desc = .slice e := by exact rfl) (he : tyOf P e = some ye := by exact ty rfl) (h1 : ye.size = 1 := by exact rfl) (hi : i = (j : Int) := by first | rfl | exact idx_mul _ _ | exact idx_mul1 _ _ _ | exact idx_add _ _ | exact (Int.toNat_of_nonneg (by omega)).symm | fail) (hj : j < n := by first | omega | (simp only [List.length_map, List.length_set]; omega) | (simp; omega) | fail) : OpT P ro N w0 M ds o g L (Det (.pointer (some ⟨b, j, none⟩)) L) := by
  have := op_indexAddr1 (P := P) (ro := ro) (N := N) (w0 := w0) (M := M) (ds := ds) (L := L) ho hx hz ht hy he h1 hi hj
  rw [Nat.zero_add] at this; exact this
theorem op_indexArr10 {t e b n j : Nat} {x z : Operand} {k : IntKind} {i : Int} {y ye : Ty} (ho : o.op = .indexAddr t x z := by exact rfl) (hx : ev g x = some (.pointer (some ⟨b, 0, none⟩)) := by exact rfl) (hz : ev g z = some (.int k i) := by exact rfl)
    (ht : tyOf P t = some y := by exact ty rfl) (hy : y.desc = .array n e := by exact rfl) (he : tyOf P e = some ye := by exact ty rfl) (h1 : ye.size = 1 := by exact rfl) (hi : i = (j : Int) := by first | rfl | exact idx_mul _ _ | exact idx_mul1 _ _ _ | exact idx_add _ _ | exact (Int.toNat_of_nonneg (by omega)).symm | fail) (hj : j < n := by first | omega | (simp only [List.length_map, List.length_set]; omega) | (simp; omega) | fail) : OpT P ro N w0 M ds o g L (Det (.pointer (some ⟨b, j, none⟩)) L) := by
  have := op_indexArr1 (P := P) (ro := ro) (N := N) (w0 := w0) (M := M) (ds := ds) (L := L) ho hx hz ht hy he h1 hi hj
  rw [Nat.zero_add] at this; exact this
/-- An element of an array by value, one cell each. -/
theorem op_index {t e n j : Nat} {x z : Operand} {k : IntKind} {i : Int} {y ye : Ty} {C : List Value} {v : Value} (ho : o.op = .index t x z := by exact rfl) (hx : ev g x = some (.agg C.toArray) := by exact rfl) (hz : ev g z = some (.int k i) := by exact rfl)
    (ht : tyOf P t = some y := by exact ty rfl) (hy : y.desc = .array n e := by exact rfl) (he : tyOf P e = some ye := by exact ty rfl) (h1 : ye.size = 1 := by exact rfl) (hr : ye.desc.isRow = false := by exact rfl) (hi : i = (j : Int) := by first | rfl | exact idx_mul _ _ | exact idx_mul1 _ _ _ | exact idx_add _ _ | exact (Int.toNat_of_nonneg (by omega)).symm | fail) (hj : j < n := by first | omega | (simp only [List.length_map, List.length_set]; omega) | (simp; omega) | fail) (hv : C[j]? = some v := by first | rfl | assumption) : OpT P ro N w0 M ds o g L (Det v L) :=
  OpT.still (by rw [ho]; rfl) fun a w X hs => by
    obtain ⟨d, i', hd, hi', hs', _⟩ := tyOf_spec ht
    rw [hy] at hs'
    have := slim_array hs'; subst this; subst hi
    simp [execOp, ho, hs.agr.eval hx, hs.agr.eval hz, Instr.index, run_underlying hd, asIntOf, hj, run_sizeOf_ty he, h1, part, run_isAgg_no he hr, hv]
/-- A byte of a string. -/
theorem op_indexStr {t j : Nat} {x z : Operand} {k : IntKind} {i : Int} {y : Ty} {s : ByteArray} {u : UInt8} (ho : o.op = .index t x z := by exact rfl) (hx : ev g x = some (.string s) := by exact rfl) (hz : ev g z = some (.int k i) := by exact rfl)
    (ht : tyOf P t = some y := by exact ty rfl) (hy : y.desc = .string := by exact rfl) (hi : i = (j : Int) := by first | rfl | exact idx_mul _ _ | exact idx_mul1 _ _ _ | exact idx_add _ _ | exact (Int.toNat_of_nonneg (by omega)).symm | fail) (hv : s.data[j]? = some u := by first | rfl | assumption) : OpT P ro N w0 M ds o g L (Det (.int .u8 u.toNat) L) :=
  OpT.still (by rw [ho]; rfl) fun a w X hs => by
    obtain ⟨d, i', hd, hi', hs', _⟩ := tyOf_spec ht
    rw [hy] at hs'
    have := slim_string hs'; subst this; subst hi
    have hlt : j < s.size := (Array.getElem?_eq_some_iff.1 hv).1
    have : s[j]? = some u := by
      rw [getElem?_pos s j hlt]; congr 1
      exact (Array.getElem?_eq_some_iff.1 hv).2
    simp [execOp, ho, hs.agr.eval hx, hs.agr.eval hz, Instr.index, run_underlying hd, asIntOf, this]

/-! ### Slices of slices and of arrays -/
/-- An optional bound. -/
def bnd (g : Nat → Option Value) (x : Option Operand) (d j : Nat) : Prop := match x with
  | none => j = d
  | some x => ∃ (k : IntKind), ev g x = some (.int k (j : Int))
theorem bnd_some {x : Operand} {d j : Nat} {k : IntKind} {i : Int} (h : ev g x = some (.int k i)) (hi : i = (j : Int)) : bnd g (some x) d j := ⟨k, by rw [h, hi]⟩
theorem bnd_none {d : Nat} : bnd g none d d := rfl
theorem run_bounds {a : Act} (hg : Agrees g a) {lo hi mx : Option Operand} {isS : Bool} {n c l h m : Nat} (hl : bnd g lo 0 l) (hh : bnd g hi n h) (hm : bnd g mx c m) (h1 : l ≤ h) (h2 : h ≤ m) (h3 : m ≤ c) (hmx : hi.isSome = true ∨ mx = none) (w : World) :
    (Instr.sliceBounds isS n c (lo.map a.eval) (hi.map a.eval) (mx.map a.eval)).run P w = .ok (l, h, m) w := by
  have sb : ∀ (k : IntKind) (i y : Nat) (code : BoundsCode), i ≤ y → (Instr.sliceBound (.int k (i : Int)) y code).run P w = .ok i w := fun k i y code hle => by
    have := run_sliceBound (P := P) w k (i : Int) y code (by omega) (by omega)
    rw [this, Int.toNat_natCast]
  unfold Instr.sliceBounds
  cases mx with
  | none =>
    have hm : m = c := hm
    subst hm
    cases hi with
    | none =>
      have hh : h = n := hh
      subst hh
      cases lo with
      | none => have hl : l = 0 := hl; subst hl; simp
      | some x => obtain ⟨k, hx⟩ := hl; simp [hg.eval hx, sb _ _ _ _ h1]
    | some z =>
      obtain ⟨k, hz⟩ := hh
      cases lo with
      | none => have hl : l = 0 := hl; subst hl; simp [hg.eval hz, sb _ _ _ _ h2]
      | some x => obtain ⟨k', hx⟩ := hl; simp [hg.eval hx, hg.eval hz, sb _ _ _ _ h1, sb _ _ _ _ h2]
  | some u =>
    obtain ⟨ku, hu⟩ := hm
    cases hi with
    | none => rcases hmx with h | h <;> cases h
    | some z =>
      obtain ⟨k, hz⟩ := hh
      cases lo with
      | none => have hl : l = 0 := hl; subst hl; simp [hg.eval hz, hg.eval hu, sb _ _ _ _ h2, sb _ _ _ _ h3]
      | some x => obtain ⟨k', hx⟩ := hl; simp [hg.eval hx, hg.eval hz, hg.eval hu, sb _ _ _ _ h1, sb _ _ _ _ h2, sb _ _ _ _ h3]
/-- The address that a slice expression leaves. -/
def movA (a : Option Addr) (l m s : Nat) : Option Addr := if m = l then a else a.map (·.add (l * s))
theorem movA_zero (a : Option Addr) (m s : Nat) : movA a 0 m s = a := by
  unfold movA; split
  · rfl
  · cases a with
    | none => rfl
    | some ad => simp [Addr.add]
theorem movA_lt {b off l m s : Nat} (h : l < m) : movA (some ⟨b, off, none⟩) l m s = some ⟨b, off + l * s, none⟩ := by
  unfold movA; rw [if_neg (by omega)]; simp [Addr.add_mid]
theorem op_slice {t e n c l h m : Nat} {x : Operand} {lo hi mx : Option Operand} {a0 : Option Addr} {y ye : Ty} (ho : o.op = .slice t x lo hi mx := by exact rfl) (hx : ev g x = some (.slice a0 n c) := by exact rfl) (ht : tyOf P t = some y := by exact ty rfl) (hy : y.desc = .slice e := by exact rfl) (he : tyOf P e = some ye := by exact ty rfl)
    (hl : bnd g lo 0 l := by first | exact bnd_none | exact bnd_some rfl rfl | exact bnd_some rfl (idx_add _ _) | exact bnd_some rfl (Int.toNat_of_nonneg (by omega)).symm | fail) (hh : bnd g hi n h := by first | exact bnd_none | exact bnd_some rfl rfl | exact bnd_some rfl (idx_add _ _) | exact bnd_some rfl (Int.toNat_of_nonneg (by omega)).symm | fail) (hm : bnd g mx c m := by first | exact bnd_none | exact bnd_some rfl rfl | exact bnd_some rfl (idx_add _ _) | exact bnd_some rfl (Int.toNat_of_nonneg (by omega)).symm | fail) (h1 : l ≤ h := by first | omega | (simp only [List.length_map, List.length_set]; omega) | (simp; omega) | fail) (h2 : h ≤ m := by first | omega | (simp only [List.length_map, List.length_set]; omega) | (simp; omega) | fail) (h3 : m ≤ c := by first | omega | (simp only [List.length_map, List.length_set]; omega) | (simp; omega) | fail) (hmx : hi.isSome = true ∨ mx = none := by first | exact .inl rfl | exact .inr rfl) : OpT P ro N w0 M ds o g L (Det (.slice (movA a0 l m ye.size) (h - l) (m - l)) L) :=
  OpT.still (by rw [ho]; rfl) fun a w X hs => by
    obtain ⟨d, i', hd, hi', hs', _⟩ := tyOf_spec ht
    rw [hy] at hs'
    have := slim_slice hs'; subst this
    simp [execOp, ho, hs.agr.eval hx, Instr.sliceAt, Instr.slice, run_underlying hd, run_bounds hs.agr hl hh hm h1 h2 h3 hmx, run_sizeOf_ty he, movA]
theorem op_sliceArr {t e n l h m b off : Nat} {x : Operand} {lo hi mx : Option Operand} {y ye : Ty} (ho : o.op = .slice t x lo hi mx := by exact rfl) (hx : ev g x = some (.pointer (some ⟨b, off, none⟩)) := by exact rfl) (ht : tyOf P t = some y := by exact ty rfl) (hy : y.desc = .array n e := by exact rfl) (he : tyOf P e = some ye := by exact ty rfl)
    (hl : bnd g lo 0 l := by first | exact bnd_none | exact bnd_some rfl rfl | exact bnd_some rfl (idx_add _ _) | exact bnd_some rfl (Int.toNat_of_nonneg (by omega)).symm | fail) (hh : bnd g hi n h := by first | exact bnd_none | exact bnd_some rfl rfl | exact bnd_some rfl (idx_add _ _) | exact bnd_some rfl (Int.toNat_of_nonneg (by omega)).symm | fail) (hm : bnd g mx n m := by first | exact bnd_none | exact bnd_some rfl rfl | exact bnd_some rfl (idx_add _ _) | exact bnd_some rfl (Int.toNat_of_nonneg (by omega)).symm | fail) (h1 : l ≤ h := by first | omega | (simp only [List.length_map, List.length_set]; omega) | (simp; omega) | fail) (h2 : h ≤ m := by first | omega | (simp only [List.length_map, List.length_set]; omega) | (simp; omega) | fail) (h3 : m ≤ n := by first | omega | (simp only [List.length_map, List.length_set]; omega) | (simp; omega) | fail) (hmx : hi.isSome = true ∨ mx = none := by first | exact .inl rfl | exact .inr rfl) : OpT P ro N w0 M ds o g L (Det (.slice (movA (some ⟨b, off, none⟩) l m ye.size) (h - l) (m - l)) L) :=
  OpT.still (by rw [ho]; rfl) fun a w X hs => by
    obtain ⟨d, i', hd, hi', hs', _⟩ := tyOf_spec ht
    rw [hy] at hs'
    have := slim_array hs'; subst this
    have e1 : (some (if m = l then (⟨b, off, none⟩ : Addr) else (⟨b, off, none⟩ : Addr).add (l * ye.size))) = movA (some ⟨b, off, none⟩) l m ye.size := by unfold movA; split <;> rfl
    simp [execOp, ho, hs.agr.eval hx, Instr.sliceAt, Instr.sureAddr, run_underlying hd, run_bounds hs.agr hl hh hm h1 h2 h3 hmx, run_sizeOf_ty he, ← e1]
theorem op_sliceStr {t l h : Nat} {x : Operand} {lo hi : Option Operand} {s : ByteArray} {y : Ty} (ho : o.op = .slice t x lo hi none := by exact rfl) (hx : ev g x = some (.string s) := by exact rfl) (ht : tyOf P t = some y := by exact ty rfl) (hy : y.desc = .string := by exact rfl)
    (hl : bnd g lo 0 l := by first | exact bnd_none | exact bnd_some rfl rfl | exact bnd_some rfl (idx_add _ _) | exact bnd_some rfl (Int.toNat_of_nonneg (by omega)).symm | fail) (hh : bnd g hi s.size h := by first | exact bnd_none | exact bnd_some rfl rfl | exact bnd_some rfl (idx_add _ _) | exact bnd_some rfl (Int.toNat_of_nonneg (by omega)).symm | fail) (h1 : l ≤ h := by first | omega | (simp only [List.length_map, List.length_set]; omega) | (simp; omega) | fail) (h2 : h ≤ s.size := by first | omega | (simp only [List.length_map, List.length_set]; omega) | (simp; omega) | fail) : OpT P ro N w0 M ds o g L (Det (.string (s.extract l h)) L) :=
  OpT.still (by rw [ho]; rfl) fun a w X hs => by
    obtain ⟨d, i', hd, hi', hs', _⟩ := tyOf_spec ht
    rw [hy] at hs'
    have := slim_string hs'; subst this
    have := run_bounds (P := P) (isS := false) hs.agr hl hh (mx := none) (c := s.size) bnd_none h1 h2 (Nat.le_refl _) (.inr rfl) w
    simp only [Option.map_none] at this
    simp [execOp, ho, hs.agr.eval hx, Instr.sliceAt, Instr.slice, run_underlying hd, this]

/-! ### Built-in functions that only look -/
theorem op_len {t e n c : Nat} {x : Operand} {a0 : Option Addr} {y : Ty} (ho : o.op = .call { callee := .builtin .len, args := #[x], argTypes := #[t] } := by exact rfl) (hx : ev g x = some (.slice a0 n c) := by exact rfl) (ht : tyOf P t = some y := by exact ty rfl) (hy : y.desc = .slice e := by exact rfl) : OpT P ro N w0 M ds o g L (Det (.int .i64 n) L) :=
  OpT.still (by rw [ho]; rfl) fun a w X hs => by
    obtain ⟨d, i', hd, hi', hs', _⟩ := tyOf_spec ht
    rw [hy] at hs'
    have := slim_slice hs'; subst this
    simp [execOp, ho, resolve, invoke, builtin, hs.agr.eval hx, Builtin.len_, run_underlying hd, goInt]
theorem op_lenStr {t : Nat} {x : Operand} {s : ByteArray} {y : Ty} (ho : o.op = .call { callee := .builtin .len, args := #[x], argTypes := #[t] } := by exact rfl) (hx : ev g x = some (.string s) := by exact rfl) (ht : tyOf P t = some y := by exact ty rfl) (hy : y.desc = .string := by exact rfl) : OpT P ro N w0 M ds o g L (Det (.int .i64 s.size) L) :=
  OpT.still (by rw [ho]; rfl) fun a w X hs => by
    obtain ⟨d, i', hd, hi', hs', _⟩ := tyOf_spec ht
    rw [hy] at hs'
    have := slim_string hs'; subst this
    simp [execOp, ho, resolve, invoke, builtin, hs.agr.eval hx, Builtin.len_, run_underlying hd, goInt]
theorem op_extract {t : Operand} {k : Nat} {vs : Array Value} {v : Value} (ho : o.op = .extract t k := by exact rfl) (hx : ev g t = some (.tuple vs) := by exact rfl) (hv : vs[k]? = some v := by exact rfl) : OpT P ro N w0 M ds o g L (Det v L) :=
  OpT.still (by rw [ho]; rfl) fun a w X hs => by simp [execOp, ho, hs.agr.eval hx, Instr.extract, hv]
theorem op_makeFunc {fn : Fn} {f c : Array Operand} {vs us : List Value} (ho : o.op = .makeFunc fn f c := by exact rfl) (hf : evs g f.toList = some vs := by exact rfl) (hc : evs g c.toList = some us := by exact rfl) : OpT P ro N w0 M ds o g L (Det (.func fn vs.toArray us.toArray) L) :=
  OpT.still (by rw [ho]; rfl) fun a w X hs => by
    have h1 : f.map a.eval = vs.toArray := Array.toList_inj.1 (by rw [Array.toList_map, hs.agr.evals hf])
    have h2 : c.map a.eval = us.toArray := Array.toList_inj.1 (by rw [Array.toList_map, hs.agr.evals hc])
    simp [execOp, ho, Instr.makeFunc, h1, h2]

/-! ### Calls -/
/-- A function's contract: it returns; of the blocks that were there those of M alone have been turned; R: what it leaves. -/
def Fn (P : Program) (f : FuncId) (args : List Value) (w : World) (M : Nat → Prop) (post : Value → List Res → Prop) : Prop :=
  Calls P f args.toArray w fun e w' => ∃ v R, e = .returned v ∧ post v R ∧ Keep M w w' ∧ Holds w.heap.size M R w'
theorem Fn.mono {f : FuncId} {args : List Value} {w : World} {M' : Nat → Prop} {post post' : Value → List Res → Prop} (h : Fn P f args w M' post) (hp : ∀ v R, post v R → post' v R) : Fn P f args w M' post' :=
  Calls.mono h fun _ _ ⟨v, R, e, hv, hk, hh⟩ => ⟨v, R, e, hp v R hv, hk, hh⟩
/-- The blocks of a list of resources. -/
def OwnOf (C : List Res) : Nat → Prop := fun b => ∃ r ∈ C, r.own b
def RemL (L C L1 : List Res) : Prop := L.Perm (C ++ L1)
theorem RemL.nil : RemL L [] L := List.Perm.refl _
theorem RemL.cons {r r' : Res} {C L1 L2 : List Res} (h : Rem L r' L1) (e : r' = r) (h2 : RemL L1 C L2) : RemL L (r :: C) L2 := by
  subst e; exact h.perm.trans (List.Perm.cons _ h2)
theorem op_call {fo : Operand} {args : Array Operand} {tys : Array TypeId} {f : Nat} {vs : List Value} {cap : List Value} {C L1 : List Res} {M' : Nat → Prop} {post : Value → List Res → Prop}
    (ho : o.op = .call { callee := .value fo, args := args, argTypes := tys } := by exact rfl) (hf : ev g fo = some (.func (.func f) #[] cap.toArray) := by exact rfl) (ha : evs g args.toList = some vs := by exact rfl)
    (he : ∀ args w, (callFunc f args).run P w = .ok (.enter f args) w := by exact en rfl) (hC : RemL L C L1) (hM : ∀ b, M' b → OwnOf C b)
    (hc : ∀ w X, Keep M w0 w → Holds w0.heap.size M (L ++ X) w → Fn P f (vs ++ cap) w M' post) : OpT P ro N w0 M ds o g L (fun v L' => ∃ R, L' = R ++ L1 ∧ post v R) := by
  intro a w X next Q hs hn
  refine ⟨fun _ _ => trivial, ?_⟩
  rw [Oper.semAt_plain (FW ro) _ _ (fun c hc => by rw [ho] at hc; cases hc)]
  have hargs : args.map a.eval = vs.toArray := Array.toList_inj.1 (by rw [Array.toList_map, hs.agr.evals ha])
  have hrun : (execOp a.eval o).run P w = .ok (.enter f (vs ++ cap).toArray) w := by
    simp only [execOp, ho, resolve, hs.agr.eval hf, Deferred.ofValue, hargs, Sem.run_bind, Sem.run_pure, Result.andThen_ok, invoke]
    rw [show (#[] ++ vs.toArray ++ cap.toArray : Array Value) = (vs ++ cap).toArray by simp]
    exact he _ w
  rw [hrun]
  refine ⟨fun h => (by cases h), ?_⟩
  have hcall := hc w X hs.keep hs.hold
  have hin : CallsIn (FW ro) (0 - 1) P f (vs ++ cap).toArray w (fun e w' => ∃ v R, e = .returned v ∧ post v R ∧ Keep M' w w' ∧ Holds w.heap.size M' R w') := (callsIn_wide (n := 0 - 1)).2 hcall
  refine CallsIn.mono hin ?_
  rintro e w' ⟨v, R, rfl, hp, hk, hh⟩
  have hperm : (L ++ X).Perm (C ++ (L1 ++ X)) := by rw [← List.append_assoc]; exact List.Perm.append_right X hC
  have hold := hs.hold.perm hperm
  have hold1 : Holds w0.heap.size M (L1 ++ X) w := hold.sublist (List.sublist_append_right C (L1 ++ X))
  have hmine : ∀ b, M' b → w0.heap.size ≤ b ∨ M b := fun b hb => by
    obtain ⟨r, hr, hro⟩ := hM b hb
    exact hold.mine r (List.mem_append_left _ hr) b hro
  have hap : ∀ r ∈ L1 ++ X, ∀ b, r.own b → ¬ M' b := fun r hr b hb hb' => by
    obtain ⟨r', hr', hro⟩ := hM b hb'
    exact (List.pairwise_append.1 hold.apart).2.2 r' hr' r hr b hro hb
  have hkp : Keep M w0 w' := hs.keep.trans hk (fun b hb => hmine b hb)
  refine hn v w' (R ++ L1) ⟨R, rfl, hp⟩ hkp ?_
  have hL := hold1.keep hk hap
  rw [List.append_assoc]
  refine ⟨fun r hr => ?_, ?_, fun r hr b hb => ?_⟩
  · rcases List.mem_append.1 hr with h | h
    · exact hh.all r h
    · exact hL.all r h
  · refine List.pairwise_append.2 ⟨hh.apart, hL.apart, fun r hr r' hr' b hb hb' => ?_⟩
    rcases hh.mine r hr b hb with h | h
    · have := Res.own_lt (hold1.all r' hr') hb'; omega
    · exact hap r' hr' b hb' h
  · rcases List.mem_append.1 hr with h | h
    · rcases hh.mine r h b hb with h' | h'
      · exact .inl (Nat.le_trans hs.keep.size h')
      · exact hmine b h'
    · exact hL.mine r h b hb
/-- A call that turns nothing that was there. -/
theorem op_call0 {fo : Operand} {args : Array Operand} {tys : Array TypeId} {f : Nat} {vs : List Value} {cap : List Value} {post : Value → List Res → Prop}
    (ho : o.op = .call { callee := .value fo, args := args, argTypes := tys } := by exact rfl) (hf : ev g fo = some (.func (.func f) #[] cap.toArray) := by exact rfl) (ha : evs g args.toList = some vs := by exact rfl)
    (he : ∀ args w, (callFunc f args).run P w = .ok (.enter f args) w := by exact en rfl)
    (hc : ∀ w X, Keep M w0 w → Holds w0.heap.size M (L ++ X) w → Fn P f (vs ++ cap) w No post) : OpT P ro N w0 M ds o g L (fun v L' => ∃ R, L' = R ++ L ∧ post v R) :=
  op_call ho hf ha he RemL.nil (fun _ h => h.elim) hc
/-- A call that gives a value and no memory. -/
def Gives (v : Value) : Value → List Res → Prop := fun v' R => v' = v ∧ R = []
theorem op_callV {fo : Operand} {args : Array Operand} {tys : Array TypeId} {f : Nat} {vs : List Value} {cap : List Value} {v : Value}
    (ho : o.op = .call { callee := .value fo, args := args, argTypes := tys } := by exact rfl) (hf : ev g fo = some (.func (.func f) #[] cap.toArray) := by exact rfl) (ha : evs g args.toList = some vs := by exact rfl)
    (he : ∀ args w, (callFunc f args).run P w = .ok (.enter f args) w := by exact en rfl)
    (hc : ∀ w X, Keep M w0 w → Holds w0.heap.size M (L ++ X) w → Fn P f (vs ++ cap) w No (Gives v)) : OpT P ro N w0 M ds o g L (Det v L) :=
  (op_call0 ho hf ha he hc).mono fun v' L' ⟨R, e, hv, hR⟩ => by subst hv; subst hR; exact ⟨rfl, e⟩

/-! ### A function's own frame -/
def FnR (w : World) (M : Nat → Prop) (post : Value → List Res → Prop) (e : Ending) (w' : World) : Prop := ∃ v R, e = .returned v ∧ post v R ∧ Keep M w w' ∧ Holds w.heap.size M R w'
def argFr : Nat → List Value → Fr
  | _, [] => []
  | i, v :: l => (i, v) :: argFr (i + 1) l
theorem get_argFr : ∀ (l : List Value) (i t : Nat) (v : Value), get (argFr i l) t = some v → i ≤ t ∧ l[t - i]? = some v
  | [], i, t, v, h => by cases h
  | x :: l, i, t, v, h => by
    simp only [argFr, get] at h
    cases hb : Nat.beq i t with
    | true => rw [hb] at h; have := Nat.eq_of_beq_eq_true hb; subst this; simpa using h
    | false =>
      rw [hb] at h
      have := get_argFr l (i + 1) t v h
      have hne := Nat.ne_of_beq_eq_false hb
      refine ⟨by omega, ?_⟩
      rw [show t - i = (t - (i + 1)) + 1 by omega]; simpa using this.2
theorem fn_enter {f : Nat} {fn : Func} {c : Code} {args : List Value} {w : World} {M' : Nat → Prop} {post : Value → List Res → Prop} {L0 : List Res} (hf : P.funcs[f]? = some fn) (hb : fn.body = some c) (hn : fn.ntmps = N) (hsz : args.length ≤ N)
    (hL : Holds w.heap.size M' L0 w) (h : Sy P none N w M' [] c (bodyPostM Fence.wide 0 P fn (FnR w M' post)) (argFr 0 args) L0) : Fn P f args w M' post := by
  refine (callsIn_wide (n := 0)).1 (callsIn_of_wp_marks hf hb trivial ?_ rfl)
  refine h _ w ⟨[], rfl, by simp; omega, fun t v hv => ?_, Keep.refl _ _, by simpa using hL⟩
  have := get_argFr args 0 t v hv
  simp only [Nat.sub_zero] at this
  have hlt : t < args.length := (List.getElem?_eq_some_iff.1 this.2).1
  rw [Array.getElem?_append_left (by simpa using hlt)]
  simpa using this.2
def resRun (tmps : Array Value) (r : ResultVar) : Sem Value := match r with
  | .tmp t => pure (tmps.getD t undef)
  | .cell p t => do loadVar t (← asAddr (tmps.getD p undef))
theorem results_resRun (fn : Func) (tmps : Array Value) : results fn tmps = (do
    let vs ← fn.results.mapM (resRun tmps)
    pure (if h : vs.size = 1 then vs[0] else .tuple vs)) := rfl
def ResOk (P : Program) (N : Nat) (w0 : World) (M : Nat → Prop) (ds : List Deferred) (fr : Fr) (L : List Res) (r : ResultVar) (v : Value) : Prop :=
  ∀ a w, St N w0 M ds (get fr) L a w → (resRun a.tmps r).run P w = .ok v w
variable {fr : Fr}
theorem resTmp {t : Nat} {v : Value} (h : get fr t = some v) : ResOk P N w0 M ds fr L (.tmp t) v := fun a w hs => by
  have := hs.agr t v h
  simp only [resRun, Array.getD_eq_getD_getElem?, this, Option.getD_some]; rfl
theorem resCell {p t b T : Nat} {v : Value} {C : List Value} {off : Nat} {y : Ty} (hp : get fr p = some (.pointer (some ⟨b, off, none⟩))) (ht : tyOf P t = some y) (hr : y.desc.isRow = false) (hL : Has L (.blk b T C)) (hv : C[off]? = some v) : ResOk P N w0 M ds fr L (.cell p t) v := fun a w hs => by
  have h1 := hs.agr p _ hp
  have hb := hs.hold.has hL
  have := run_load_one ht hr w ⟨b, off, none⟩ ((blk_cell hb off).trans hv)
  simp only [Instr.loadAt, Instr.sureAddr, Sem.run_bind, Sem.run_pure, Result.andThen_ok] at this
  simp only [resRun, Array.getD_eq_getD_getElem?, h1, Option.getD_some, Sem.run_bind, asAddr, Sem.run_pure, Result.andThen_ok, this]
theorem resCells {p t b T : Nat} {C B : List Value} {off : Nat} {y : Ty} (hp : get fr p = some (.pointer (some ⟨b, off, none⟩))) (ht : tyOf P t = some y) (hr : y.desc.isRow = true) (hL : Has L (.blk b T C)) (hv : Seg C off B) (hz : y.size = B.length) : ResOk P N w0 M ds fr L (.cell p t) (.agg B.toArray) := fun a w hs => by
  have h1 := hs.agr p _ hp
  have hb := hs.hold.has hL
  have := run_load_rows ht hr hz (blk_range hb hv)
  simp only [Instr.loadAt, Instr.sureAddr, Sem.run_bind, Sem.run_pure, Result.andThen_ok] at this
  simp only [resRun, Array.getD_eq_getD_getElem?, h1, Option.getD_some, Sem.run_bind, asAddr, Sem.run_pure, Result.andThen_ok, this]
/-- A block's object turned. -/
theorem Keep.putObj {w : World} {b : Nat} {o : Obj} : Keep (· = b) w (w.putObj b o) := ⟨rfl, rfl, rfl, by simp, fun _ _ hn => World.putObj_heap_other hn⟩
theorem leaves_marks {fn : Func} {g : Nat → Option Value} {R : Ending → World → Prop} : ∀ (Ds : List Nat) (a : Act) (w : World), St N w0 M [] g (L ++ Ds.map dob) a w →
    (∀ w', St N w0 M [] g L a w' → ∃ v, (results fn a.tmps).run P w' = .ok v w' ∧ R (.returned v) w') → LeavesInM Fence.wide 0 P fn a.tmps R (Ds.map col) .returning w
  | [], a, w, hs, h => h w (by simpa using hs)
  | D :: Ds, a, w, hs, h => by
    have hp := hs.perm (L' := dob D :: (L ++ Ds.map dob)) (by simpa using List.perm_middle)
    have hD : w.heap[D]? = some (.deferred (some [])) := hp.hold.all _ List.mem_cons_self
    refine ⟨by simp, .inl ⟨D, _, rfl, run_takeDeferred hD, leaves_marks Ds a _ ⟨hp.size, hp.agr, ?_, ?_⟩ h⟩⟩
    · exact hp.keep.trans Keep.putObj (fun x hx => by subst hx; exact hp.hold.mine _ List.mem_cons_self x rfl)
    · exact hp.hold.tail.keep Keep.putObj (fun r hr b hb hb' => by subst hb'; exact (List.pairwise_cons.1 hp.hold.apart).1 r hr b rfl hb)
theorem ret_of {fn : Func} {post : Value → List Res → Prop} {v : Value} {R : List Res} (hres : ∀ a w, St N w0 M [] (get fr) L a w → (results fn a.tmps).run P w = .ok v w) (hR : SubR R L) (hp : post v R) (e : Exit) (he : e = .ret ∨ e = .normal) :
    SyX N w0 M [] (bodyPostM Fence.wide 0 P fn (FnR w0 M post) e) fr L := by
  rintro a w ⟨Ds, hd, hs⟩
  rw [List.append_nil] at hd
  have key : LeavesInM Fence.wide 0 P fn a.tmps (FnR w0 M post) a.defers .returning w := by
    rw [hd]; exact leaves_marks Ds a w hs fun w' hs' => ⟨v, hres a w' hs', v, R, rfl, hp, hs'.keep, hs'.hold.subR hR⟩
  rcases he with rfl | rfl
  · exact key
  · exact key
theorem results0 {fn : Func} (h : fn.results = #[]) (a : Act) (w : World) : (results fn a.tmps).run P w = .ok (.tuple #[]) w := by simp [results, h]
theorem results1 {fn : Func} {r : ResultVar} {v : Value} (h : fn.results = #[r]) (h1 : ResOk P N w0 M ds fr L r v) (a : Act) (w : World) (hs : St N w0 M ds (get fr) L a w) : (results fn a.tmps).run P w = .ok v w := by
  have e1 := h1 a w hs
  rw [results_resRun, h]; simp [e1]
theorem results2 {fn : Func} {r1 r2 : ResultVar} {v1 v2 : Value} (h : fn.results = #[r1, r2]) (h1 : ResOk P N w0 M ds fr L r1 v1) (h2 : ResOk P N w0 M ds fr L r2 v2) (a : Act) (w : World) (hs : St N w0 M ds (get fr) L a w) : (results fn a.tmps).run P w = .ok (.tuple #[v1, v2]) w := by
  have e1 := h1 a w hs
  have e2 := h2 a w hs
  rw [results_resRun, h]; simp [e1, e2]
theorem results3 {fn : Func} {r1 r2 r3 : ResultVar} {v1 v2 v3 : Value} (h : fn.results = #[r1, r2, r3]) (h1 : ResOk P N w0 M ds fr L r1 v1) (h2 : ResOk P N w0 M ds fr L r2 v2) (h3 : ResOk P N w0 M ds fr L r3 v3) (a : Act) (w : World) (hs : St N w0 M ds (get fr) L a w) : (results fn a.tmps).run P w = .ok (.tuple #[v1, v2, v3]) w := by
  have e1 := h1 a w hs
  have e2 := h2 a w hs
  have e3 := h3 a w hs
  rw [results_resRun, h]; simp [e1, e2, e3]
variable {post : Value → List Res → Prop} {R : List Res} {fn : Func}
theorem ret0 (h : fn.results = #[]) (hR : SubR R L) (hp : post (.tuple #[]) R) : SyX N w0 M [] (bodyPostM Fence.wide 0 P fn (FnR w0 M post) .ret) fr L := ret_of (fun a w _ => results0 h a w) hR hp _ (.inl rfl)
theorem end0 (h : fn.results = #[]) (hR : SubR R L) (hp : post (.tuple #[]) R) : SyX N w0 M [] (bodyPostM Fence.wide 0 P fn (FnR w0 M post) .normal) fr L := ret_of (fun a w _ => results0 h a w) hR hp _ (.inr rfl)
theorem ret1 {r : ResultVar} {v : Value} (h : fn.results = #[r]) (h1 : ResOk P N w0 M [] fr L r v) (hR : SubR R L) (hp : post v R) : SyX N w0 M [] (bodyPostM Fence.wide 0 P fn (FnR w0 M post) .ret) fr L := ret_of (results1 h h1) hR hp _ (.inl rfl)
theorem ret2 {r1 r2 : ResultVar} {v1 v2 : Value} (h : fn.results = #[r1, r2]) (h1 : ResOk P N w0 M [] fr L r1 v1) (h2 : ResOk P N w0 M [] fr L r2 v2) (hR : SubR R L) (hp : post (.tuple #[v1, v2]) R) : SyX N w0 M [] (bodyPostM Fence.wide 0 P fn (FnR w0 M post) .ret) fr L := ret_of (results2 h h1 h2) hR hp _ (.inl rfl)
theorem ret3 {r1 r2 r3 : ResultVar} {v1 v2 v3 : Value} (h : fn.results = #[r1, r2, r3]) (h1 : ResOk P N w0 M [] fr L r1 v1) (h2 : ResOk P N w0 M [] fr L r2 v2) (h3 : ResOk P N w0 M [] fr L r3 v3) (hR : SubR R L) (hp : post (.tuple #[v1, v2, v3]) R) : SyX N w0 M [] (bodyPostM Fence.wide 0 P fn (FnR w0 M post) .ret) fr L := ret_of (results3 h h1 h2 h3) hR hp _ (.inl rfl)
end
end Go.Sy
