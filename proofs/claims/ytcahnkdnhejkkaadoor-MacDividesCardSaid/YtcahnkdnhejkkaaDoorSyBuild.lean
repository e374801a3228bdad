/- The logic of walks: literals of arrays and structs whose parts are all given, in order. -/
import Derived.Test.YtcahnkdnhejkkaaDoorSyData
set_option linter.all false
namespace Go.Sy
open Go
section
variable {P : Program} {ro : Option Nat} {N : Nat} {w0 : World} {M : Nat → Prop} {ds : List Deferred} {o : Oper} {g : Nat → Option Value} {L : List Res} {t : TypeId} {y : Ty}
/-- The parts fill the places one after the other: their cells, joined. -/
inductive Fits (pl : Nat → Option (Nat × Nat)) : Nat → Nat → List Value → List Value → Prop
  | nil {i off : Nat} : Fits pl i off [] []
  | cons {i off n : Nat} {v : Value} {cs vs R : List Value} (hv : v.cells = cs.toArray) (hp : pl i = some (off, n)) (hl : cs.length = n) (h : Fits pl (i + 1) (off + n) vs R) : Fits pl i off (v :: vs) (cs ++ R)
theorem Fits.one {pl : Nat → Option (Nat × Nat)} {i off : Nat} {v : Value} {vs R : List Value} (h1 : v.oneCell' = true) (hp : pl i = some (off, 1)) (h : Fits pl (i + 1) (off + 1) vs R) : Fits pl i off (v :: vs) (v :: R) :=
  Fits.cons (cs := [v]) (cells_one h1).2 hp rfl h
theorem Fits.last {pl : Nat → Option (Nat × Nat)} {i off n : Nat} {cs : List Value} (hp : pl i = some (off, n)) (hl : cs.length = n) : Fits pl i off [.agg cs.toArray] cs := by
  have := Fits.cons (pl := pl) (v := .agg cs.toArray) (cs := cs) rfl hp hl Fits.nil
  rwa [List.append_nil] at this
theorem Fits.agg {pl : Nat → Option (Nat × Nat)} {i off n : Nat} {cs vs R : List Value} (hp : pl i = some (off, n)) (hl : cs.length = n) (h : Fits pl (i + 1) (off + n) vs R) : Fits pl i off (.agg cs.toArray :: vs) (cs ++ R) := Fits.cons rfl hp hl h
theorem put_cells : ∀ (cs A D : List Value) (b k : Nat), A.length = b + k → cs.length ≤ D.length →
    ((cs.zipIdx k).foldl (fun (a : Array Value) p => a.setIfInBounds (b + p.2) p.1) (A ++ D).toArray) = (A ++ cs ++ D.drop cs.length).toArray
  | [], A, D, b, k, _, _ => by simp
  | c :: cs, A, D, b, k, h, hl => by
    obtain ⟨d, D', rfl⟩ : ∃ d D', D = d :: D' := by cases D with
      | nil => simp at hl
      | cons d D' => exact ⟨d, D', rfl⟩
    rw [List.zipIdx_cons, List.foldl_cons]
    have e : ((A ++ d :: D').toArray.setIfInBounds (b + k) c) = ((A ++ [c]) ++ D').toArray := by
      rw [← h]; simp
    have := put_cells cs (A ++ [c]) D' b (k + 1) (by simp; omega) (by simpa using hl)
    simp only at *
    rw [e, this]; simp
theorem fill_fits {pl : Nat → Option (Nat × Nat)} : ∀ (vs : List Value) (i off : Nat) (R A D : List Value), Fits pl i off vs R → A.length = off → D.length = R.length →
    Instr.fill pl (A ++ D).toArray ((vs.zipIdx i).map fun p => (p.2, p.1)) = some (A ++ R).toArray
  | [], i, off, R, A, D, h, ha, hd => by
    cases h
    have : D = [] := List.length_eq_zero_iff.1 hd
    subst this; simp [Instr.fill]
  | v :: vs, i, off, R, A, D, h, ha, hd => by
    cases h with
    | @cons _ _ n _ cs _ R' hv hp hl h' =>
      simp only [List.zipIdx_cons, List.map_cons, Instr.fill, hp, hv]
      rw [List.length_append] at hd
      rw [if_neg (by simp; omega)]
      have e := put_cells cs A D off 0 (by omega) (by omega)
      have e2 : (cs.toArray.zipIdx.foldl (fun (a : Array Value) (p : Value × Nat) => a.setIfInBounds (off + p.2) p.1) (A ++ D).toArray) = (A ++ cs ++ D.drop cs.length).toArray := by rw [← e]; simp
      have e3 : (cs.toArray.zipIdx.foldl (fun (a : Array Value) (x : Value × Nat) => match x with | (c, j) => a.setIfInBounds (off + j) c) (A ++ D).toArray) = (A ++ cs ++ D.drop cs.length).toArray := e2
      rw [e3]
      have ih := fill_fits vs (i + 1) (off + n) R' (A ++ cs) (D.drop cs.length) h' (by simp; omega) (by simp; omega)
      rw [ih]; simp
theorem parts_ordered (a : Act) : ∀ (l : List (Nat × Operand)) (k : Nat), ordered k l = true → l.map (fun p => (p.1, a.eval p.2)) = ((l.map fun p => a.eval p.2).zipIdx k).map fun p => (p.2, p.1)
  | [], k, _ => rfl
  | p :: l, k, hk => by
    simp only [ordered, Bool.and_eq_true] at hk
    have := Nat.eq_of_beq_eq_true hk.1
    simp only [List.map_cons, List.zipIdx_cons, parts_ordered a l (k + 1) hk.2, this]
theorem zip_ordered : ∀ (l : List (Nat × Operand)) (k : Nat) (vs : List Value), ordered k l = true → vs.length = l.length → List.zip (l.map (·.1)) vs = (vs.zipIdx k).map fun p => (p.2, p.1)
  | [], k, vs, _, hl => by have : vs = [] := List.length_eq_zero_iff.1 hl; subst this; rfl
  | p :: l, k, [], _, hl => by simp at hl
  | p :: l, k, v :: vs, hk, hl => by
    simp only [ordered, Bool.and_eq_true] at hk
    have := Nat.eq_of_beq_eq_true hk.1
    simp only [List.map_cons, List.zip_cons_cons, List.zipIdx_cons, zip_ordered l (k + 1) vs hk.2 (by simpa using hl), this]
theorem evs_len {g : Nat → Option Value} : ∀ {l : List Operand} {vs : List Value}, evs g l = some vs → vs.length = l.length := by
  intro l
  induction l with
  | nil => intro vs h; simp [evs] at h; subst h; rfl
  | cons x l ih =>
    intro vs h
    simp only [evs] at h
    split at h
    · rename_i h1 h2; cases h; simp [ih h2]
    · cases h
theorem op_buildA {n e : Nat} {parts : Array (Nat × Operand)} {vs R Z : List Value} {ye : Ty} (ho : o.op = .build t parts := by exact rfl) (hp : ordered 0 parts.toList = true := by exact rfl) (hv : evs g (parts.toList.map (·.2)) = some vs := by exact rfl) (ht : tyOf P t = some y := by exact ty rfl) (hy : y.desc = .array n e := by exact rfl)
    (he : tyOf P e = some ye := by exact ty rfl) (hz : zeroC P t = some Z := by exact zc rfl) (hf : Fits (fun i => some (i * ye.size, ye.size)) 0 0 vs R := by repeat (first | exact Fits.nil | exact Fits.last rfl (by first | rfl | (simp only [List.length_map, List.length_set, List.length_replicate, List.length_append]; omega) | (simp only [List.length_map]; first | assumption | omega) | (simp; omega) | fail) | apply Fits.one rfl rfl | apply Fits.agg rfl (by first | rfl | (simp only [List.length_map, List.length_set, List.length_replicate, List.length_append]; omega) | (simp only [List.length_map]; first | assumption | omega) | (simp; omega) | fail) | fail)) (hl : Z.length = R.length := by first | rfl | (simp only [List.length_map, List.length_set, List.length_replicate, List.length_append]; omega) | (simp only [List.length_map]; first | assumption | omega) | (simp; omega) | fail) : OpT P ro N w0 M ds o g L (Det (.agg R.toArray) L) := by
  refine op_build ho hv ?_
  obtain ⟨d, i, hd, hi, hs, _⟩ := tyOf_spec ht
  rw [hy] at hs
  have := slim_array hs; subst this
  obtain ⟨de, ie, hde, hie, _, hez, _⟩ := tyOf_spec he
  unfold zeroC at hz
  rw [hi] at hz
  simp only [Option.bind_some, Option.map_eq_some_iff] at hz
  obtain ⟨zv, hzv, hze⟩ := hz
  rw [zip_ordered _ 0 vs hp (by simpa using evs_len hv)]
  simp only [Program.built, hi, hd, hzv, hie, hez]
  have := fill_fits vs 0 0 R [] Z hf rfl hl
  rw [show zv.cells = ([] ++ Z).toArray by rw [← hze]; simp]
  rw [this]; rfl
theorem mapM_places {P : Program} : ∀ (l : List Field), (l.map fun f => (f.offset, P.cellsOf f.type)).all (fun p => !Nat.beq p.2 0) = true →
    l.mapM (fun f => (P.info? f.type).map fun i => (f.offset, i.size)) = some (l.map fun f => (f.offset, P.cellsOf f.type))
  | [], _ => rfl
  | f :: l, h => by
    simp only [List.map_cons, List.all_cons, Bool.and_eq_true] at h
    obtain ⟨h1, h2⟩ := h
    rw [List.mapM_cons, mapM_places l h2]
    cases hi : P.info? f.type with
    | none =>
      have : P.cellsOf f.type = 0 := by simp [Program.cellsOf, hi]
      rw [this] at h1; cases h1
    | some i => simp [Program.cellsOf, hi]
theorem op_buildS {parts : Array (Nat × Operand)} {vs R Z : List Value} (ho : o.op = .build t parts := by exact rfl) (hp : ordered 0 parts.toList = true := by exact rfl) (hv : evs g (parts.toList.map (·.2)) = some vs := by exact rfl) (ht : tyOf P t = some y := by exact ty rfl) (hy : y.desc = .struct #[] := by exact rfl)
    (hn : y.flds.all (fun p => !Nat.beq p.2 0) = true := by exact rfl) (hz : zeroC P t = some Z := by exact zc rfl) (hf : Fits (nth y.flds) 0 0 vs R := by repeat (first | exact Fits.nil | exact Fits.last rfl (by first | rfl | (simp only [List.length_map, List.length_set, List.length_replicate, List.length_append]; omega) | (simp only [List.length_map]; first | assumption | omega) | (simp; omega) | fail) | apply Fits.one rfl rfl | apply Fits.agg rfl (by first | rfl | (simp only [List.length_map, List.length_set, List.length_replicate, List.length_append]; omega) | (simp only [List.length_map]; first | assumption | omega) | (simp; omega) | fail) | fail)) (hl : Z.length = R.length := by first | rfl | (simp only [List.length_map, List.length_set, List.length_replicate, List.length_append]; omega) | (simp only [List.length_map]; first | assumption | omega) | (simp; omega) | fail) : OpT P ro N w0 M ds o g L (Det (.agg R.toArray) L) := by
  refine op_build ho hv ?_
  obtain ⟨d, i, hd, hi, hs, _, _, hfl⟩ := tyOf_spec ht
  rw [hy] at hs
  obtain ⟨fs, rfl⟩ := slim_struct hs
  simp only at hfl
  unfold zeroC at hz
  rw [hi] at hz
  simp only [Option.bind_some, Option.map_eq_some_iff] at hz
  obtain ⟨zv, hzv, hze⟩ := hz
  rw [zip_ordered _ 0 vs hp (by simpa using evs_len hv)]
  rw [hfl] at hn
  simp only [Program.built, hi, hd, hzv, mapM_places _ hn]
  have := fill_fits vs 0 0 R [] Z hf rfl hl
  rw [show zv.cells = ([] ++ Z).toArray by rw [← hze]; simp]
  rw [show (fun x => (List.map (fun f => (f.offset, P.cellsOf f.type)) fs.toList).toArray[x]?) = nth y.flds by funext x; rw [nth_eq, hfl]; simp]
  rw [this]; rfl
theorem op_build0 {Z : List Value} (ho : o.op = .build t #[]) (ht : tyOf P t = some y) (hy : (y.desc = .struct #[] ∧ y.flds.all (fun p => !Nat.beq p.2 0) = true) ∨ ∃ n e ye, y.desc = .array n e ∧ tyOf P e = some ye) (hz : zeroC P t = some Z) : OpT P ro N w0 M ds o g L (Det (.agg Z.toArray) L) := by
  refine op_build (vs := []) ho rfl ?_
  obtain ⟨d, i, hd, hi, hs, _, _, hfl⟩ := tyOf_spec ht
  unfold zeroC at hz
  rw [hi] at hz
  simp only [Option.bind_some, Option.map_eq_some_iff] at hz
  obtain ⟨zv, hzv, hze⟩ := hz
  rcases hy with ⟨hy, hn⟩ | ⟨n, e, ye, hy, he⟩
  · rw [hy] at hs
    obtain ⟨fs, rfl⟩ := slim_struct hs
    simp only at hfl
    rw [hfl] at hn
    simp [Program.built, hi, hd, hzv, mapM_places _ hn, Instr.fill, ← hze]
  · rw [hy] at hs
    have := slim_array hs; subst this
    obtain ⟨de, ie, hde, hie, _, hez, _⟩ := tyOf_spec he
    simp [Program.built, hi, hd, hzv, hie, Instr.fill, ← hze]
end
end Go.Sy
