/- The logic of walks: a struct of which not all fields are given. -/
import Derived.Test.YtjidkoabdmjgkaaDoorUSyMac
set_option linter.all false
namespace Go.Sy
open Go
inductive FillTo (pl : Nat → Option (Nat × Nat)) : List (Nat × Value) → List Value → List Value → Prop
  | nil {C : List Value} : FillTo pl [] C C
  | cons {i off n : Nat} {v : Value} {cs C C' : List Value} {rest : List (Nat × Value)} (hv : v.cells = cs.toArray) (hp : pl i = some (off, n)) (hl : cs.length = n) (hb : off + n ≤ C.length) (h : FillTo pl rest (setSeg C off cs) C') : FillTo pl ((i, v) :: rest) C C'
theorem fill_to {pl : Nat → Option (Nat × Nat)} {l : List (Nat × Value)} {C C' : List Value} (h : FillTo pl l C C') : Instr.fill pl C.toArray l = some C'.toArray := by
  induction h with
  | nil => simp [Instr.fill]
  | @cons i off n v cs C C' rest hv hp hl hb h ih =>
    simp only [Instr.fill, hp, hv]
    rw [if_neg (by simp; omega)]
    have e := put_cells cs (C.take off) (C.drop off) off 0 (by simp; omega) (by simp; omega)
    rw [List.take_append_drop, List.drop_drop] at e
    have e2 : (cs.toArray.zipIdx.foldl (fun (a : Array Value) (p : Value × Nat) => a.setIfInBounds (off + p.2) p.1) C.toArray) = (setSeg C off cs).toArray := by
      unfold setSeg; rw [← e]; simp
    have e3 : (cs.toArray.zipIdx.foldl (fun (a : Array Value) (x : Value × Nat) => match x with | (c, j) => a.setIfInBounds (off + j) c) C.toArray) = (setSeg C off cs).toArray := e2
    rw [e3]; exact ih
section
variable {P : Program} {ro : Option Nat} {N : Nat} {w0 : World} {M : Nat → Prop} {ds : List Deferred} {o : Oper} {g : Nat → Option Value} {L : List Res} {t : TypeId} {y : Ty}
theorem op_buildP {parts : Array (Nat × Operand)} {vs Z C : List Value} (hf : FillTo (nth y.flds) (List.zip (parts.toList.map (·.1)) vs) Z C) (ho : o.op = .build t parts := by exact rfl) (hv : evs g (parts.toList.map (·.2)) = some vs := by exact rfl) (ht : tyOf P t = some y := by exact ty rfl) (hy : y.desc = .struct #[] := by exact rfl)
    (hn : y.flds.all (fun p => !Nat.beq p.2 0) = true := by exact rfl) (hz : zeroC P t = some Z := by exact zc rfl) : OpT P ro N w0 M ds o g L (Det (.agg C.toArray) L) := by
  refine op_build ho hv ?_
  obtain ⟨d, i, hd, hi, hs, _, _, hfl⟩ := tyOf_spec ht
  rw [hy] at hs
  obtain ⟨fs, rfl⟩ := slim_struct hs
  simp only at hfl
  unfold zeroC at hz
  rw [hi] at hz
  simp only [Option.bind_some, Option.map_eq_some_iff] at hz
  obtain ⟨zv, hzv, hze⟩ := hz
  rw [hfl] at hn
  simp only [Program.built, hi, hd, hzv, mapM_places _ hn]
  have := fill_to hf
  rw [show zv.cells = Z.toArray by rw [← hze]]
  rw [show (fun x => (List.map (fun f => (f.offset, P.cellsOf f.type)) fs.toList).toArray[x]?) = nth y.flds by funext x; rw [nth_eq, hfl]; simp]
  rw [this]
end
end Go.Sy
