/- The logic of walks: slices whose elements have several cells: literals, and made ones. -/
import Derived.Test.YtjidkoabdmjgkaaGreatDoorXJ07
set_option linter.all false
section
namespace Go.Sy
open Go
section
variable {P : Program} {ro : Option Nat} {N : Nat} {w0 : World} {M : Nat → Prop} {ds : List Deferred} {o : Oper} {g : Nat → Option Value} {L : List Res} {t : TypeId} {y : Ty}
theorem zgm (z0 : Value) (s n : Nat) : madeCells (List.replicate s z0).toArray n = (List.replicate n z0).toArray ∨ s = 0 := by
  rcases Nat.eq_zero_or_pos s with h | h
  · exact .inr h
  · left
    unfold madeCells
    apply Array.ext
    · simp
    · intro k h1 h2
      have hk : k % s < s := Nat.mod_lt _ h
      simp [hk]
theorem zdy {len e : Nat} {parts : Array (Nat × Operand)} {vs C : List Value} {z0 : Value} {ye : Ty} (he : tyOf P e = some ye) (hz : zeroC P e = some (List.replicate ye.size z0)) (hf : FillTo (fun i => some (i * ye.size, ye.size)) (List.zip (parts.toList.map (·.1)) vs) (List.replicate (len * ye.size) z0) C)
    (hs : len * ye.size ≤ 16777216) (hpos : 0 < len * ye.size) (ho : o.op = .buildSlice t len parts := by exact rfl) (hv : evs g (parts.toList.map (·.2)) = some vs := by exact rfl) (ht : tyOf P t = some y := by exact ty rfl) (hy : y.desc = .slice e := by exact rfl) :
    OpT P ro N w0 M ds o g L (fun v L' => ∃ b, v = .slice (some ⟨b, 0, none⟩) len len ∧ L' = .blk b e C :: L) :=
  OpT.run (by rw [ho]; rfl) fun a w X hst => by
    obtain ⟨d, i', hd, hi', hs', _⟩ := zO ht
    rw [hy] at hs'
    have := zat hs'; subst this
    obtain ⟨de, ie, hde, hie, _, hez, _⟩ := zO he
    obtain ⟨h2, h3⟩ := zaQ hst e C
    unfold zeroC at hz
    rw [hie] at hz
    simp only [Option.bind_some, Option.map_eq_some_iff] at hz
    obtain ⟨zv, hzv, hze⟩ := hz
    have hzs : zv.cells = (List.replicate ye.size z0).toArray := Array.toList_inj.1 (by rw [hze])
    have hp : ((parts.map fun (i, x) => (i, a.eval x)).toList) = List.zip (parts.toList.map (·.1)) vs := by
      have := hst.agr.evals hv
      rw [← this, Array.toList_map, List.map_map]
      generalize parts.toList = l
      induction l with
      | nil => rfl
      | cons p l ih => simp only [List.map_cons, List.zip_cons_cons, ih]; rfl
    have hm : madeCells zv.cells (len * ie.size) = (List.replicate (len * ye.size) z0).toArray := by
      rw [hzs, hez]
      rcases zgm z0 ye.size (len * ye.size) with h | h
      · exact h
      · rw [h, Nat.mul_zero] at hpos; omega
    have hrun := run_buildSlice (P := P) w t e len (parts.map fun (i, x) => (i, a.eval x)) C.toArray ie zv hd hie hzv (by rw [hez]; omega) (by rw [hez]; omega) (by
      rw [hp]
      have h4 := zf6 hf
      have e1 : (Array.range (len * ie.size)).map (zv.cells[· % zv.cells.size]!) = (List.replicate (len * ye.size) z0).toArray := hm
      rw [e1, hez]; exact h4)
    refine ⟨_, _, w.alloc (.cells C.toArray e), _, ?_, .inl rfl, ⟨w.heap.size, rfl, rfl⟩, h2, h3⟩
    simp [execOp, ho, hrun]
theorem zlo {e n : Nat} {lo co : Operand} {k1 k2 : IntKind} {z0 : Value} {l c : Int} {ye : Ty} (hz : zeroC P e = some (List.replicate ye.size z0)) (he : tyOf P e = some ye) (hb : ye.bytes * n ≤ 281474976710656) (hm : n ≤ maxLen) (hsz : 0 < ye.size) (hln : l = (n : Int) := by exact rfl) (hcn : c = (n : Int) := by exact rfl)
    (ho : o.op = .makeSlice t lo co := by exact rfl) (hl : ev g lo = some (.int k1 l) := by exact rfl) (hc : ev g co = some (.int k2 c) := by exact rfl) (ht : tyOf P t = some y := by exact ty rfl) (hy : y.desc = .slice e := by exact rfl) :
    OpT P ro N w0 M ds o g L (fun v L' => ∃ b, v = .slice (some ⟨b, 0, none⟩) n n ∧ L' = .blk b e (List.replicate (n * ye.size) z0) :: L) :=
  OpT.run (by rw [ho]; rfl) fun a w X hst => by
    obtain ⟨d, i', hd, hi', hs', _⟩ := zO ht
    rw [hy] at hs'
    have := zat hs'; subst this
    obtain ⟨de, ie, hde, hie, _, hez, heb, _⟩ := zO he
    unfold zeroC at hz
    rw [hie] at hz
    simp only [Option.bind_some, Option.map_eq_some_iff] at hz
    obtain ⟨zv, hzv, hze⟩ := hz
    subst hln; subst hcn
    obtain ⟨h2, h3⟩ := zaQ hst e (List.replicate (n * ye.size) z0)
    refine ⟨_, _, w.alloc (.cells (List.replicate (n * ye.size) z0).toArray e), _, ?_, .inl rfl, ⟨w.heap.size, rfl, rfl⟩, h2, h3⟩
    have hm' : n ≤ 9223372036854775807 := by unfold maxLen at hm; omega
    have hzs : zv.cells = (List.replicate ye.size z0).toArray := Array.toList_inj.1 (by rw [hze])
    have hr := run_make (P := P) w t e ie zv hd hie hzv k1 k2 n n (by omega) (by omega) (by rw [heb, ← Int.natCast_mul]; omega) (by omega)
    simp only [Int.toNat_natCast] at hr
    have e1 : madeCells zv.cells (n * ie.size) = (List.replicate (n * ye.size) z0).toArray := by
      rw [hez, hzs]
      rcases zgm z0 ye.size (n * ye.size) with h | h
      · exact h
      · omega
    rw [e1] at hr
    simp [execOp, ho, hst.agr.eval hl, hst.agr.eval hc, hr]
end
end Go.Sy
end
