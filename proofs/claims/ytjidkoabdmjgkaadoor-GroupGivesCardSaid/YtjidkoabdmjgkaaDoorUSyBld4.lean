/- The logic of walks: a slice made with room to grow. -/
import Derived.Test.YtjidkoabdmjgkaaDoorUSyBld2
set_option linter.all false
namespace Go.Sy
open Go
section
variable {P : Program} {ro : Option Nat} {N : Nat} {w0 : World} {M : Nat → Prop} {ds : List Deferred} {o : Oper} {g : Nat → Option Value} {L : List Res} {t : TypeId} {y : Ty}
theorem op_makeCap {e n c' : Nat} {lo co : Operand} {k1 k2 : IntKind} {z0 : Value} {l c : Int} {ye : Ty} (hnc : n ≤ c') (hln : l = (n : Int) := by exact rfl) (hcn : c = (c' : Int) := by exact rfl) (ho : o.op = .makeSlice t lo co := by exact rfl) (hl : ev g lo = some (.int k1 l) := by exact rfl) (hc : ev g co = some (.int k2 c) := by exact rfl) (ht : tyOf P t = some y := by exact ty rfl) (hy : y.desc = .slice e := by exact rfl) (he : tyOf P e = some ye := by exact ty rfl)
    (hz : zeroC P e = some [z0] := by exact zc rfl) (h1 : ye.size = 1 := by exact rfl) (hb : ye.bytes * c' ≤ 281474976710656 := by first | (dsimp only; omega) | omega | fail) (hm : c' ≤ maxLen := by first | (unfold maxLen; omega) | fail) :
    OpT P ro N w0 M ds o g L (fun v L' => ∃ b, v = .slice (some ⟨b, 0, none⟩) n c' ∧ L' = .blk b e (List.replicate c' z0) :: L) :=
  OpT.run (by rw [ho]; rfl) fun a w X hst => by
    obtain ⟨d, i', hd, hi', hs', _⟩ := tyOf_spec ht
    rw [hy] at hs'
    have := slim_slice hs'; subst this
    obtain ⟨de, ie, hde, hie, _, hez, heb, _⟩ := tyOf_spec he
    unfold zeroC at hz
    rw [hie] at hz
    simp only [Option.bind_some, Option.map_eq_some_iff] at hz
    obtain ⟨zv, hzv, hze⟩ := hz
    subst hln; subst hcn
    obtain ⟨h2, h3⟩ := alloc_holds hst e (List.replicate c' z0)
    refine ⟨_, _, w.alloc (.cells (List.replicate c' z0).toArray e), _, ?_, .inl rfl, ⟨w.heap.size, rfl, rfl⟩, h2, h3⟩
    have hm' : c' ≤ 9223372036854775807 := by unfold maxLen at hm; omega
    have hzs : zv.cells = #[z0] := Array.toList_inj.1 hze
    have hr := run_make (P := P) w t e ie zv hd hie hzv k1 k2 n c' (by omega) (by omega) (by rw [heb, ← Int.natCast_mul]; omega) (by omega)
    simp only [Int.toNat_natCast] at hr
    have e1 : madeCells zv.cells (c' * ie.size) = (List.replicate c' z0).toArray := by
      rw [hez, h1, Nat.mul_one, hzs]; exact Array.toList_inj.1 (toList_madeCells_one z0 c')
    rw [e1] at hr
    simp [execOp, ho, hst.agr.eval hl, hst.agr.eval hc, hr]
end
end Go.Sy
