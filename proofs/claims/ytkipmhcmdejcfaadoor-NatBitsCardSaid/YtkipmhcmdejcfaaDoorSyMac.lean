/- The logic of walks: a cell that is read where a fact tells, not a resource. -/
import Derived.Test.YtkipmhcmdejcfaaDoorSyY2
set_option linter.all false
namespace Go.Sy
open Go Go.Wd
section
variable {P : Program} {ro : Option Nat} {N : Nat} {w0 : World} {M : Nat → Prop} {ds : List Deferred} {g : Nat → Option Value} {L : List Res} {o : Oper}
theorem op_loadR {t : TypeId} {x : Operand} {b off j : Nat} {B : List Value} {v : Value} {y : Ty} (h : Reads w0 M L b off B) (hv : B[j]? = some v) (ho : o.op = .load t x := by exact rfl) (hx : ev g x = some (.pointer (some ⟨b, off + j, none⟩)) := by exact rfl) (ht : tyOf P t = some y := by exact ty rfl) (hr : y.desc.isRow = false := by exact rfl) : OpT P ro N w0 M ds o g L (Det v L) :=
  OpT.still (by rw [ho]; rfl) fun a w X hs => by
    have hc := h w X hs.keep hs.hold j v hv
    simp [execOp, ho, hs.agr.eval hx, run_load_one ht hr w _ hc]
end
end Go.Sy
