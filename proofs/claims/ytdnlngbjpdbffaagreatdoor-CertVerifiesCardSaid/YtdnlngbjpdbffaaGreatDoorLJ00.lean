/- Proofs that stand everywhere. -/
import Derived.IntWalk
set_option linter.all false
section
namespace Go
theorem q_o {p:Prop}(h:p:=by omega):p:=h
theorem q_d {p:Prop}[Decidable p] (h:p:=by omega):decide p=true:=decide_eq_true h
theorem q_f {p:Prop}[Decidable p] (h: ¬p:=by omega):decide p=false:=decide_eq_false h
theorem q_e {p:Prop}(h:p:=by decide):p:=h
theorem q_p {p:Prop}(h:p:=by simp):p:=h
theorem q_w {p:Prop}(h:p:=by first|exact IntWalk.i64_in _ (by omega)|(rw [IntWalk.i64_in _ (by omega)];omega)):p:=h
end Go
end
