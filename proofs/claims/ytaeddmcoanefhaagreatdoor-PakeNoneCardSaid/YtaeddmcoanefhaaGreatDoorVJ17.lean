/- The logic of walks: scopes without jumps; calls of functions that bear first arguments (method values). -/
import Derived.Test.YtaeddmcoanefhaaGreatDoorVJ05
import Derived.Scope
set_option linter.all false
section
namespace Go
section
variable {F : Fence} {n : Nat} {P : Program} {Q : Exit → Act → World → Prop} {a : Act} {w : World}
theorem stepR_scope' {b : Frame} {k : List Item} {cs : List Frame} {c : Code} : step P (lone (b.atR a (.code (.scope c) :: k)) cs w) = .next (lone (b.atR a (.code c :: .inScope c :: k)) cs w) :=
  step_lone_go (by simp [stepG, stepG.exec, Frame.atR])
theorem stepR_inScope' {b : Frame} {k : List Item} {cs : List Frame} {c : Code} : step P (lone (b.atR a (.inScope c :: k)) cs w) = .next (lone (b.atR a k) cs w) :=
  step_lone_go (by simp [stepG, stepG.exec, Frame.atR])
theorem wpIn_scope_straight' {c : Code} (h : c.wpIn F n P (Exit.noGoto Q) a w) : (Code.scope c).wpIn F n P Q a w := by
  intro b k cs hro hb hr
  have h0 : (lone (b.atR a (.code (.scope c) :: k)) cs w).fenced P F := fenced_calm hb hr rfl
  obtain ⟨e, a₁, w₁, hq, harr⟩ := h b (.inScope c :: k) cs hro hb hr
  cases e with
  | normal => exact ⟨.normal, a₁, w₁, hq, .head h0 stepR_scope' (StepsIn.trans harr (.one (fenced_calm hb hr rfl) stepR_inScope'))⟩
  | exit id' =>
    have hx : exitTo id' (.inScope c :: k) = exitTo id' k := by simp [exitTo]
    exact ⟨.exit id', a₁, w₁, hq, fun k' hk => .head h0 stepR_scope' (harr.1 k' (by rw [hx]; exact hk)),
      fun hr' hk => let ⟨k₁, h1, h2⟩ := harr.2 hr' (by rw [hx]; exact hk); ⟨k₁, h1, .head h0 stepR_scope' h2⟩⟩
  | goto l => exact hq.elim
  | ret => exact ⟨_, a₁, w₁, hq, .of_steps (.one h0 stepR_scope') harr⟩
  | panic ch => exact ⟨_, a₁, w₁, hq, .of_steps (.one h0 stepR_scope') harr⟩
  | outgrown => exact ⟨_, a₁, w₁, hq, .of_steps (.one h0 stepR_scope') harr⟩
end
end Go
namespace Go.Sy
open Go
section
variable {P : Program} {ro : Option Nat} {N : Nat} {w0 : World} {M : Nat → Prop} {ds : List Deferred} {g : Nat → Option Value} {L : List Res} {o : Oper} {fr : Fr} {Q : Exit → Act → World → Prop}
theorem sy_scope {c : Code} (h : Sy P ro N w0 M ds c (Exit.noGoto Q) fr L) : Sy P ro N w0 M ds (.scope c) Q fr L := fun a w hs => wpIn_scope_straight' (h a w hs)
theorem syx_ng_r (h : SyX N w0 M ds (Q .ret) fr L) : SyX N w0 M ds (Exit.noGoto Q .ret) fr L := h
theorem op_callF {fo : Operand} {args : Array Operand} {tys : Array TypeId} {f : Nat} {fst vs cap : List Value} {post : Value → List Res → Prop}
    (ho : o.op = .call { callee := .value fo, args := args, argTypes := tys } := by exact rfl) (hf : ev g fo = some (.func (.func f) fst.toArray cap.toArray) := by exact rfl) (ha : evs g args.toList = some vs := by exact rfl)
    (he : ∀ args w, (callFunc f args).run P w = .ok (.enter f args) w := by exact en rfl)
    (hc : ∀ w X, Keep M w0 w → Holds w0.heap.size M (L ++ X) w → Fn P f (fst ++ vs ++ cap) w No post) : OpT P ro N w0 M ds o g L (fun v L' => ∃ R, L' = R ++ L ∧ post v R) := by
  intro a w X next Q hs hn
  refine ⟨fun _ _ => trivial, ?_⟩
  rw [Oper.semAt_plain (FW ro) _ _ (fun c hc => by rw [ho] at hc; cases hc)]
  have hargs : args.map a.eval = vs.toArray := Array.toList_inj.1 (by rw [Array.toList_map, hs.agr.evals ha])
  have hrun : (execOp a.eval o).run P w = .ok (.enter f (fst ++ vs ++ cap).toArray) w := by
    simp only [execOp, ho, resolve, hs.agr.eval hf, Deferred.ofValue, hargs, Sem.run_bind, Sem.run_pure, Result.andThen_ok, invoke]
    rw [show (fst.toArray ++ vs.toArray ++ cap.toArray : Array Value) = (fst ++ vs ++ cap).toArray by simp]
    exact he _ w
  rw [hrun]
  refine ⟨fun h => (by cases h), ?_⟩
  have hcall := hc w X hs.keep hs.hold
  have hin : CallsIn (FW ro) (0 - 1) P f (fst ++ vs ++ cap).toArray w (fun e w' => ∃ v R, e = .returned v ∧ post v R ∧ Keep No w w' ∧ Holds w.heap.size No R w') := (callsIn_wide (n := 0 - 1)).2 hcall
  refine CallsIn.mono hin ?_
  rintro e w' ⟨v, R, rfl, hp, hk, hh⟩
  have hkp : Keep M w0 w' := hs.keep.trans hk (fun b hb => hb.elim)
  refine hn v w' (R ++ L) ⟨R, rfl, hp⟩ hkp ?_
  have hL := hs.hold.keep hk (fun _ _ _ _ h => h)
  rw [List.append_assoc]
  refine ⟨fun r hr => ?_, ?_, fun r hr b hb => ?_⟩
  · rcases List.mem_append.1 hr with h | h
    · exact hh.all r h
    · exact hL.all r h
  · refine List.pairwise_append.2 ⟨hh.apart, hL.apart, fun r hr r' hr' b hb hb' => ?_⟩
    rcases hh.mine r hr b hb with h | h
    · have := Res.own_lt (hs.hold.all r' hr') hb'; omega
    · exact h.elim
  · rcases List.mem_append.1 hr with h | h
    · rcases hh.mine r h b hb with h' | h'
      · exact .inl (Nat.le_trans hs.keep.size h')
      · exact h'.elim
    · exact hL.mine r h b hb
theorem op_callFV {fo : Operand} {args : Array Operand} {tys : Array TypeId} {f : Nat} {fst vs cap : List Value} {v : Value}
    (hc : ∀ w X, Keep M w0 w → Holds w0.heap.size M (L ++ X) w → Fn P f (fst ++ vs ++ cap) w No (Gives v)) (ho : o.op = .call { callee := .value fo, args := args, argTypes := tys } := by exact rfl) (hf : ev g fo = some (.func (.func f) fst.toArray cap.toArray) := by exact rfl) (ha : evs g args.toList = some vs := by exact rfl)
    (he : ∀ args w, (callFunc f args).run P w = .ok (.enter f args) w := by exact en rfl) : OpT P ro N w0 M ds o g L (Det v L) :=
  (op_callF ho hf ha he hc).mono fun v' L' ⟨R, e, hv, hR⟩ => by subst hv; subst hR; exact ⟨rfl, e⟩
end
end Go.Sy
end
