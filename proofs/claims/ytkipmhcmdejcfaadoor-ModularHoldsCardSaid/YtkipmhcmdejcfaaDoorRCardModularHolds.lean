/- ModularHolds: for every input the call returns true and the input reads as it did; on the condition that the listed package-level variables hold what the text lays. -/
import Derived.Test.YtkipmhcmdejcfaaDoorRCardKitN
import Derived.Test.YtkipmhcmdejcfaaDoorRLaw02h
set_option linter.all false
namespace Go.Proofs.YtkipmhcmdejcfaaDoor.modularHolds
open Go Go.Sy Go.RowKit Go.ChangeShapes Go.WideShapes Go.ChangeAt
set_option maxRecDepth 100000 in
set_option maxHeartbeats 1000000 in
theorem contract (H : Type) (enc : TypeId × Value → H) (W : World) (base : Nat) (args : Array Value) (ds gs : List (DataW H)) (before : List MemPlace)
    (hval : ∀ (j : Nat) t v, Tryd.f16.params[j]? = some t → args[j]? = some v → Value.okWide Tryd.prog W .any base t v)
    (hW : DataW.Whole enc Tryd.prog Tryd.f16.params.toList Rows.modularHoldsSpec.vars false W args.toList ds gs before) (hL : laidMetH Tryd.prog Rows.modularHoldsRow.laid W) :
    Calls Tryd.prog 16 args W fun e W' => ∃ v, e = .returned v ∧ Rows.modularHoldsSpec.post enc Tryd.prog Tryd.f16 false true false false W args v W' := by
  have hL' : laidMet Tryd.prog Rows.modularHoldsRow.laid W := hL
  have hW' := hW
  obtain ⟨p, q, hA0, hV, -, -, -⟩ := hW'
  obtain ⟨rfl, -⟩ := trodVars_none hV
  have hA : DataW.TrodAll enc Tryd.prog W 0 (fun _ => true) true Tryd.f16.params.toList args.toList ds p := hA0
  have hp := Tryd.params16
  rw [hp] at hA hval
  obtain ⟨v0, vs0, d0, ds0, p0, q0, hargs, rfl, rfl, h0, r0⟩ := trodAll_cons hA
  obtain ⟨v1, vs1, d1, ds1, p1, q1, rfl, rfl, rfl, h1, r1⟩ := trodAll_cons r0
  obtain ⟨v2, vs2, d2, ds2, p2, q2, rfl, rfl, rfl, h2, r2⟩ := trodAll_cons r1
  obtain ⟨v3, vs3, d3, ds3, p3, q3, rfl, rfl, rfl, h3, r3⟩ := trodAll_cons r2
  obtain ⟨v4, vs4, d4, ds4, p4, q4, rfl, rfl, rfl, h4, r4⟩ := trodAll_cons r3
  obtain ⟨v5, vs5, d5, ds5, p5, q5, rfl, rfl, rfl, h5, r5⟩ := trodAll_cons r4
  obtain ⟨rfl, rfl, rfl⟩ := trodAll_nil r5
  obtain rfl : args = #[v0, v1, v2, v3, v4, v5] := by cases args; simp_all
  obtain ⟨a0, n0, c0, rfl⟩ := okWide_slice (P := Tryd.prog) (w := W) (r := .any) (base := base) (t := 22) undBytes (hval 0 22 v0 (by simp) (by simp))
  obtain ⟨a0', n0', c0', l0, e0, hn0, hc0, hm0, hsl0, hnil0⟩ := opened_bytes (P := Tryd.prog) undBytes undByte cellsByte h0 rfl
  cases e0
  obtain ⟨a1, n1, c1, rfl⟩ := okWide_slice (P := Tryd.prog) (w := W) (r := .any) (base := base) (t := 22) undBytes (hval 1 22 v1 (by simp) (by simp))
  obtain ⟨a1', n1', c1', l1, e1, hn1, hc1, hm1, hsl1, hnil1⟩ := opened_bytes (P := Tryd.prog) undBytes undByte cellsByte h1 rfl
  cases e1
  obtain ⟨a2, n2, c2, rfl⟩ := okWide_slice (P := Tryd.prog) (w := W) (r := .any) (base := base) (t := 22) undBytes (hval 2 22 v2 (by simp) (by simp))
  obtain ⟨a2', n2', c2', l2, e2, hn2, hc2, hm2, hsl2, hnil2⟩ := opened_bytes (P := Tryd.prog) undBytes undByte cellsByte h2 rfl
  cases e2
  obtain ⟨a3, n3, c3, rfl⟩ := okWide_slice (P := Tryd.prog) (w := W) (r := .any) (base := base) (t := 22) undBytes (hval 3 22 v3 (by simp) (by simp))
  obtain ⟨a3', n3', c3', l3, e3, hn3, hc3, hm3, hsl3, hnil3⟩ := opened_bytes (P := Tryd.prog) undBytes undByte cellsByte h3 rfl
  cases e3
  obtain ⟨z4, rfl, rfl, rfl, hw4⟩ := open_int (show Tryd.prog.underlying 3 = some (.int .i64) by kernel_rfl) (hval 4 3 v4 (by simp) (by simp)) h4
  obtain ⟨z5, rfl, rfl, rfl, hw5⟩ := open_int (show Tryd.prog.underlying 3 = some (.int .i64) by kernel_rfl) (hval 5 3 v5 (by simp) (by simp)) h5
  have hall : ∀ t ∈ ([22, 22, 22, 22, 3, 3] : List Nat), Nat.blt t Tryd.prog.types.size = true := by
    intro t ht
    simp only [List.mem_cons, List.not_mem_nil, or_false] at ht
    rcases ht with rfl | rfl | rfl | rfl | rfl | rfl <;> kernel_rfl
  have hts : ∀ t ∈ Tryd.f16.params.toList, t < Tryd.prog.types.size := fun t ht => by rw [hp] at ht; exact Nat.le_of_ble_eq_true (hall t (by simpa using ht))
  exact law_of (tb := 4) kids full hts rfl undBool rfl hW rfl (modularHolds_fn a0 a1 a2 a3 n0 c0 n1 c1 n2 c2 n3 c3 l0 l1 l2 l3 z4 z5 W hn0 hc0 hsl0 hn1 hc1 hsl1 hn2 hc2 hsl2 hn3 hc3 hsl3 (by unfold maxLen at hm3; omega) (wfI64 hw4).1 (wfI64 hw4).2 (wfI64 hw5).1 (wfI64 hw5).2)
theorem laid_met (os : Os) : laidMet Tryd.prog Rows.modularHoldsRow.laid ((laidWorld os).forCall (fun _ _ => 0) ⟨#[], #[.slice none 0 0, .slice none 0 0, .slice none 0 0, .slice none 0 0, .int .i64 0, .int .i64 0], []⟩).memory :=
  laidMet_of_run' 8 (by kernel_rfl) (by kernel_rfl)
theorem reads (os : Os) {H : Type} (enc : TypeId × Value → H) : ∃ places, DataW.whole enc Tryd.prog ((laidWorld os).forCall (fun _ _ => 0) ⟨#[], #[.slice none 0 0, .slice none 0 0, .slice none 0 0, .slice none 0 0, .int .i64 0, .int .i64 0], []⟩).memory Tryd.f16.params.toList Rows.modularHoldsSpec.vars false (#[.slice none 0 0, .slice none 0 0, .slice none 0 0, .slice none 0 0, .int .i64 0, .int .i64 0] : Array Value).toList 8 = some ([.nil, .nil, .nil, .nil, .lit (.int .i64 0), .lit (.int .i64 0)], [], places) :=
  ⟨[], by kernel_rfl⟩
set_option maxRecDepth 100000 in
theorem lifted (os : Os) (started : os.Started) (H : Type) (enc : TypeId × Value → H) (F : Stop.Interp) :
    ReturnsInHanded {} Tryd.checked os 16 .any ((OpenSpec.ofChange Rows.modularHoldsSpec).preRow enc Tryd.prog Tryd.f16 Rows.modularHoldsRow.domain false Rows.modularHoldsRow.laid) (((OpenSpec.ofChange Rows.modularHoldsSpec).at F).post enc Tryd.prog Tryd.f16 false true false false) := by
  obtain ⟨places, hx⟩ := reads os enc
  refine returnsInHanded_of_row (C := Tryd.checked) (s := OpenSpec.ofChange Rows.modularHoldsSpec) own started (by kernel_rfl) Tryd.func16
    (witness_row_atRef (enc := enc) (C := Tryd.checked) false (laidWorld os) #[.slice none 0 0, .slice none 0 0, .slice none 0 0, .slice none 0 0, .int .i64 0, .int .i64 0] rfl (by kernel_rfl) (by kernel_rfl) (by kernel_rfl)
      (OpenSpec.preRow_of_cond 8 hx (by kernel_rfl) (fun k hk => by cases hk) (by kernel_rfl) (laid_met os))) ?_
  intro W base args ds gs before hval hW _ _ _ hL _ _
  exact contract H enc W base args ds gs before hval hW hL
theorem closed : joinedFacts Tryd.prog 16 Tryd.f16 (OpenSpec.ofChange Rows.modularHoldsSpec).bare Rows.modularHoldsRow = true := by
  unfold joinedFacts
  rw [may_enter, lifts_final, make_is]
  kernel_rfl
theorem named : Tryd.prog.funcNamed Rows.modularHoldsRow.func = some 16 := by kernel_rfl
theorem said : Rows.ModularHoldsSaid :=
  OpenClaim.holds_of_cond 16 Tryd.f16 rfl rfl rfl rfl rfl rfl rfl ⟨rfl, rfl, rfl, rfl, rfl⟩ rfl rfl rfl rfl rfl named Tryd.func16 closed
    (of_decide_eq_true (by kernel_rfl)) (by unfold Func.isWrapper; first | (rw [if_pos (by decide +kernel)]; kernel_rfl) | (rw [if_neg (by decide +kernel)]; exact ⟨rfl, rfl⟩))
    (fun os started H enc _ F => by rw [OpenClaim.pre_eq_preRow]; exact lifted os started H enc F)
theorem plain (f : FuncId) (fn : Func) (hf : Tryd.pinned.checked.prog.funcNamed "watchword/watchwordlaw02.ModularHolds" = some f) (hfn : Tryd.pinned.checked.prog.funcs[f]? = some fn) :
    false = Tryd.pinned.checked.prog.looks [] ∧ ∀ (j : Nat) t, fn.params[j]? = some t → Tryd.pinned.checked.prog.wantsStandIn t = false := by
  obtain rfl : f = 16 := Option.some.inj ((show Tryd.prog.funcNamed "watchword/watchwordlaw02.ModularHolds" = some 16 by kernel_rfl).symm.trans hf) |>.symm
  obtain rfl : fn = Tryd.f16 := (Option.some.inj (Tryd.func16.symm.trans hfn)).symm
  refine ⟨by kernel_rfl, fun j t ht => ?_⟩
  rw [Tryd.params16] at ht
  have hall : ∀ t ∈ [22, 22, 22, 22, 3, 3], Tryd.prog.wantsStandIn t = false := by
    intro t ht
    simp only [List.mem_cons, List.not_mem_nil, or_false] at ht
    rcases ht with rfl | rfl | rfl | rfl | rfl | rfl <;> kernel_rfl
  exact hall t (by simpa using Array.mem_of_getElem? ht)
theorem card : Rows.ModularHoldsCardSaid :=
  Claim7.holds_tied_plain_at .later [] _ _ _ _ said (fun _ h => by cases h) (by kernel_rfl) (fun _ h => by cases h) modularHolds_row_tie rfl ⟨rfl, rfl⟩ main_is rfl plain (by kernel_rfl)
end Go.Proofs.YtkipmhcmdejcfaaDoor.modularHolds
