/- GroupPowers: for every input the call returns true and the input reads as it did; on the condition that the listed package-level variables hold what the text lays. -/
import Derived.Test.YtjidkoabdmjgkaaDoorUCardKitG
import Derived.Test.YtjidkoabdmjgkaaDoorULaw03w
set_option linter.all false
namespace Go.Proofs.YtjidkoabdmjgkaaDoor.groupPowers
open Go Go.Sy Go.RowKit Go.ChangeShapes Go.WideShapes Go.ChangeAt
set_option maxRecDepth 100000 in
set_option maxHeartbeats 1000000 in
theorem contract (H : Type) (enc : TypeId × Value → H) (W : World) (base : Nat) (args : Array Value) (ds gs : List (DataW H)) (before : List MemPlace)
    (hval : ∀ (j : Nat) t v, Tryd.f4.params[j]? = some t → args[j]? = some v → Value.okWide Tryd.prog W .any base t v)
    (hW : DataW.Whole enc Tryd.prog Tryd.f4.params.toList Rows.groupPowersSpec.vars false W args.toList ds gs before) (hL : laidMetH Tryd.prog Rows.groupPowersRow.laid W) :
    Calls Tryd.prog 4 args W fun e W' => ∃ v, e = .returned v ∧ Rows.groupPowersSpec.post enc Tryd.prog Tryd.f4 false true false false W args v W' := by
  have hL' : laidMet Tryd.prog Rows.groupPowersRow.laid W := hL
  have hG : GT W := gt_of hL' (.tail _ (.head _))
  have hW' := hW
  obtain ⟨p, q, hA0, hV, -, -, -⟩ := hW'
  obtain ⟨rfl, -⟩ := trodVars_none hV
  have hA : DataW.TrodAll enc Tryd.prog W 0 (fun _ => true) true Tryd.f4.params.toList args.toList ds p := hA0
  have hp := Tryd.params4
  rw [hp] at hA hval
  obtain ⟨v0, vs0, d0, ds0, p0, q0, hargs, rfl, rfl, h0, r0⟩ := trodAll_cons hA
  obtain ⟨v1, vs1, d1, ds1, p1, q1, rfl, rfl, rfl, h1, r1⟩ := trodAll_cons r0
  obtain ⟨v2, vs2, d2, ds2, p2, q2, rfl, rfl, rfl, h2, r2⟩ := trodAll_cons r1
  obtain ⟨rfl, rfl, rfl⟩ := trodAll_nil r2
  obtain rfl : args = #[v0, v1, v2] := by cases args; simp_all
  obtain ⟨z0, rfl, rfl, rfl, hw0⟩ := open_int (show Tryd.prog.underlying 3 = some (.int .i64) by kernel_rfl) (hval 0 3 v0 (by simp) (by simp)) h0
  obtain ⟨a1, n1, c1, rfl⟩ := okWide_slice (P := Tryd.prog) (w := W) (r := .any) (base := base) (t := 22) undBytes (hval 1 22 v1 (by simp) (by simp))
  obtain ⟨a1', n1', c1', l1, e1, hn1, hc1, hm1, hsl1, hnil1⟩ := opened_bytes (P := Tryd.prog) undBytes undByte cellsByte h1 rfl
  cases e1
  obtain ⟨a2, n2, c2, rfl⟩ := okWide_slice (P := Tryd.prog) (w := W) (r := .any) (base := base) (t := 22) undBytes (hval 2 22 v2 (by simp) (by simp))
  obtain ⟨a2', n2', c2', l2, e2, hn2, hc2, hm2, hsl2, hnil2⟩ := opened_bytes (P := Tryd.prog) undBytes undByte cellsByte h2 rfl
  cases e2
  have hall : ∀ t ∈ ([3, 22, 22] : List Nat), Nat.blt t Tryd.prog.types.size = true := by
    intro t ht
    simp only [List.mem_cons, List.not_mem_nil, or_false] at ht
    rcases ht with rfl | rfl | rfl <;> kernel_rfl
  have hts : ∀ t ∈ Tryd.f4.params.toList, t < Tryd.prog.types.size := fun t ht => by rw [hp] at ht; exact Nat.le_of_ble_eq_true (hall t (by simpa using ht))
  exact law_of (tb := 4) kids full hts rfl undBool rfl hW rfl (groupPowers_fn z0 a1 a2 n1 c1 n2 c2 l1 l2 W hG hn1 hc1 hsl1 hn2 hc2 hsl2)
theorem laid_met (os : Os) : laidMet Tryd.prog Rows.groupPowersRow.laid ((laidWorldG os).forCall (fun _ _ => 0) ⟨#[], #[.int .i64 0, .slice none 0 0, .slice none 0 0], []⟩).memory :=
  laidMet_of_run' 8 (by kernel_rfl) (by kernel_rfl)
theorem reads (os : Os) {H : Type} (enc : TypeId × Value → H) : ∃ places, DataW.whole enc Tryd.prog ((laidWorldG os).forCall (fun _ _ => 0) ⟨#[], #[.int .i64 0, .slice none 0 0, .slice none 0 0], []⟩).memory Tryd.f4.params.toList Rows.groupPowersSpec.vars false (#[.int .i64 0, .slice none 0 0, .slice none 0 0] : Array Value).toList 8 = some ([.lit (.int .i64 0), .nil, .nil], [], places) :=
  ⟨[], by kernel_rfl⟩
set_option maxRecDepth 100000 in
theorem lifted (os : Os) (started : os.Started) (H : Type) (enc : TypeId × Value → H) (F : Stop.Interp) :
    ReturnsInHanded {} Tryd.checked os 4 .any ((OpenSpec.ofChange Rows.groupPowersSpec).preRow enc Tryd.prog Tryd.f4 Rows.groupPowersRow.domain false Rows.groupPowersRow.laid) (((OpenSpec.ofChange Rows.groupPowersSpec).at F).post enc Tryd.prog Tryd.f4 false true false false) := by
  obtain ⟨places, hx⟩ := reads os enc
  refine returnsInHanded_of_row (C := Tryd.checked) (s := OpenSpec.ofChange Rows.groupPowersSpec) own started (by kernel_rfl) Tryd.func4
    (witness_row_atRef (enc := enc) (C := Tryd.checked) false (laidWorldG os) #[.int .i64 0, .slice none 0 0, .slice none 0 0] rfl (by kernel_rfl) (by kernel_rfl) (by kernel_rfl)
      (OpenSpec.preRow_of_cond 8 hx (by kernel_rfl) (fun k hk => by cases hk) (by kernel_rfl) (laid_met os))) ?_
  intro W base args ds gs before hval hW _ _ _ hL _ _
  exact contract H enc W base args ds gs before hval hW hL
theorem closed : joinedFacts Tryd.prog 4 Tryd.f4 (OpenSpec.ofChange Rows.groupPowersSpec).bare Rows.groupPowersRow = true := by
  unfold joinedFacts
  rw [may_enter, lifts_final, make_is]
  kernel_rfl
theorem named : Tryd.prog.funcNamed Rows.groupPowersRow.func = some 4 := by kernel_rfl
theorem said : Rows.GroupPowersSaid :=
  OpenClaim.holds_of_cond 4 Tryd.f4 rfl rfl rfl rfl rfl rfl rfl ⟨rfl, rfl, rfl, rfl, rfl⟩ rfl rfl rfl rfl rfl named Tryd.func4 closed
    (of_decide_eq_true (by kernel_rfl)) (by unfold Func.isWrapper; first | (rw [if_pos (by decide +kernel)]; kernel_rfl) | (rw [if_neg (by decide +kernel)]; exact ⟨rfl, rfl⟩))
    (fun os started H enc _ F => by rw [OpenClaim.pre_eq_preRow]; exact lifted os started H enc F)
theorem plain (f : FuncId) (fn : Func) (hf : Tryd.pinned.checked.prog.funcNamed "watchword/watchwordlaw03.GroupPowers" = some f) (hfn : Tryd.pinned.checked.prog.funcs[f]? = some fn) :
    false = Tryd.pinned.checked.prog.looks [] ∧ ∀ (j : Nat) t, fn.params[j]? = some t → Tryd.pinned.checked.prog.wantsStandIn t = false := by
  obtain rfl : f = 4 := Option.some.inj ((show Tryd.prog.funcNamed "watchword/watchwordlaw03.GroupPowers" = some 4 by kernel_rfl).symm.trans hf) |>.symm
  obtain rfl : fn = Tryd.f4 := (Option.some.inj (Tryd.func4.symm.trans hfn)).symm
  refine ⟨by kernel_rfl, fun j t ht => ?_⟩
  rw [Tryd.params4] at ht
  have hall : ∀ t ∈ [3, 22, 22], Tryd.prog.wantsStandIn t = false := by
    intro t ht
    simp only [List.mem_cons, List.not_mem_nil, or_false] at ht
    rcases ht with rfl | rfl | rfl <;> kernel_rfl
  exact hall t (by simpa using Array.mem_of_getElem? ht)
theorem card : Rows.GroupPowersCardSaid :=
  Claim7.holds_tied_plain_at .later [] _ _ _ _ said (fun _ h => by cases h) (by kernel_rfl) (fun _ h => by cases h) groupPowers_row_tie rfl ⟨rfl, rfl⟩ main_is rfl plain (by kernel_rfl)
end Go.Proofs.YtjidkoabdmjgkaaDoor.groupPowers
