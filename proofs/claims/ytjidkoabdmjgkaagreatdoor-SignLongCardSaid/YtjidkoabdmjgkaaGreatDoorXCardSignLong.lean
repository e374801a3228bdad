/- SignLong: for every input the call returns true and the input reads as it did; on the condition that the listed package-level variables hold what the text lays. -/
import Derived.Test.YtjidkoabdmjgkaaGreatDoorXCardKitSg2
import Derived.Test.YtjidkoabdmjgkaaGreatDoorXLaw20h
set_option linter.all false
namespace Go.Proofs.YtjidkoabdmjgkaaGreatDoor.signLong
open Go Go.Sy Go.Wd Go.Sh Go.RowKit Go.ChangeShapes Go.WideShapes Go.ChangeAt
set_option maxRecDepth 100000 in
set_option maxHeartbeats 1000000 in
theorem contract (H : Type) (enc : TypeId × Value → H) (W : World) (base : Nat) (args : Array Value) (ds gs : List (DataW H)) (before : List MemPlace)
    (hval : ∀ (j : Nat) t v, Tryz.f5.params[j]? = some t → args[j]? = some v → Value.okWide Tryz.prog W .any base t v)
    (hW : DataW.Whole enc Tryz.prog Tryz.f5.params.toList Rows.signLongSpec.vars false W args.toList ds gs before) (hL : laidMetH Tryz.prog Rows.signLongRow.laid W) :
    Calls Tryz.prog 5 args W fun e W' => ∃ v, e = .returned v ∧ Rows.signLongSpec.post enc Tryz.prog Tryz.f5 false true false false W args v W' := by
  have hL' : laidMet Tryz.prog Rows.signLongRow.laid W := hL
  have hG : GT W := zje hL' (.tail _ (.head _))
  have hT : Tab W No := zhO hL' (.tail _ (.tail _ (.head _))) (.tail _ (.tail _ (.tail _ (.head _))))
  have hS : ST W := zjh hL' (.tail _ (.tail _ (.tail _ (.tail _ (.head _)))))
  have hW' := hW
  obtain ⟨p, q, hA0, hV, -, -, -⟩ := hW'
  obtain ⟨rfl, -⟩ := trodVars_none hV
  have hA : DataW.TrodAll enc Tryz.prog W 0 (fun _ => true) true Tryz.f5.params.toList args.toList ds p := hA0
  have hp := Tryz.params5
  rw [hp] at hA hval
  obtain ⟨v0, vs0, d0, ds0, p0, q0, hargs, rfl, rfl, h0, r0⟩ := trodAll_cons hA
  obtain ⟨v1, vs1, d1, ds1, p1, q1, rfl, rfl, rfl, h1, r1⟩ := trodAll_cons r0
  obtain ⟨rfl, rfl, rfl⟩ := trodAll_nil r1
  obtain rfl : args = #[v0, v1] := by cases args; simp_all
  obtain ⟨z0, rfl, rfl, rfl, hw0⟩ := open_int (show Tryz.prog.underlying 3 = some (.int .i64) by kernel_rfl) (hval 0 3 v0 (by simp) (by simp)) h0
  obtain ⟨z1, rfl, rfl, rfl, hw1⟩ := open_int (show Tryz.prog.underlying 5 = some (.int .u8) by kernel_rfl) (hval 1 5 v1 (by simp) (by simp)) h1
  have hall : ∀ t ∈ ([3, 5] : List Nat), Nat.blt t Tryz.prog.types.size = true := by
    intro t ht
    simp only [List.mem_cons, List.not_mem_nil, or_false] at ht
    rcases ht with rfl | rfl <;> kernel_rfl
  have hts : ∀ t ∈ Tryz.f5.params.toList, t < Tryz.prog.types.size := fun t ht => by rw [hp] at ht; exact Nat.le_of_ble_eq_true (hall t (by simpa using ht))
  exact zhI (tb := 4) kids full hts rfl undBool rfl hW rfl (zih z0 z1 W hG hT hS (wfI20 hw0).1 (wfI20 hw0).2 (wfU20 hw1))
theorem zc8 (os : Os) : laidMet Tryz.prog Rows.signLongRow.laid ((laidWorldS os).forCall (fun _ _ => 0) ⟨#[], #[.int .i64 0, .int .u8 0], []⟩).memory :=
  laidMet_of_run' 8 (by kernel_rfl) (by kernel_rfl)
theorem reads (os : Os) {H : Type} (enc : TypeId × Value → H) : ∃ places, DataW.whole enc Tryz.prog ((laidWorldS os).forCall (fun _ _ => 0) ⟨#[], #[.int .i64 0, .int .u8 0], []⟩).memory Tryz.f5.params.toList Rows.signLongSpec.vars false (#[.int .i64 0, .int .u8 0] : Array Value).toList 8 = some ([.lit (.int .i64 0), .lit (.int .u8 0)], [], places) :=
  ⟨[], by kernel_rfl⟩
set_option maxRecDepth 100000 in
theorem lifted (os : Os) (started : os.Started) (H : Type) (enc : TypeId × Value → H) (F : Stop.Interp) :
    ReturnsInHanded {} Tryz.checked os 5 .any ((OpenSpec.ofChange Rows.signLongSpec).preRow enc Tryz.prog Tryz.f5 Rows.signLongRow.domain false Rows.signLongRow.laid) (((OpenSpec.ofChange Rows.signLongSpec).at F).post enc Tryz.prog Tryz.f5 false true false false) := by
  obtain ⟨places, hx⟩ := reads os enc
  refine returnsInHanded_of_row (C := Tryz.checked) (s := OpenSpec.ofChange Rows.signLongSpec) own started (by kernel_rfl) Tryz.func5
    (witness_row_atRef (enc := enc) (C := Tryz.checked) false (laidWorldS os) #[.int .i64 0, .int .u8 0] rfl (by kernel_rfl) (by kernel_rfl) (by kernel_rfl)
      (OpenSpec.preRow_of_cond 8 hx (by kernel_rfl) (fun k hk => by cases hk) (by kernel_rfl) (zc8 os))) ?_
  intro W base args ds gs before hval hW _ _ _ hL _ _
  exact contract H enc W base args ds gs before hval hW hL
theorem closed : joinedFacts Tryz.prog 5 Tryz.f5 (OpenSpec.ofChange Rows.signLongSpec).bare Rows.signLongRow = true := by
  unfold joinedFacts
  rw [zeg, zdr, zf2]
  kernel_rfl
theorem named : Tryz.prog.funcNamed Rows.signLongRow.func = some 5 := by kernel_rfl
theorem said : Rows.SignLongSaid :=
  OpenClaim.holds_of_cond 5 Tryz.f5 rfl rfl rfl rfl rfl rfl rfl ⟨rfl, rfl, rfl, rfl, rfl⟩ rfl rfl rfl rfl rfl named Tryz.func5 closed
    (of_decide_eq_true (by kernel_rfl)) (by unfold Func.isWrapper; first | (rw [if_pos (by decide +kernel)]; kernel_rfl) | (rw [if_neg (by decide +kernel)]; exact ⟨rfl, rfl⟩))
    (fun os started H enc _ F => by rw [OpenClaim.pre_eq_preRow]; exact lifted os started H enc F)
theorem plain (f : FuncId) (fn : Func) (hf : Tryz.pinned.checked.prog.funcNamed "watchword/watchwordlaw20.SignLong" = some f) (hfn : Tryz.pinned.checked.prog.funcs[f]? = some fn) :
    false = Tryz.pinned.checked.prog.looks [] ∧ ∀ (j : Nat) t, fn.params[j]? = some t → Tryz.pinned.checked.prog.wantsStandIn t = false := by
  obtain rfl : f = 5 := Option.some.inj ((show Tryz.prog.funcNamed "watchword/watchwordlaw20.SignLong" = some 5 by kernel_rfl).symm.trans hf) |>.symm
  obtain rfl : fn = Tryz.f5 := (Option.some.inj (Tryz.func5.symm.trans hfn)).symm
  refine ⟨by kernel_rfl, fun j t ht => ?_⟩
  rw [Tryz.params5] at ht
  have hall : ∀ t ∈ [3, 5], Tryz.prog.wantsStandIn t = false := by
    intro t ht
    simp only [List.mem_cons, List.not_mem_nil, or_false] at ht
    rcases ht with rfl | rfl <;> kernel_rfl
  exact hall t (by simpa using Array.mem_of_getElem? ht)
theorem card : Rows.SignLongCardSaid :=
  Claim7.holds_tied_plain_at .later [] _ _ _ _ said (fun _ h => by cases h) (by kernel_rfl) (fun _ h => by cases h) signLong_row_tie rfl ⟨rfl, rfl⟩ zf7 rfl plain (by kernel_rfl)
end Go.Proofs.YtjidkoabdmjgkaaGreatDoor.signLong
