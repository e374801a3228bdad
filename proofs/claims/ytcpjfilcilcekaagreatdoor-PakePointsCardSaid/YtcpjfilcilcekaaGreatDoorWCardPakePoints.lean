/- PakePoints: for every input the call returns true and the input reads as it did; on the condition that the listed package-level variables hold what the text lays. -/
import Derived.Test.YtcpjfilcilcekaaGreatDoorWJ25
import Derived.Test.YtcpjfilcilcekaaGreatDoorWLaw33p
set_option linter.all false
namespace Go.Proofs.YtcpjfilcilcekaaGreatDoor.pakePoints
open Go Go.Sy Go.Wd Go.Sh Go.RowKit Go.ChangeShapes Go.WideShapes Go.ChangeAt
set_option maxRecDepth 100000 in
set_option maxHeartbeats 1000000 in
theorem contract (H:Type) (enc:TypeId×Value->H) (W:World) (base:Nat) (args:Array Value) (ds gs:List (DataW H)) (before:List MemPlace)
    (hval: ∀(j:Nat) t v,Tryz.f6.params[j]?=some t->args[j]?=some v->Value.okWide Tryz.prog W .any base t v)
    (hW:DataW.Whole enc Tryz.prog Tryz.f6.params.toList Rows.pakePointsSpec.vars false W args.toList ds gs before) (hL:laidMetH Tryz.prog Rows.pakePointsRow.laid W):
    Calls Tryz.prog 6 args W λe W'=>∃v,e= .returned v/\Rows.pakePointsSpec.post enc Tryz.prog Tryz.f6 false true false false W args v W':=by
  have hL':laidMet Tryz.prog Rows.pakePointsRow.laid W:=hL
  have hG:GT W:=zoI hL' (.tail _ (.tail _ (.head _)))
  have hT:Tab W No:=zmI hL' (.tail _ (.tail _ (.tail _ (.head _)))) (.tail _ (.tail _ (.tail _ (.tail _ (.head _)))))
  obtain ⟨kb,ko,kc,hR⟩:=zkk hL' (.tail _ (.head _))
  have hW':=hW
  obtain ⟨p,q,hA0,hV,-,-,-⟩:=hW'
  obtain ⟨rfl,-⟩:=trodVars_none hV
  have hA:DataW.TrodAll enc Tryz.prog W 0 (λ_=>true) true Tryz.f6.params.toList args.toList ds p:=hA0
  have hp:=Tryz.params6
  rw [hp] at hA hval
  obtain ⟨v0,vs0,d0,ds0,p0,q0,hargs,rfl,rfl,h0,r0⟩:=trodAll_cons hA
  obtain ⟨rfl,rfl,rfl⟩:=trodAll_nil r0
  obtain rfl:args= #[v0]:=by cases args;simp_all
  obtain ⟨z0,rfl,rfl,rfl,hw0⟩:=open_int (show Tryz.prog.underlying 3=some (.int .i64) by kernel_rfl) (hval 0 3 v0 (by simp) (by simp)) h0
  have hall: ∀t∈([3]:List Nat),Nat.blt t Tryz.prog.types.size=true:=by
    intro t ht
    simp only [List.mem_cons,List.not_mem_nil,or_false] at ht
    rcases ht with rfl <;> kernel_rfl
  have hts: ∀t∈Tryz.f6.params.toList,t < Tryz.prog.types.size:=λt ht=>by rw [hp] at ht;exact Nat.le_of_ble_eq_true (hall t (by simpa using ht))
  exact zlt (tb:=4) kids full hts rfl undBool rfl hW rfl (zii zg1 z0 kb ko kc W hT hG hR)
theorem zgk (os:Os):laidMet Tryz.prog Rows.pakePointsRow.laid ((laidWorldR os).forCall (λ_ _=>0) ⟨#[],#[.int .i64 0],[]⟩).memory:=
  laidMet_of_run' 8 (by kernel_rfl) (by kernel_rfl)
theorem reads (os:Os) {H:Type}(enc:TypeId×Value->H): ∃places,DataW.whole enc Tryz.prog ((laidWorldR os).forCall (λ_ _=>0) ⟨#[],#[.int .i64 0],[]⟩).memory Tryz.f6.params.toList Rows.pakePointsSpec.vars false (#[.int .i64 0]:Array Value).toList 8=some ([.lit (.int .i64 0)],[],places):=
  ⟨[],by kernel_rfl⟩
set_option maxRecDepth 100000 in
theorem lifted (os:Os) (started:os.Started) (H:Type) (enc:TypeId×Value->H) (F:Stop.Interp):
    ReturnsInHanded {} Tryz.checked os 6 .any ((OpenSpec.ofChange Rows.pakePointsSpec).preRow enc Tryz.prog Tryz.f6 Rows.pakePointsRow.domain false Rows.pakePointsRow.laid) (((OpenSpec.ofChange Rows.pakePointsSpec).at F).post enc Tryz.prog Tryz.f6 false true false false):=by
  obtain ⟨places,hx⟩:=reads os enc
  refine returnsInHanded_of_row (C:=Tryz.checked) (s:=OpenSpec.ofChange Rows.pakePointsSpec) own started (by kernel_rfl) Tryz.func6
    (witness_row_atRef (enc:=enc) (C:=Tryz.checked) false (laidWorldR os) #[.int .i64 0] rfl (by kernel_rfl) (by kernel_rfl) (by kernel_rfl)
      (OpenSpec.preRow_of_cond 8 hx (by kernel_rfl) (λk hk=>by cases hk) (by kernel_rfl) (zgk os))) ?_
  intro W base args ds gs before hval hW _ _ _ hL _ _
  exact contract H enc W base args ds gs before hval hW hL
theorem closed:joinedFacts Tryz.prog 6 Tryz.f6 (OpenSpec.ofChange Rows.pakePointsSpec).bare Rows.pakePointsRow=true:=by
  unfold joinedFacts
  rw [zhy,zf3,zkw]
  kernel_rfl
theorem named:Tryz.prog.funcNamed Rows.pakePointsRow.func=some 6:=by kernel_rfl
theorem said:Rows.PakePointsSaid:=
  OpenClaim.holds_of_cond 6 Tryz.f6 rfl rfl rfl rfl rfl rfl rfl ⟨rfl,rfl,rfl,rfl,rfl⟩ rfl rfl rfl rfl rfl named Tryz.func6 closed
    (of_decide_eq_true (by kernel_rfl)) (by unfold Func.isWrapper;first|(rw [if_pos (by decide +kernel)];kernel_rfl)|(rw [if_neg (by decide +kernel)];exact ⟨rfl,rfl⟩))
    (λos started H enc _ F=>by rw [OpenClaim.pre_eq_preRow];exact lifted os started H enc F)
theorem plain (f:FuncId) (fn:Func) (hf:Tryz.pinned.checked.prog.funcNamed "watchword/watchwordlaw33.PakePoints" =some f) (hfn:Tryz.pinned.checked.prog.funcs[f]?=some fn):
    false=Tryz.pinned.checked.prog.looks []/\ ∀(j:Nat) t,fn.params[j]?=some t->Tryz.pinned.checked.prog.wantsStandIn t=false:=by
  obtain rfl:f=6:=Option.some.inj ((show Tryz.prog.funcNamed "watchword/watchwordlaw33.PakePoints" =some 6 by kernel_rfl).symm.trans hf) |>.symm
  obtain rfl:fn=Tryz.f6:=(Option.some.inj (Tryz.func6.symm.trans hfn)).symm
  refine ⟨by kernel_rfl,λj t ht=>?_⟩
  rw [Tryz.params6] at ht
  have hall: ∀t∈[3],Tryz.prog.wantsStandIn t=false:=by
    intro t ht
    simp only [List.mem_cons,List.not_mem_nil,or_false] at ht
    rcases ht with rfl <;> kernel_rfl
  exact hall t (by simpa using Array.mem_of_getElem? ht)
theorem card:Rows.PakePointsCardSaid:=
  Claim7.holds_tied_plain_at .later [] _ _ _ _ said (λ_ h=>by cases h) (by kernel_rfl) (λ_ h=>by cases h) pakePoints_row_tie rfl ⟨rfl,rfl⟩ zkA rfl plain (by kernel_rfl)
end Go.Proofs.YtcpjfilcilcekaaGreatDoor.pakePoints
