/- CertLimits: for every input the call returns true and the input reads as it did; on the condition that the listed package-level variables hold what the text lays. -/
import Derived.Test.YtdnlngbjpdbffaaGreatDoorKLaw21c
set_option maxHeartbeats 1000000
set_option linter.all false
namespace Go.Proofs.YtdnlngbjpdbffaaGreatDoor.certLimits
open Go Go.Sy Go.Wd Go.Sh Go.RowKit Go.ChangeShapes Go.WideShapes Go.ChangeAt
set_option maxRecDepth 100000 in
theorem zd9(H:Type)(enc:TypeId×Value->H)(W:World)(base:Nat)(args:Array Value)(ds gs:List (DataW H))(before:List MemPlace)
  (m:∀(j:Nat) t v,Tryz.f7.params[j]?=some t->args[j]?=some v->Value.okWide Tryz.prog W .any base t v)
  (I:DataW.Whole enc Tryz.prog Tryz.f7.params.toList Rows.certLimitsSpec.vars false W args.toList ds gs before)(hL:laidMetH Tryz.prog Rows.certLimitsRow.laid W):
  Calls Tryz.prog 7 args W λe L=>∃v,e= .returned v/\Rows.certLimitsSpec.post enc Tryz.prog Tryz.f7 false true false false W args v L:=by
 have r:laidMet Tryz.prog Rows.certLimitsRow.laid W:=hL;have P:GT W:=zpI r (.tail _ (.head _));have R:Tab W No:=zmJ r (.tail _ (.tail _ (.head _))) (.tail _ (.tail _ (.tail _ (.head _))));have Q:ST W:=zpT r (.tail _ (.tail _ (.tail _ (.tail _ (.head _)))));have C:=I;obtain⟨p,q,B,S,-,-,-⟩:=C;obtain⟨rfl,-⟩:=trodVars_none S;have G:DataW.TrodAll enc Tryz.prog W 0 (λ_=>true) true Tryz.f7.params.toList args.toList ds p:=B;have J:=Tryz.params7;rw[J] at G m;obtain⟨v0,Y,d0,M,p0,q0,E,rfl,rfl,h0,V⟩:=trodAll_cons G;obtain⟨K,Z,d1,N,p1,q1,rfl,rfl,rfl,O,X⟩:=trodAll_cons V;obtain⟨rfl,rfl,rfl⟩:=trodAll_nil X;obtain rfl:args= #[v0,K]:=by cases args;simp_all
 obtain⟨z0,rfl,rfl,rfl,T⟩:=open_int (show Tryz.prog.underlying 3=some (.int .i64) by kernel_rfl) (m 0 3 v0 (by simp) (by simp)) h0;obtain⟨z1,rfl,rfl,rfl,U⟩:=open_int (show Tryz.prog.underlying 3=some (.int .i64) by kernel_rfl) (m 1 3 K (by simp) (by simp)) O;have w:∀t∈([3,3]:List Nat),Nat.blt t Tryz.prog.types.size=true:=by
  intro t A;simp only[List.mem_cons,List.not_mem_nil,or_false] at A;rcases A with rfl|rfl <;> kernel_rfl
 have F:∀t∈Tryz.f7.params.toList,t<Tryz.prog.types.size:=λt A=>by rw[J] at A;exact Nat.le_of_ble_eq_true (w t (by simpa using A))
 exact zmW (tb:=4) ztM zp9 F rfl zk1 rfl I rfl (zlY z0 z1 W P R Q)
theorem zge(os:Os):laidMet Tryz.prog Rows.certLimitsRow.laid ((zcv os).forCall (λ_ _=>0) ⟨#[],#[.int .i64 0,.int .i64 0],[]⟩).memory:=
 laidMet_of_run' 8 (by kernel_rfl) (by kernel_rfl)
theorem zfr(os:Os){H:Type}(enc:TypeId×Value->H):∃places,DataW.whole enc Tryz.prog ((zcv os).forCall (λ_ _=>0) ⟨#[],#[.int .i64 0,.int .i64 0],[]⟩).memory Tryz.f7.params.toList Rows.certLimitsSpec.vars false (#[.int .i64 0,.int .i64 0]:Array Value).toList 8=some ([.lit (.int .i64 0),.lit (.int .i64 0)],[],places):=
 ⟨[],by kernel_rfl⟩
set_option maxRecDepth 100000 in
theorem ziI(os:Os)(started:os.Started)(H:Type)(enc:TypeId×Value->H)(F:Stop.Interp):
  ReturnsInHanded {} Tryz.checked os 7 .any ((OpenSpec.ofChange Rows.certLimitsSpec).preRow enc Tryz.prog Tryz.f7 Rows.certLimitsRow.domain false Rows.certLimitsRow.laid) (((OpenSpec.ofChange Rows.certLimitsSpec).at F).post enc Tryz.prog Tryz.f7 false true false false):=by
 obtain⟨places,w⟩:=zfr os enc;refine returnsInHanded_of_row (C:=Tryz.checked) (s:=OpenSpec.ofChange Rows.certLimitsSpec) own started (by kernel_rfl) Tryz.func7
  (witness_row_atRef (enc:=enc) (C:=Tryz.checked) false (zcv os) #[.int .i64 0,.int .i64 0] rfl (by kernel_rfl) (by kernel_rfl) (by kernel_rfl)
   (OpenSpec.preRow_of_cond 8 w (by kernel_rfl) (λk t=>by cases t) (by kernel_rfl) (zge os))) ?_
 intro W base args m gs before j r _ _ _ q _ _;exact zd9 H enc W base args m gs before j r q
theorem ziJ:joinedFacts Tryz.prog 7 Tryz.f7 (OpenSpec.ofChange Rows.certLimitsSpec).bare Rows.certLimitsRow=true:=by
 unfold joinedFacts;rw[ziz,zgO,zkS];kernel_rfl
theorem zhO:Tryz.prog.funcNamed Rows.certLimitsRow.func=some 7:=by kernel_rfl
theorem znR:Rows.CertLimitsSaid:=
 OpenClaim.holds_of_cond 7 Tryz.f7 rfl rfl rfl rfl rfl rfl rfl ⟨rfl,rfl,rfl,rfl,rfl⟩ rfl rfl rfl rfl rfl zhO Tryz.func7 ziJ
  (of_decide_eq_true (by kernel_rfl)) (by unfold Func.isWrapper;first|rw[if_pos (by decide +kernel)];kernel_rfl|rw[if_neg (by decide +kernel)];exact⟨rfl,rfl⟩)
  (λos started H j _ F=>by rw[OpenClaim.pre_eq_preRow];exact ziI os started H j F)
theorem zgJ(f:FuncId)(fn:Func)(hf:Tryz.pinned.checked.prog.funcNamed "watchword/watchwordlaw21.CertLimits" =some f)(hfn:Tryz.pinned.checked.prog.funcs[f]?=some fn):
  true=Tryz.pinned.checked.prog.looks []/\∀(j:Nat) t,fn.params[j]?=some t->Tryz.pinned.checked.prog.wantsStandIn t=false:=by
 obtain rfl:f=7:=Option.some.inj ((show Tryz.prog.funcNamed "watchword/watchwordlaw21.CertLimits" =some 7 by kernel_rfl).symm.trans hf) |>.symm;obtain rfl:fn=Tryz.f7:=(Option.some.inj (Tryz.func7.symm.trans hfn)).symm
 refine⟨by kernel_rfl,λj t ht=>?_⟩;rw[Tryz.params7] at ht;have hall:∀t∈[3,3],Tryz.prog.wantsStandIn t=false:=by
  intro t ht;simp only[List.mem_cons,List.not_mem_nil,or_false] at ht;rcases ht with rfl|rfl <;> kernel_rfl
 exact hall t (by simpa using Array.mem_of_getElem? ht)
theorem card:Rows.CertLimitsCardSaid:=
 Claim7.holds_tied_plain_at .later [] _ _ _ _ znR (λ_ h=>by cases h) (by kernel_rfl) (λ_ h=>by cases h) certLimits_row_tie rfl ⟨rfl,rfl⟩ zkL rfl zgJ (by kernel_rfl)
end Go.Proofs.YtdnlngbjpdbffaaGreatDoor.certLimits
