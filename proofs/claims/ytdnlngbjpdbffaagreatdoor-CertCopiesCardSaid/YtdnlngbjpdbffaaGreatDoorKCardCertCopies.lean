/- CertCopies: for every input the call returns true and the input reads as it did; on the condition that the listed package-level variables hold what the text lays. -/
import Derived.Test.YtdnlngbjpdbffaaGreatDoorKCardKitCt
import Derived.Test.YtdnlngbjpdbffaaGreatDoorKLaw21f
set_option maxHeartbeats 1000000
set_option linter.all false
namespace Go.Proofs.YtdnlngbjpdbffaaGreatDoor.certCopies
open Go Go.Sy Go.Wd Go.Sh Go.RowKit Go.ChangeShapes Go.WideShapes Go.ChangeAt
set_option maxRecDepth 100000 in
theorem zd9(H:Type)(enc:TypeId×Value->H)(W:World)(base:Nat)(args:Array Value)(ds gs:List (DataW H))(before:List MemPlace)
  (C:∀(j:Nat) t v,Tryz.f8.params[j]?=some t->args[j]?=some v->Value.okWide Tryz.prog W .any base t v)
  (K:DataW.Whole enc Tryz.prog Tryz.f8.params.toList Rows.certCopiesSpec.vars false W args.toList ds gs before)(hL:laidMetH Tryz.prog Rows.certCopiesRow.laid W):
  Calls Tryz.prog 8 args W λe O=>∃v,e= .returned v/\Rows.certCopiesSpec.post enc Tryz.prog Tryz.f8 false true false false W args v O:=by
 have m:laidMet Tryz.prog Rows.certCopiesRow.laid W:=hL;have S:GT W:=zpI m (.tail _ (.head _));have U:Tab W No:=zmJ m (.tail _ (.tail _ (.head _))) (.tail _ (.tail _ (.tail _ (.head _))));have T:ST W:=zpT m (.tail _ (.tail _ (.tail _ (.tail _ (.head _)))));have F:=K;obtain⟨p,q,E,V,-,-,-⟩:=F;obtain⟨rfl,-⟩:=trodVars_none V;have J:DataW.TrodAll enc Tryz.prog W 0 (λ_=>true) true Tryz.f8.params.toList args.toList ds p:=E;have L:=Tryz.params8;rw[L] at J C;obtain⟨v0,a6,d0,P,M,q0,G,rfl,rfl,h0,X⟩:=trodAll_cons J;obtain⟨Z,a7,d1,Q,N,q1,rfl,rfl,rfl,R,Y⟩:=trodAll_cons X;obtain⟨rfl,rfl,rfl⟩:=trodAll_nil Y;obtain rfl:args= #[v0,Z]:=by cases args;simp_all
 obtain⟨M,x0,rfl,w⟩:=zkE h0;obtain⟨N,x1,rfl,A⟩:=zkE R;have r:∀t∈([45,45]:List Nat),Nat.blt t Tryz.prog.types.size=true:=by
  intro t B;simp only[List.mem_cons,List.not_mem_nil,or_false] at B;rcases B with rfl|rfl <;> kernel_rfl
 have I:∀t∈Tryz.f8.params.toList,t<Tryz.prog.types.size:=λt B=>by rw[L] at B;exact Nat.le_of_ble_eq_true (r t (by simpa using B))
 exact zmW (tb:=4) ztM zp9 I rfl zk1 rfl K rfl (zlT M N x0 x1 W S U T w A)
theorem zge(os:Os):laidMet Tryz.prog Rows.certCopiesRow.laid ((zcv os).forCall (λ_ _=>0) ⟨#[],#[.agg #[.int .i64 0,.slice none 0 0,.string ⟨#[]⟩,.slice none 0 0,.string ⟨#[]⟩,.int .i64 0,.int .i64 0,.bool false,.int .i64 0,.slice none 0 0,.slice none 0 0],.agg #[.int .i64 0,.slice none 0 0,.string ⟨#[]⟩,.slice none 0 0,.string ⟨#[]⟩,.int .i64 0,.int .i64 0,.bool false,.int .i64 0,.slice none 0 0,.slice none 0 0]],[]⟩).memory:=
 laidMet_of_run' 8 (by kernel_rfl) (by kernel_rfl)
theorem zfr(os:Os){H:Type}(enc:TypeId×Value->H):∃places,DataW.whole enc Tryz.prog ((zcv os).forCall (λ_ _=>0) ⟨#[],#[.agg #[.int .i64 0,.slice none 0 0,.string ⟨#[]⟩,.slice none 0 0,.string ⟨#[]⟩,.int .i64 0,.int .i64 0,.bool false,.int .i64 0,.slice none 0 0,.slice none 0 0],.agg #[.int .i64 0,.slice none 0 0,.string ⟨#[]⟩,.slice none 0 0,.string ⟨#[]⟩,.int .i64 0,.int .i64 0,.bool false,.int .i64 0,.slice none 0 0,.slice none 0 0]],[]⟩).memory Tryz.f8.params.toList Rows.certCopiesSpec.vars false (#[.agg #[.int .i64 0,.slice none 0 0,.string ⟨#[]⟩,.slice none 0 0,.string ⟨#[]⟩,.int .i64 0,.int .i64 0,.bool false,.int .i64 0,.slice none 0 0,.slice none 0 0],.agg #[.int .i64 0,.slice none 0 0,.string ⟨#[]⟩,.slice none 0 0,.string ⟨#[]⟩,.int .i64 0,.int .i64 0,.bool false,.int .i64 0,.slice none 0 0,.slice none 0 0]]:Array Value).toList 8=some ([.agg [.lit (.int .i64 0),.agg [.nil,.lit (.string [])],.agg [.nil,.lit (.string [])],.lit (.int .i64 0),.lit (.int .i64 0),.lit (.bool false),.lit (.int .i64 0),.nil,.nil],.agg [.lit (.int .i64 0),.agg [.nil,.lit (.string [])],.agg [.nil,.lit (.string [])],.lit (.int .i64 0),.lit (.int .i64 0),.lit (.bool false),.lit (.int .i64 0),.nil,.nil]],[],places):=
 ⟨[],by kernel_rfl⟩
set_option maxRecDepth 100000 in
theorem ziI(os:Os)(started:os.Started)(H:Type)(enc:TypeId×Value->H)(F:Stop.Interp):
  ReturnsInHanded {} Tryz.checked os 8 .any ((OpenSpec.ofChange Rows.certCopiesSpec).preRow enc Tryz.prog Tryz.f8 Rows.certCopiesRow.domain false Rows.certCopiesRow.laid) (((OpenSpec.ofChange Rows.certCopiesSpec).at F).post enc Tryz.prog Tryz.f8 false true false false):=by
 obtain⟨places,w⟩:=zfr os enc;refine returnsInHanded_of_row (C:=Tryz.checked) (s:=OpenSpec.ofChange Rows.certCopiesSpec) own started (by kernel_rfl) Tryz.func8
  (witness_row_atRef (enc:=enc) (C:=Tryz.checked) false (zcv os) #[.agg #[.int .i64 0,.slice none 0 0,.string ⟨#[]⟩,.slice none 0 0,.string ⟨#[]⟩,.int .i64 0,.int .i64 0,.bool false,.int .i64 0,.slice none 0 0,.slice none 0 0],.agg #[.int .i64 0,.slice none 0 0,.string ⟨#[]⟩,.slice none 0 0,.string ⟨#[]⟩,.int .i64 0,.int .i64 0,.bool false,.int .i64 0,.slice none 0 0,.slice none 0 0]] rfl (by kernel_rfl) (by kernel_rfl) (by kernel_rfl)
   (OpenSpec.preRow_of_cond 8 w (by kernel_rfl) (λk t=>by cases t) (by kernel_rfl) (zge os))) ?_
 intro W base args m gs before j r _ _ _ q _ _;exact zd9 H enc W base args m gs before j r q
theorem ziJ:joinedFacts Tryz.prog 8 Tryz.f8 (OpenSpec.ofChange Rows.certCopiesSpec).bare Rows.certCopiesRow=true:=by
 unfold joinedFacts;rw[ziz,zgO,zkS];kernel_rfl
theorem zhO:Tryz.prog.funcNamed Rows.certCopiesRow.func=some 8:=by kernel_rfl
theorem znR:Rows.CertCopiesSaid:=
 OpenClaim.holds_of_cond 8 Tryz.f8 rfl rfl rfl rfl rfl rfl rfl ⟨rfl,rfl,rfl,rfl,rfl⟩ rfl rfl rfl rfl rfl zhO Tryz.func8 ziJ
  (of_decide_eq_true (by kernel_rfl)) (by unfold Func.isWrapper;first|rw[if_pos (by decide +kernel)];kernel_rfl|rw[if_neg (by decide +kernel)];exact⟨rfl,rfl⟩)
  (λos started H j _ F=>by rw[OpenClaim.pre_eq_preRow];exact ziI os started H j F)
theorem zgJ(f:FuncId)(fn:Func)(hf:Tryz.pinned.checked.prog.funcNamed "watchword/watchwordlaw21.CertCopies" =some f)(hfn:Tryz.pinned.checked.prog.funcs[f]?=some fn):
  true=Tryz.pinned.checked.prog.looks []/\∀(j:Nat) t,fn.params[j]?=some t->Tryz.pinned.checked.prog.wantsStandIn t=false:=by
 obtain rfl:f=8:=Option.some.inj ((show Tryz.prog.funcNamed "watchword/watchwordlaw21.CertCopies" =some 8 by kernel_rfl).symm.trans hf) |>.symm;obtain rfl:fn=Tryz.f8:=(Option.some.inj (Tryz.func8.symm.trans hfn)).symm
 refine⟨by kernel_rfl,λj t ht=>?_⟩;rw[Tryz.params8] at ht;have hall:∀t∈[45,45],Tryz.prog.wantsStandIn t=false:=by
  intro t ht;simp only[List.mem_cons,List.not_mem_nil,or_false] at ht;rcases ht with rfl|rfl <;> kernel_rfl
 exact hall t (by simpa using Array.mem_of_getElem? ht)
theorem card:Rows.CertCopiesCardSaid:=
 Claim7.holds_tied_plain_at .later [] _ _ _ _ znR (λ_ h=>by cases h) (by kernel_rfl) (λ_ h=>by cases h) certCopies_row_tie rfl ⟨rfl,rfl⟩ zkL rfl zgJ (by kernel_rfl)
end Go.Proofs.YtdnlngbjpdbffaaGreatDoor.certCopies
