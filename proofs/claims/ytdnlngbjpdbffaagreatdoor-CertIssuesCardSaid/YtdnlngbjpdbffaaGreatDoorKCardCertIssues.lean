/- CertIssues: for every input the call returns true and the input reads as it did; on the condition that the listed package-level variables hold what the text lays. -/
import Derived.Test.YtdnlngbjpdbffaaGreatDoorKCardKitCt
import Derived.Test.YtdnlngbjpdbffaaGreatDoorKLaw21g
set_option maxHeartbeats 1000000
set_option linter.all false
namespace Go.Proofs.YtdnlngbjpdbffaaGreatDoor.certIssues
open Go Go.Sy Go.Wd Go.Sh Go.RowKit Go.ChangeShapes Go.WideShapes Go.ChangeAt
set_option maxRecDepth 100000 in
theorem zd9(H:Type)(enc:TypeId×Value->H)(W:World)(base:Nat)(args:Array Value)(ds gs:List (DataW H))(before:List MemPlace)
  (m:∀(j:Nat) t v,Tryz.f5.params[j]?=some t->args[j]?=some v->Value.okWide Tryz.prog W .any base t v)
  (Z:DataW.Whole enc Tryz.prog Tryz.f5.params.toList Rows.certIssuesSpec.vars false W args.toList ds gs before)(hL:laidMetH Tryz.prog Rows.certIssuesRow.laid W):
  Calls Tryz.prog 5 args W λe W'=>∃v,e= .returned v/\Rows.certIssuesSpec.post enc Tryz.prog Tryz.f5 false true false false W args v W':=by
 have A:laidMet Tryz.prog Rows.certIssuesRow.laid W:=hL;have hG:GT W:=zpI A (.tail _ (.tail _ (.head _)));have hT:Tab W No:=zmJ A (.tail _ (.tail _ (.tail _ (.head _)))) (.tail _ (.tail _ (.tail _ (.tail _ (.head _)))));have hS:ST W:=zpT A (.tail _ (.tail _ (.tail _ (.tail _ (.tail _ (.head _))))));obtain⟨kb,ko,kc,hR⟩:=zvm A (.tail _ (.head _));have N:=Z;obtain⟨p,q,M,hV,-,-,-⟩:=N;obtain⟨rfl,-⟩:=trodVars_none hV;have Y:DataW.TrodAll enc Tryz.prog W 0 (λ_=>true) true Tryz.f5.params.toList args.toList ds p:=M;have hp:=Tryz.params5;rw[hp] at Y m;obtain⟨v0,c7,d0,b2,p0,q0,O,rfl,rfl,h0,r0⟩:=trodAll_cons Y;obtain⟨v1,c8,d1,b3,p1,q1,rfl,rfl,rfl,h1,r1⟩:=trodAll_cons r0;obtain⟨v2,c9,d2,b4,p2,q2,rfl,rfl,rfl,h2,r2⟩:=trodAll_cons r1;obtain⟨v3,d8,d3,b5,p3,q3,rfl,rfl,rfl,h3,r3⟩:=trodAll_cons r2;obtain⟨v4,d9,d4,b6,p4,q4,rfl,rfl,rfl,h4,r4⟩:=trodAll_cons r3;obtain⟨rfl,rfl,rfl⟩:=trodAll_nil r4;obtain rfl:args= #[v0,v1,v2,v3,v4]:=by cases args;simp_all
 obtain⟨p0,x0,rfl,G⟩:=zkE h0;obtain⟨z1,rfl,rfl,rfl,c0⟩:=open_int (show Tryz.prog.underlying 3=some (.int .i64) by kernel_rfl) (m 1 3 v1 (by simp) (by simp)) h1;obtain⟨a2,n2,c2,rfl⟩:=okWide_slice (P:=Tryz.prog) (w:=W) (r:=.any) (base:=base) (t:=23) ze9 (m 2 23 v2 (by simp) (by simp));obtain⟨a6,c1,a9,l2,e2,T,Q,b7,I,B⟩:=zey (P:=Tryz.prog) ze9 zk3 ziF h2 rfl;cases e2;obtain⟨a3,n3,c3,rfl⟩:=okWide_slice (P:=Tryz.prog) (w:=W) (r:=.any) (base:=base) (t:=23) ze9 (m 3 23 v3 (by simp) (by simp));obtain⟨a7,c5,b0,l3,e3,U,R,b8,J,C⟩:=zey (P:=Tryz.prog) ze9 zk3 ziF h3 rfl;cases e3;obtain⟨a4,n4,c4,rfl⟩:=okWide_slice (P:=Tryz.prog) (w:=W) (r:=.any) (base:=base) (t:=23) ze9 (m 4 23 v4 (by simp) (by simp));obtain⟨a8,c6,b1,l4,e4,V,S,b9,K,E⟩:=zey (P:=Tryz.prog) ze9 zk3 ziF h4 rfl;cases e4;have F:∀t∈([45,3,23,23,23]:List Nat),Nat.blt t Tryz.prog.types.size=true:=by
  intro t L;simp only[List.mem_cons,List.not_mem_nil,or_false] at L;rcases L with rfl|rfl|rfl|rfl|rfl <;> kernel_rfl
 have X:∀t∈Tryz.f5.params.toList,t<Tryz.prog.types.size:=λt L=>by rw[hp] at L;exact Nat.le_of_ble_eq_true (F t (by simpa using L))
 exact zmW (tb:=4) ztM zp9 X rfl zk1 rfl Z rfl (zlN p0 x0 z1 ⟨a2,n2,c2,l2⟩ ⟨a3,n3,c3,l3⟩ ⟨a4,n4,c4,l4⟩ kb ko kc W hG hT hR hS G ⟨T,Q,I,B⟩ ⟨U,R,J,C⟩ ⟨V,S,K,E⟩)
theorem zge(os:Os):laidMet Tryz.prog Rows.certIssuesRow.laid ((zcv os).forCall (λ_ _=>0) ⟨#[],#[.agg #[.int .i64 0,.slice none 0 0,.string ⟨#[]⟩,.slice none 0 0,.string ⟨#[]⟩,.int .i64 0,.int .i64 0,.bool false,.int .i64 0,.slice none 0 0,.slice none 0 0],.int .i64 0,.slice none 0 0,.slice none 0 0,.slice none 0 0],[]⟩).memory:=
 laidMet_of_run' 8 (by kernel_rfl) (by kernel_rfl)
theorem zfr(os:Os){H:Type}(enc:TypeId×Value->H):∃places,DataW.whole enc Tryz.prog ((zcv os).forCall (λ_ _=>0) ⟨#[],#[.agg #[.int .i64 0,.slice none 0 0,.string ⟨#[]⟩,.slice none 0 0,.string ⟨#[]⟩,.int .i64 0,.int .i64 0,.bool false,.int .i64 0,.slice none 0 0,.slice none 0 0],.int .i64 0,.slice none 0 0,.slice none 0 0,.slice none 0 0],[]⟩).memory Tryz.f5.params.toList Rows.certIssuesSpec.vars false (#[.agg #[.int .i64 0,.slice none 0 0,.string ⟨#[]⟩,.slice none 0 0,.string ⟨#[]⟩,.int .i64 0,.int .i64 0,.bool false,.int .i64 0,.slice none 0 0,.slice none 0 0],.int .i64 0,.slice none 0 0,.slice none 0 0,.slice none 0 0]:Array Value).toList 8=some ([.agg [.lit (.int .i64 0),.agg [.nil,.lit (.string [])],.agg [.nil,.lit (.string [])],.lit (.int .i64 0),.lit (.int .i64 0),.lit (.bool false),.lit (.int .i64 0),.nil,.nil],.lit (.int .i64 0),.nil,.nil,.nil],[],places):=
 ⟨[],by kernel_rfl⟩
set_option maxRecDepth 100000 in
theorem ziI(os:Os)(started:os.Started)(H:Type)(enc:TypeId×Value->H)(F:Stop.Interp):
  ReturnsInHanded {} Tryz.checked os 5 .any ((OpenSpec.ofChange Rows.certIssuesSpec).preRow enc Tryz.prog Tryz.f5 Rows.certIssuesRow.domain false Rows.certIssuesRow.laid) (((OpenSpec.ofChange Rows.certIssuesSpec).at F).post enc Tryz.prog Tryz.f5 false true false false):=by
 obtain⟨places,w⟩:=zfr os enc;refine returnsInHanded_of_row (C:=Tryz.checked) (s:=OpenSpec.ofChange Rows.certIssuesSpec) own started (by kernel_rfl) Tryz.func5
  (witness_row_atRef (enc:=enc) (C:=Tryz.checked) false (zcv os) #[.agg #[.int .i64 0,.slice none 0 0,.string ⟨#[]⟩,.slice none 0 0,.string ⟨#[]⟩,.int .i64 0,.int .i64 0,.bool false,.int .i64 0,.slice none 0 0,.slice none 0 0],.int .i64 0,.slice none 0 0,.slice none 0 0,.slice none 0 0] rfl (by kernel_rfl) (by kernel_rfl) (by kernel_rfl)
   (OpenSpec.preRow_of_cond 8 w (by kernel_rfl) (λk t=>by cases t) (by kernel_rfl) (zge os))) ?_
 intro W base args m gs before j r _ _ _ q _ _;exact zd9 H enc W base args m gs before j r q
theorem ziJ:joinedFacts Tryz.prog 5 Tryz.f5 (OpenSpec.ofChange Rows.certIssuesSpec).bare Rows.certIssuesRow=true:=by
 unfold joinedFacts;rw[ziz,zgO,zkS];kernel_rfl
theorem zhO:Tryz.prog.funcNamed Rows.certIssuesRow.func=some 5:=by kernel_rfl
theorem znR:Rows.CertIssuesSaid:=
 OpenClaim.holds_of_cond 5 Tryz.f5 rfl rfl rfl rfl rfl rfl rfl ⟨rfl,rfl,rfl,rfl,rfl⟩ rfl rfl rfl rfl rfl zhO Tryz.func5 ziJ
  (of_decide_eq_true (by kernel_rfl)) (by unfold Func.isWrapper;first|rw[if_pos (by decide +kernel)];kernel_rfl|rw[if_neg (by decide +kernel)];exact⟨rfl,rfl⟩)
  (λos started H j _ F=>by rw[OpenClaim.pre_eq_preRow];exact ziI os started H j F)
theorem zgJ(f:FuncId)(fn:Func)(hf:Tryz.pinned.checked.prog.funcNamed "watchword/watchwordlaw21.CertIssues" =some f)(hfn:Tryz.pinned.checked.prog.funcs[f]?=some fn):
  true=Tryz.pinned.checked.prog.looks []/\∀(j:Nat) t,fn.params[j]?=some t->Tryz.pinned.checked.prog.wantsStandIn t=false:=by
 obtain rfl:f=5:=Option.some.inj ((show Tryz.prog.funcNamed "watchword/watchwordlaw21.CertIssues" =some 5 by kernel_rfl).symm.trans hf) |>.symm;obtain rfl:fn=Tryz.f5:=(Option.some.inj (Tryz.func5.symm.trans hfn)).symm
 refine⟨by kernel_rfl,λj t ht=>?_⟩;rw[Tryz.params5] at ht;have hall:∀t∈[45,3,23,23,23],Tryz.prog.wantsStandIn t=false:=by
  intro t ht;simp only[List.mem_cons,List.not_mem_nil,or_false] at ht;rcases ht with rfl|rfl|rfl|rfl|rfl <;> kernel_rfl
 exact hall t (by simpa using Array.mem_of_getElem? ht)
theorem card:Rows.CertIssuesCardSaid:=
 Claim7.holds_tied_plain_at .later [] _ _ _ _ znR (λ_ h=>by cases h) (by kernel_rfl) (λ_ h=>by cases h) certIssues_row_tie rfl ⟨rfl,rfl⟩ zkL rfl zgJ (by kernel_rfl)
end Go.Proofs.YtdnlngbjpdbffaaGreatDoor.certIssues
