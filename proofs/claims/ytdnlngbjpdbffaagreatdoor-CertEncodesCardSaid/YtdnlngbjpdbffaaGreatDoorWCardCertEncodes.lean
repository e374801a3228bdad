/- CertEncodes: for every input the call returns true and the input reads as it did; on the condition that the listed package-level variables hold what the text lays. -/
import Derived.Test.YtdnlngbjpdbffaaGreatDoorWJ47
set_option maxHeartbeats 1000000
set_option linter.all false
namespace Go.Proofs.YtdnlngbjpdbffaaGreatDoor.certEncodes
open Go Go.Sy Go.Wd Go.Sh Go.RowKit Go.ChangeShapes Go.WideShapes Go.ChangeAt
set_option maxRecDepth 100000 in
theorem zkC(H:Type)(enc:TypeId×Value->H)(W:World)(base:Nat)(args:Array Value)(ds gs:List (DataW H))(before:List MemPlace)
  (m:∀(j:Nat) t v,Tryz.f9.params[j]?=some t->args[j]?=some v->Value.okWide Tryz.prog W .any base t v)
  (Q:DataW.Whole enc Tryz.prog Tryz.f9.params.toList Rows.certEncodesSpec.vars false W args.toList ds gs before)(hL:laidMetH Tryz.prog Rows.certEncodesRow.laid W):
  Calls Tryz.prog 9 args W λe U=>∃v,e= .returned v/\Rows.certEncodesSpec.post enc Tryz.prog Tryz.f9 false true false false W args v U:=by
 have A:laidMet Tryz.prog Rows.certEncodesRow.laid W:=hL;have hG:GT W:=zzy A (.tail _ (.head _));have hT:Tab W No:=zyy A (.tail _ (.tail _ (.head _))) (.tail _ (.tail _ (.tail _ (.head _))));have hS:ST W:=zzv A (.tail _ (.tail _ (.tail _ (.tail _ (.head _)))));have J:=Q;obtain⟨p,q,I,hV,-,-,-⟩:=J;obtain⟨rfl,-⟩:=trodVars_none hV;have O:DataW.TrodAll enc Tryz.prog W 0 (λ_=>true) true Tryz.f9.params.toList args.toList ds p:=I;have R:=Tryz.params9;rw[R] at O m;obtain⟨v0,a9,d0,Z,S,q0,K,rfl,rfl,h0,r0⟩:=trodAll_cons O;obtain⟨T,b0,d1,a6,p1,q1,rfl,rfl,rfl,h1,r1⟩:=trodAll_cons r0;obtain⟨rfl,rfl,rfl⟩:=trodAll_nil r1;obtain rfl:args= #[v0,T]:=by cases args;simp_all
 obtain⟨S,x0,rfl,E⟩:=zxe h0;obtain⟨a1,n1,X,rfl⟩:=okWide_slice (P:=Tryz.prog) (w:=W) (r:=.any) (base:=base) (t:=23) zoX (m 1 23 T (by simp) (by simp));obtain⟨V,a8,Y,l1,e1,M,L,a7,F,B⟩:=zi3 (P:=Tryz.prog) zoX zx1 ztA h1 rfl;cases e1;have C:∀t∈([45,23]:List Nat),Nat.blt t Tryz.prog.types.size=true:=by
  intro t G;simp only[List.mem_cons,List.not_mem_nil,or_false] at G;rcases G with rfl|rfl <;> kernel_rfl
 have N:∀t∈Tryz.f9.params.toList,t<Tryz.prog.types.size:=λt G=>by rw[R] at G;exact Nat.le_of_ble_eq_true (C t (by simpa using G))
 exact zyp (tb:=4) kids full N rfl zx3 rfl Q rfl (zlB S x0 ⟨a1,n1,X,l1⟩ W hG hT hS E ⟨M,L,F,B⟩)
theorem zug(os:Os):laidMet Tryz.prog Rows.certEncodesRow.laid ((zil os).forCall (λ_ _=>0) ⟨#[],#[.agg #[.int .i64 0,.slice none 0 0,.string ⟨#[]⟩,.slice none 0 0,.string ⟨#[]⟩,.int .i64 0,.int .i64 0,.bool false,.int .i64 0,.slice none 0 0,.slice none 0 0],.slice none 0 0],[]⟩).memory:=
 laidMet_of_run' 8 (by kernel_rfl) (by kernel_rfl)
theorem reads(os:Os){H:Type}(enc:TypeId×Value->H):∃places,DataW.whole enc Tryz.prog ((zil os).forCall (λ_ _=>0) ⟨#[],#[.agg #[.int .i64 0,.slice none 0 0,.string ⟨#[]⟩,.slice none 0 0,.string ⟨#[]⟩,.int .i64 0,.int .i64 0,.bool false,.int .i64 0,.slice none 0 0,.slice none 0 0],.slice none 0 0],[]⟩).memory Tryz.f9.params.toList Rows.certEncodesSpec.vars false (#[.agg #[.int .i64 0,.slice none 0 0,.string ⟨#[]⟩,.slice none 0 0,.string ⟨#[]⟩,.int .i64 0,.int .i64 0,.bool false,.int .i64 0,.slice none 0 0,.slice none 0 0],.slice none 0 0]:Array Value).toList 8=some ([.agg [.lit (.int .i64 0),.agg [.nil,.lit (.string [])],.agg [.nil,.lit (.string [])],.lit (.int .i64 0),.lit (.int .i64 0),.lit (.bool false),.lit (.int .i64 0),.nil,.nil],.nil],[],places):=
 ⟨[],by kernel_rfl⟩
set_option maxRecDepth 100000 in
theorem lifted(os:Os)(started:os.Started)(H:Type)(enc:TypeId×Value->H)(F:Stop.Interp):
  ReturnsInHanded {} Tryz.checked os 9 .any ((OpenSpec.ofChange Rows.certEncodesSpec).preRow enc Tryz.prog Tryz.f9 Rows.certEncodesRow.domain false Rows.certEncodesRow.laid) (((OpenSpec.ofChange Rows.certEncodesSpec).at F).post enc Tryz.prog Tryz.f9 false true false false):=by
 obtain⟨places,A⟩:=reads os enc;refine returnsInHanded_of_row (C:=Tryz.checked) (s:=OpenSpec.ofChange Rows.certEncodesSpec) own started (by kernel_rfl) Tryz.func9
  (witness_row_atRef (enc:=enc) (C:=Tryz.checked) false (zil os) #[.agg #[.int .i64 0,.slice none 0 0,.string ⟨#[]⟩,.slice none 0 0,.string ⟨#[]⟩,.int .i64 0,.int .i64 0,.bool false,.int .i64 0,.slice none 0 0,.slice none 0 0],.slice none 0 0] rfl (by kernel_rfl) (by kernel_rfl) (by kernel_rfl)
   (OpenSpec.preRow_of_cond 8 A (by kernel_rfl) (λk w=>by cases w) (by kernel_rfl) (zug os))) ?_
 intro W base args m gs before j r _ _ _ q _ _;exact zkC H enc W base args m gs before j r q
theorem closed:joinedFacts Tryz.prog 9 Tryz.f9 (OpenSpec.ofChange Rows.certEncodesSpec).bare Rows.certEncodesRow=true:=by
 unfold joinedFacts;rw[zsy,zph,zwV];kernel_rfl
theorem named:Tryz.prog.funcNamed Rows.certEncodesRow.func=some 9:=by kernel_rfl
theorem said:Rows.CertEncodesSaid:=
 OpenClaim.holds_of_cond 9 Tryz.f9 rfl rfl rfl rfl rfl rfl rfl ⟨rfl,rfl,rfl,rfl,rfl⟩ rfl rfl rfl rfl rfl named Tryz.func9 closed
  (of_decide_eq_true (by kernel_rfl)) (by unfold Func.isWrapper;first|rw[if_pos (by decide +kernel)];kernel_rfl|rw[if_neg (by decide +kernel)];exact⟨rfl,rfl⟩)
  (λos started H j _ F=>by rw[OpenClaim.pre_eq_preRow];exact lifted os started H j F)
theorem plain(f:FuncId)(fn:Func)(hf:Tryz.pinned.checked.prog.funcNamed "watchword/watchwordlaw21.CertEncodes" =some f)(hfn:Tryz.pinned.checked.prog.funcs[f]?=some fn):
  true=Tryz.pinned.checked.prog.looks []/\∀(j:Nat) t,fn.params[j]?=some t->Tryz.pinned.checked.prog.wantsStandIn t=false:=by
 obtain rfl:f=9:=Option.some.inj ((show Tryz.prog.funcNamed "watchword/watchwordlaw21.CertEncodes" =some 9 by kernel_rfl).symm.trans hf) |>.symm;obtain rfl:fn=Tryz.f9:=(Option.some.inj (Tryz.func9.symm.trans hfn)).symm
 refine⟨by kernel_rfl,λj t ht=>?_⟩;rw[Tryz.params9] at ht;have hall:∀t∈[45,23],Tryz.prog.wantsStandIn t=false:=by
  intro t ht;simp only[List.mem_cons,List.not_mem_nil,or_false] at ht;rcases ht with rfl|rfl <;> kernel_rfl
 exact hall t (by simpa using Array.mem_of_getElem? ht)
theorem card:Rows.CertEncodesCardSaid:=
 Claim7.holds_tied_plain_at .later [] _ _ _ _ said (λ_ h=>by cases h) (by kernel_rfl) (λ_ h=>by cases h) certEncodes_row_tie rfl ⟨rfl,rfl⟩ zwQ rfl plain (by kernel_rfl)
end Go.Proofs.YtdnlngbjpdbffaaGreatDoor.certEncodes
