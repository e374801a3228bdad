/- CertChains: for every input the call returns true and the input reads as it did; on the condition that the listed package-level variables hold what the text lays. -/
import Derived.Test.YtdnlngbjpdbffaaGreatDoorZJ48
set_option maxHeartbeats 1000000
set_option linter.all false
namespace Go.Proofs.YtdnlngbjpdbffaaGreatDoor.certChains
open Go Go.Sy Go.Wd Go.Sh Go.RowKit Go.ChangeShapes Go.WideShapes Go.ChangeAt
set_option maxRecDepth 100000 in
theorem zkX(H:Type)(enc:TypeId×Value->H)(W:World)(base:Nat)(args:Array Value)(ds gs:List (DataW H))(before:List MemPlace)
  (m:∀(j:Nat) t v,Tryz.f3.params[j]?=some t->args[j]?=some v->Value.okWide Tryz.prog W .any base t v)
  (U:DataW.Whole enc Tryz.prog Tryz.f3.params.toList Rows.certChainsSpec.vars false W args.toList ds gs before)(hL:laidMetH Tryz.prog Rows.certChainsRow.laid W):
  Calls Tryz.prog 3 args W λe Y=>∃v,e= .returned v/\Rows.certChainsSpec.post enc Tryz.prog Tryz.f3 false true false false W args v Y:=by
 have A:laidMet Tryz.prog Rows.certChainsRow.laid W:=hL;have hG:GT W:=zz9 A (.tail _ (.head _));have hT:Tab W No:=zy1 A (.tail _ (.tail _ (.head _))) (.tail _ (.tail _ (.tail _ (.head _))));have hS:ST W:=zz5 A (.tail _ (.tail _ (.tail _ (.tail _ (.head _)))));have K:=U;obtain⟨p,q,J,hV,-,-,-⟩:=K;obtain⟨rfl,-⟩:=trodVars_none hV;have T:DataW.TrodAll enc Tryz.prog W 0 (λ_=>true) true Tryz.f3.params.toList args.toList ds p:=J;have V:=Tryz.params3;rw[V] at T m;obtain⟨v0,b1,d0,a7,p0,q0,L,rfl,rfl,h0,r0⟩:=trodAll_cons T;obtain⟨X,b2,d1,a8,p1,q1,rfl,rfl,rfl,h1,r1⟩:=trodAll_cons r0;obtain⟨rfl,rfl,rfl⟩:=trodAll_nil r1;obtain rfl:args= #[v0,X]:=by cases args;simp_all
 obtain⟨a0,n0,c0,rfl⟩:=okWide_slice (P:=Tryz.prog) (w:=W) (r:=.any) (base:=base) (t:=22) zpo (m 0 22 v0 (by simp) (by simp));obtain⟨S,l0,O,M,F⟩:=zuf h0;obtain⟨a1,n1,c1,rfl⟩:=okWide_slice (P:=Tryz.prog) (w:=W) (r:=.any) (base:=base) (t:=23) zpy (m 1 23 X (by simp) (by simp));obtain⟨Z,b0,a6,l1,e1,Q,N,a9,G,B⟩:=zjC (P:=Tryz.prog) zpy zyB zt9 h1 rfl;cases e1;have E:∀t∈([22,23]:List Nat),Nat.blt t Tryz.prog.types.size=true:=by
  intro t I;simp only[List.mem_cons,List.not_mem_nil,or_false] at I;rcases I with rfl|rfl <;> kernel_rfl
 have R:∀t∈Tryz.f3.params.toList,t<Tryz.prog.types.size:=λt I=>by rw[V] at I;exact Nat.le_of_ble_eq_true (E t (by simpa using I))
 exact zzn (tb:=4) kids full R rfl zyC rfl U rfl (znm a0 n0 c0 S l0 ⟨a1,n1,c1,l1⟩ W hG hT hS O F M ⟨Q,N,G,B⟩)
theorem zuX(os:Os):laidMet Tryz.prog Rows.certChainsRow.laid ((ziK os).forCall (λ_ _=>0) ⟨#[],#[.slice none 0 0,.slice none 0 0],[]⟩).memory:=
 laidMet_of_run' 8 (by kernel_rfl) (by kernel_rfl)
theorem reads(os:Os){H:Type}(enc:TypeId×Value->H):∃places,DataW.whole enc Tryz.prog ((ziK os).forCall (λ_ _=>0) ⟨#[],#[.slice none 0 0,.slice none 0 0],[]⟩).memory Tryz.f3.params.toList Rows.certChainsSpec.vars false (#[.slice none 0 0,.slice none 0 0]:Array Value).toList 8=some ([.nil,.nil],[],places):=
 ⟨[],by kernel_rfl⟩
set_option maxRecDepth 100000 in
theorem lifted(os:Os)(started:os.Started)(H:Type)(enc:TypeId×Value->H)(F:Stop.Interp):
  ReturnsInHanded {} Tryz.checked os 3 .any ((OpenSpec.ofChange Rows.certChainsSpec).preRow enc Tryz.prog Tryz.f3 Rows.certChainsRow.domain false Rows.certChainsRow.laid) (((OpenSpec.ofChange Rows.certChainsSpec).at F).post enc Tryz.prog Tryz.f3 false true false false):=by
 obtain⟨places,A⟩:=reads os enc;refine returnsInHanded_of_row (C:=Tryz.checked) (s:=OpenSpec.ofChange Rows.certChainsSpec) own started (by kernel_rfl) Tryz.func3
  (witness_row_atRef (enc:=enc) (C:=Tryz.checked) false (ziK os) #[.slice none 0 0,.slice none 0 0] rfl (by kernel_rfl) (by kernel_rfl) (by kernel_rfl)
   (OpenSpec.preRow_of_cond 8 A (by kernel_rfl) (λk w=>by cases w) (by kernel_rfl) (zuX os))) ?_
 intro W base args m gs before j r _ _ _ q _ _;exact zkX H enc W base args m gs before j r q
theorem closed:joinedFacts Tryz.prog 3 Tryz.f3 (OpenSpec.ofChange Rows.certChainsSpec).bare Rows.certChainsRow=true:=by
 unfold joinedFacts;rw[ztr,zpC,zxy];kernel_rfl
theorem named:Tryz.prog.funcNamed Rows.certChainsRow.func=some 3:=by kernel_rfl
theorem said:Rows.CertChainsSaid:=
 OpenClaim.holds_of_cond 3 Tryz.f3 rfl rfl rfl rfl rfl rfl rfl ⟨rfl,rfl,rfl,rfl,rfl⟩ rfl rfl rfl rfl rfl named Tryz.func3 closed
  (of_decide_eq_true (by kernel_rfl)) (by unfold Func.isWrapper;first|rw[if_pos (by decide +kernel)];kernel_rfl|rw[if_neg (by decide +kernel)];exact⟨rfl,rfl⟩)
  (λos started H j _ F=>by rw[OpenClaim.pre_eq_preRow];exact lifted os started H j F)
theorem plain(f:FuncId)(fn:Func)(hf:Tryz.pinned.checked.prog.funcNamed "watchword/watchwordlaw21.CertChains" =some f)(hfn:Tryz.pinned.checked.prog.funcs[f]?=some fn):
  true=Tryz.pinned.checked.prog.looks []/\∀(j:Nat) t,fn.params[j]?=some t->Tryz.pinned.checked.prog.wantsStandIn t=false:=by
 obtain rfl:f=3:=Option.some.inj ((show Tryz.prog.funcNamed "watchword/watchwordlaw21.CertChains" =some 3 by kernel_rfl).symm.trans hf) |>.symm;obtain rfl:fn=Tryz.f3:=(Option.some.inj (Tryz.func3.symm.trans hfn)).symm
 refine⟨by kernel_rfl,λj t ht=>?_⟩;rw[Tryz.params3] at ht;have hall:∀t∈[22,23],Tryz.prog.wantsStandIn t=false:=by
  intro t ht;simp only[List.mem_cons,List.not_mem_nil,or_false] at ht;rcases ht with rfl|rfl <;> kernel_rfl
 exact hall t (by simpa using Array.mem_of_getElem? ht)
theorem card:Rows.CertChainsCardSaid:=
 Claim7.holds_tied_plain_at .later [] _ _ _ _ said (λ_ h=>by cases h) (by kernel_rfl) (λ_ h=>by cases h) certChains_row_tie rfl ⟨rfl,rfl⟩ zyr rfl plain (by kernel_rfl)
end Go.Proofs.YtdnlngbjpdbffaaGreatDoor.certChains
