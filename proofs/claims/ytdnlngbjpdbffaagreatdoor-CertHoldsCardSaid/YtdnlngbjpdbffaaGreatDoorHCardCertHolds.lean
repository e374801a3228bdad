/- CertHolds: for every input the call returns true and the input reads as it did; on the condition that the listed package-level variables hold what the text lays. -/
import Derived.Test.YtdnlngbjpdbffaaGreatDoorHJ47
set_option maxHeartbeats 1000000
set_option linter.all false
namespace Go.Proofs.YtdnlngbjpdbffaaGreatDoor.certHolds
open Go Go.Sy Go.Wd Go.Sh Go.RowKit Go.ChangeShapes Go.WideShapes Go.ChangeAt
set_option maxRecDepth 100000 in
theorem zjU(H:Type)(enc:TypeId×Value->H)(W:World)(base:Nat)(args:Array Value)(ds gs:List (DataW H))(before:List MemPlace)
  (m:∀(j:Nat) t v,Tryz.f4.params[j]?=some t->args[j]?=some v->Value.okWide Tryz.prog W .any base t v)
  (hW:DataW.Whole enc Tryz.prog Tryz.f4.params.toList Rows.certHoldsSpec.vars false W args.toList ds gs before)(hL:laidMetH Tryz.prog Rows.certHoldsRow.laid W):
  Calls Tryz.prog 4 args W λe W'=>∃v,e= .returned v/\Rows.certHoldsSpec.post enc Tryz.prog Tryz.f4 false true false false W args v W':=by
 have A:laidMet Tryz.prog Rows.certHoldsRow.laid W:=hL;have hG:GT W:=zxT A (.tail _ (.head _));have hT:Tab W No:=zw9 A (.tail _ (.tail _ (.head _))) (.tail _ (.tail _ (.tail _ (.head _))));have hS:ST W:=zxU A (.tail _ (.tail _ (.tail _ (.tail _ (.head _)))));have R:=hW;obtain⟨p,q,Q,hV,-,-,-⟩:=R;obtain⟨rfl,-⟩:=trodVars_none hV;have hA:DataW.TrodAll enc Tryz.prog W 0 (λ_=>true) true Tryz.f4.params.toList args.toList ds p:=Q;have hp:=Tryz.params4;rw[hp] at hA m;obtain⟨v0,f8,d0,c9,p0,q0,S,rfl,rfl,h0,r0⟩:=trodAll_cons hA;obtain⟨v1,f9,d1,d8,p1,q1,rfl,rfl,rfl,h1,r1⟩:=trodAll_cons r0;obtain⟨v2,h7,d2,d9,p2,q2,rfl,rfl,rfl,h2,r2⟩:=trodAll_cons r1;obtain⟨v3,h8,d3,e0,p3,q3,rfl,rfl,rfl,h3,r3⟩:=trodAll_cons r2;obtain⟨v4,h9,d4,e1,p4,q4,rfl,rfl,rfl,h4,r4⟩:=trodAll_cons r3;obtain⟨v5,i5,d5,e2,p5,q5,rfl,rfl,rfl,h5,r5⟩:=trodAll_cons r4;obtain⟨v6,i7,d6,e3,p6,q6,rfl,rfl,rfl,h6,r6⟩:=trodAll_cons r5;obtain⟨rfl,rfl,rfl⟩:=trodAll_nil r6;obtain rfl:args= #[v0,v1,v2,v3,v4,v5,v6]:=by cases args;simp_all
 obtain⟨a0,n0,c0,rfl⟩:=okWide_slice (P:=Tryz.prog) (w:=W) (r:=.any) (base:=base) (t:=22) zod (m 0 22 v0 (by simp) (by simp));obtain⟨b4,l0,a7,T,G⟩:=ztA h0;obtain⟨a1,n1,c1,rfl⟩:=okWide_slice (P:=Tryz.prog) (w:=W) (r:=.any) (base:=base) (t:=37) zof (m 1 37 v1 (by simp) (by simp));obtain⟨b5,l1,a8,U,I⟩:=zsC h1;obtain⟨a2,n2,c2,rfl⟩:=okWide_slice (P:=Tryz.prog) (w:=W) (r:=.any) (base:=base) (t:=38) zjW (m 2 38 v2 (by simp) (by simp));obtain⟨b6,l2,a9,V,J⟩:=znQ h2;obtain⟨a3,n3,c3,rfl⟩:=okWide_slice (P:=Tryz.prog) (w:=W) (r:=.any) (base:=base) (t:=38) zjW (m 3 38 v3 (by simp) (by simp));obtain⟨b7,l3,b0,X,K⟩:=znQ h3;obtain⟨z4,b8,O,rfl⟩:=ztu h4;obtain⟨a5,n5,c5,rfl⟩:=okWide_slice (P:=Tryz.prog) (w:=W) (r:=.any) (base:=base) (t:=23) zhT (m 5 23 v5 (by simp) (by simp));obtain⟨b9,e8,c7,l5,e5,b1,Y,e4,L,B⟩:=zf4 (P:=Tryz.prog) zhT zpK zmb h5 rfl;cases e5;obtain⟨a6,n6,c6,rfl⟩:=okWide_slice (P:=Tryz.prog) (w:=W) (r:=.any) (base:=base) (t:=23) zhT (m 6 23 v6 (by simp) (by simp));obtain⟨c4,e9,c8,l6,e6,b2,Z,e7,M,E⟩:=zf4 (P:=Tryz.prog) zhT zpK zmb h6 rfl;cases e6;have F:∀t∈([22,37,38,38,39,23,23]:List Nat),Nat.blt t Tryz.prog.types.size=true:=by
  intro t N;simp only[List.mem_cons,List.not_mem_nil,or_false] at N;rcases N with rfl|rfl|rfl|rfl|rfl|rfl|rfl <;> kernel_rfl
 have b3:∀t∈Tryz.f4.params.toList,t<Tryz.prog.types.size:=λt N=>by rw[hp] at N;exact Nat.le_of_ble_eq_true (F t (by simpa using N))
 exact zxb (tb:=4) kids full b3 rfl zww rfl hW rfl (znp a0 a1 a2 a3 n0 c0 n1 c1 n2 c2 n3 c3 b4 l0 b5 l1 b6 l2 b7 l3 z4 b8 O ⟨a5,n5,c5,l5⟩ ⟨a6,n6,c6,l6⟩ W hG hT hS a7 a8 a9 b0 G I J K T U V X ⟨b1,Y,L,B⟩ ⟨b2,Z,M,E⟩)
theorem zsZ(os:Os):laidMet Tryz.prog Rows.certHoldsRow.laid ((zhN os).forCall (λ_ _=>0) ⟨#[],#[.slice none 0 0,.slice none 0 0,.slice none 0 0,.slice none 0 0,.agg #[.int .i64 0,.int .i64 0,.int .i64 0],.slice none 0 0,.slice none 0 0],[]⟩).memory:=
 laidMet_of_run' 8 (by kernel_rfl) (by kernel_rfl)
theorem reads(os:Os){H:Type}(enc:TypeId×Value->H):∃places,DataW.whole enc Tryz.prog ((zhN os).forCall (λ_ _=>0) ⟨#[],#[.slice none 0 0,.slice none 0 0,.slice none 0 0,.slice none 0 0,.agg #[.int .i64 0,.int .i64 0,.int .i64 0],.slice none 0 0,.slice none 0 0],[]⟩).memory Tryz.f4.params.toList Rows.certHoldsSpec.vars false (#[.slice none 0 0,.slice none 0 0,.slice none 0 0,.slice none 0 0,.agg #[.int .i64 0,.int .i64 0,.int .i64 0],.slice none 0 0,.slice none 0 0]:Array Value).toList 8=some ([.nil,.nil,.nil,.nil,.agg [.lit (.int .i64 0),.lit (.int .i64 0),.lit (.int .i64 0)],.nil,.nil],[],places):=
 ⟨[],by kernel_rfl⟩
set_option maxRecDepth 100000 in
theorem lifted(os:Os)(started:os.Started)(H:Type)(enc:TypeId×Value->H)(F:Stop.Interp):
  ReturnsInHanded {} Tryz.checked os 4 .any ((OpenSpec.ofChange Rows.certHoldsSpec).preRow enc Tryz.prog Tryz.f4 Rows.certHoldsRow.domain false Rows.certHoldsRow.laid) (((OpenSpec.ofChange Rows.certHoldsSpec).at F).post enc Tryz.prog Tryz.f4 false true false false):=by
 obtain⟨places,A⟩:=reads os enc;refine returnsInHanded_of_row (C:=Tryz.checked) (s:=OpenSpec.ofChange Rows.certHoldsSpec) own started (by kernel_rfl) Tryz.func4
  (witness_row_atRef (enc:=enc) (C:=Tryz.checked) false (zhN os) #[.slice none 0 0,.slice none 0 0,.slice none 0 0,.slice none 0 0,.agg #[.int .i64 0,.int .i64 0,.int .i64 0],.slice none 0 0,.slice none 0 0] rfl (by kernel_rfl) (by kernel_rfl) (by kernel_rfl)
   (OpenSpec.preRow_of_cond 8 A (by kernel_rfl) (λk w=>by cases w) (by kernel_rfl) (zsZ os))) ?_
 intro W base args m gs before j r _ _ _ q _ _;exact zjU H enc W base args m gs before j r q
theorem closed:joinedFacts Tryz.prog 4 Tryz.f4 (OpenSpec.ofChange Rows.certHoldsSpec).bare Rows.certHoldsRow=true:=by
 unfold joinedFacts;rw[zsn,zou,zwm];kernel_rfl
theorem named:Tryz.prog.funcNamed Rows.certHoldsRow.func=some 4:=by kernel_rfl
theorem said:Rows.CertHoldsSaid:=
 OpenClaim.holds_of_cond 4 Tryz.f4 rfl rfl rfl rfl rfl rfl rfl ⟨rfl,rfl,rfl,rfl,rfl⟩ rfl rfl rfl rfl rfl named Tryz.func4 closed
  (of_decide_eq_true (by kernel_rfl)) (by unfold Func.isWrapper;first|rw[if_pos (by decide +kernel)];kernel_rfl|rw[if_neg (by decide +kernel)];exact⟨rfl,rfl⟩)
  (λos started H j _ F=>by rw[OpenClaim.pre_eq_preRow];exact lifted os started H j F)
theorem plain(f:FuncId)(fn:Func)(hf:Tryz.pinned.checked.prog.funcNamed "watchword/watchwordlaw21.CertHolds" =some f)(hfn:Tryz.pinned.checked.prog.funcs[f]?=some fn):
  true=Tryz.pinned.checked.prog.looks []/\∀(j:Nat) t,fn.params[j]?=some t->Tryz.pinned.checked.prog.wantsStandIn t=false:=by
 obtain rfl:f=4:=Option.some.inj ((show Tryz.prog.funcNamed "watchword/watchwordlaw21.CertHolds" =some 4 by kernel_rfl).symm.trans hf) |>.symm;obtain rfl:fn=Tryz.f4:=(Option.some.inj (Tryz.func4.symm.trans hfn)).symm
 refine⟨by kernel_rfl,λj t ht=>?_⟩;rw[Tryz.params4] at ht;have hall:∀t∈[22,37,38,38,39,23,23],Tryz.prog.wantsStandIn t=false:=by
  intro t ht;simp only[List.mem_cons,List.not_mem_nil,or_false] at ht;rcases ht with rfl|rfl|rfl|rfl|rfl|rfl|rfl <;> kernel_rfl
 exact hall t (by simpa using Array.mem_of_getElem? ht)
theorem card:Rows.CertHoldsCardSaid:=
 Claim7.holds_tied_plain_at .later [] _ _ _ _ said (λ_ h=>by cases h) (by kernel_rfl) (λ_ h=>by cases h) certHolds_row_tie rfl ⟨rfl,rfl⟩ zuX rfl plain (by kernel_rfl)
end Go.Proofs.YtdnlngbjpdbffaaGreatDoor.certHolds
