/- CertVerifies: for every input the call returns true and the input reads as it did; on the condition that the listed package-level variables hold what the text lays. -/
import Derived.Test.YtdnlngbjpdbffaaGreatDoorLJ39
import Derived.Test.YtdnlngbjpdbffaaGreatDoorLJ46
set_option maxHeartbeats 1000000
set_option linter.all false
namespace Go.Proofs.YtdnlngbjpdbffaaGreatDoor.certVerifies
open Go Go.Sy Go.Wd Go.Sh Go.RowKit Go.ChangeShapes Go.WideShapes Go.ChangeAt
set_option maxRecDepth 100000 in
theorem contract (H:Type) (enc:TypeId×Value->H) (W:World) (base:Nat) (args:Array Value) (ds gs:List (DataW H)) (before:List MemPlace)
  (hval: ∀(j:Nat) t v,Tryz.f6.params[j]?=some t->args[j]?=some v->Value.okWide Tryz.prog W .any base t v)
  (hW:DataW.Whole enc Tryz.prog Tryz.f6.params.toList Rows.certVerifiesSpec.vars false W args.toList ds gs before) (hL:laidMetH Tryz.prog Rows.certVerifiesRow.laid W):
  Calls Tryz.prog 6 args W λe W'=>∃v,e= .returned v/\Rows.certVerifiesSpec.post enc Tryz.prog Tryz.f6 false true false false W args v W':=by
 have hL':laidMet Tryz.prog Rows.certVerifiesRow.laid W:=hL;have hG:GT W:=zsd hL' (.tail _ (.tail _ (.head _)));have hT:Tab W No:=zrQ hL' (.tail _ (.tail _ (.tail _ (.head _)))) (.tail _ (.tail _ (.tail _ (.tail _ (.head _)))));have hS:ST W:=zr3 hL' (.tail _ (.tail _ (.tail _ (.tail _ (.tail _ (.head _))))));obtain ⟨kb,ko,kc,hR⟩:=zrd hL' (.tail _ (.head _));have hW':=hW;obtain ⟨p,q,hA0,hV,-,-,-⟩:=hW';obtain ⟨rfl,-⟩:=trodVars_none hV;have hA:DataW.TrodAll enc Tryz.prog W 0 (λ_=>true) true Tryz.f6.params.toList args.toList ds p:=hA0;have hp:=Tryz.params6;rw [hp] at hA hval;obtain ⟨v0,vs0,d0,ds0,p0,q0,hargs,rfl,rfl,h0,r0⟩:=trodAll_cons hA;obtain ⟨v1,vs1,d1,ds1,p1,q1,rfl,rfl,rfl,h1,r1⟩:=trodAll_cons r0;obtain ⟨v2,vs2,d2,ds2,p2,q2,rfl,rfl,rfl,h2,r2⟩:=trodAll_cons r1;obtain ⟨v3,vs3,d3,ds3,p3,q3,rfl,rfl,rfl,h3,r3⟩:=trodAll_cons r2;obtain ⟨rfl,rfl,rfl⟩:=trodAll_nil r3;obtain rfl:args= #[v0,v1,v2,v3]:=by cases args;simp_all
 obtain ⟨a0,n0,c0,rfl⟩:=okWide_slice (P:=Tryz.prog) (w:=W) (r:=.any) (base:=base) (t:=22) undCerts (hval 0 22 v0 (by simp) (by simp));obtain ⟨ps0,l0,hn0,hb0,hat0⟩:=zoG h0;obtain ⟨a1,n1,c1,rfl⟩:=okWide_slice (P:=Tryz.prog) (w:=W) (r:=.any) (base:=base) (t:=37) undAnchs (hval 1 37 v1 (by simp) (by simp));obtain ⟨ps1,l1,hn1,hb1,hat1⟩:=zo8 h1;obtain ⟨a2,n2,c2,rfl⟩:=okWide_slice (P:=Tryz.prog) (w:=W) (r:=.any) (base:=base) (t:=38) undRevos (hval 2 38 v2 (by simp) (by simp));obtain ⟨ps2,l2,hn2,hb2,hat2⟩:=zoA h2;obtain ⟨z3,rfl,rfl,rfl,hw3⟩:=open_int (show Tryz.prog.underlying 3=some (.int .i64) by kernel_rfl) (hval 3 3 v3 (by simp) (by simp)) h3;have hall: ∀t∈([22,37,38,3]:List Nat),Nat.blt t Tryz.prog.types.size=true:=by
  intro t ht;simp only [List.mem_cons,List.not_mem_nil,or_false] at ht;rcases ht with rfl|rfl|rfl|rfl <;> kernel_rfl
 have hts: ∀t∈Tryz.f6.params.toList,t < Tryz.prog.types.size:=λt ht=>by rw [hp] at ht;exact Nat.le_of_ble_eq_true (hall t (by simpa using ht))
 exact zrC (tb:=4) kids full hts rfl undBool rfl hW rfl (zhf a0 a1 a2 n0 c0 n1 c1 n2 c2 ps0 l0 ps1 l1 ps2 l2 z3 kb ko kc W hG hT hR hS hn0 hn1 hn2 hat0 hat1 hat2 hb0 hb1 hb2)
theorem zpB (os:Os):laidMet Tryz.prog Rows.certVerifiesRow.laid ((laidWorldS os).forCall (λ_ _=>0) ⟨#[],#[.slice none 0 0,.slice none 0 0,.slice none 0 0,.int .i64 0],[]⟩).memory:=
 laidMet_of_run' 8 (by kernel_rfl) (by kernel_rfl)
theorem reads (os:Os) {H:Type}(enc:TypeId×Value->H): ∃places,DataW.whole enc Tryz.prog ((laidWorldS os).forCall (λ_ _=>0) ⟨#[],#[.slice none 0 0,.slice none 0 0,.slice none 0 0,.int .i64 0],[]⟩).memory Tryz.f6.params.toList Rows.certVerifiesSpec.vars false (#[.slice none 0 0,.slice none 0 0,.slice none 0 0,.int .i64 0]:Array Value).toList 8=some ([.nil,.nil,.nil,.lit (.int .i64 0)],[],places):=
 ⟨[],by kernel_rfl⟩
set_option maxRecDepth 100000 in
theorem lifted (os:Os) (started:os.Started) (H:Type) (enc:TypeId×Value->H) (F:Stop.Interp):
  ReturnsInHanded {} Tryz.checked os 6 .any ((OpenSpec.ofChange Rows.certVerifiesSpec).preRow enc Tryz.prog Tryz.f6 Rows.certVerifiesRow.domain false Rows.certVerifiesRow.laid) (((OpenSpec.ofChange Rows.certVerifiesSpec).at F).post enc Tryz.prog Tryz.f6 false true false false):=by
 obtain ⟨places,hx⟩:=reads os enc;refine returnsInHanded_of_row (C:=Tryz.checked) (s:=OpenSpec.ofChange Rows.certVerifiesSpec) own started (by kernel_rfl) Tryz.func6
  (witness_row_atRef (enc:=enc) (C:=Tryz.checked) false (laidWorldS os) #[.slice none 0 0,.slice none 0 0,.slice none 0 0,.int .i64 0] rfl (by kernel_rfl) (by kernel_rfl) (by kernel_rfl)
   (OpenSpec.preRow_of_cond 8 hx (by kernel_rfl) (λk hk=>by cases hk) (by kernel_rfl) (zpB os))) ?_
 intro W base args ds gs before hval hW _ _ _ hL _ _;exact contract H enc W base args ds gs before hval hW hL
theorem closed:joinedFacts Tryz.prog 6 Tryz.f6 (OpenSpec.ofChange Rows.certVerifiesSpec).bare Rows.certVerifiesRow=true:=by
 unfold joinedFacts;rw [zng,zkH,zqI];kernel_rfl
theorem named:Tryz.prog.funcNamed Rows.certVerifiesRow.func=some 6:=by kernel_rfl
theorem said:Rows.CertVerifiesSaid:=
 OpenClaim.holds_of_cond 6 Tryz.f6 rfl rfl rfl rfl rfl rfl rfl ⟨rfl,rfl,rfl,rfl,rfl⟩ rfl rfl rfl rfl rfl named Tryz.func6 closed
  (of_decide_eq_true (by kernel_rfl)) (by unfold Func.isWrapper;first|(rw [if_pos (by decide +kernel)];kernel_rfl)|(rw [if_neg (by decide +kernel)];exact ⟨rfl,rfl⟩))
  (λos started H enc _ F=>by rw [OpenClaim.pre_eq_preRow];exact lifted os started H enc F)
theorem plain (f:FuncId) (fn:Func) (hf:Tryz.pinned.checked.prog.funcNamed "watchword/watchwordlaw21.CertVerifies" =some f) (hfn:Tryz.pinned.checked.prog.funcs[f]?=some fn):
  true=Tryz.pinned.checked.prog.looks []/\ ∀(j:Nat) t,fn.params[j]?=some t->Tryz.pinned.checked.prog.wantsStandIn t=false:=by
 obtain rfl:f=6:=Option.some.inj ((show Tryz.prog.funcNamed "watchword/watchwordlaw21.CertVerifies" =some 6 by kernel_rfl).symm.trans hf) |>.symm;obtain rfl:fn=Tryz.f6:=(Option.some.inj (Tryz.func6.symm.trans hfn)).symm
 refine ⟨by kernel_rfl,λj t ht=>?_⟩;rw [Tryz.params6] at ht;have hall: ∀t∈[22,37,38,3],Tryz.prog.wantsStandIn t=false:=by
  intro t ht;simp only [List.mem_cons,List.not_mem_nil,or_false] at ht;rcases ht with rfl|rfl|rfl|rfl <;> kernel_rfl
 exact hall t (by simpa using Array.mem_of_getElem? ht)
theorem card:Rows.CertVerifiesCardSaid:=
 Claim7.holds_tied_plain_at .later [] _ _ _ _ said (λ_ h=>by cases h) (by kernel_rfl) (λ_ h=>by cases h) certVerifies_row_tie rfl ⟨rfl,rfl⟩ zrf rfl plain (by kernel_rfl)
end Go.Proofs.YtdnlngbjpdbffaaGreatDoor.certVerifies
