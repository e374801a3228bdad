/- PakeFinishes: for every input the call returns true and the input reads as it did; on the condition that the listed package-level variables hold what the text lays. -/
import Derived.Test.YtcpjfilcilcekaaGreatDoorYJ25
import Derived.Test.YtcpjfilcilcekaaGreatDoorYJ46
set_option linter.all false
namespace Go.Proofs.YtcpjfilcilcekaaGreatDoor.pakeFinishes
open Go Go.Sy Go.Wd Go.Sh Go.RowKit Go.ChangeShapes Go.WideShapes Go.ChangeAt
set_option maxRecDepth 100000 in
set_option maxHeartbeats 1000000 in
theorem contract (H:Type) (enc:TypeId×Value->H) (W:World) (base:Nat) (args:Array Value) (ds gs:List (DataW H)) (before:List MemPlace)
  (hval: ∀(j:Nat) t v,Tryz.f5.params[j]?=some t->args[j]?=some v->Value.okWide Tryz.prog W .any base t v)
  (hW:DataW.Whole enc Tryz.prog Tryz.f5.params.toList Rows.pakeFinishesSpec.vars false W args.toList ds gs before) (hL:laidMetH Tryz.prog Rows.pakeFinishesRow.laid W):
  Calls Tryz.prog 5 args W λe W'=>∃v,e= .returned v/\Rows.pakeFinishesSpec.post enc Tryz.prog Tryz.f5 false true false false W args v W':=by
 have hL':laidMet Tryz.prog Rows.pakeFinishesRow.laid W:=hL
 have hG:GT W:=zrp hL' (.tail _ (.tail _ (.head _)))
 have hT:Tab W No:=zqX hL' (.tail _ (.tail _ (.tail _ (.head _)))) (.tail _ (.tail _ (.tail _ (.tail _ (.head _)))))
 obtain ⟨kb,ko,kc,hR⟩:=zpZ hL' (.tail _ (.head _))
 have hW':=hW
 obtain ⟨p,q,hA0,hV,-,-,-⟩:=hW'
 obtain ⟨rfl,-⟩:=trodVars_none hV
 have hA:DataW.TrodAll enc Tryz.prog W 0 (λ_=>true) true Tryz.f5.params.toList args.toList ds p:=hA0
 have hp:=Tryz.params5
 rw [hp] at hA hval
 obtain ⟨v0,vs0,d0,ds0,p0,q0,hargs,rfl,rfl,h0,r0⟩:=trodAll_cons hA
 obtain ⟨v1,vs1,d1,ds1,p1,q1,rfl,rfl,rfl,h1,r1⟩:=trodAll_cons r0
 obtain ⟨v2,vs2,d2,ds2,p2,q2,rfl,rfl,rfl,h2,r2⟩:=trodAll_cons r1
 obtain ⟨v3,vs3,d3,ds3,p3,q3,rfl,rfl,rfl,h3,r3⟩:=trodAll_cons r2
 obtain ⟨v4,vs4,d4,ds4,p4,q4,rfl,rfl,rfl,h4,r4⟩:=trodAll_cons r3
 obtain ⟨v5,vs5,d5,ds5,p5,q5,rfl,rfl,rfl,h5,r5⟩:=trodAll_cons r4
 obtain ⟨v6,vs6,d6,ds6,p6,q6,rfl,rfl,rfl,h6,r6⟩:=trodAll_cons r5
 obtain ⟨rfl,rfl,rfl⟩:=trodAll_nil r6
 obtain rfl:args= #[v0,v1,v2,v3,v4,v5,v6]:=by cases args;simp_all
 obtain ⟨z0,rfl,rfl,rfl,hw0⟩:=open_int (show Tryz.prog.underlying 3=some (.int .i64) by kernel_rfl) (hval 0 3 v0 (by simp) (by simp)) h0
 obtain ⟨z1,rfl,rfl,rfl,hw1⟩:=open_int (show Tryz.prog.underlying 3=some (.int .i64) by kernel_rfl) (hval 1 3 v1 (by simp) (by simp)) h1
 obtain ⟨a2,n2,c2,rfl⟩:=okWide_slice (P:=Tryz.prog) (w:=W) (r:=.any) (base:=base) (t:=22) undBytes (hval 2 22 v2 (by simp) (by simp))
 obtain ⟨a2',n2',c2',l2,e2,hn2,hc2,hm2,hsl2,hnil2⟩:=zb9 (P:=Tryz.prog) undBytes undByte cellsByte h2 rfl
 cases e2
 obtain ⟨a3,n3,c3,rfl⟩:=okWide_slice (P:=Tryz.prog) (w:=W) (r:=.any) (base:=base) (t:=22) undBytes (hval 3 22 v3 (by simp) (by simp))
 obtain ⟨a3',n3',c3',l3,e3,hn3,hc3,hm3,hsl3,hnil3⟩:=zb9 (P:=Tryz.prog) undBytes undByte cellsByte h3 rfl
 cases e3
 obtain ⟨a4,n4,c4,rfl⟩:=okWide_slice (P:=Tryz.prog) (w:=W) (r:=.any) (base:=base) (t:=22) undBytes (hval 4 22 v4 (by simp) (by simp))
 obtain ⟨a4',n4',c4',l4,e4,hn4,hc4,hm4,hsl4,hnil4⟩:=zb9 (P:=Tryz.prog) undBytes undByte cellsByte h4 rfl
 cases e4
 obtain ⟨a5,n5,c5,rfl⟩:=okWide_slice (P:=Tryz.prog) (w:=W) (r:=.any) (base:=base) (t:=43) undLists (hval 5 43 v5 (by simp) (by simp))
 obtain ⟨a5',n5',c5',l5,e5,hn5,hc5,hm5,hsl5,hnil5,hxs5⟩:=zkj (P:=Tryz.prog) undLists cellsBytes undBytes undByte cellsByte h5 rfl
 cases e5
 obtain ⟨a6,n6,c6,rfl⟩:=okWide_slice (P:=Tryz.prog) (w:=W) (r:=.any) (base:=base) (t:=22) undBytes (hval 6 22 v6 (by simp) (by simp))
 obtain ⟨a6',n6',c6',l6,e6,hn6,hc6,hm6,hsl6,hnil6⟩:=zb9 (P:=Tryz.prog) undBytes undByte cellsByte h6 rfl
 cases e6
 have hall: ∀t∈([3,3,22,22,22,43,22]:List Nat),Nat.blt t Tryz.prog.types.size=true:=by
  intro t ht
  simp only [List.mem_cons,List.not_mem_nil,or_false] at ht
  rcases ht with rfl|rfl|rfl|rfl|rfl|rfl|rfl <;> kernel_rfl
 have hts: ∀t∈Tryz.f5.params.toList,t < Tryz.prog.types.size:=λt ht=>by rw [hp] at ht;exact Nat.le_of_ble_eq_true (hall t (by simpa using ht))
 exact zq0 (tb:=4) kids full hts rfl undBool rfl hW rfl (zhr zlr z0 z1 a2 a3 a4 a5 a6 n2 n3 n4 n5 n6 c2 c3 c4 c5 c6 kb ko kc l2 l3 l4 l5 l6 W hT hG hR ⟨hn2,hc2,hsl2,hnil2⟩ ⟨hn3,hc3,hsl3,hnil3⟩ ⟨hn4,hc4,hsl4,hnil4⟩ hn5 hsl5 hxs5 ⟨hn6,hc6,hsl6,hnil6⟩)
theorem zoQ (os:Os):laidMet Tryz.prog Rows.pakeFinishesRow.laid ((laidWorldR os).forCall (λ_ _=>0) ⟨#[],#[.int .i64 0,.int .i64 0,.slice none 0 0,.slice none 0 0,.slice none 0 0,.slice none 0 0,.slice none 0 0],[]⟩).memory:=
 laidMet_of_run' 8 (by kernel_rfl) (by kernel_rfl)
theorem reads (os:Os) {H:Type}(enc:TypeId×Value->H): ∃places,DataW.whole enc Tryz.prog ((laidWorldR os).forCall (λ_ _=>0) ⟨#[],#[.int .i64 0,.int .i64 0,.slice none 0 0,.slice none 0 0,.slice none 0 0,.slice none 0 0,.slice none 0 0],[]⟩).memory Tryz.f5.params.toList Rows.pakeFinishesSpec.vars false (#[.int .i64 0,.int .i64 0,.slice none 0 0,.slice none 0 0,.slice none 0 0,.slice none 0 0,.slice none 0 0]:Array Value).toList 8=some ([.lit (.int .i64 0),.lit (.int .i64 0),.nil,.nil,.nil,.nil,.nil],[],places):=
 ⟨[],by kernel_rfl⟩
set_option maxRecDepth 100000 in
theorem lifted (os:Os) (started:os.Started) (H:Type) (enc:TypeId×Value->H) (F:Stop.Interp):
  ReturnsInHanded {} Tryz.checked os 5 .any ((OpenSpec.ofChange Rows.pakeFinishesSpec).preRow enc Tryz.prog Tryz.f5 Rows.pakeFinishesRow.domain false Rows.pakeFinishesRow.laid) (((OpenSpec.ofChange Rows.pakeFinishesSpec).at F).post enc Tryz.prog Tryz.f5 false true false false):=by
 obtain ⟨places,hx⟩:=reads os enc
 refine returnsInHanded_of_row (C:=Tryz.checked) (s:=OpenSpec.ofChange Rows.pakeFinishesSpec) own started (by kernel_rfl) Tryz.func5
  (witness_row_atRef (enc:=enc) (C:=Tryz.checked) false (laidWorldR os) #[.int .i64 0,.int .i64 0,.slice none 0 0,.slice none 0 0,.slice none 0 0,.slice none 0 0,.slice none 0 0] rfl (by kernel_rfl) (by kernel_rfl) (by kernel_rfl)
   (OpenSpec.preRow_of_cond 8 hx (by kernel_rfl) (λk hk=>by cases hk) (by kernel_rfl) (zoQ os))) ?_
 intro W base args ds gs before hval hW _ _ _ hL _ _
 exact contract H enc W base args ds gs before hval hW hL
theorem closed:joinedFacts Tryz.prog 5 Tryz.f5 (OpenSpec.ofChange Rows.pakeFinishesSpec).bare Rows.pakeFinishesRow=true:=by
 unfold joinedFacts
 rw [zmc,zkf,zpV]
 kernel_rfl
theorem named:Tryz.prog.funcNamed Rows.pakeFinishesRow.func=some 5:=by kernel_rfl
theorem said:Rows.PakeFinishesSaid:=
 OpenClaim.holds_of_cond 5 Tryz.f5 rfl rfl rfl rfl rfl rfl rfl ⟨rfl,rfl,rfl,rfl,rfl⟩ rfl rfl rfl rfl rfl named Tryz.func5 closed
  (of_decide_eq_true (by kernel_rfl)) (by unfold Func.isWrapper;first|(rw [if_pos (by decide +kernel)];kernel_rfl)|(rw [if_neg (by decide +kernel)];exact ⟨rfl,rfl⟩))
  (λos started H enc _ F=>by rw [OpenClaim.pre_eq_preRow];exact lifted os started H enc F)
theorem plain (f:FuncId) (fn:Func) (hf:Tryz.pinned.checked.prog.funcNamed "watchword/watchwordlaw33.PakeFinishes" =some f) (hfn:Tryz.pinned.checked.prog.funcs[f]?=some fn):
  false=Tryz.pinned.checked.prog.looks []/\ ∀(j:Nat) t,fn.params[j]?=some t->Tryz.pinned.checked.prog.wantsStandIn t=false:=by
 obtain rfl:f=5:=Option.some.inj ((show Tryz.prog.funcNamed "watchword/watchwordlaw33.PakeFinishes" =some 5 by kernel_rfl).symm.trans hf) |>.symm
 obtain rfl:fn=Tryz.f5:=(Option.some.inj (Tryz.func5.symm.trans hfn)).symm
 refine ⟨by kernel_rfl,λj t ht=>?_⟩
 rw [Tryz.params5] at ht
 have hall: ∀t∈[3,3,22,22,22,43,22],Tryz.prog.wantsStandIn t=false:=by
  intro t ht
  simp only [List.mem_cons,List.not_mem_nil,or_false] at ht
  rcases ht with rfl|rfl|rfl|rfl|rfl|rfl|rfl <;> kernel_rfl
 exact hall t (by simpa using Array.mem_of_getElem? ht)
theorem card:Rows.PakeFinishesCardSaid:=
 Claim7.holds_tied_plain_at .later [] _ _ _ _ said (λ_ h=>by cases h) (by kernel_rfl) (λ_ h=>by cases h) pakeFinishes_row_tie rfl ⟨rfl,rfl⟩ zpW rfl plain (by kernel_rfl)
end Go.Proofs.YtcpjfilcilcekaaGreatDoor.pakeFinishes
