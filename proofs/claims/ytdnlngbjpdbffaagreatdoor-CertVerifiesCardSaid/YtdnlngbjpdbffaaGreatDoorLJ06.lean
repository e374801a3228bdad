/- From a walk's contract to what a row asks: true, and every argument reads as it read. -/
import Derived.Test.YtdnlngbjpdbffaaGreatDoorLJ04
import Derived.ChangeSame
import Derived.ReadAgain
import Derived.RowKit
import Derived.OpenShut
import Derived.ChangeSlices
import Derived.Lib.LaidTab
import Derived.Deep.Slices
import Derived.Test.YtdnlngbjpdbffaaGreatDoorLJ05
import Derived.Test.YtdnlngbjpdbffaaGreatDoorCards
import Derived.Test.YtdnlngbjpdbffaaGreatDoorTie
import Derived.WalkKit
import Derived.ProofKit
import Derived.Deep.DeepHandedRow
import Derived.Deep.DeepWitnessRowRef
set_option linter.all false
section
namespace Go.Sy
open Go Go.Wd Go.RowKit Go.ChangeShapes Go.WideShapes
section
variable {H:Type}{enc:TypeId×Value->H}{P:Program}
theorem ze8 {w w':World}{base:Nat}{sp:Nat->Bool}{held:Bool} : ∀ {ts:List TypeId}{vs:List Value}{ds:List (DataW H)}{ps:List MemPlace},DataW.TrodAll enc P w base sp held ts vs ds ps->(∀p∈ps,w.sameAt w' p)->DataW.TrodAll enc P w' base sp held ts vs ds ps
 | [],[],[],_,h,_=>h
 |_::_,_::_,_::_,_,⟨p,q,⟨n,hn⟩,h2,e⟩,hs=>⟨p,q,⟨n,DataW.trod_carry n _ _ _ hn λx hx=>hs x (by rw [e];exact List.mem_append_left _ hx)⟩,ze8 h2 λx hx=>hs x (by rw [e];exact List.mem_append_right _ hx),e⟩
theorem zm2 {w w':World}(hk:Keep No w w') {p:MemPlace}(hp:p.block < w.heap.size):w.sameAt w' p:=by
 have:=hk.block p.block hp (λh=>h);cases p with
 |cell b off=>exact World.cell?_of_block (w:=w) this
 |map b=>exact this
theorem zrC {s:ChangeSpec}{f:Func}{fid tb:Nat}{apart fresh handsOn again:Bool}{W:World}{args:Array Value}{ds gs:List (DataW H)}{before:List MemPlace}
  (K:Kids P (· < P.types.size)) (hz: ∀t e,t < P.types.size->P.underlying t=some (.slice e)->0 < P.cellsOf e) (hts: ∀t∈f.params.toList,t < P.types.size) (hres:f.resultTypes= #[tb]) (hb:P.underlying tb=some .bool) (hv:s.vars= [])
  (hW:DataW.Whole enc P f.params.toList s.vars apart W args.toList ds gs before) (hsp:s.fn H (ds ++ gs)= { results:=[.lit (.bool true)],args:=ds })
  (hc:Sy.Fn P fid args.toList W No (Gives (.bool true))):Calls P fid args W λe W'=>∃v,e= .returned v/\s.post enc P f apart fresh handsOn again W args v W':=by
 have hW0:=hW;obtain ⟨p,q,hA,hV,he,hfz,hnd⟩:=hW;rw [hv] at hV;obtain ⟨rfl,rfl⟩:=trodVars_none hV;rw [List.append_nil] at he;subst he;unfold Sy.Fn at hc;rw [show args.toList.toArray=args by simp] at hc;refine Calls.mono hc ?_;rintro e W' ⟨v,R,rfl,⟨rfl,rfl⟩,hk,-⟩;have hlt:=hW0.lt;have hsame: ∀x∈before,W.sameAt W' x:=λx hx=>zm2 hk (hlt x hx);have hres': ∀(b:Nat) (sp:Nat->Bool) (hd:Bool),DataW.TrodAll enc P W' b sp hd f.resultTypes.toList ((Value.bool true).resultList f.resultTypes.size) (s.fn H (ds ++ [])).results []:=by
  intro b sp hd;rw [hsp,hres];exact trodAll_cons_mk (shut_bool hb _) trodAll_mk0
 have hargs: ∀sp:Nat->Bool,(∀x∈before,sp x.block=true)->DataW.TrodAll enc P W' 0 sp true f.params.toList args.toList (s.fn H (ds ++ [])).args before:=by
  intro sp hsp';rw [hsp];exact ze8 (DataW.TrodAll.respare K hz hts hA hsp') hsame
 have hvars: ∀sp:Nat->Bool,DataW.TrodVars enc P W' sp s.vars (s.fn H (ds ++ [])).vars []:=by
  intro sp;rw [hv,hsp];rfl
 have hold: ∀x∈before,(λb=>decide (b < W.heap.size)) x.block=true:=λx hx=>by simpa using hlt x hx
 refine ⟨_,rfl,ds,[],before,[],before,[],hW0,hres' _ _ _,hargs _ hold,hvars _,World.keptBut_mono (λx hx=>⟨hx,.inr (by simpa using hx)⟩) (hk.below.frame _),λ_=>?_⟩;refine ⟨ok_one hres rfl (okWide_bool_mk hb _),_,_,([] ++ before) ++ [],⟨[] ++ before,[],trodAll_append (hargs _ (λ_ _=>rfl)) (hres' _ _ _),hvars _,rfl,?_,?_⟩,?_⟩
 ·intro b off hp;have hp':MemPlace.cell b off∈before:=by simpa using hp
  rw [hk.below.frozen (p:=⟨b,off,none⟩) (hlt _ hp')];exact hfz b off hp'
 ·intro ha;have:=hnd ha;simpa using this
 ·intro x hx _;simpa using hx
theorem zi2 {t e:TypeId}(ht:P.underlying t=some (.slice e)) (he:P.underlying e=some (.int .u8)) (hc:P.cellsOf e=1) {W:World}{v:Value}{d0:DataW H}{p:List MemPlace}
  (h0:DataW.Trod enc P W 0 (λ_=>true) true t v d0 p) (hv:v.oneCell'=true):
  ∃a0 n c,∃l:List UInt8,v= .slice a0 n c/\l.length=n/\n<=c/\c<=maxLen/\SlA W a0 (l.map v8)/\(a0=none->c=0):=by
 obtain ⟨fuel,hf⟩:=h0;have hcv:v.cells.toList= [v]:=by cases v <;> first|rfl|(simp [Value.oneCell'] at hv)
 rw [hcv] at hf;rcases open_ints ht he hc hf with ⟨hcs,hx⟩|⟨a,len',cap',zs,hcs,_,hl,hm,hz,hx,hcell,hwz⟩
 ·obtain rfl:v= .slice none 0 0:=by simpa using hcs
  exact ⟨none,0,0,[],rfl,rfl,Nat.le_refl _,Nat.zero_le _,.inl rfl,λ_=>rfl⟩
 ·obtain rfl:v= .slice (some a) len' cap':=by simpa using hcs
  simp only [if_true] at hz;have hbyte: ∀x∈zs,0<=x/\x < 256:=λx hx=>by
   have h1:IntKind.u8.min=0:=rfl;have h2:IntKind.u8.max=255:=rfl;have:=hwz x hx;simp only [Lit.wf,Bool.and_eq_true,decide_eq_true_eq] at this;omega
  have hsla:SlA W (some a) (((zs.take len').map λz=>UInt8.ofNat z.toNat).map v8):=by
   by_cases h0:len'=0
   ·subst h0;exact .inl q_p
   ·have c0:=hcell 0 q_o;have hmid:a.spot=none:=by
     unfold World.cell? at c0;split at c0
     ·split at c0
      ·cases c0
      ·rename_i hsp;simpa [Addr.add] using hsp
     ·cases c0
    obtain ⟨b,off,sp⟩:=a;dsimp only at hmid;subst hmid;refine .inr ⟨b,off,rfl,λj u hj=>?_⟩;rw [List.getElem?_map,List.getElem?_map,List.getElem?_take] at hj;split at hj
    ·rename_i hjl;have hjz:j < zs.length:=q_o;rw [List.getElem?_eq_getElem hjz] at hj;simp only [Option.map_some,Option.some.injEq] at hj;subst hj;have:=hcell j hjz;rw [Addr.add_mid] at this;rw [this];have hb:=hbyte _ (List.getElem_mem hjz);simp only [v8,n8_of_nat,List.getD_eq_getElem?_getD,List.getElem?_eq_getElem hjz,Option.getD_some];congr 2;omega
    ·cases hj
  exact ⟨some a,len',cap',_,rfl,by simp;omega,hl,hm,hsla,λh=>by cases h⟩
theorem zf1 {w:World} : ∀ {l:List (String×DataW Unit)}{ps:List MemPlace},DataW.LaidVars P w l ps-> ∀ {n:String}{d:DataW Unit},(n,d)∈l->
  ∃g t cs fuel p,P.globalNamed n=some g/\(P.globals[g]?).map (·.type)=some t/\w.var? P n=some cs/\DataW.trod (λ_=>()) P w 0 (λ_=>true) false fuel t cs.toList=some (d,p)
 | [],_,_,_,_,h=>by cases h
 |(n,d)::r,ps,⟨g,t,cs,fuel,p,q,h1,h2,h3,h4,h5,_⟩,n',d',h=>by
  rcases List.mem_cons.1 h with e|h'
  ·cases e;exact ⟨g,t,cs,fuel,p,h1,h2,h3,h4⟩
  ·exact zf1 h5 h'
theorem zgN {w:World}{l:List (String×DataW Unit)}(h:laidMet P l w) {n:String}{k:IntKind}{zs:List Int}{g t e m:Nat}(hm:(n,Lib.tabData k zs)∈l) (hg:P.globalNamed n=some g) (hty:(P.globals[g]?).map (·.type)=some t)
  (ht:P.underlying t=some (.array m e)) (he:P.underlying e=some (.int k)) (hce:P.cellsOf e=1) (hct:P.cellsOf t=m):w.rangeAt g 0 (zs.map (Value.int k)):=by
 obtain ⟨ps,hl,_⟩:=h;obtain ⟨g',t',cs,fuel,p,hg',ht',hvar,hd⟩:=zf1 hl hm;obtain rfl:=Option.some.inj (hg.symm.trans hg');obtain rfl:=Option.some.inj (hty.symm.trans ht');have hcs:=Lib.cells_of_tab ht he hce hct hd;intro j v hj;rw [World.var?_cell hg hvar,Nat.zero_add,<-Array.getElem?_toList,hcs];exact hj
theorem zmi {w:World}{l:List (String×DataW Unit)}(h:laidMet P l w) {n:String}{k:IntKind}{zs:List Int}{g t e:Nat}(hm:(n,DataW.slice (zs.map λz=> .lit (.int k z)) [])∈l) (hg:P.globalNamed n=some g) (hty:(P.globals[g]?).map (·.type)=some t)
  (ht:P.underlying t=some (.slice e)) (he:P.underlying e=some (.int k)) (hce:P.cellsOf e=1) (hne:zs≠[]): ∃b o c,w.cell? ⟨g,0,none⟩=some (.slice (some ⟨b,o,none⟩) zs.length c)/\w.rangeAt b o (zs.map (Value.int k)):=by
 obtain ⟨ps,hl,_⟩:=h;obtain ⟨g',t',cs,fuel,p,hg',ht',hvar,hd⟩:=zf1 hl hm;obtain rfl:=Option.some.inj (hg.symm.trans hg');obtain rfl:=Option.some.inj (hty.symm.trans ht');rcases open_ints ht he hce hd with ⟨hcs,hx⟩|⟨a,len,cap,zs',hcs,_,hl',hm',hz,hx,hcell,hwz⟩
 ·simp only [Prod.mk.injEq] at hx;cases hx.1
 ·simp only [Prod.mk.injEq,DataW.slice.injEq] at hx;have hzz:zs'=zs:=by
   have h1:(zs.map λz=>(DataW.lit (.int k z):DataW Unit))=(zs'.take len).map λz=> .lit (.int k z):=hx.1.1;have h2:([]:List (DataW Unit))=(zs'.drop len).map λz=> .lit (.int k z):=hx.1.2;have h3:zs'.drop len= []:=List.map_eq_nil_iff.1 h2.symm;have h4:zs'.take len=zs':=by have:=List.take_append_drop len zs';rw [h3,List.append_nil] at this;exact this
   have inj: ∀(a b:List Int),(a.map λz=>(DataW.lit (.int k z):DataW Unit))=b.map (λz=> .lit (.int k z))->a=b:=by
    intro a
    induction a with
    |nil=>intro b hb;cases b with
     |nil=>rfl
     |cons _ _=>cases hb
    |cons x a ih=>intro b hb;cases b with
     |nil=>cases hb
     |cons y b=>simp only [List.map_cons,List.cons.injEq,DataW.lit.injEq,Lit.int.injEq,true_and] at hb;rw [hb.1,ih b hb.2]
   exact h4.symm.trans (inj _ _ h1).symm
  subst hzz;have hpos:0 < zs'.length:=List.length_pos_iff.2 hne;have hlen:len=zs'.length:=by
   have:=congrArg List.length hx.1.1;simp [lits] at this;simp only [if_true] at hz;omega
  have c0:=hcell 0 hpos;have hmid:a.spot=none:=by
   unfold World.cell? at c0;split at c0
   ·split at c0
    ·cases c0
    ·rename_i hsp;simpa [Addr.add] using hsp
   ·cases c0
  obtain ⟨b,off,sp⟩:=a;dsimp only at hmid;subst hmid;refine ⟨b,off,cap,?_,λj u hj=>?_⟩
  ·rw [World.var?_cell hg hvar,<-Array.getElem?_toList,hcs,hlen];rfl
  ·rw [List.getElem?_map] at hj;obtain ⟨z,hz',rfl⟩:=Option.map_eq_some_iff.1 hj;have hjl:=(List.getElem?_eq_some_iff.1 hz').1;have:=hcell j hjl;rw [Addr.add_mid] at this;rw [this];simp [List.getD,hz']
end
structure Bs where
 a:Option Addr
 n:Nat
 c:Nat
 l:List UInt8
def Bs.val (s:Bs):Value:=.slice s.a s.n s.c
structure Bs.ok (w:World) (s:Bs):Prop where
 len:s.l.length=s.n
 cap:s.n<=s.c
 sla:SlA w s.a (s.l.map v8)
 nil:s.a=none->s.c=0
def Bs.cat (xs:List Bs):List UInt8:=xs.flatMap (·.l)
theorem Bs.ok.keep {w0 w:World}{s:Bs}(h:s.ok w0) (hk:Keep No w0 w):s.ok w:=⟨h.len,h.cap,h.sla.keep hk (λ_ _ h=>h),h.nil⟩
section
variable {H:Type}{enc:TypeId×Value->H}{P:Program}
end
end Go.Sy
namespace Go.Sy
open Go
theorem zfr {α:Type}{R:α->α->Prop}(hs: ∀a b,R a b->R b a): ∀ {l:List α},l.Pairwise R-> ∀ {a b:α},a∈l->b∈l->a≠b->R a b
 |x::l,h,a,b,ha,hb,hne=>by
  obtain ⟨h1,h2⟩:=List.pairwise_cons.1 h;rcases List.mem_cons.1 ha with e|ha
  ·rcases List.mem_cons.1 hb with e'|hb
   ·exact absurd (e.trans e'.symm) hne
   ·rw [e];exact h1 b hb
  ·rcases List.mem_cons.1 hb with e'|hb
   ·rw [e'];exact hs _ _ (h1 a ha)
   ·exact zfr hs h2 ha hb hne
section
variable {w0 w:World}{M:Nat->Prop}{B0:Nat}{L X:List Res}
theorem Holds.two (h:Holds B0 M L w) {r r':Res}(hr:Has L r) (hr':Has L r') (hne:r≠r'):Apart r r':=zfr (λ_ _ h=>Apart.symm h) h.apart hr.mem hr'.mem hne
end
theorem Bs.get {w:World}{a:Option Addr}{xs:List Bs}(h:SlA w a (xs.map Bs.val)) {i:Nat}(hi:i < xs.length): ∃b off,a=some ⟨b,off,none⟩/\ ∀j (hj:j < xs.length),w.cell? ⟨b,off+j,none⟩=some (.slice xs[j].a xs[j].n xs[j].c):=by
 rcases h with h|⟨b,off,rfl,h⟩
 ·have:=congrArg List.length h;simp at this;rw [this] at hi;cases hi
 ·exact ⟨b,off,rfl,λj hj=>h j _ (by rw [List.getElem?_map,List.getElem?_eq_getElem hj];rfl)⟩
theorem Bs.cat_succ (xs:List Bs) (i:Nat) (h:i < xs.length):Bs.cat (xs.take (i+1))=Bs.cat (xs.take i) ++ xs[i].l:=by
 unfold Bs.cat;rw [List.take_succ,List.getElem?_eq_getElem h,List.flatMap_append];simp
section
variable {P:Program}{ro:Option Nat}{N:Nat}{w0:World}{M:Nat->Prop}{ds:List Deferred}{Q:Exit->Act->World->Prop}{fr:Fr}{L:List Res}
theorem zcA {c:Code}{p:Prop}(hp: ∀w,Holds w0.heap.size M L w->p) (h:p->Sy P ro N w0 M ds c Q fr L):Sy P ro N w0 M ds c Q fr L:=λa w hs=>by
 obtain ⟨Ds,h1,h2⟩:=hs;exact h (hp w (h2.hold.sublist (List.sublist_append_left _ _))) a w ⟨Ds,h1,h2⟩
theorem ze3 {ops:Array Oper}{rest:List Oper}{p:Prop}(hp: ∀w,Holds w0.heap.size M L w->p) (h:p->SyL P ro N w0 M ds ops Q rest fr L):SyL P ro N w0 M ds ops Q rest fr L:=λa w hs=>by
 obtain ⟨Ds,h1,h2⟩:=hs;exact h (hp w (h2.hold.sublist (List.sublist_append_left _ _))) a w ⟨Ds,h1,h2⟩
end
section
variable {P:Program}{ro:Option Nat}{N:Nat}{w0:World}{M:Nat->Prop}{ds:List Deferred}{ops:Array Oper}{T:List Oper->Fr->List Res->Prop}{C E:List (List Nat)}{Z:Option Nat}{L0:List Res}{k i n:Nat}{o:Oper}{rest:List Oper}{F:Env->Fr}{rs:List (Nat×(Env->Value->List Res->Prop))}
theorem zgV {R:Env->Value->List Res->Prop}(hl: ∀ρ ρ':Env,(∀k,k∈cl C i->ρ k=ρ' k)->R ρ=R ρ') (hg: ∀ρ,relOf (cl C i) rs ρ->OpT P ro N w0 M ds o (only (o.looksAt ops) (get (F ρ))) (resOf (visE C E i) rs ρ (baseE C Z L0 i)) (λv L'=>∃Nw,L'=Nw ++ resOf (leftE C E i) rs ρ (leftB C Z L0 i)/\R ρ v Nw)) (hw: ∀ρ,wants ops o (only (o.looksAt ops) (get (F ρ)))=some true:=by exact λ_=>rfl) (hd:o.dst=none:=by exact rfl)
  (h:DHE P ro N w0 M ds ops T C E Z L0 k (i+1) rest F ((i,R)::rs)):DHE P ro N w0 M ds ops T C E Z L0 (k+1) i (o::rest) F rs:=
 .inr ⟨R,hl,λρ hρ=> .inl ⟨hw ρ,hg ρ hρ⟩,by rw [hd];exact h⟩
end
def PtrOf (T:Nat) (C:List Value) (v:Value) (Nw:List Res):Prop:=∃b,v= .pointer (some ⟨b,0,none⟩)/\Nw= [.blk b T C]
def RowOf (E:Nat) (n:Nat) (xs:List Value) (v:Value) (Nw:List Res):Prop:=∃a c,v= .slice a n c/\Nw= [.row v E 1 n xs]
end Go.Sy
end
section
namespace Go.Proofs.YtdnlngbjpdbffaaGreatDoor
open Go Go.Sy Go.RowKit
theorem own:ownKnob Tryz.prog.godebug=none:=by kernel_rfl
theorem kids:Kids Tryz.prog (· < Tryz.prog.types.size):=kids_rows (by kernel_rfl) (by kernel_rfl)
theorem full: ∀t e,t < Tryz.prog.types.size->Tryz.prog.underlying t=some (.slice e)->0 < Tryz.prog.cellsOf e:=slices_full_of Tryz.prog (by kernel_rfl)
theorem undBool:Tryz.prog.underlying 4=some .bool:=by kernel_rfl
def orderChars:List Char:=([104,97,114,110,101,115,115,32,48,49,48,53,54,48,57,49,100,49,48,50,100,49,101,53,100,49,53,51,51,50,51,49,98,55,102,48,99,48,53,51,53,51,51,98,101,101,99,101,102,57,57,101,52,56,57,97,56,98,56,48,53,98,48,101,56,102,51,98,48,54,56,56,32,99,117,116,32,97,116,32,119,97,116,99,104,119,111,114,100,47,119,97,116,99,104,119,111,114,100,108,97,119,50,49,46,67,101,114,116,67,104,97,105,110,115,32,119,97,116,99,104,119,111,114,100,47,119,97,116,99,104,119,111,114,100,108,97,119,50,49,46,67,101,114,116,72,111,108,100,115,32,119,97,116,99,104,119,111,114,100,47,119,97,116,99,104,119,111,114,100,108,97,119,50,49,46,67,101,114,116,73,115,115,117,101,115,32,119,97,116,99,104,119,111,114,100,47,119,97,116,99,104,119,111,114,100,108,97,119,50,49,46,67,101,114,116,86,101,114,105,102,105,101,115,32,119,97,116,99,104,119,111,114,100,47,119,97,116,99,104,119,111,114,100,108,97,119,50,49,46,67,101,114,116,76,105,109,105,116,115,32,119,97,116,99,104,119,111,114,100,47,119,97,116,99,104,119,111,114,100,108,97,119,50,49,46,67,101,114,116,67,111,112,105,101,115,32,119,97,116,99,104,119,111,114,100,47,119,97,116,99,104,119,111,114,100,108,97,119,50,49,46,67,101,114,116,69,110,99,111,100,101,115]:List Nat).map Char.ofNat
theorem order_lit:Tryz.prog.initOrder= "harness 01056091d102d1e5d1533231b7f0c053533beecef99e489a8b805b0e8f3b0688 cut at watchword/watchwordlaw21.CertChains watchword/watchwordlaw21.CertHolds watchword/watchwordlaw21.CertIssues watchword/watchwordlaw21.CertVerifies watchword/watchwordlaw21.CertLimits watchword/watchwordlaw21.CertCopies watchword/watchwordlaw21.CertEncodes" :=by kernel_rfl
theorem zoP:Tryz.prog.initOrder=String.ofList orderChars:=order_lit.trans (by kernel_rfl)
theorem zgh:Tryz.prog.initOrder.toList=orderChars:=by rw [zoP];exact String.toList_ofList
def cutW:List Char:=([99,117,116]:List Nat).map Char.ofNat
def restWords:List (List Char):=(behindMainWord (wordsSigns orderChars)).tail
theorem zpr:behindMainWord (wordsSigns orderChars)=cutW::restWords:=by kernel_rfl
theorem zkl (r:List (List Char)):stripLifts liftWords (cutW::r)=([],cutW::r):=by kernel_rfl
theorem zk4:(cutW == "gc".toList)=false:=by decide +kernel
theorem zih:(cutW == "spec".toList)=false:=by decide +kernel
theorem zoQ:(cutW == "cut".toList)=true:=by decide +kernel
theorem zjc:(cutW == "carried".toList)=false:=by decide +kernel
theorem zjr:(some cutW == some "cut".toList)=true:=by decide +kernel
theorem zkd:(some cutW == some "carried".toList)=false:=by decide +kernel
section
variable (P:Program) (r:List (List Char)) (hw:behindMainWord (wordsSigns P.initOrder.toList)=cutW::r)
include hw
theorem zre:P.headLifts= []:=by
 unfold Program.headLifts;simp only [hw,zkl,List.head?_cons,zjr,if_true]
theorem zrh (hl:P.laysLater=false) (hb:P.bearsReflect=false) (hd:P.doorFits []=true):P.mayEnter=true:=by
 unfold Program.mayEnter;simp only [hw,zkl,zk4,zih,zjc,List.head?_cons,zjr,hl,hb,hd,Bool.false_and,Bool.false_or,Bool.or_false,Bool.and_true,Bool.true_and,Bool.not_false,Bool.or_true];rfl
theorem zoz:P.liftsFinal=false:=by
 unfold Program.liftsFinal;simp only [hw,zre P r hw,List.head?_cons,zkd,Bool.false_and,Bool.false_or];rfl
theorem zqT:P.make=some .cut:=by
 unfold Program.make;simp only [hw,zk4,zih,zoQ,Bool.or_self,Bool.false_eq_true,if_false,Bool.true_or,if_true]
end
theorem ze1:behindMainWord (wordsSigns Tryz.prog.initOrder.toList)=cutW::restWords:=by rw [zgh];exact zpr
theorem zoH:Tryz.prog.laysLater=false:=by kernel_rfl
theorem zny:Tryz.prog.bearsReflect=false:=by kernel_rfl
theorem zmI:Tryz.prog.doorFits []=true:=by kernel_rfl
theorem zng:Tryz.prog.mayEnter=true:=zrh _ _ ze1 zoH zny zmI
theorem zkH:Tryz.prog.liftsFinal=false:=zoz _ _ ze1
theorem zqI:Tryz.prog.make=some .cut:=zqT _ _ ze1
def harnW:List Char:= "harness".toList
def sumW:List Char:= "01056091d102d1e5d1533231b7f0c053533beecef99e489a8b805b0e8f3b0688".toList
def restWords0:List (List Char):=(wordsSigns orderChars).tail.tail
theorem words0:wordsSigns orderChars=harnW::sumW::restWords0:=by kernel_rfl
theorem zrN:isSumSigns sumW=true:=by kernel_rfl
theorem zpZ (P:Program) (r:List (List Char)) (hw:wordsSigns P.initOrder.toList=harnW::sumW::r):P.mainIs=some (true,"01056091d102d1e5d1533231b7f0c053533beecef99e489a8b805b0e8f3b0688".toList):=by
 unfold Program.mainIs;simp only [hw,zrN];rfl
theorem zrf:Tryz.prog.mainIs=some (true,"01056091d102d1e5d1533231b7f0c053533beecef99e489a8b805b0e8f3b0688".toList):=zpZ _ _ (by rw [zgh];exact words0)
def putCells (C:List Value):Obj->Obj
 | .cells _ t frozen=> .cells C.toArray t frozen
 |o=>o
def datC:Nat->DataW Unit->List Value
 |n+1,.agg l=>l.flatMap (datC n)
 |_,.lit (.int k z)=>[.int k z]
 |_,_=>[]
noncomputable def laidWorld (os:Os):World:=
 { World.holding Tryz.prog os ⟨#[],#[],[]⟩ with heap:=((World.holding Tryz.prog os ⟨#[],#[],[]⟩).heap.modify 7 (putCells (datC 3 Rows.laid_unicode_utf8_acceptRanges))).modify 6 (putCells (datC 3 Rows.laid_unicode_utf8_first)) }
end Go.Proofs.YtdnlngbjpdbffaaGreatDoor
end
