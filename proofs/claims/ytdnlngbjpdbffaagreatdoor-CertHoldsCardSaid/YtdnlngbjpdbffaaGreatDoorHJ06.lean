/- Lemmas of this proof. -/
import Derived.ChangeSame
import Derived.ReadAgain
import Derived.RowKit
import Derived.OpenShut
import Derived.ChangeSlices
import Derived.Lib.LaidTab
import Derived.Deep.Slices
import Derived.Test.YtdnlngbjpdbffaaGreatDoorHJ05
import Derived.Test.YtdnlngbjpdbffaaGreatDoorCards
import Derived.Test.YtdnlngbjpdbffaaGreatDoorTie
import Derived.ProofKit
import Derived.Deep.DeepHandedRow
import Derived.Deep.DeepWitnessRowRef
import Derived.Test.YtdnlngbjpdbffaaGreatDoorProg
set_option linter.all false
namespace Go.Sy
section
open Go Go.Wd Go.RowKit Go.ChangeShapes Go.WideShapes
variable {H:Type}{enc:TypeId×Value->H}{P:Program}
theorem zhY{w w':World}{base:Nat}{A:Nat->Bool}{held:Bool} :∀ {B:List TypeId}{G:List Value}{ds:List (DataW H)}{m:List MemPlace},DataW.TrodAll enc P w base A held B G ds m->(∀p∈m,w.sameAt w' p)->DataW.TrodAll enc P w' base A held B G ds m
 | [],[],[],_,h,_=>h
 |_::_,_::_,_::_,_,⟨p,q,⟨n,hn⟩,h2,e⟩,hs=>⟨p,q,⟨n,DataW.trod_carry n _ _ _ hn λx j=>hs x (by rw[e];exact A7 _ j)⟩,zhY h2 λx j=>hs x (by rw[e];exact AB _ j),e⟩
theorem zry{w w':World}(hk:Keep No w w'){p:MemPlace}(hp:p.block<w.heap.size):w.sameAt w' p:=by
 have:=hk.block p.block hp (λh=>h);cases p with
 |cell b off=>exact World.cell?_of_block (w:=w) this
 |map b=>exact this
theorem zxb{s:ChangeSpec}{f:Func}{V tb:Nat}{apart fresh handsOn again:Bool}{W:World}{args:Array Value}{ds gs:List (DataW H)}{before:List MemPlace}
  (K:Kids P (· < P.types.size))(hz:∀t e,t<P.types.size->P.underlying t=some (.slice e)->0<P.cellsOf e)(b0:∀t∈f.params.toList,t<P.types.size)(G:f.resultTypes= #[tb])(hb:P.underlying tb=some .bool)(hv:s.vars= [])
  (hW:DataW.Whole enc P f.params.toList s.vars apart W args.toList ds gs before)(S:s.fn H (ds++gs)= { results:=[.lit (.bool true)],args:=ds })
  (hc:Sy.Fn P V args.toList W No (zi9 (.bool true))):Calls P V args W λe U=>∃v,e= .returned v/\s.post enc P f apart fresh handsOn again W args v U:=by
 have Y:=hW;obtain⟨p,q,hA,hV,he,a8,a9⟩:=hW;rw[hv] at hV;obtain⟨rfl,rfl⟩:=trodVars_none hV;rw[AH] at he;subst he;unfold Sy.Fn at hc;rw[show args.toList.toArray=args by simp] at hc;refine Calls.mono hc ?_;rintro e U ⟨v,R,rfl,⟨rfl,rfl⟩,hk,-⟩;have J:=Y.lt;have O:∀x∈before,W.sameAt U x:=λx I=>zry hk (J x I);have m:∀(b:Nat) (B:Nat->Bool) (hd:Bool),DataW.TrodAll enc P U b B hd f.resultTypes.toList ((Value.bool true).resultList f.resultTypes.size) (s.fn H (ds++[])).results []:=by
  intro b B hd;rw[S,G];exact trodAll_cons_mk (shut_bool hb _) trodAll_mk0
 have j:∀B:Nat->Bool,(∀x∈before,B x.block=true)->DataW.TrodAll enc P U 0 B true f.params.toList args.toList (s.fn H (ds++[])).args before:=by
  intro B a7;rw[S];exact zhY (DataW.TrodAll.respare K hz b0 hA a7) O
 have A:∀B:Nat->Bool,DataW.TrodVars enc P U B s.vars (s.fn H (ds++[])).vars []:=by
  intro B;rw[hv,S];rfl
 have hold:∀x∈before,(λb=>decide (b<W.heap.size)) x.block=true:=λx I=>by simpa using J x I
 refine⟨_,rfl,ds,[],before,[],before,[],Y,m _ _ _,j _ hold,A _,World.keptBut_mono (λx I=>⟨I,.inr (by simpa using I)⟩) (hk.below.frame _),λ_=>?_⟩;refine⟨ok_one G rfl (okWide_bool_mk hb _),_,_,([]++before)++[],⟨[]++before,[],trodAll_append (j _ (λ_ _=>rfl)) (m _ _ _),A _,rfl,?_,?_⟩,?_⟩
 ·intro b off hp;have a6:MemPlace.cell b off∈before:=by simpa using hp
  rw[hk.below.frozen (p:=⟨b,off,none⟩) (J _ a6)];exact a8 b off a6
 ·intro ha;have:=a9 ha;simpa using this
 ·intro x I _;simpa using I
theorem zf4{t e:TypeId}(ht:P.underlying t=some (.slice e))(he:P.underlying e=some (.int .u8))(hc:P.cellsOf e=1){W:World}{v:Value}{d0:DataW H}{p:List MemPlace}
  (h0:DataW.Trod enc P W 0 (λ_=>true) true t v d0 p)(hv:v.oneCell'=true):
  ∃a0 n c,∃l:List UInt8,v= .slice a0 n c/\l.length=n/\n<=c/\c<=maxLen/\SlA W a0 (l.map v8)/\(a0=none->c=0):=by
 obtain⟨a6,hf⟩:=h0;have S:v.cells.toList= [v]:=by cases v <;> first|rfl|(simp[Value.oneCell'] at hv)
 rw[S] at hf;rcases open_ints ht he hc hf with ⟨J,Y⟩|⟨a,m,B,zs,J,_,hl,hm,hz,Y,q,V⟩
 ·obtain rfl:v= .slice none 0 0:=by simpa using J
  exact⟨none,0,0,[],rfl,rfl,A8 _,AE _,.inl rfl,λ_=>rfl⟩
 ·obtain rfl:v= .slice (some a) m B:=by simpa using J
  simp only[if_true] at hz;have I:∀x∈zs,0<=x/\x<256:=λx Y=>by
   have h1:IntKind.u8.min=0:=rfl;have h2:IntKind.u8.max=255:=rfl;have:=V x Y;simp only[Lit.wf,A5,decide_eq_true_eq] at this;omega
  have R:SlA W (some a) (((zs.take m).map λz=>UInt8.ofNat z.toNat).map v8):=by
   by_cases h0:m=0
   ·subst h0;exact .inl q_p
   ·have O:=q 0 q_o;have G:a.spot=none:=by
     unfold World.cell? at O;split at O
     ·split at O
      ·cases O
      ·rename_i U;simpa [Addr.add] using U
     ·cases O
    obtain⟨b,off,sp⟩:=a;dsimp only at G;subst G;refine .inr ⟨b,off,rfl,λj u K=>?_⟩;rw[List.getElem?_map,List.getElem?_map,List.getElem?_take] at K;split at K
    ·rename_i a7;have A:j<zs.length:=q_o;rw[A2 A] at K;simp only[CP,Bt] at K;subst K;have:=q j A;rw[Addr.add_mid] at this;rw[this];have hb:=I _ (AX A);simp only[v8,n8_of_nat,Do,A2 A,Option.getD_some];congr 2;omega
    ·cases K
  exact⟨some a,m,B,_,rfl,by simp;omega,hl,hm,R,λh=>by cases h⟩
theorem zkT{w:World} :∀ {l:List (String×DataW Unit)}{A:List MemPlace},DataW.LaidVars P w l A->∀ {n:String}{d:DataW Unit},(n,d)∈l->
  ∃g t m j p,P.globalNamed n=some g/\(P.globals[g]?).map (·.type)=some t/\w.var? P n=some m/\DataW.trod (λ_=>()) P w 0 (λ_=>true) false j t m.toList=some (d,p)
 | [],_,_,_,_,h=>by cases h
 |(n,d)::r,A,⟨g,t,m,j,p,q,h1,h2,h3,h4,h5,_⟩,n',d',h=>by
  rcases AQ.1 h with e|B
  ·cases e;exact⟨g,t,m,j,p,h1,h2,h3,h4⟩
  ·exact zkT h5 B
theorem zjv{w:World}{l:List (String×DataW Unit)}(h:laidMet P l w){n:String}{k:IntKind}{zs:List Int}{g t e m:Nat}(hm:(n,Lib.tabData k zs)∈l)(R:P.globalNamed n=some g)(K:(P.globals[g]?).map (·.type)=some t)
  (W:P.underlying t=some (.array m e))(he:P.underlying e=some (.int k))(A:P.cellsOf e=1)(G:P.cellsOf t=m):w.rangeAt g 0 (zs.map (Value.int k)):=by
 obtain⟨ps,V,_⟩:=h;obtain⟨g',t',Y,O,p,I,J,q,S⟩:=zkT V hm;obtain rfl:=An (R.symm.trans I);obtain rfl:=An (K.symm.trans J);have B:=Lib.cells_of_tab W he A G S;intro j v U;rw[World.var?_cell R q,AU,<-Ch,B];exact U
structure Bs where
 a:Option Addr
 n:Nat
 c:Nat
 l:List UInt8
def Bs.val(s:Bs):Value:=.slice s.a s.n s.c
structure Bs.ok(w:World)(s:Bs):Prop where
 len:s.l.length=s.n
 cap:s.n<=s.c
 sla:SlA w s.a (s.l.map v8)
 nil:s.a=none->s.c=0
def Bs.cat(xs:List Bs):List UInt8:=xs.flatMap (·.l)
theorem Bs.ok.keep{w0 w:World}{s:Bs}(h:s.ok w0)(hk:Keep No w0 w):s.ok w:=⟨h.len,h.cap,h.sla.keep hk (λ_ _ h=>h),h.nil⟩
end
open Go
theorem zie{α:Type}{R:α->α->Prop}(B:∀a b,R a b->R b a):∀ {l:List α},l.Pairwise R->∀ {a b:α},a∈l->b∈l->a≠b->R a b
 |x::l,h,a,b,m,j,hne=>by
  obtain⟨A,G⟩:=Ai.1 h;rcases AQ.1 m with e|m
  ·rcases AQ.1 j with q|j
   ·exact absurd (e.trans q.symm) hne
   ·rw[e];exact A b j
  ·rcases AQ.1 j with q|j
   ·rw[q];exact B _ _ (A a m)
   ·exact zie B G m j hne
variable {w0 w:World}{M:Nat->Prop}{B0:Nat}{L X:List Res}
theorem Holds.two(h:Holds B0 M L w){r r':Res}(hr:Has L r)(m:Has L r')(j:r≠r'):Apart r r':=zie (λ_ _ h=>Apart.symm h) h.apart hr.mem m.mem j
theorem SlF.rowB{b T E n c:Nat}{C:List Value}{a:Option Addr}{xs:List Value}(hh:Holds B0 M (L++X) w)(hL:Has L (.blk b T C))(hr:Has L (.row (.slice a n c) E 1 n xs)):SlF w (λx=>x=b) a xs:=
 GZ hh (Et hr) λx q j=>by
  subst q;obtain⟨r,m,j⟩:=j;obtain rfl:=AC.1 m;exact hh.two (Et hr) (Et hL) (by intro h;cases h) x j rfl
theorem Bs.get{w:World}{a:Option Addr}{xs:List Bs}(h:SlA w a (xs.map Bs.val)){i:Nat}(m:i<xs.length):∃b off,a=some ⟨b,off,none⟩/\∀j (q:j<xs.length),w.cell? ⟨b,off+j,none⟩=some (.slice xs[j].a xs[j].n xs[j].c):=by
 rcases h with h|⟨b,off,rfl,h⟩
 ·have:=congrArg List.length h;simp at this;rw[this] at m;cases m
 ·exact⟨b,off,rfl,λj q=>h j _ (by rw[Ak,A2 q];rfl)⟩
theorem Bs.cat_succ(xs:List Bs)(i:Nat)(h:i<xs.length):Bs.cat (xs.take (i+1))=Bs.cat (xs.take i)++xs[i].l:=by
 unfold Bs.cat;rw[CA,A2 h,CD];simp
def Fi:=@Bs.cat_succ
variable {P:Program}{ro:Option Nat}{N:Nat}{ds:List Deferred}{Q:Exit->Act->World->Prop}{fr:Fr}
theorem zo4{c:Code}{p:Prop}(hp:∀w,Holds w0.heap.size M L w->p)(h:p->Sy P ro N w0 M ds c Q fr L):Sy P ro N w0 M ds c Q fr L:=λa w A=>by
 obtain⟨m,q,j⟩:=A;exact h (hp w (j.hold.sublist (C8 _ _))) a w ⟨m,q,j⟩
theorem znC{ops:Array Oper}{rest:List Oper}{p:Prop}(hp:∀w,Holds w0.heap.size M L w->p)(h:p->SyL P ro N w0 M ds ops Q rest fr L):SyL P ro N w0 M ds ops Q rest fr L:=λa w A=>by
 obtain⟨m,q,j⟩:=A;exact h (hp w (j.hold.sublist (C8 _ _))) a w ⟨m,q,j⟩
variable {ops:Array Oper}{T:List Oper->Fr->List Res->Prop}{C E:List (List Nat)}{Z:Option Nat}{L0:List Res}{k i n:Nat}{o:Oper}{rest:List Oper}{F:Env->Fr}{rs:List (Nat×(Env->Value->List Res->Prop))}
theorem zkD{R:Env->Value->List Res->Prop}(G:∀ρ m:Env,(∀k,k∈cl C i->ρ k=m k)->R ρ=R m)(B:∀ρ,zbe (cl C i) rs ρ->OpT P ro N w0 M ds o (only (o.looksAt ops) (get (F ρ))) (zak (zbc C E i) rs ρ (zb4 C Z L0 i)) (λv q=>∃j,q=j++zak (zb5 C E i) rs ρ (zcL C Z L0 i)/\R ρ v j))(hw:∀ρ,zah ops o (only (o.looksAt ops) (get (F ρ)))=some true:=by exact λ_=>rfl)(A:o.dst=none:=by exact rfl)
  (h:DHE P ro N w0 M ds ops T C E Z L0 k (i+1) rest F ((i,R)::rs)):DHE P ro N w0 M ds ops T C E Z L0 (k+1) i (o::rest) F rs:=
 .inr ⟨R,G,λρ I=> .inl ⟨hw ρ,B ρ I⟩,by rw[A];exact h⟩
def zja(T:Nat)(C:List Value)(v:Value)(Nw:List Res):Prop:=∃b,v= .pointer (some ⟨b,0,none⟩)/\Nw= [.blk b T C]
def zbT(E:Nat)(n:Nat)(xs:List Value)(v:Value)(Nw:List Res):Prop:=∃a c,v= .slice a n c/\Nw= [.row v E 1 n xs]
end Go.Sy
namespace Go.Proofs.YtdnlngbjpdbffaaGreatDoor
section
open Go Go.Sy Go.RowKit
theorem own:ownKnob Tryz.prog.godebug=none:=by kernel_rfl
theorem kids:Kids Tryz.prog (· < Tryz.prog.types.size):=kids_rows (by kernel_rfl) (by kernel_rfl)
theorem full:∀t e,t<Tryz.prog.types.size->Tryz.prog.underlying t=some (.slice e)->0<Tryz.prog.cellsOf e:=slices_full_of Tryz.prog (by kernel_rfl)
theorem zhT:Tryz.prog.underlying 23=some (.slice 5):=by kernel_rfl
theorem zpK:Tryz.prog.underlying 5=some (.int .u8):=by kernel_rfl
theorem zww:Tryz.prog.underlying 4=some .bool:=by kernel_rfl
theorem zmb:Tryz.prog.cellsOf 5=1:=by kernel_rfl
def zd6:List Char:=([104,97,114,110,101,115,115,32,48,49,48,53,54,48,57,49,100,49,48,50,100,49,101,53,100,49,53,51,51,50,51,49,98,55,102,48,99,48,53,51,53,51,51,98,101,101,99,101,102,57,57,101,52,56,57,97,56,98,56,48,53,98,48,101,56,102,51,98,48,54,56,56,32,99,117,116,32,97,116,32,119,97,116,99,104,119,111,114,100,47,119,97,116,99,104,119,111,114,100,108,97,119,50,49,46,67,101,114,116,67,104,97,105,110,115,32,119,97,116,99,104,119,111,114,100,47,119,97,116,99,104,119,111,114,100,108,97,119,50,49,46,67,101,114,116,72,111,108,100,115,32,119,97,116,99,104,119,111,114,100,47,119,97,116,99,104,119,111,114,100,108,97,119,50,49,46,67,101,114,116,73,115,115,117,101,115,32,119,97,116,99,104,119,111,114,100,47,119,97,116,99,104,119,111,114,100,108,97,119,50,49,46,67,101,114,116,86,101,114,105,102,105,101,115,32,119,97,116,99,104,119,111,114,100,47,119,97,116,99,104,119,111,114,100,108,97,119,50,49,46,67,101,114,116,76,105,109,105,116,115,32,119,97,116,99,104,119,111,114,100,47,119,97,116,99,104,119,111,114,100,108,97,119,50,49,46,67,101,114,116,67,111,112,105,101,115,32,119,97,116,99,104,119,111,114,100,47,119,97,116,99,104,119,111,114,100,108,97,119,50,49,46,67,101,114,116,69,110,99,111,100,101,115]:List Nat).map Char.ofNat
theorem order_lit:Tryz.prog.initOrder= "harness 01056091d102d1e5d1533231b7f0c053533beecef99e489a8b805b0e8f3b0688 cut at watchword/watchwordlaw21.CertChains watchword/watchwordlaw21.CertHolds watchword/watchwordlaw21.CertIssues watchword/watchwordlaw21.CertVerifies watchword/watchwordlaw21.CertLimits watchword/watchwordlaw21.CertCopies watchword/watchwordlaw21.CertEncodes" :=by kernel_rfl
theorem ztx:Tryz.prog.initOrder=String.ofList zd6:=order_lit.trans (by kernel_rfl)
theorem zjg:Tryz.prog.initOrder.toList=zd6:=by rw[ztx];exact String.toList_ofList
def zgp:List Char:=([99,117,116]:List Nat).map Char.ofNat
def zma:List (List Char):=(behindMainWord (wordsSigns zd6)).tail
theorem zsA:behindMainWord (wordsSigns zd6)=zgp::zma:=by kernel_rfl
theorem zmC(r:List (List Char)):stripLifts liftWords (zgp::r)=([],zgp::r):=by kernel_rfl
theorem zo7:(zgp == "gc".toList)=false:=by decide +kernel
theorem zl2:(zgp == "spec".toList)=false:=by decide +kernel
theorem ztD:(zgp == "cut".toList)=true:=by decide +kernel
theorem zmN:(zgp == "carried".toList)=false:=by decide +kernel
theorem znA:(some zgp==some "cut".toList)=true:=by decide +kernel
theorem znU:(some zgp==some "carried".toList)=false:=by decide +kernel
end
section
open Go Go.Sy Go.RowKit
variable (P:Program)(r:List (List Char))(hw:behindMainWord (wordsSigns P.initOrder.toList)=zgp::r)
include hw
theorem zwo:P.headLifts= []:=by
 unfold Program.headLifts;simp only[hw,zmC,EF,znA,if_true]
theorem zwO(m:P.laysLater=false)(hb:P.bearsReflect=false)(j:P.doorFits []=true):P.mayEnter=true:=by
 unfold Program.mayEnter;simp only[hw,zmC,zo7,zl2,zmN,EF,znA,m,hb,j,BC,BG,CQ,E0,B1,Bool.not_false,Dl];rfl
theorem ztK:P.liftsFinal=false:=by
 unfold Program.liftsFinal;simp only[hw,zwo P r hw,EF,znU,BC,BG];rfl
theorem zws:P.make=some .cut:=by
 unfold Program.make;simp only[hw,zo7,zl2,ztD,Bool.or_self,Dp,if_false,Bool.true_or,if_true]
end
section
open Go Go.Sy Go.RowKit
theorem zhH:behindMainWord (wordsSigns Tryz.prog.initOrder.toList)=zgp::zma:=by rw[zjg];exact zsA
theorem ztH:Tryz.prog.laysLater=false:=by kernel_rfl
theorem zq0:Tryz.prog.bearsReflect=false:=by kernel_rfl
theorem zrL:Tryz.prog.doorFits []=true:=by kernel_rfl
theorem zsn:Tryz.prog.mayEnter=true:=zwO _ _ zhH ztH zq0 zrL
theorem zou:Tryz.prog.liftsFinal=false:=ztK _ _ zhH
theorem zwm:Tryz.prog.make=some .cut:=zws _ _ zhH
def zuV:List Char:= "harness".toList
def zuA:List Char:= "01056091d102d1e5d1533231b7f0c053533beecef99e489a8b805b0e8f3b0688".toList
def zqK:List (List Char):=(wordsSigns zd6).tail.tail
theorem zxx:wordsSigns zd6=zuV::zuA::zqK:=by kernel_rfl
theorem zwQ:isSumSigns zuA=true:=by kernel_rfl
theorem zwe(P:Program)(r:List (List Char))(hw:wordsSigns P.initOrder.toList=zuV::zuA::r):P.mainIs=some (true,"01056091d102d1e5d1533231b7f0c053533beecef99e489a8b805b0e8f3b0688".toList):=by
 unfold Program.mainIs;simp only[hw,zwQ];rfl
theorem zuX:Tryz.prog.mainIs=some (true,"01056091d102d1e5d1533231b7f0c053533beecef99e489a8b805b0e8f3b0688".toList):=zwe _ _ (by rw[zjg];exact zxx)
def zeo(C:List Value):Obj->Obj
 | .cells _ t frozen=> .cells C.toArray t frozen
 |o=>o
def zuw:Nat->DataW Unit->List Value
 |n+1,.agg l=>l.flatMap (zuw n)
 |_,.lit (.int k z)=>[.int k z]
 |_,_=>[]
noncomputable def zl9(os:Os):World:=
 { World.holding Tryz.prog os ⟨#[],#[],[]⟩ with heap:=((World.holding Tryz.prog os ⟨#[],#[],[]⟩).heap.modify 7 (zeo (zuw 3 Rows.laid_unicode_utf8_acceptRanges))).modify 6 (zeo (zuw 3 Rows.laid_unicode_utf8_first)) }
end
open Go Go.Sy
abbrev q_G(f:Nat)(a:List Value)(w:World)(v:Value):Prop:=Sy.Fn Tryz.prog f a w No (zi9 v)
end Go.Proofs.YtdnlngbjpdbffaaGreatDoor
