/- The logic of walks: ranges over functions. The loop's state is a resource that the iterator does not look into. -/
import Derived.Test.YtdnlngbjpdbffaaGreatDoorLJ03
import Derived.Lib.SlBytesConst
import Derived.Lib.ConvBytes
import Derived.Stop.BytesEq
import Derived.KernelRfl
set_option linter.all false
section
namespace Go.Sy
open Go
theorem SubR.same {r:Res}{R L L':List Res}(h:Rem L r L') (hs:SubR R L'):SubR (r::R) L:=SubR.pick h rfl hs
theorem SubR.go {A B:List Res}(h:SubR A B:=by repeat' (first|exact SubR.nil|(apply SubR.same;with_reducible (focus ((repeat (first|exact Rem.here|apply Rem.there));done)))|(apply SubR.blk;(focus ((repeat (first|exact Rem.here|apply Rem.there));done)))|(apply SubR.pick;(focus ((repeat (first|exact Rem.here|apply Rem.there));done)))|rfl)):SubR A B:=h
theorem SubR.go2 {A B:List Res}(h:SubR A B:=by repeat' (first|exact SubR.nil|(apply SubR.same;with_reducible (focus ((repeat (first|exact Rem.here|apply Rem.there));done)))|(apply SubR.blk;(focus ((repeat (first|exact Rem.here|apply Rem.there));done)))|(apply SubR.same;(focus ((repeat (first|exact Rem.here|apply Rem.there));done)))|(apply SubR.pick;(focus ((repeat (first|exact Rem.here|apply Rem.there));done)))|rfl)):SubR A B:=h
def allH (R:List Res) (w:World):Prop:=(∀r∈R,r.holds w)/\R.Pairwise Apart
def pack (R:List Res):Res:=.abs (OwnOf R) (allH R)
theorem OwnOf.app {A B:List Res}{b:Nat} :OwnOf (A ++ B) b↔OwnOf A b\/OwnOf B b:=by
 constructor
 ·rintro ⟨r,hr,h⟩;rcases List.mem_append.1 hr with h'|h'
  ·exact .inl ⟨r,h',h⟩
  ·exact .inr ⟨r,h',h⟩
 ·rintro (⟨r,hr,h⟩|⟨r,hr,h⟩)
  ·exact ⟨r,List.mem_append_left _ hr,h⟩
  ·exact ⟨r,List.mem_append_right _ hr,h⟩
theorem OwnOf.cons {r:Res}{B:List Res}{b:Nat} :OwnOf (r::B) b↔r.own b\/OwnOf B b:=by
 constructor
 ·rintro ⟨r',hr,h⟩;rcases List.mem_cons.1 hr with h'|h'
  ·subst h';exact .inl h
  ·exact .inr ⟨r',h',h⟩
 ·rintro (h|⟨r',hr,h⟩)
  ·exact ⟨r,List.mem_cons_self,h⟩
  ·exact ⟨r',List.mem_cons_of_mem _ hr,h⟩
theorem OwnOf.nil {b:Nat} : ¬OwnOf [] b:=λ⟨_,h,_⟩=>List.not_mem_nil h
theorem allH.congr {R:List Res}{w w':World}(h:allH R w) (hb: ∀b,OwnOf R b->w'.heap[b]?=w.heap[b]?):allH R w':=
 ⟨λr hr=>Res.holds_congr (h.1 r hr) λb ho=>hb b ⟨r,hr,ho⟩,h.2⟩
theorem Holds.app {B:Nat}{M:Nat->Prop}{R L:List Res}{w:World} :Holds B M (R ++ L) w↔allH R w/\Holds B M L w/\(∀b,OwnOf R b->B<=b\/M b)/\ ∀b,OwnOf R b-> ¬OwnOf L b:=by
 constructor
 ·intro h;have hp:=List.pairwise_append.1 h.apart;exact ⟨⟨λr hr=>h.all r (List.mem_append_left _ hr),hp.1⟩,h.sublist (List.sublist_append_right R L),λb ⟨r,hr,ho⟩=>h.mine r (List.mem_append_left _ hr) b ho,
   λb ⟨r,hr,ho⟩ ⟨r',hr',ho'⟩=>hp.2.2 r hr r' hr' b ho ho'⟩
 ·rintro ⟨h1,h2,h3,h4⟩;refine ⟨λr hr=>?_,List.pairwise_append.2 ⟨h1.2,h2.apart,λr hr r' hr' b hb hb'=>h4 b ⟨r,hr,hb⟩ ⟨r',hr',hb'⟩⟩,λr hr b hb=>?_⟩
  ·rcases List.mem_append.1 hr with h|h
   ·exact h1.1 r h
   ·exact h2.all r h
  ·rcases List.mem_append.1 hr with h|h
   ·exact h3 b ⟨r,h,hb⟩
   ·exact h2.mine r h b hb
theorem zon {R:List Res}{b:Nat} :OwnOf [pack R] b↔OwnOf R b:=by
 rw [OwnOf.cons];exact ⟨λh=>h.elim id λh=>(OwnOf.nil h).elim,.inl⟩
theorem zob {R:List Res}{w:World} :allH [pack R] w↔allH R w:=by
 constructor
 ·intro h;exact (h.1 (pack R) List.mem_cons_self).2 w λ_ _=>rfl
 ·intro h;refine ⟨λr hr=>?_,List.pairwise_singleton _ _⟩;obtain rfl:=List.mem_singleton.1 hr;exact ⟨λb ⟨r,hr,ho⟩=>Res.own_lt (h.1 r hr) ho,λw' h'=>h.congr h'⟩
theorem Holds.pack {B:Nat}{M:Nat->Prop}{R L:List Res}{w:World} :Holds B M (pack R::L) w↔Holds B M (R ++ L) w:=by
 show Holds B M ([Sy.pack R] ++ L) w↔_;rw [Holds.app,Holds.app,zob];simp only [zon]
theorem Holds.call {B:Nat}{M M':Nat->Prop}{C L R:List Res}{w w':World}(h:Holds B M (C ++ L) w) (hB:B<=w.heap.size) (hM: ∀b,M' b->OwnOf C b) (hk:Keep M' w w') (hh:Holds w.heap.size M' R w'):Holds B M (R ++ L) w':=by
 obtain ⟨h1,h2,h3,h4⟩:=Holds.app.1 h;have hL:=h2.keep hk (λr hr b hb hb'=>h4 b (hM b hb') ⟨r,hr,hb⟩);refine Holds.app.2 ⟨⟨hh.all,hh.apart⟩,hL,λb ⟨r,hr,ho⟩=>?_,λb ⟨r,hr,ho⟩ ⟨r',hr',ho'⟩=>?_⟩
 ·rcases hh.mine r hr b ho with h'|h'
  ·exact .inl (Nat.le_trans hB h')
  ·exact h3 b (hM b h')
 ·rcases hh.mine r hr b ho with h'|h'
  ·have:=Res.own_lt (h2.all r' hr') ho';omega
  ·exact h4 b (hM b h') ⟨r',hr',ho'⟩
theorem Holds.weak {B B':Nat}{M M':Nat->Prop}{L:List Res}{w:World}(h:Holds B M L w) (hm: ∀b,OwnOf L b->B'<=b\/M' b):Holds B' M' L w:=⟨h.all,h.apart,λr hr b hb=>hm b ⟨r,hr,hb⟩⟩
def YR (J Jx:Nat->Res->Prop) (k:Nat) (C:List Res) (W:World) (e:Ending) (W':World):Prop:=
 ∃b j,e= .returned (.bool b)/\(bif b then J (k+1) j else Jx (k+1) j)/\Keep (OwnOf C) W W'/\Holds W.heap.size (OwnOf C) [j] W'
def Yields {α:Type}(P:Program) (l:Nat) (xs:List α) (Arg:(Nat->Prop)->α->List Value->List Res->World->Prop) (J Jx:Nat->Res->Prop) (w:World) (M:Nat->Prop):Prop:=
 ∀(k:Nat) (hk:k < xs.length) (j:Res) (vs:List Value) (RA:List Res) (W:World) (X:List Res),J k j->Arg j.own xs[k] vs RA W->Keep M w W->Holds w.heap.size M (j::RA ++ X) W->YieldAt Fence.wide 0 P l vs.toArray W (YR J Jx k (j::RA) W)
def IterC {α:Type}(P:Program) (gf:Nat) (lb:List Value) (xs:List α) (Arg:(Nat->Prop)->α->List Value->List Res->World->Prop) (w:World) (M:Nat->Prop) (Lit:List Res):Prop:=
 ∀(l:Nat) (J Jx:Nat->Res->Prop) (j0:Res),J 0 j0->Holds w.heap.size M (j0::Lit) w->Yields P l xs Arg J Jx w M->
  Fn P gf (.func (.yield l) #[] #[]::lb) w M (λ_ R=>∃j,R=j::Lit/\(J xs.length j\/ ∃k,k<=xs.length/\Jx k j))
def IterG {α:Type}(F:Prop) (P:Program) (gf:Nat) (lb:List Value) (xs:List α) (Arg:(Nat->Prop)->α->List Value->List Res->World->Prop) (w:World) (M:Nat->Prop) (Lit Lit2:List Res):Prop:=
 ∀(l:Nat) (J Jx:Nat->Res->Prop) (j0:Res),(F-> ∀j,¬J xs.length j)->J 0 j0->Holds w.heap.size M (j0::Lit) w->Yields P l xs Arg J Jx w M->
  Fn P gf (.func (.yield l) #[] #[]::lb) w M (λ_ R=>∃j,R=j::Lit2/\(J xs.length j\/ ∃k,k<=xs.length/\Jx k j))
def IterE {α:Type}(F:Prop) (P:Program) (gf:Nat) (lb:List Value) (xs:List α) (Arg:(Nat->Prop)->α->List Value->List Res->World->Prop) (w:World) (M:Nat->Prop) (Lit:List Res):Prop:=IterG F P gf lb xs Arg w M Lit Lit
theorem Yields.to {α:Type}{P:Program}{l:Nat}{xs:List α}{Arg:(Nat->Prop)->α->List Value->List Res->World->Prop}{J Jx:Nat->Res->Prop}{w w2:World}{M M2:Nat->Prop}(h:Yields P l xs Arg J Jx w M) (hk:Keep M w w2) (hm: ∀b,M2 b->w.heap.size<=b\/M b):Yields P l xs Arg J Jx w2 M2:=
 λk hk' j vs RA W X hj ha hk2 hh=>h k hk' j vs RA W X hj ha (hk.trans hk2 hm) (hh.weak λb hb=>by
  obtain ⟨r,hr,ho⟩:=hb;rcases hh.mine r hr b ho with h'|h'
  ·exact .inl (Nat.le_trans hk.size h')
  ·exact hm b h')
section
variable {P:Program}{ro:Option Nat}{N:Nat}{w0:World}{M:Nat->Prop}{ds:List Deferred}{g:Nat->Option Value}{L:List Res}{o:Oper}
theorem zbS {α:Type}{xs:List α}{Arg:(Nat->Prop)->α->List Value->List Res->World->Prop}{J Jx:Nat->Res->Prop}{l k:Nat}{j:Res}{RA L1:List Res}{fo:Operand}{args:Array Operand}{tys:Array TypeId}{vs:List Value}
  (hY:Yields P l xs Arg J Jx w0 M) (hk:k < xs.length) (hj:J k j) (ho:o.op= .call { callee:=.value fo,args:=args,argTypes:=tys } :=by exact rfl) (hf:ev g fo=some (.func (.yield l) #[] #[]):=by exact rfl) (ha:evs g args.toList=some vs:=by exact rfl)
  (hL:RemL L (j::RA) L1) (harg: ∀w X,Keep M w0 w->Holds w0.heap.size M (j::RA ++ (L1 ++ X)) w->Arg j.own xs[k] vs RA w):
  OpT P ro N w0 M ds o g L (λv L'=>∃b j',v= .bool b/\L'=j'::L1/\(bif b then J (k+1) j' else Jx (k+1) j')):=by
 intro a w X next Q hs hn
 refine ⟨λ_ _=>trivial,?_⟩;rw [Oper.semAt_plain (FW ro) _ _ (λc hc=>by rw [ho] at hc;cases hc)];have hargs:args.map a.eval=vs.toArray:=Array.toList_inj.1 (by rw [Array.toList_map,hs.agr.evals ha]);have hperm:(L ++ X).Perm (j::RA ++ (L1 ++ X)):=by rw [<-List.append_assoc];exact List.Perm.append_right X hL
 have hold:=hs.hold.perm hperm;obtain ⟨fn,tmps,assign,body,hy,hR⟩:=hY k hk j vs RA w (L1 ++ X) hj (harg w _ hs.keep hold) hs.keep hold;have hrun:(execOp a.eval o).run P w= .ok (.round l fn tmps assign body) w:=by
  simp only [execOp,ho,resolve,hs.agr.eval hf,Deferred.ofValue,hargs,Sem.run_bind,Sem.run_pure,Result.andThen_ok,invoke];simpa using hy
 rw [hrun];refine ⟨λh=>(by cases h),?_⟩;have hR':RoundIn (FW ro) (0 - 1) P l fn tmps assign body w (YR J Jx k (j::RA) w):=hR;refine hR'.mono ?_;rintro e w' ⟨b,j',rfl,hj',hk',hh'⟩;refine hn _ w' (j'::L1) ⟨b,j',rfl,rfl,hj'⟩ (hs.keep.trans hk' λx ⟨r,hr,hb⟩=>hold.mine r (List.mem_append_left _ hr) x hb) ?_;exact hold.call hs.keep.size (λ_ h=>h) hk' hh'
def busy (r:Loop):Loop:={ r with state:=.busy }
def BeginK (P:Program) (l:Nat) (body:Code) (Q:Exit->Act->World->Prop) (a:Act) (w:World):Prop:=∃w₂,(Instr.beginRound l).run P w= .ok () w₂/\body.wpIn (FW (some l)) 0 P Q a w₂
def RQ {γ:Type}(l:Nat) (rec:Loop) (I:Nat->γ->Prop) (Ix:Code->Nat->γ->Prop) (R:γ->List Res) (k:Nat) (Mb:Nat->Prop) (W:World):Exit->Act->World->Prop
 | .normal,_,W'=>∃s,I (k+1) s/\Keep Mb W W'/\Holds W.heap.size Mb (.obj l (.loop (busy rec))::R s) W'
 | .ret,_,W'=>∃s,Ix .ret (k+1) s/\Keep Mb W W'/\Holds W.heap.size Mb (.obj l (.loop (busy rec))::R s) W'
 | .exit id,_,W'=>∃s,Ix (.exit id) (k+1) s/\Keep Mb W W'/\Holds W.heap.size Mb (.obj l (.loop (busy rec))::R s) W'
 | .goto t,_,W'=>∃s,Ix (.goto t) (k+1) s/\Keep Mb W W'/\Holds W.heap.size Mb (.obj l (.loop (busy rec))::R s) W'
 |_,_,_=>False
def NoQ:Exit->Act->World->Prop:=λ_ _ _=>False
def psFr:List (Nat×Value)->Fr->Fr
 | [],fr=>fr
 |p::l,fr=>psFr l (p::fr)
theorem zhT: ∀(l:List (Nat×Value)) (fr:Fr) (tmps:Array Value) (dd dd':List Deferred),(∀p∈l,p.1 < tmps.size)->Agrees (get fr) ⟨tmps,dd⟩->
  Agrees (get (psFr l fr)) ⟨l.foldl (λt p=>t.setIfInBounds p.1 p.2) tmps,dd'⟩/\(l.foldl (λt p=>t.setIfInBounds p.1 p.2) tmps).size=tmps.size
 | [],fr,tmps,dd,dd',_,h=>⟨λt v hv=>h t v hv,rfl⟩
 |p::l,fr,tmps,dd,dd',hl,h=>by
  have h1:=h.put (d:=p.1) (hl p List.mem_cons_self) p.2;simp only [Act.put] at h1;have:=zhT l (p::fr) (tmps.setIfInBounds p.1 p.2) dd dd' (λq hq=>by rw [Array.size_setIfInBounds];exact hl q (List.mem_cons_of_mem _ hq)) h1;exact ⟨this.1,by rw [List.foldl_cons];rw [this.2,Array.size_setIfInBounds]⟩
variable {fr:Fr}{Q:Exit->Act->World->Prop}
theorem zba {γ:Type}{Q:Exit->Act->World->Prop}(f:γ->Fr) (R:γ->List Res) (I:γ->Prop) {x y:Code}(h:Sy P ro N w0 M ds x (Exit.then (CutK N w0 M ds f R I) Q) fr L) (h2: ∀g,I g->Sy P ro N w0 M ds y Q (f g) (R g)):Sy P ro N w0 M ds x (Exit.then (CK P ro y Q) Q) fr L:=
 λa w hs=>wpIn_mono (h a w hs) (λe a' w' hq=>by
  cases e with
  |normal=>obtain ⟨g,hI,hst⟩:=hq;exact h2 g hI a' w' hst
  |exit id=>exact hq
  |goto l=>exact hq
  |ret=>exact hq
  |panic c=>exact hq
  |outgrown=>exact hq)
theorem za6 {l:Nat}{body:Code}{rec:Loop}{L1:List Res}(hL:Rem L (.obj l (.loop rec)) L1) (hr:rec.state= .ready) (h:Sy P (some l) N w0 M ds body Q fr (.obj l (.loop (busy rec))::L1)):SyX N w0 M ds (BeginK P l body Q) fr L:=by
 rintro a w ⟨Ds,hd,hs⟩;have hp:=hs.perm (hL.perm.append_right _);have hl:w.heap[l]?=some (.loop rec):=hp.hold.all _ List.mem_cons_self;have hlt:=(Array.getElem?_eq_some_iff.1 hl).1;refine ⟨_,run_beginRound hl hr,h a _ ⟨Ds,hd,hp.size,hp.agr,hp.keep.trans Keep.putObj (λx hx=>by subst hx;exact hp.hold.mine _ List.mem_cons_self x rfl),?_⟩⟩;refine (hp.hold.tail.keep (w':=w.putObj l (.loop { rec with state:=.busy })) Keep.putObj (λr hr b hb hb'=>by subst hb';exact (List.pairwise_cons.1 hp.hold.apart).1 r hr b rfl hb)).cons (World.putObj_heap_same hlt) (λr hr b hb hb'=>(List.pairwise_cons.1 hp.hold.apart).1 r hr b hb hb') (λb hb=>hp.hold.mine _ List.mem_cons_self b hb)
theorem zjV {γ:Type}{l:Nat}{rec:Loop}{I:Nat->γ->Prop}{Ix:Code->Nat->γ->Prop}{R:γ->List Res}{k:Nat}(s:γ) (p:γ->Prop) (hI:p s) (hR:SubR (.obj l (.loop (busy rec))::R s) L) {a:Act}{w:World}(hs:StD N w0 M ds (get fr) L a w):
  ∃s,p s/\Keep M w0 w/\Holds w0.heap.size M (.obj l (.loop (busy rec))::R s) w:=by
 obtain ⟨Ds,hd,hs⟩:=hs;exact ⟨s,hI,hs.keep,(hs.hold.sublist (List.sublist_append_left _ _)).subR hR⟩
section
variable {γ:Type}{l:Nat}{rec:Loop}{I:Nat->γ->Prop}{Ix:Code->Nat->γ->Prop}{R:γ->List Res}{k:Nat}
theorem zdN (s:γ) (hI:I (k+1) s) (hR:SubR (.obj l (.loop (busy rec))::R s) L):SyX N w0 M ds (RQ l rec I Ix R k M w0 .normal) fr L:=λ_ _ hs=>zjV (I:=I) (Ix:=Ix) (k:=k) s (I (k+1)) hI hR hs
theorem zdf (s:γ) (hI:Ix .ret (k+1) s) (hR:SubR (.obj l (.loop (busy rec))::R s) L):SyX N w0 M ds (RQ l rec I Ix R k M w0 .ret) fr L:=λ_ _ hs=>zjV (I:=I) (Ix:=Ix) (k:=k) s (Ix .ret (k+1)) hI hR hs
theorem zfg {id:Nat}(s:γ) (hI:Ix (.exit id) (k+1) s) (hR:SubR (.obj l (.loop (busy rec))::R s) L):SyX N w0 M ds (RQ l rec I Ix R k M w0 (.exit id)) fr L:=λ_ _ hs=>zjV (I:=I) (Ix:=Ix) (k:=k) s (Ix (.exit id) (k+1)) hI hR hs
end
def Entered (P:Program) (ro:Option Nat) (N:Nat) (w0:World) (M:Nat->Prop) (L:List Res) (ps:Array Tmp) (assign body:Code):Prop:=
 ∀(fn:FuncId) (tmps:Array Value) (w:World) (X:List Res),Keep M w0 w->Holds w0.heap.size M (L ++ X) w-> ∃(l:Nat) (Dn:List Nat) (W:World) (rec:Loop),(Instr.enterLoop fn tmps ps assign body ro).run P w= .ok (l,Dn.map col) W/\
  rec.state= .ready/\rec.pending=none/\rec.fn=fn/\rec.tmps=tmps/\rec.params=ps/\rec.assign=assign/\rec.body=body/\Keep No w W/\Holds w0.heap.size M (.obj l (.loop rec)::(L ++ X ++ Dn.map dob)) W/\w.heap.size<=l
theorem Holds.newObj {B:Nat}{L:List Res}{w:World}(h:Holds B M L w) (hB:B<=w.heap.size) (o:Obj):Holds B M (.obj w.heap.size o::L) (w.alloc o):=by
 refine (h.keep (Keep.alloc No w _) (λ_ _ _ _ h=>h)).cons ?_ ?_ ?_
 ·show (w.heap.push _)[w.heap.size]?=_;simp
 ·intro x hx b hb hb';cases hb;have:=Res.own_lt (h.all x hx) hb';omega
 ·intro b hb;cases hb;exact .inl hB
theorem zbE {ps:Array Tmp}{assign body:Code} :Entered P none N w0 M L ps assign body:=by
 intro fn tmps w X hk hh;have h1:=hh.newObj hk.size (.deferred (some []));have h2:=h1.newObj (by have:=hk.size;simp;omega) (.loop { state:=.ready,pending:=none,fn,tmps,params:=ps,assign,body,defers:=w.heap.size });refine ⟨w.heap.size+1,[w.heap.size],_,{ state:=.ready,pending:=none,fn,tmps,params:=ps,assign,body,defers:=w.heap.size },run_enterLoop_outer fn tmps ps assign body,rfl,rfl,rfl,rfl,rfl,rfl,rfl,(Keep.alloc No w _).trans (Keep.alloc No _ _) (λ_ h=>h.elim),?_,by omega⟩;rw [World.size_alloc] at h2;refine h2.perm ?_;refine List.Perm.cons _ ?_;show (Res.obj w.heap.size (.deferred (some []))::(L ++ X)).Perm (L ++ X ++ [dob w.heap.size]);exact (List.perm_append_comm (l₁:=[dob w.heap.size]) (l₂:=L ++ X))
theorem zit {γ α:Type}(F:Prop) {gv:Operand}{ps:Array Tmp}{assign body:Code}{gf:Nat}{lb:List Value}{xs:List α}{Arg:(Nat->Prop)->α->List Value->List Res->World->Prop}
  (hent:Entered P ro N w0 M L ps assign body) (hg:ev (get fr) gv=some (.func (.func gf) #[] lb.toArray)) (eg: ∀args w,(callFunc gf args).run P w= .ok (.enter gf args) w) (hpN:ps.toList.all (λp=>Nat.blt p N)=true)
  (I:Nat->γ->Prop) (Ix:Code->Nat->γ->Prop) (R:γ->List Res) (Lit Lit2 L1:List Res) (g0:γ) (h0:I 0 g0) (hL:L.Perm (R g0 ++ Lit ++ L1))
  (hit: ∀(w:World) (Mi:Nat->Prop) (X:List Res),Keep M w0 w->(∀b,Mi b->w0.heap.size<=b\/M b)->(∀b,Mi b-> ¬OwnOf L1 b)->Holds w0.heap.size M (R g0 ++ Lit ++ L1 ++ X) w->IterG F P gf lb xs Arg w Mi Lit Lit2)
  (hF:F-> ∀s,¬I xs.length s)
  (hps: ∀O x vs RA w,Arg O x vs RA w->vs.length=ps.size)
  (hbody: ∀(l k:Nat) (hk:k < xs.length) (s:γ) (vs:List Value) (RA:List Res) (W:World) (rec:Loop),rec.state= .ready->I k s->Arg (OwnOf (.obj l (.loop rec)::R s)) xs[k] vs RA W->Keep M w0 W->(∀b,OwnOf (.obj l (.loop rec)::(R s ++ RA)) b->w0.heap.size<=b\/M b)->
   Sy P (some l) N W (OwnOf (.obj l (.loop rec)::(R s ++ RA))) [] assign (Exit.then (BeginK P l body (RQ l rec I Ix R k (OwnOf (.obj l (.loop rec)::(R s ++ RA))) W)) NoQ) (psFr (List.zip ps.toList vs) fr) (.obj l (.loop rec)::(R s ++ RA)))
  (hdone: ∀s,I xs.length s->SyX N w0 M ds (Q .normal) fr (R s ++ Lit2 ++ L1))
  (hstop: ∀c k s,k<=xs.length->Ix c k s->Sy P ro N w0 M ds c Q fr (R s ++ Lit2 ++ L1)):
  Sy P ro N w0 M ds (.rangeFunc gv ps assign body) Q fr L:=by
 rintro a w ⟨Ds,hds,hs⟩;refine wpIn_rangeFunc ?_;intro fn hfn;obtain ⟨l,Dn,W,rec,hrun,r1,r2,r3,r4,r5,r6,r7,hkW,hhW,hlw⟩:=hent fn a.tmps w (Ds.map dob) hs.keep hs.hold;have hkW0:Keep M w0 W:=hs.keep.trans hkW (λ_ h=>h.elim);have hpW:(.obj l (.loop rec)::(L ++ Ds.map dob ++ Dn.map dob)).Perm ((.obj l (.loop rec)::(R g0)) ++ (Lit ++ (L1 ++ (Dn ++ Ds).map dob))):=by
  refine List.Perm.cons _ ?_;have h1:=(hL.append_right (Ds.map dob)).append_right (Dn.map dob);refine h1.trans ?_;simp only [List.append_assoc,List.map_append];exact List.Perm.append_left _ (List.Perm.append_left _ (List.Perm.append_left _ List.perm_append_comm))
 have hhW':=hhW.perm hpW
 -- the state of the loop, as the iterator has it
 obtain ⟨J,hJ⟩: ∃J:Nat->Res->Prop,J=λk j=>∃s,I k s/\j=pack (.obj l (.loop rec)::R s):=⟨_,rfl⟩;obtain ⟨Jx,hJx⟩: ∃Jx:Nat->Res->Prop,Jx=λk j=>∃c s,Ix c k s/\j=pack (.obj l (.loop { rec with state:=.done,pending:=some c })::R s):=⟨_,rfl⟩;obtain ⟨Mi,hMi⟩: ∃Mi:Nat->Prop,Mi=OwnOf (pack (.obj l (.loop rec)::R g0)::Lit):=⟨_,rfl⟩;have hhP:Holds w0.heap.size M ((pack (.obj l (.loop rec)::R g0)::Lit) ++ (L1 ++ (Dn ++ Ds).map dob)) W:=by
  rw [List.cons_append,Holds.pack];exact hhW'
 have hMi0: ∀b,Mi b->w0.heap.size<=b\/M b:=λb hb=>by
  subst hMi;exact (Holds.app.1 hhP).2.2.1 b hb
 have hMi1: ∀b,Mi b-> ¬OwnOf L1 b:=λb hb hb'=>by
  subst hMi;exact (Holds.app.1 hhP).2.2.2 b hb (OwnOf.app.2 (.inl hb'))
 have hit':=hit W Mi ((Dn ++ Ds).map dob) hkW0 hMi0 hMi1 (by
  have h2:Holds w0.heap.size M (R g0 ++ (Lit ++ (L1 ++ (Dn ++ Ds).map dob))) W:=hhW'.tail;rw [<-List.append_assoc,<-List.append_assoc] at h2;exact h2)
 have hres:(resolve a.eval (rangeCall gv l) 0).run P W= .ok { target:=.fn (.func gf) lb.toArray,args:=#[.func (.yield l) #[] #[]] } W:=by
  simp only [resolve,hs.agr.eval hg];simp [go_sem]
 refine ⟨l,Dn.map col,W,{ target:=.fn (.func gf) lb.toArray,args:=#[.func (.yield l) #[] #[]] },W,gf,#[.func (.yield l) #[] #[]] ++ lb.toArray,W,hrun,hres,λf' _=>trivial,?_,(λh=>by cases h),?_⟩
 ·simp [invoke,go_sem,eg]
 have hcall:=hit' l J Jx (pack (.obj l (.loop rec)::R g0)) (λhf j hj=>by rw [hJ] at hj;obtain ⟨s,hI,_⟩:=hj;exact hF hf s hI) (by rw [hJ];exact ⟨g0,h0,rfl⟩) ?_ ?_
 ·have hargs:(#[.func (.yield l) #[] #[]] ++ lb.toArray:Array Value)=(.func (.yield l) #[] #[]::lb).toArray:=by simp
  rw [hargs];have hc2:CallsIn (FW ro) (0 - 1) P gf (.func (.yield l) #[] #[]::lb).toArray W (λe w'=>∃v R',e= .returned v/\(∃j,R'=j::Lit2/\(J xs.length j\/ ∃k,k<=xs.length/\Jx k j))/\Keep Mi W w'/\Holds W.heap.size Mi R' w'):=(callsIn_wide (n:=0 - 1)).2 hcall;refine CallsIn.mono hc2 ?_;rintro e w3 ⟨v,R',rfl,⟨j,rfl,hj⟩,hk3,hh3⟩;have hh3':Holds w0.heap.size M (j::Lit2 ++ (L1 ++ (Dn ++ Ds).map dob)) w3:=hhP.call hkW0.size (λb hb=>by subst hMi;exact hb) hk3 hh3;have hk3':Keep M w0 w3:=hkW0.trans hk3 hMi0
  -- the record is shut
  have fin: ∀(rec':Loop) (s:γ),j=pack (.obj l (.loop rec')::R s)->rec'.state≠ .busy->(Instr.endLoop l).run P w3= .ok rec'.pending (w3.putObj l (.loop { rec' with state:=.exhausted }))/\
    StD N w0 M ds (get fr) (R s ++ Lit2 ++ L1) { a with defers:=Dn.map col ++ a.defers } (w3.putObj l (.loop { rec' with state:=.exhausted })):=by
   rintro rec' s rfl hb;rw [List.cons_append,Holds.pack] at hh3';have hl3:w3.heap[l]?=some (.loop rec'):=hh3'.all _ List.mem_cons_self;refine ⟨run_endLoop hl3 hb,Dn ++ Ds,by simp [hds],hs.size,hs.agr,hk3'.trans Keep.putObj (λx hx=>by subst hx;exact hh3'.mine _ List.mem_cons_self x rfl),?_⟩;have:=hh3'.tail.keep (w':=w3.putObj l (.loop { rec' with state:=.exhausted })) Keep.putObj (λr hr b hb hb'=>by subst hb';exact (List.pairwise_cons.1 hh3'.apart).1 r hr b rfl hb);simpa using this
  rcases hj with hj|⟨k,hkl,hj⟩
  ·rw [hJ] at hj;obtain ⟨s,hI,e⟩:=hj;obtain ⟨he,hst⟩:=fin rec s e (by rw [r1];decide);refine ⟨none,_,by rw [he,r2],hdone s hI _ _ hst⟩
  ·rw [hJx] at hj;obtain ⟨c,s,hI,e⟩:=hj;obtain ⟨he,hst⟩:=fin _ s e q_p;exact ⟨some c,_,he,hstop c k s hkl hI _ _ hst⟩
 ·have:=(Holds.app.1 hhP).1;exact ⟨this.1,this.2,λr hr b hb=> .inr (by subst hMi;exact ⟨r,hr,hb⟩)⟩
 · -- one round
  intro k hk j vs RA W1 X hj harg hk1 hh1;rw [hJ] at hj;obtain ⟨s,hI,rfl⟩:=hj;rw [List.cons_append,Holds.pack] at hh1;have hl1:W1.heap[l]?=some (.loop rec):=hh1.all _ List.mem_cons_self;have hvs:=hps _ _ _ _ _ harg;have hk1':Keep M w0 W1:=hkW0.trans hk1 hMi0;obtain ⟨Mb,hMb⟩: ∃Mb:Nat->Prop,Mb=OwnOf (.obj l (.loop rec)::(R s ++ RA)):=⟨_,rfl⟩;have hMb2: ∀b,Mb b↔OwnOf (pack (.obj l (.loop rec)::R s)::RA) b:=λb=>by
   subst hMb;rw [OwnOf.cons,OwnOf.cons,OwnOf.app];show _↔OwnOf (.obj l (.loop rec)::R s) b\/_;rw [OwnOf.cons,or_assoc]
  have hmine: ∀b,Mb b->w0.heap.size<=b\/M b:=λb hb=>by
   have:W.heap.size<=b\/Mi b:=by
    subst hMb;obtain ⟨r,hr,ho⟩:=hb;refine hh1.mine r ?_ b ho;rw [List.cons_append];rcases List.mem_cons.1 hr with h|h
    ·rw [h];exact List.mem_cons_self
    ·refine List.mem_cons_of_mem _ ?_;rw [<-List.append_assoc];exact List.mem_append_left _ h
   rcases this with h|h
   ·exact .inl (Nat.le_trans hkW0.size h)
   ·exact hMi0 b h
  have hbdy:=hbody l k hk s vs RA W1 rec r1 hI harg hk1' (by rw [<-hMb];exact hmine);rw [<-hMb] at hbdy;have hy:=run_yield (P:=P) (args:=vs.toArray) hl1 (by rw [r5];simpa using hvs);rw [r3,r4,r5,r6,r7] at hy;refine ⟨fn,_,assign,body,hy,roundIn_of_wpIn trivial ?_⟩;have hfold:((ps.zip vs.toArray).foldl (λtmps (x:Tmp×Value)=>match x with|(t,a)=>tmps.setIfInBounds t a) a.tmps)=(List.zip ps.toList vs).foldl (λt p=>t.setIfInBounds p.1 p.2) a.tmps:=by
   rw [<-Array.foldl_toList,Array.toList_zip]
  rw [hfold];obtain ⟨hag,hsz⟩:=zhT (List.zip ps.toList vs) fr a.tmps a.defers [] (λp hp=>by
   have h1:p.1∈ps.toList:=(List.of_mem_zip hp).1;have h2:=List.all_eq_true.1 hpN p.1 h1;rw [hs.size];exact Nat.le_of_ble_eq_true h2) hs.agr
  have hold1:Holds W1.heap.size Mb (.obj l (.loop rec)::(R s ++ RA)) W1:=by
   have h2:Holds W.heap.size Mi ((.obj l (.loop rec)::(R s ++ RA)) ++ X) W1:=by simpa using hh1
   have h3:=(Holds.app.1 h2).1;exact ⟨h3.1,h3.2,λr hr b hb=> .inr (by subst hMb;exact ⟨r,hr,hb⟩)⟩
  have hwp:=hbdy ⟨_,[]⟩ W1 ⟨[],rfl,by rw [hsz];exact hs.size,hag,Keep.refl _ _,by simpa using hold1⟩;have conv: ∀(e:Exit) (jump:Option Code) (W3:World),(∃s,(match jump with|none=>I (k+1) s|some c=>Ix c (k+1) s)/\Keep Mb W1 W3/\Holds W1.heap.size Mb (.obj l (.loop (busy rec))::R s) W3)->
    ∃v w',(Instr.endRound l jump).run P W3= .ok v w'/\YR J Jx k (pack (.obj l (.loop rec)::R s)::RA) W1 (.returned v) w':=by
   rintro e jump W3 ⟨s',hI',hk3,hh3⟩;have hl3:W3.heap[l]?=some (.loop (busy rec)):=hh3.all _ List.mem_cons_self;have hlt:=(Array.getElem?_eq_some_iff.1 hl3).1;have hl0:Mb l:=by subst hMb;exact ⟨_,List.mem_cons_self,rfl⟩
   refine ⟨_,_,run_endRound jump hl3,jump.isNone,pack (.obj l (.loop { rec with state:=if jump.isNone then .ready else .done,pending:=jump })::R s'),rfl,?_,?_,?_⟩
   ·cases jump with
    |none=>
     show J (k+1) _;rw [hJ];refine ⟨s',hI',?_⟩;congr 4;cases rec;simp_all
    |some c=>show Jx (k+1) _;rw [hJx];exact ⟨c,s',hI',rfl⟩
   ·exact (hk3.trans Keep.putObj (λx hx=>by subst hx;exact .inr hl0)).mono (λb hb=>(hMb2 b).1 hb)
   ·have h4:Holds W1.heap.size Mb (.obj l (.loop { rec with state:=if jump.isNone then .ready else .done,pending:=jump })::R s') (W3.putObj l (.loop { busy rec with state:=if jump.isNone then .ready else .done,pending:=jump })):=by
     refine (hh3.tail.keep Keep.putObj (λr hr b hb hb'=>by subst hb';exact (List.pairwise_cons.1 hh3.apart).1 r hr b rfl hb)).cons (World.putObj_heap_same hlt) (λr hr b hb hb'=>(List.pairwise_cons.1 hh3.apart).1 r hr b hb hb') (λb hb=>hh3.mine _ List.mem_cons_self b hb)
    have h5:Holds W1.heap.size (OwnOf (pack (.obj l (.loop rec)::R s)::RA)) (.obj l (.loop { rec with state:=if jump.isNone then .ready else .done,pending:=jump })::R s' ++ []) (W3.putObj l (.loop { busy rec with state:=if jump.isNone then .ready else .done,pending:=jump })):=by
     rw [List.append_nil];exact ⟨h4.all,h4.apart,λr hr b hb=>(h4.mine r hr b hb).imp id (λh=>(hMb2 b).1 h)⟩
    exact Holds.pack.2 h5
  refine wpIn_mono hwp ?_;intro e a1 w1 hq;cases e with
  |normal=>
   obtain ⟨w2,hb2,hbody2⟩:=hq;refine ⟨w2,hb2,wpIn_mono hbody2 ?_⟩;intro e' a3 w3 hq';cases e' with
   |normal=>exact conv .normal none w3 hq'
   |ret=>exact conv .ret (some .ret) w3 hq'
   |exit id=>exact conv (.exit id) (some (.exit id)) w3 hq'
   |goto t=>exact conv (.goto t) (some (.goto t)) w3 hq'
   |panic c=>exact hq'.elim
   |outgrown=>exact hq'.elim
  |exit id=>exact hq.elim
  |goto t=>exact hq.elim
  |ret=>exact hq.elim
  |panic c=>exact hq.elim
  |outgrown=>exact hq.elim
theorem zmE {γ α:Type}(F:Prop) {gv:Operand}{ps:Array Tmp}{assign body:Code}{gf:Nat}{lb:List Value}{xs:List α}{Arg:(Nat->Prop)->α->List Value->List Res->World->Prop}
  (hent:Entered P ro N w0 M L ps assign body) (hg:ev (get fr) gv=some (.func (.func gf) #[] lb.toArray)) (eg: ∀args w,(callFunc gf args).run P w= .ok (.enter gf args) w) (hpN:ps.toList.all (λp=>Nat.blt p N)=true)
  (I:Nat->γ->Prop) (Ix:Code->Nat->γ->Prop) (R:γ->List Res) (Lit L1:List Res) (g0:γ) (h0:I 0 g0) (hL:L.Perm (R g0 ++ Lit ++ L1))
  (hit: ∀(w:World) (Mi:Nat->Prop) (X:List Res),Keep M w0 w->(∀b,Mi b->w0.heap.size<=b\/M b)->(∀b,Mi b-> ¬OwnOf L1 b)->Holds w0.heap.size M (R g0 ++ Lit ++ L1 ++ X) w->IterE F P gf lb xs Arg w Mi Lit)
  (hF:F-> ∀s,¬I xs.length s)
  (hps: ∀O x vs RA w,Arg O x vs RA w->vs.length=ps.size)
  (hbody: ∀(l k:Nat) (hk:k < xs.length) (s:γ) (vs:List Value) (RA:List Res) (W:World) (rec:Loop),rec.state= .ready->I k s->Arg (OwnOf (.obj l (.loop rec)::R s)) xs[k] vs RA W->Keep M w0 W->(∀b,OwnOf (.obj l (.loop rec)::(R s ++ RA)) b->w0.heap.size<=b\/M b)->
   Sy P (some l) N W (OwnOf (.obj l (.loop rec)::(R s ++ RA))) [] assign (Exit.then (BeginK P l body (RQ l rec I Ix R k (OwnOf (.obj l (.loop rec)::(R s ++ RA))) W)) NoQ) (psFr (List.zip ps.toList vs) fr) (.obj l (.loop rec)::(R s ++ RA)))
  (hdone: ∀s,I xs.length s->SyX N w0 M ds (Q .normal) fr (R s ++ Lit ++ L1))
  (hstop: ∀c k s,k<=xs.length->Ix c k s->Sy P ro N w0 M ds c Q fr (R s ++ Lit ++ L1)):
  Sy P ro N w0 M ds (.rangeFunc gv ps assign body) Q fr L:=
 zit F hent hg eg hpN I Ix R Lit Lit L1 g0 h0 hL hit hF hps hbody hdone hstop
theorem zdT {γ α:Type}{gv:Operand}{ps:Array Tmp}{assign body:Code}{gf:Nat}{lb:List Value}{xs:List α}{Arg:(Nat->Prop)->α->List Value->List Res->World->Prop}
  (hent:Entered P ro N w0 M L ps assign body) (hg:ev (get fr) gv=some (.func (.func gf) #[] lb.toArray)) (eg: ∀args w,(callFunc gf args).run P w= .ok (.enter gf args) w) (hpN:ps.toList.all (λp=>Nat.blt p N)=true)
  (I:Nat->γ->Prop) (Ix:Code->Nat->γ->Prop) (R:γ->List Res) (Lit L1:List Res) (g0:γ) (h0:I 0 g0) (hL:L.Perm (R g0 ++ Lit ++ L1))
  (hit: ∀(w:World) (Mi:Nat->Prop) (X:List Res),Keep M w0 w->(∀b,Mi b->w0.heap.size<=b\/M b)->(∀b,Mi b-> ¬OwnOf L1 b)->Holds w0.heap.size M (R g0 ++ Lit ++ L1 ++ X) w->IterC P gf lb xs Arg w Mi Lit)
  (hps: ∀O x vs RA w,Arg O x vs RA w->vs.length=ps.size)
  (hbody: ∀(l k:Nat) (hk:k < xs.length) (s:γ) (vs:List Value) (RA:List Res) (W:World) (rec:Loop),rec.state= .ready->I k s->Arg (OwnOf (.obj l (.loop rec)::R s)) xs[k] vs RA W->Keep M w0 W->(∀b,OwnOf (.obj l (.loop rec)::(R s ++ RA)) b->w0.heap.size<=b\/M b)->
   Sy P (some l) N W (OwnOf (.obj l (.loop rec)::(R s ++ RA))) [] assign (Exit.then (BeginK P l body (RQ l rec I Ix R k (OwnOf (.obj l (.loop rec)::(R s ++ RA))) W)) NoQ) (psFr (List.zip ps.toList vs) fr) (.obj l (.loop rec)::(R s ++ RA)))
  (hdone: ∀s,I xs.length s->SyX N w0 M ds (Q .normal) fr (R s ++ Lit ++ L1))
  (hstop: ∀c k s,k<=xs.length->Ix c k s->Sy P ro N w0 M ds c Q fr (R s ++ Lit ++ L1)):
  Sy P ro N w0 M ds (.rangeFunc gv ps assign body) Q fr L:=
 zmE False hent hg eg hpN I Ix R Lit L1 g0 h0 hL (λw Mi X h1 h2 h3 h4 l J Jx j0 _=>hit w Mi X h1 h2 h3 h4 l J Jx j0) (λh=>h.elim) hps hbody hdone hstop
end
end Go.Sy
namespace Go.Sy
open Go Go.Wd
theorem zkZ:Value.int .u8 0=v8 0:=rfl
theorem v8_lit (k:Nat) (h:k < 256):Value.int .u8 (k:Int)=v8 (UInt8.ofNat k):=by unfold v8;rw [n8_of_nat,Nat.mod_eq_of_lt h]
theorem SlA.mov {w:World}{a:Option Addr}{B:List Value}(h:SlA w a B) {l m:Nat}(hm:B.length<=m):SlA w (movA a l m 1) (B.drop l):=by
 unfold movA;split
 ·exact .inl (List.drop_eq_nil_of_le q_o)
 ·rw [Nat.mul_one];exact h.drop l
def SlF (w:World) (M:Nat->Prop) (a:Option Addr) (B:List Value):Prop:=B= []\/ ∃b off,a=some ⟨b,off,none⟩/\w.rangeAt b off B/\ ¬M b
theorem SlF.sla {w:World}{M:Nat->Prop}{a:Option Addr}{B:List Value}(h:SlF w M a B):SlA w a B:=h.imp id λ⟨b,o,ha,hr,_⟩=>⟨b,o,ha,hr⟩
theorem SlF.of {w:World}{a:Option Addr}{B:List Value}(h:SlA w a B):SlF w No a B:=h.imp id λ⟨b,o,ha,hr⟩=>⟨b,o,ha,hr,λh=>h⟩
theorem zou {w:World}{b off:Nat}{B:List Value}(h:w.rangeAt b off B) (hne:B≠[]):b < w.heap.size:=by
 obtain ⟨v,B',rfl⟩:=List.exists_cons_of_ne_nil hne;have:=h 0 v rfl;exact World.block_lt_of_cell? w ⟨b,off+0,none⟩ this
theorem zb6 {w0 w:World}{M Mi:Nat->Prop}{b off:Nat}{B:List Value}(h:w0.rangeAt b off B) (hne:B≠[]) (hn: ¬M b) (hk:Keep M w0 w) (hm: ∀b,Mi b->w0.heap.size<=b\/M b):w.rangeAt b off B/\ ¬Mi b:=
 ⟨λj v hj=>hk.cell (h j v hj) hn,λhb=>(hm b hb).elim (λh'=>by have:=zou h hne;omega) hn⟩
theorem zaw {w w':World}{M:Nat->Prop}{b off:Nat}{B:List Value}(h:w.rangeAt b off B) (hk:Keep M w w') (hn: ¬M b):w'.rangeAt b off B:=λj v hj=>hk.cell (h j v hj) hn
theorem SlF.to {w0 w:World}{M Mi:Nat->Prop}{a:Option Addr}{B:List Value}(h:SlF w0 M a B) (hk:Keep M w0 w) (hm: ∀b,Mi b->w0.heap.size<=b\/M b):SlF w Mi a B:=by
 by_cases hne:B= []
 ·exact .inl hne
 ·rcases h with h|⟨b,o,rfl,hr,hn⟩
  ·exact .inl h
  ·obtain ⟨h1,h2⟩:=zb6 hr hne hn hk hm;exact .inr ⟨b,o,rfl,h1,h2⟩
theorem SlA.to {w0 w:World}{Mi:Nat->Prop}{a:Option Addr}{B:List Value}(h:SlA w0 a B) (hk:Keep No w0 w) (hm: ∀b,Mi b->w0.heap.size<=b\/No b):SlF w Mi a B:=(SlF.of h).to hk hm
theorem SlF.mov {w:World}{M:Nat->Prop}{a:Option Addr}{B:List Value}(h:SlF w M a B) {l m:Nat}(hm:B.length<=m):SlF w M (movA a l m 1) (B.drop l):=by
 rcases h with rfl|⟨b,o,rfl,hr,hn⟩
 ·exact .inl q_p
 ·unfold movA;split
  ·exact .inl (List.drop_eq_nil_of_le q_o)
  ·refine .inr ⟨b,o+l*1,by simp [Addr.add_mid],λj v hj=>?_,hn⟩;rw [List.getElem?_drop] at hj;rw [Nat.mul_one,Nat.add_assoc];exact hr _ v hj
theorem SlF.take {w:World}{M:Nat->Prop}{a:Option Addr}{B:List Value}(h:SlF w M a B) (k:Nat):SlF w M a (B.take k):=by
 rcases h with rfl|⟨b,o,rfl,hr,hn⟩
 ·exact .inl q_p
 ·refine .inr ⟨b,o,rfl,λj v hj=>?_,hn⟩;rw [List.getElem?_take] at hj;split at hj
  ·exact hr j v hj
  ·cases hj
theorem SlF.row {B0:Nat}{w:World}{M Mi:Nat->Prop}{E n m c:Nat}{a:Option Addr}{xs:List Value}{L:List Res}(hh:Holds B0 M L w) (hL:Has L (.row (.slice a m c) E 1 n xs)) (hm: ∀b,Mi b-> ¬OwnOf [.row (.slice a m c) E 1 n xs] b):SlF w Mi a xs:=by
 have hrow:w.ownsRow 0 E 1 (.slice a m c) n xs:=hh.has hL;obtain ⟨h1,⟨_,h2⟩|⟨b,cc,cur,hv,_,h3,h4,h5,h6,h7⟩⟩:=hrow
 ·exact .inl (List.length_eq_zero_iff.1 q_o)
 ·cases hv;refine .inr ⟨b,0,rfl,λj v hj=>?_,λhb=>hm b hb ⟨_,List.mem_cons_self,rfl⟩⟩;rw [<-h7,List.getElem?_take] at hj;split at hj
  ·simp only [World.cell?,h3,Nat.zero_add];simpa using hj
  ·cases hj
theorem Rd.oldF {w0:World}{M:Nat->Prop}{L:List Res}{a:Option Addr}{B:List Value}(h:SlF w0 M a B):Rd w0 M L a B:=λw X hk _=>
 h.imp id λ⟨b,o,ha,hr,hn⟩=>⟨b,o,ha,λj v hj=>hk.cell (hr j v hj) hn⟩
section
variable {P:Program}{ro:Option Nat}{N:Nat}{w0:World}{M:Nat->Prop}{ds:List Deferred}{g:Nat->Option Value}{L:List Res}{o:Oper}
variable {t t':TypeId}{x z:Operand}{y ye:Ty}
theorem zcu {e n:Nat}{lo co:Operand}{k1 k2:IntKind}{z0:Value}{l c:Int}(ho:o.op= .makeSlice t lo co:=by exact rfl) (hl:ev g lo=some (.int k1 l):=by exact rfl) (hc:ev g co=some (.int k2 c):=by exact rfl) (ht:tyOf P t=some y:=by exact ty rfl) (hy:y.desc= .slice e:=by exact rfl) (he:tyOf P e=some ye:=by exact ty rfl)
  (hz:zeroC P e=some [z0]:=by exact zc rfl) (h1:ye.size=1:=by exact rfl) (hln:l=(n:Int):=by first|rfl|omega) (hcn:c=(n:Int):=by first|rfl|omega) (hb:ye.bytes*n<=281474976710656:=by first|(dsimp only;omega)|omega|(simp;omega)) (hm:n<=maxLen:=by (unfold maxLen;omega)):
  OpT P ro N w0 M ds o g L (λv L'=>∃b,v= .slice (some ⟨b,0,none⟩) n n/\L'= .blk b e (List.replicate n z0)::L):=zqv ho hl hc ht hy he hz h1 hln hcn hb hm
theorem zc3 {e b off dl dc sl sc T k:Nat}{a0:Option Addr}{C C' B:List Value}{xd xs:Operand}{L':List Res}(hr:Rd w0 M L a0 B) (hk:B.length=k) (hset:setSeg C off B=C') (hone:B.all (·.oneCell')=true:=by exact zdI _ (λ_=>rfl) _) (ho:o.op= .call { callee:=.builtin .copy,args:=#[xd,xs],argTypes:=#[t,t'] } :=by exact rfl) (hd:ev g xd=some (.slice (some ⟨b,off,none⟩) dl dc):=by exact rfl) (hx:ev g xs=some (.slice a0 sl sc):=by exact rfl)
  (ht:tyOf P t=some y:=by exact ty rfl) (hy:y.desc= .slice e:=by exact rfl) (he:tyOf P e=some ye:=by exact ty rfl) (h1:ye.size=1:=by exact rfl)
  (hL:Upd L (.blk b T C) (.blk b T C') L':=by repeat (first|exact Upd.here|apply Upd.there)) (hC:off+k<=C.length:=by first|omega|(simp only [List.length_map,List.length_set,List.length_replicate];omega)|(simp;omega)|fail) (hn:k=Nat.min sl dl:=by first|exact (Nat.min_eq_left q_o).symm|exact (Nat.min_eq_right q_o).symm|(show _=min _ _;omega)):OpT P ro N w0 M ds o g L (Det (.int .i64 k) L'):=by
 subst hset;subst hk;exact zpT ho hd hx ht hy he h1 hr hn hone hL hC
theorem setSeg0 {C B:List Value} :setSeg C 0 B=B ++ C.drop B.length:=by simp [setSeg]
theorem ziS {fo:Operand}{args:Array Operand}{tys:Array TypeId}{f b T:Nat}{C C':List Value}{vs cap:List Value}{v:Value}{L':List Res}
  (hc: ∀w X,Keep M w0 w->Holds w0.heap.size M (L ++ X) w->Fn P f (vs ++ cap) w (λx=>x=b) (λv' R=>v'=v/\R= [.blk b T C']))
  (ho:o.op= .call { callee:=.value fo,args:=args,argTypes:=tys } :=by exact rfl) (hf:ev g fo=some (.func (.func f) #[] cap.toArray):=by exact rfl) (ha:evs g args.toList=some vs:=by exact rfl)
  (he: ∀args w,(callFunc f args).run P w= .ok (.enter f args) w:=by exact en rfl)
  (hL:Upd L (.blk b T C) (.blk b T C') L':=by repeat (first|exact Upd.here|apply Upd.there)):OpT P ro N w0 M ds o g L (Det v L'):=by
 obtain ⟨A,B,e1,e2⟩:=hL;subst e1;subst e2;have h:=zcH (P:=P) (ro:=ro) (N:=N) (w0:=w0) (M:=M) (ds:=ds) (g:=g) (C:=[.blk b T C]) (L1:=A ++ B) (o:=o) ho hf ha he (show RemL (A ++ .blk b T C::B) [.blk b T C] (A ++ B) from List.perm_middle) (λx hx=>⟨_,List.mem_cons_self,hx.symm⟩) hc;intro a w X next Q hs hn
 refine h a w X next Q hs λv' w' L'' hp hk hh=>?_
 obtain ⟨R,rfl,rfl,rfl⟩:=hp;refine hn _ w' _ ⟨rfl,rfl⟩ hk (hh.perm (List.Perm.append_right X ?_));exact (List.perm_middle (a:=Res.blk b T C') (l₁:=A) (l₂:=B)).symm
end
theorem zsm:Extern.Stop.cell=v8:=rfl
section
variable {P:Program}{ro:Option Nat}{N:Nat}{w0:World}{M:Nat->Prop}{ds:List Deferred}{g:Nat->Option Value}{L:List Res}{o:Oper}
variable {t t':TypeId}{x z:Operand}{y ye:Ty}
theorem Reads.obj {b off E:Nat}{C B:List Value}{fz:Nat×Nat}(hL:Has L (.obj b (.cells C.toArray E fz))) (hs:Seg C off B):Reads w0 M L b off B:=λw _ _ hh j v hj=>by
 have h:w.heap[b]?=some (.cells C.toArray E fz):=hh.has (Has.append hL);have:=hs j v hj;simpa [World.cell?,h] using this
theorem SyL.weaken {ops:Array Oper}{Q:Exit->Act->World->Prop}{rest:List Oper}{fr fr':Fr}{L':List Res}(h:SyL P ro N w0 M ds ops Q rest fr' L') (hf:Sub fr' fr) (hL:SubR L' L):SyL P ro N w0 M ds ops Q rest fr L:=λa w hs=>h a w (hs.weaken hf hL)
section
variable {ops:Array Oper}{C:List (List Nat)}{L0:List Res}{Q:Exit->Act->World->Prop}{k i d:Nat}{rest:List Oper}{F:Env->Fr}{rs:List (Nat×(Env->Value->List Res->Prop))}
end
theorem Row.nil {B0:Nat}{w:World}{E n c s:Nat}{a:Option Addr}{xs:List Value}{L:List Res}(hh:Holds B0 M L w) (hL:Has L (.row (.slice a n c) E s n xs)):a=none->c=0/\n=0:=by
 have hrow:w.ownsRow 0 E s (.slice a n c) n xs:=hh.has hL;obtain ⟨h1,⟨hv,h2⟩|⟨b,cc,cur,hv,_,h3,h4,h5,h6,h7⟩⟩:=hrow
 ·cases hv;exact λ_=>⟨rfl,rfl⟩
 ·cases hv;intro h;cases h
theorem zh3 {c:Code}{Q:Exit->Act->World->Prop}{fr:Fr}{L1:List Res}{a:Option Addr}{E s n cp:Nat}{xs:List Value}(hr:Rem L (.row (.slice a n cp) E s n xs) L1)
  (h: ∀r,(0 < n-> ∃b J,a=some ⟨b,0,none⟩/\r= .blk b E (xs ++ J))->Sy P ro N w0 M ds c Q fr (r::L1)):Sy P ro N w0 M ds c Q fr L:=by
 by_cases hn:0 < n
 ·refine zf3 hr hn λb J ha _ _ _ _=>?_;exact h _ λ_=>⟨b,J,ha,rfl⟩
 ·refine Sy.weaken (h (.row (.slice a n cp) E s n xs) λh=>absurd h hn) Sub.refl ⟨[],?_⟩;rw [List.append_nil];exact hr.perm
theorem Row.cap {B0:Nat}{w:World}{E n c s:Nat}{a:Option Addr}{xs:List Value}{L:List Res}(hh:Holds B0 M L w) (hL:Has L (.row (.slice a n c) E s n xs)):n<=c:=by
 have hrow:w.ownsRow 0 E s (.slice a n c) n xs:=hh.has hL;obtain ⟨h1,⟨hv,h2⟩|⟨b,cc,cur,hv,_,h3,h4,h5,h6,h7⟩⟩:=hrow
 ·omega
 ·cases hv;exact h4
end
end Go.Sy
end
