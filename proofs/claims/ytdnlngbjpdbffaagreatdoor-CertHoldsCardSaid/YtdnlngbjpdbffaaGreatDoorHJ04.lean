/- Lemmas of this proof. -/
import Derived.Test.YtdnlngbjpdbffaaGreatDoorHJ03
import Derived.Lib.SlBytesConst
import Derived.Lib.ConvBytes
import Derived.Stop.BytesEq
import Derived.KernelRfl
set_option linter.all false
namespace Go.Sy
open Go
theorem SubR.same{r:Res}{R L L':List Res}(h:Rem L r L')(j:SubR R L'):SubR (r::R) L:=Ew h rfl j
def Es:=@SubR.same
theorem SubR.go{A B:List Res}(h:SubR A B:=by repeat' (first|exact SubR.nil|apply SubR.same;with_reducible (focus ((repeat (first|exact Rem.here|apply Rem.there));done))|apply SubR.blk;(focus ((repeat (first|exact Rem.here|apply Rem.there));done))|apply SubR.pick;(focus ((repeat (first|exact Rem.here|apply Rem.there));done))|rfl)):SubR A B:=h
theorem SubR.go2{A B:List Res}(h:SubR A B:=by repeat' (first|exact El|apply Es;with_reducible (focus ((repeat (first|exact Ej|apply Ek));done))|apply Ez;(focus ((repeat (first|exact Ej|apply Ek));done))|apply Es;(focus ((repeat (first|exact Ej|apply Ek));done))|apply Ew;(focus ((repeat (first|exact Ej|apply Ek));done))|rfl)):SubR A B:=h
def FE:=@SubR.go2
def allH(R:List Res)(w:World):Prop:=(∀r∈R,r.holds w)/\R.Pairwise Apart
def pack(R:List Res):Res:=.abs (OwnOf R) (allH R)
theorem OwnOf.app{A B:List Res}{b:Nat} :OwnOf (A++B) b↔OwnOf A b\/OwnOf B b:=by
 constructor
 ·rintro⟨r,j,h⟩;rcases Am.1 j with m|m
  ·exact .inl ⟨r,m,h⟩
  ·exact .inr ⟨r,m,h⟩
 ·rintro(⟨r,j,h⟩|⟨r,j,h⟩)
  ·exact⟨r,A7 _ j,h⟩
  ·exact⟨r,AB _ j,h⟩
theorem OwnOf.cons{r:Res}{B:List Res}{b:Nat} :OwnOf (r::B) b↔r.own b\/OwnOf B b:=by
 constructor
 ·rintro⟨q,m,h⟩;rcases AQ.1 m with j|j
  ·subst j;exact .inl h
  ·exact .inr ⟨q,j,h⟩
 ·rintro(h|⟨q,m,h⟩)
  ·exact⟨r,A4,h⟩
  ·exact⟨q,A0 _ m,h⟩
def Fd:=@OwnOf.cons
theorem OwnOf.nil{b:Nat} :¬OwnOf [] b:=λ⟨_,h,_⟩=>BB h
theorem allH.congr{R:List Res}{w w':World}(h:allH R w)(hb:∀b,OwnOf R b->w'.heap[b]?=w.heap[b]?):allH R w':=
 ⟨λr j=>FC (h.1 r j) λb m=>hb b ⟨r,j,m⟩,h.2⟩
theorem Holds.app{B:Nat}{M:Nat->Prop}{R L:List Res}{w:World} :Holds B M (R++L) w↔allH R w/\Holds B M L w/\(∀b,OwnOf R b->B<=b\/M b)/\∀b,OwnOf R b->¬OwnOf L b:=by
 constructor
 ·intro h;have K:=Bd.1 h.apart;exact⟨⟨λr j=>h.all r (A7 _ j),K.1⟩,h.sublist (CN R L),λb ⟨r,j,F⟩=>h.mine r (A7 _ j) b F,
   λb ⟨r,j,F⟩ ⟨H,m,G⟩=>K.2.2 r j H m b F G⟩
 ·rintro⟨J,A,O,S⟩;refine⟨λr j=>?_,Bd.2 ⟨J.2,A.apart,λr j H m b q E=>S b ⟨r,j,q⟩ ⟨H,m,E⟩⟩,λr j b q=>?_⟩
  ·rcases Am.1 j with h|h
   ·exact J.1 r h
   ·exact A.all r h
  ·rcases Am.1 j with h|h
   ·exact O b ⟨r,h,q⟩
   ·exact A.mine r h b q
def FQ:=@Holds.app
theorem ztY{R:List Res}{b:Nat} :OwnOf [pack R] b↔OwnOf R b:=by
 rw[Fd];exact⟨λh=>h.elim id λh=>(OwnOf.nil h).elim,.inl⟩
theorem ztZ{R:List Res}{w:World} :allH [pack R] w↔allH R w:=by
 constructor
 ·intro h;exact(h.1 (pack R) A4).2 w λ_ _=>rfl
 ·intro h;refine⟨λr j=>?_,Ba _ _⟩;obtain rfl:=AC.1 j;exact⟨λb ⟨r,j,q⟩=>F2 (h.1 r j) q,λA m=>h.congr m⟩
theorem Holds.pack{B:Nat}{M:Nat->Prop}{R L:List Res}{w:World} :Holds B M (pack R::L) w↔Holds B M (R++L) w:=by
 show Holds B M ([Sy.pack R]++L) w↔_
 grind [Holds.app,ztZ,ztY]
def Fe:=@Holds.pack
theorem Holds.call{B:Nat}{M M':Nat->Prop}{C L R:List Res}{w w':World}(h:Holds B M (C++L) w)(U:B<=w.heap.size)(hM:∀b,M' b->OwnOf C b)(hk:Keep M' w w')(hh:Holds w.heap.size M' R w'):Holds B M (R++L) w':=by
 obtain⟨T,G,H,J⟩:=FQ.1 h;have K:=G.keep hk (λr j b O q=>J b (hM b q) ⟨r,j,O⟩);refine FQ.2 ⟨⟨hh.all,hh.apart⟩,K,λb ⟨r,j,A⟩=>?_,λb ⟨r,j,A⟩ ⟨S,F,E⟩=>?_⟩
 ·rcases hh.mine r j b A with m|m
  ·omega
  ·exact H b (hM b m)
 ·rcases hh.mine r j b A with m|m
  ·have:=F2 (G.all S F) E;omega
  simp_all
theorem Holds.weak{B j:Nat}{M M':Nat->Prop}{L:List Res}{w:World}(h:Holds B M L w)(hm:∀b,OwnOf L b->j<=b\/M' b):Holds j M' L w:=⟨h.all,h.apart,λr q b m=>hm b ⟨r,q,m⟩⟩
def YR(J Jx:Nat->Res->Prop)(k:Nat)(C:List Res)(W:World)(e:Ending)(W':World):Prop:=
 ∃b j,e= .returned (.bool b)/\(bif b then J (k+1) j else Jx (k+1) j)/\Keep (OwnOf C) W W'/\Holds W.heap.size (OwnOf C) [j] W'
def Yields{α:Type}(P:Program)(l:Nat)(xs:List α)(Arg:(Nat->Prop)->α->List Value->List Res->World->Prop)(J Jx:Nat->Res->Prop)(w:World)(M:Nat->Prop):Prop:=
 ∀(k:Nat) (hk:k<xs.length) (j:Res) (vs:List Value) (RA:List Res) (W:World) (X:List Res),J k j->Arg j.own xs[k] vs RA W->Keep M w W->Holds w.heap.size M (j::RA++X) W->YieldAt Fence.wide 0 P l vs.toArray W (YR J Jx k (j::RA) W)
def zkH{α:Type}(P:Program)(gf:Nat)(lb:List Value)(xs:List α)(Arg:(Nat->Prop)->α->List Value->List Res->World->Prop)(w:World)(M:Nat->Prop)(Lit:List Res):Prop:=
 ∀(l:Nat) (J Jx:Nat->Res->Prop) (j0:Res),J 0 j0->Holds w.heap.size M (j0::Lit) w->Yields P l xs Arg J Jx w M->
  Fn P gf (.func (.yield l) #[] #[]::lb) w M (λ_ R=>∃j,R=j::Lit/\(J xs.length j\/∃k,k<=xs.length/\Jx k j))
def zqI{α:Type}(F:Prop)(P:Program)(gf:Nat)(lb:List Value)(xs:List α)(Arg:(Nat->Prop)->α->List Value->List Res->World->Prop)(w:World)(M:Nat->Prop)(Lit Lit2:List Res):Prop:=
 ∀(l:Nat) (J Jx:Nat->Res->Prop) (j0:Res),(F->∀j,¬J xs.length j)->J 0 j0->Holds w.heap.size M (j0::Lit) w->Yields P l xs Arg J Jx w M->
  Fn P gf (.func (.yield l) #[] #[]::lb) w M (λ_ R=>∃j,R=j::Lit2/\(J xs.length j\/∃k,k<=xs.length/\Jx k j))
def zx9{α:Type}(F:Prop)(P:Program)(gf:Nat)(lb:List Value)(xs:List α)(Arg:(Nat->Prop)->α->List Value->List Res->World->Prop)(w:World)(M:Nat->Prop)(Lit:List Res):Prop:=zqI F P gf lb xs Arg w M Lit Lit
theorem Yields.to{α:Type}{P:Program}{l:Nat}{xs:List α}{Arg:(Nat->Prop)->α->List Value->List Res->World->Prop}{J B:Nat->Res->Prop}{w G:World}{M E:Nat->Prop}(h:Yields P l xs Arg J B w M)(hk:Keep M w G)(hm:∀b,E b->w.heap.size<=b\/M b):Yields P l xs Arg J B G E:=
 λk q j V H W X S K A F=>h k q j V H W X S K (hk.trans A hm) (F.weak λb O=>by
  obtain⟨r,U,T⟩:=O;rcases F.mine r U b T with m|m
  ·exact .inl (BM hk.size m)
  ·exact hm b m)
variable {P:Program}{ro:Option Nat}{N:Nat}{w0:World}{M:Nat->Prop}{ds:List Deferred}{g:Nat->Option Value}{L:List Res}{o:Oper}
theorem zdj{α:Type}{xs:List α}{Arg:(Nat->Prop)->α->List Value->List Res->World->Prop}{J H:Nat->Res->Prop}{l k:Nat}{j:Res}{B L1:List Res}{U:Operand}{args:Array Operand}{T:Array TypeId}{vs:List Value}
  (hY:Yields P l xs Arg J H w0 M)(hk:k<xs.length)(hj:J k j)(W:o.op= .call { callee:=.value U,args:=args,argTypes:=T } :=by exact rfl)(hf:ev g U=some (.func (.yield l) #[] #[]):=by exact rfl)(ha:evs g args.toList=some vs:=by exact rfl)
  (hL:RemL L (j::B) L1)(harg:∀w X,Keep M w0 w->Holds w0.heap.size M (j::B++(L1++X)) w->Arg j.own xs[k] vs B w):
  OpT P ro N w0 M ds o g L (λv Y=>∃b E,v= .bool b/\Y=E::L1/\(bif b then J (k+1) E else H (k+1) E)):=by
 intro a w X next Q A hn
 refine⟨λ_ _=>trivial,?_⟩;rw[Oper.semAt_plain (FW ro) _ _ (λc V=>by rw[W] at V;cases V)];have m:args.map a.eval=vs.toArray:=B5.1 (by rw[BZ,A.agr.evals ha]);have q:(L++X).Perm (j::B++(L1++X)):=by rw[<-AF];exact Aj X hL
 have hold:=A.hold.perm q;obtain⟨fn,tmps,assign,body,hy,Z⟩:=hY k hk j vs B w (L1++X) hj (harg w _ A.keep hold) A.keep hold;have G:(execOp a.eval o).run P w= .ok (.round l fn tmps assign body) w:=by
  simp only[execOp,W,resolve,A.agr.eval hf,Deferred.ofValue,m,Sem.run_bind,Sem.run_pure,Result.andThen_ok,invoke];simpa using hy
 rw[G];refine⟨λh=>(by cases h),?_⟩;have K:RoundIn (FW ro) (0-1) P l fn tmps assign body w (YR J H k (j::B) w):=Z;refine K.mono ?_;rintro e w' ⟨b,E,rfl,S,F,O⟩;refine hn _ w' (E::L1) ⟨b,E,rfl,rfl,S⟩ (A.keep.trans F λx ⟨r,hr,hb⟩=>hold.mine r (A7 _ hr) x hb) ?_;exact hold.call A.keep.size (λ_ h=>h) F O
def busy(r:Loop):Loop:={ r with state:=.busy }
def zkG(P:Program)(l:Nat)(body:Code)(Q:Exit->Act->World->Prop)(a:Act)(w:World):Prop:=∃w₂,(Instr.beginRound l).run P w= .ok () w₂/\body.wpIn (FW (some l)) 0 P Q a w₂
def RQ{γ:Type}(l:Nat)(rec:Loop)(I:Nat->γ->Prop)(Ix:Code->Nat->γ->Prop)(R:γ->List Res)(k:Nat)(Mb:Nat->Prop)(W:World):Exit->Act->World->Prop
 | .normal,_,W'=>∃s,I (k+1) s/\Keep Mb W W'/\Holds W.heap.size Mb (.obj l (.loop (busy rec))::R s) W'
 | .ret,_,W'=>∃s,Ix .ret (k+1) s/\Keep Mb W W'/\Holds W.heap.size Mb (.obj l (.loop (busy rec))::R s) W'
 | .exit id,_,W'=>∃s,Ix (.exit id) (k+1) s/\Keep Mb W W'/\Holds W.heap.size Mb (.obj l (.loop (busy rec))::R s) W'
 | .goto t,_,W'=>∃s,Ix (.goto t) (k+1) s/\Keep Mb W W'/\Holds W.heap.size Mb (.obj l (.loop (busy rec))::R s) W'
 |_,_,_=>False
def NoQ:Exit->Act->World->Prop:=λ_ _ _=>False
def zoh:List (Nat×Value)->Fr->Fr
 | [],fr=>fr
 |p::l,fr=>zoh l (p::fr)
theorem zl5:∀(l:List (Nat×Value)) (fr:Fr) (tmps:Array Value) (m j:List Deferred),(∀p∈l,p.1<tmps.size)->Agrees (get fr) ⟨tmps,m⟩->
  Agrees (get (zoh l fr)) ⟨l.foldl (λt p=>t.setIfInBounds p.1 p.2) tmps,j⟩/\(l.foldl (λt p=>t.setIfInBounds p.1 p.2) tmps).size=tmps.size
 | [],fr,tmps,m,j,_,h=>⟨λt v A=>h t v A,rfl⟩
 |p::l,fr,tmps,m,j,hl,h=>by
  have r:=h.put (d:=p.1) (hl p A4) p.2;simp only[Act.put] at r;have:=zl5 l (p::fr) (tmps.setIfInBounds p.1 p.2) m j (λq w=>by rw[D8];exact hl q (A0 _ w)) r;exact⟨this.1,by rw[EE];rw[this.2,D8]⟩
variable {fr:Fr}{Q:Exit->Act->World->Prop}
theorem zda{γ:Type}{Q:Exit->Act->World->Prop}(f:γ->Fr)(R:γ->List Res)(I:γ->Prop){x y:Code}(h:Sy P ro N w0 M ds x (Exit.then (zoc N w0 M ds f R I) Q) fr L)(h2:∀g,I g->Sy P ro N w0 M ds y Q (f g) (R g)):Sy P ro N w0 M ds x (Exit.then (CK P ro y Q) Q) fr L:=
 λa w A=>wpIn_mono (h a w A) (λe q B j=>by
  cases e with
  |normal=>obtain⟨g,r,m⟩:=j;exact h2 g r q B m
  |exit id=>exact j
  |goto l=>exact j
  |ret=>exact j
  |panic c=>exact j
  |outgrown=>exact j)
theorem zaJ{l:Nat}{body:Code}{rec:Loop}{L1:List Res}(hL:Rem L (.obj l (.loop rec)) L1)(hr:rec.state= .ready)(h:Sy P (some l) N w0 M ds body Q fr (.obj l (.loop (busy rec))::L1)):SyX N w0 M ds (zkG P l body Q) fr L:=by
 rintro a w ⟨E,F,G⟩;have j:=G.perm (hL.perm.append_right _);have B:w.heap[l]?=some (.loop rec):=j.hold.all _ A4;have A:=(Ag.1 B).1;refine⟨_,run_beginRound B hr,h a _ ⟨E,F,j.size,j.agr,j.keep.trans F3 (λx H=>by subst H;exact j.hold.mine _ A4 x rfl),?_⟩⟩;refine(j.hold.tail.keep (w':=w.putObj l (.loop { rec with state:=.busy })) F3 (λr hr b q m=>by subst m;exact(Ai.1 j.hold.apart).1 r hr b rfl q)).cons (World.putObj_heap_same A) (λr hr b q m=>(Ai.1 j.hold.apart).1 r hr b q m) (λb q=>j.hold.mine _ A4 b q)
theorem znk{γ:Type}{l:Nat}{rec:Loop}{I:Nat->γ->Prop}{Ix:Code->Nat->γ->Prop}{R:γ->List Res}{k:Nat}(s:γ)(p:γ->Prop)(m:p s)(q:SubR (.obj l (.loop (busy rec))::R s) L){a:Act}{w:World}(j:StD N w0 M ds (get fr) L a w):
  ∃s,p s/\Keep M w0 w/\Holds w0.heap.size M (.obj l (.loop (busy rec))::R s) w:=by
 obtain⟨r,A,j⟩:=j;exact⟨s,m,j.keep,(j.hold.sublist (C8 _ _)).subR q⟩
variable {γ:Type}{l:Nat}{rec:Loop}{I:Nat->γ->Prop}{Ix:Code->Nat->γ->Prop}{R:γ->List Res}{k:Nat}
theorem zfY(s:γ)(j:I (k+1) s)(m:SubR (.obj l (.loop (busy rec))::R s) L):SyX N w0 M ds (RQ l rec I Ix R k M w0 .normal) fr L:=λ_ _ q=>znk (I:=I) (Ix:=Ix) (k:=k) s (I (k+1)) j m q
theorem zfr(s:γ)(j:Ix .ret (k+1) s)(m:SubR (.obj l (.loop (busy rec))::R s) L):SyX N w0 M ds (RQ l rec I Ix R k M w0 .ret) fr L:=λ_ _ q=>znk (I:=I) (Ix:=Ix) (k:=k) s (Ix .ret (k+1)) j m q
theorem zib{id:Nat}(s:γ)(j:Ix (.exit id) (k+1) s)(m:SubR (.obj l (.loop (busy rec))::R s) L):SyX N w0 M ds (RQ l rec I Ix R k M w0 (.exit id)) fr L:=λ_ _ q=>znk (I:=I) (Ix:=Ix) (k:=k) s (Ix (.exit id) (k+1)) j m q
def zi6(P:Program)(ro:Option Nat)(N:Nat)(w0:World)(M:Nat->Prop)(L:List Res)(ps:Array Tmp)(assign body:Code):Prop:=
 ∀(fn:FuncId) (tmps:Array Value) (w:World) (X:List Res),Keep M w0 w->Holds w0.heap.size M (L++X) w->∃(l:Nat) (Dn:List Nat) (W:World) (rec:Loop),(Instr.enterLoop fn tmps ps assign body ro).run P w= .ok (l,Dn.map col) W/\
  rec.state= .ready/\rec.pending=none/\rec.fn=fn/\rec.tmps=tmps/\rec.params=ps/\rec.assign=assign/\rec.body=body/\Keep No w W/\Holds w0.heap.size M (.obj l (.loop rec)::(L++X++Dn.map dob)) W/\w.heap.size<=l
theorem Holds.newObj{B:Nat}{L:List Res}{w:World}(h:Holds B M L w)(q:B<=w.heap.size)(o:Obj):Holds B M (.obj w.heap.size o::L) (w.alloc o):=by
 refine(h.keep (FN No w _) (λ_ _ _ _ h=>h)).cons ?_ ?_ ?_
 ·show(w.heap.push _)[w.heap.size]?=_;simp
 ·intro x r b j m;cases j;have:=F2 (h.all x r) m;omega
 ·intro b j;cases j;exact .inl q
theorem zcO{ps:Array Tmp}{assign body:Code} :zi6 P none N w0 M L ps assign body:=by
 intro fn tmps w X m r;have q:=r.newObj m.size (.deferred (some []));have j:=q.newObj (by have:=m.size;simp;omega) (.loop { state:=.ready,pending:=none,fn,tmps,params:=ps,assign,body,defers:=w.heap.size });refine⟨w.heap.size+1,[w.heap.size],_,{ state:=.ready,pending:=none,fn,tmps,params:=ps,assign,body,defers:=w.heap.size },run_enterLoop_outer fn tmps ps assign body,rfl,rfl,rfl,rfl,rfl,rfl,rfl,(FN No w _).trans (FN No _ _) (λ_ h=>h.elim),?_,by omega⟩;rw[World.size_alloc] at j;refine j.perm ?_;refine List.Perm.cons _ ?_;show(Res.obj w.heap.size (.deferred (some []))::(L++X)).Perm (L++X++[dob w.heap.size]);exact(Ac (l₁:=[dob w.heap.size]) (l₂:=L++X))
theorem zlY{γ α:Type}(F:Prop){gv:Operand}{ps:Array Tmp}{assign body:Code}{gf:Nat}{lb:List Value}{xs:List α}{Arg:(Nat->Prop)->α->List Value->List Res->World->Prop}
  (hent:zi6 P ro N w0 M L ps assign body)(hg:ev (get fr) gv=some (.func (.func gf) #[] lb.toArray))(eg:∀args w,(callFunc gf args).run P w= .ok (.enter gf args) w)(hpN:ps.toList.all (λp=>Nat.blt p N)=true)
  (I:Nat->γ->Prop)(Ix:Code->Nat->γ->Prop)(R:γ->List Res)(Lit Lit2 L1:List Res)(g0:γ)(h0:I 0 g0)(hL:L.Perm (R g0++Lit++L1))
  (hit:∀(w:World) (Mi:Nat->Prop) (X:List Res),Keep M w0 w->(∀b,Mi b->w0.heap.size<=b\/M b)->(∀b,Mi b->¬OwnOf L1 b)->Holds w0.heap.size M (R g0++Lit++L1++X) w->zqI F P gf lb xs Arg w Mi Lit Lit2)
  (hF:F->∀s,¬I xs.length s)
  (hps:∀O x vs RA w,Arg O x vs RA w->vs.length=ps.size)
  (hbody:∀(l k:Nat) (hk:k<xs.length) (s:γ) (vs:List Value) (RA:List Res) (W:World) (rec:Loop),rec.state= .ready->I k s->Arg (OwnOf (.obj l (.loop rec)::R s)) xs[k] vs RA W->Keep M w0 W->(∀b,OwnOf (.obj l (.loop rec)::(R s++RA)) b->w0.heap.size<=b\/M b)->
   Sy P (some l) N W (OwnOf (.obj l (.loop rec)::(R s++RA))) [] assign (Exit.then (zkG P l body (RQ l rec I Ix R k (OwnOf (.obj l (.loop rec)::(R s++RA))) W)) NoQ) (zoh (List.zip ps.toList vs) fr) (.obj l (.loop rec)::(R s++RA)))
  (hdone:∀s,I xs.length s->SyX N w0 M ds (Q .normal) fr (R s++Lit2++L1))
  (hstop:∀c k s,k<=xs.length->Ix c k s->Sy P ro N w0 M ds c Q fr (R s++Lit2++L1)):
  Sy P ro N w0 M ds (.rangeFunc gv ps assign body) Q fr L:=by
 rintro a w ⟨Ds,hds,hs⟩;refine wpIn_rangeFunc ?_;intro fn hfn;obtain⟨l,Dn,W,rec,hrun,r1,r2,r3,r4,r5,r6,r7,hkW,hhW,hlw⟩:=hent fn a.tmps w (Ds.map dob) hs.keep hs.hold;have hkW0:Keep M w0 W:=hs.keep.trans hkW (λ_ h=>h.elim);have hpW:(.obj l (.loop rec)::(L++Ds.map dob++Dn.map dob)).Perm ((.obj l (.loop rec)::(R g0))++(Lit++(L1++(Dn++Ds).map dob))):=by
  refine List.Perm.cons _ ?_;have h1:=(hL.append_right (Ds.map dob)).append_right (Dn.map dob);refine h1.trans ?_;simp only[AF,B2];exact B7 _ (B7 _ (B7 _ Ac))
 have hhW':=hhW.perm hpW
 -- the state of the loop, as the iterator has it
 obtain⟨J,hJ⟩:∃J:Nat->Res->Prop,J=λk j=>∃s,I k s/\j=pack (.obj l (.loop rec)::R s):=⟨_,rfl⟩;obtain⟨Jx,hJx⟩:∃Jx:Nat->Res->Prop,Jx=λk j=>∃c s,Ix c k s/\j=pack (.obj l (.loop { rec with state:=.done,pending:=some c })::R s):=⟨_,rfl⟩;obtain⟨Mi,hMi⟩:∃Mi:Nat->Prop,Mi=OwnOf (pack (.obj l (.loop rec)::R g0)::Lit):=⟨_,rfl⟩;have hhP:Holds w0.heap.size M ((pack (.obj l (.loop rec)::R g0)::Lit)++(L1++(Dn++Ds).map dob)) W:=by
  rw[Aa,Fe];exact hhW'
 have hMi0:∀b,Mi b->w0.heap.size<=b\/M b:=λb hb=>by
  subst hMi;exact(FQ.1 hhP).2.2.1 b hb
 have hMi1:∀b,Mi b->¬OwnOf L1 b:=λb hb hb'=>by
  subst hMi;grind [Holds.app,OwnOf.app]
 have hit':=hit W Mi ((Dn++Ds).map dob) hkW0 hMi0 hMi1 (by
  have h2:Holds w0.heap.size M (R g0++(Lit++(L1++(Dn++Ds).map dob))) W:=hhW'.tail;rw[<-AF,<-AF] at h2;exact h2)
 have hres:(resolve a.eval (rangeCall gv l) 0).run P W= .ok { target:=.fn (.func gf) lb.toArray,args:=#[.func (.yield l) #[] #[]] } W:=by
  simp only[resolve,hs.agr.eval hg];simp[go_sem]
 refine⟨l,Dn.map col,W,{ target:=.fn (.func gf) lb.toArray,args:=#[.func (.yield l) #[] #[]] },W,gf,#[.func (.yield l) #[] #[]]++lb.toArray,W,hrun,hres,λf' _=>trivial,?_,(λh=>by cases h),?_⟩
 ·simp[invoke,go_sem,eg]
 have hcall:=hit' l J Jx (pack (.obj l (.loop rec)::R g0)) (λhf j hj=>by simp_all) (by rw[hJ];exact⟨g0,h0,rfl⟩) ?_ ?_
 ·have hargs:(#[.func (.yield l) #[] #[]]++lb.toArray:Array Value)=(.func (.yield l) #[] #[]::lb).toArray:=by simp
  rw[hargs];have hc2:CallsIn (FW ro) (0-1) P gf (.func (.yield l) #[] #[]::lb).toArray W (λe w'=>∃v R',e= .returned v/\(∃j,R'=j::Lit2/\(J xs.length j\/∃k,k<=xs.length/\Jx k j))/\Keep Mi W w'/\Holds W.heap.size Mi R' w'):=(callsIn_wide (n:=0-1)).2 hcall;refine CallsIn.mono hc2 ?_;rintro e w3 ⟨v,R',rfl,⟨j,rfl,hj⟩,hk3,hh3⟩;have hh3':Holds w0.heap.size M (j::Lit2++(L1++(Dn++Ds).map dob)) w3:=hhP.call hkW0.size (λb hb=>by subst hMi;exact hb) hk3 hh3;have hk3':Keep M w0 w3:=hkW0.trans hk3 hMi0
  -- the record is shut
  have fin:∀(rec':Loop) (s:γ),j=pack (.obj l (.loop rec')::R s)->rec'.state≠ .busy->(Instr.endLoop l).run P w3= .ok rec'.pending (w3.putObj l (.loop { rec' with state:=.exhausted }))/\
    StD N w0 M ds (get fr) (R s++Lit2++L1) { a with defers:=Dn.map col++a.defers } (w3.putObj l (.loop { rec' with state:=.exhausted })):=by
   rintro rec' s rfl hb;rw[Aa,Fe] at hh3';have hl3:w3.heap[l]?=some (.loop rec'):=hh3'.all _ A4;refine⟨run_endLoop hl3 hb,Dn++Ds,by simp[hds],hs.size,hs.agr,hk3'.trans F3 (λx hx=>by subst hx;exact hh3'.mine _ A4 x rfl),?_⟩;have:=hh3'.tail.keep (w':=w3.putObj l (.loop { rec' with state:=.exhausted })) F3 (λr hr b hb hb'=>by subst hb';exact(Ai.1 hh3'.apart).1 r hr b rfl hb);simpa using this
  rcases hj with hj|⟨k,hkl,hj⟩
  ·rw[hJ] at hj;obtain⟨s,hI,e⟩:=hj;obtain⟨he,hst⟩:=fin rec s e (by rw[r1];decide);refine⟨none,_,by rw[he,r2],hdone s hI _ _ hst⟩
  ·rw[hJx] at hj;obtain⟨c,s,hI,e⟩:=hj;obtain⟨he,hst⟩:=fin _ s e q_p;exact⟨some c,_,he,hstop c k s hkl hI _ _ hst⟩
 ·have:=(FQ.1 hhP).1;exact⟨this.1,this.2,λr hr b hb=> .inr (by subst hMi;exact⟨r,hr,hb⟩)⟩
 · -- one round
  intro k hk j vs RA W1 X hj harg hk1 hh1;rw[hJ] at hj;obtain⟨s,hI,rfl⟩:=hj;rw[Aa,Fe] at hh1;have hl1:W1.heap[l]?=some (.loop rec):=hh1.all _ A4;have hvs:=hps _ _ _ _ _ harg;have hk1':Keep M w0 W1:=hkW0.trans hk1 hMi0;obtain⟨Mb,hMb⟩:∃Mb:Nat->Prop,Mb=OwnOf (.obj l (.loop rec)::(R s++RA)):=⟨_,rfl⟩;have hMb2:∀b,Mb b↔OwnOf (pack (.obj l (.loop rec)::R s)::RA) b:=λb=>by
   subst hMb;rw[Fd,Fd,OwnOf.app];show _↔OwnOf (.obj l (.loop rec)::R s) b\/_;rw[Fd,or_assoc]
  have hmine:∀b,Mb b->w0.heap.size<=b\/M b:=λb hb=>by
   have:W.heap.size<=b\/Mi b:=by
    subst hMb;obtain⟨r,hr,ho⟩:=hb;refine hh1.mine r ?_ b ho;rw[Aa];rcases AQ.1 hr with h|h
    ·simp_all
    ·grind
   rcases this with h|h
   ·exact .inl (BM hkW0.size h)
   ·exact hMi0 b h
  have hbdy:=hbody l k hk s vs RA W1 rec r1 hI harg hk1' (by simp_all);rw[<-hMb] at hbdy;have hy:=run_yield (P:=P) (args:=vs.toArray) hl1 (by rw[r5];simpa using hvs);rw[r3,r4,r5,r6,r7] at hy;refine⟨fn,_,assign,body,hy,roundIn_of_wpIn trivial ?_⟩;have hfold:((ps.zip vs.toArray).foldl (λtmps (x:Tmp×Value)=>match x with|(t,a)=>tmps.setIfInBounds t a) a.tmps)=(List.zip ps.toList vs).foldl (λt p=>t.setIfInBounds p.1 p.2) a.tmps:=by
   rw[<-Array.foldl_toList,Array.toList_zip]
  rw[hfold];obtain⟨hag,hsz⟩:=zl5 (List.zip ps.toList vs) fr a.tmps a.defers [] (λp hp=>by
   have h1:p.1∈ps.toList:=(List.of_mem_zip hp).1;have h2:=AD.1 hpN p.1 h1;rw[hs.size];simp_all) hs.agr
  have hold1:Holds W1.heap.size Mb (.obj l (.loop rec)::(R s++RA)) W1:=by
   have h2:Holds W.heap.size Mi ((.obj l (.loop rec)::(R s++RA))++X) W1:=by simpa using hh1
   have h3:=(FQ.1 h2).1;exact⟨h3.1,h3.2,λr hr b hb=> .inr (by subst hMb;exact⟨r,hr,hb⟩)⟩
  have hwp:=hbdy ⟨_,[]⟩ W1 ⟨[],rfl,by rw[hsz];exact hs.size,hag,Fb _ _,by simpa using hold1⟩;have conv:∀(e:Exit) (jump:Option Code) (W3:World),(∃s,(match jump with|none=>I (k+1) s|some c=>Ix c (k+1) s)/\Keep Mb W1 W3/\Holds W1.heap.size Mb (.obj l (.loop (busy rec))::R s) W3)->
    ∃v w',(Instr.endRound l jump).run P W3= .ok v w'/\YR J Jx k (pack (.obj l (.loop rec)::R s)::RA) W1 (.returned v) w':=by
   rintro e jump W3 ⟨s',hI',hk3,hh3⟩;have hl3:W3.heap[l]?=some (.loop (busy rec)):=hh3.all _ A4;have hlt:=(Ag.1 hl3).1;have hl0:Mb l:=by subst hMb;exact⟨_,A4,rfl⟩
   refine⟨_,_,run_endRound jump hl3,jump.isNone,pack (.obj l (.loop { rec with state:=if jump.isNone then .ready else .done,pending:=jump })::R s'),rfl,?_,?_,?_⟩
   ·cases jump with
    |none=>
     show J (k+1) _;rw[hJ];refine⟨s',hI',?_⟩;congr 4;cases rec;simp_all
    |some c=>show Jx (k+1) _;rw[hJx];grind
   ·exact(hk3.trans F3 (λx hx=>by subst hx;exact .inr hl0)).mono (λb hb=>(hMb2 b).1 hb)
   ·have h4:Holds W1.heap.size Mb (.obj l (.loop { rec with state:=if jump.isNone then .ready else .done,pending:=jump })::R s') (W3.putObj l (.loop { busy rec with state:=if jump.isNone then .ready else .done,pending:=jump })):=by
     refine(hh3.tail.keep F3 (λr hr b hb hb'=>by subst hb';exact(Ai.1 hh3.apart).1 r hr b rfl hb)).cons (World.putObj_heap_same hlt) (λr hr b hb hb'=>(Ai.1 hh3.apart).1 r hr b hb hb') (λb hb=>hh3.mine _ A4 b hb)
    have h5:Holds W1.heap.size (OwnOf (pack (.obj l (.loop rec)::R s)::RA)) (.obj l (.loop { rec with state:=if jump.isNone then .ready else .done,pending:=jump })::R s'++[]) (W3.putObj l (.loop { busy rec with state:=if jump.isNone then .ready else .done,pending:=jump })):=by
     rw[AH];exact⟨h4.all,h4.apart,λr hr b hb=>(h4.mine r hr b hb).imp id (λh=>(hMb2 b).1 h)⟩
    exact Fe.2 h5
  refine wpIn_mono hwp ?_;intro e a1 w1 hq;cases e with
  |normal=>
   obtain⟨w2,hb2,hbody2⟩:=hq;refine⟨w2,hb2,wpIn_mono hbody2 ?_⟩;intro e' a3 w3 hq';cases e' with
   |normal=>exact conv .normal none w3 hq'
   |ret=>exact conv .ret (some .ret) w3 hq'
   |exit id=>exact conv (.exit id) (some (.exit id)) w3 hq'
   |goto t=>exact conv (.goto t) (some (.goto t)) w3 hq'
   |panic c=>exact hq'.elim
   |outgrown=>exact hq'.elim
  |exit id=>exact hq.elim
  |goto t=>exact hq.elim
  |ret=>exact hq.elim
  |panic c=>exact hq.elim
  |outgrown=>exact hq.elim
theorem zsk{γ α:Type}(F:Prop){S:Operand}{ps:Array Tmp}{assign body:Code}{E:Nat}{T:List Value}{xs:List α}{Arg:(Nat->Prop)->α->List Value->List Res->World->Prop}
  (A:zi6 P ro N w0 M L ps assign body)(Y:ev (get fr) S=some (.func (.func E) #[] T.toArray))(U:∀args w,(callFunc E args).run P w= .ok (.enter E args) w)(J:ps.toList.all (λp=>Nat.blt p N)=true)
  (I:Nat->γ->Prop)(Ix:Code->Nat->γ->Prop)(R:γ->List Res)(Lit L1:List Res)(g0:γ)(h0:I 0 g0)(hL:L.Perm (R g0++Lit++L1))
  (H:∀(w:World) (G:Nat->Prop) (X:List Res),Keep M w0 w->(∀b,G b->w0.heap.size<=b\/M b)->(∀b,G b->¬OwnOf L1 b)->Holds w0.heap.size M (R g0++Lit++L1++X) w->zx9 F P E T xs Arg w G Lit)
  (V:F->∀s,¬I xs.length s)
  (K:∀O x B j w,Arg O x B j w->B.length=ps.size)
  (m:∀(l k:Nat) (Z:k<xs.length) (s:γ) (B:List Value) (j:List Res) (W:World) (rec:Loop),rec.state= .ready->I k s->Arg (OwnOf (.obj l (.loop rec)::R s)) xs[k] B j W->Keep M w0 W->(∀b,OwnOf (.obj l (.loop rec)::(R s++j)) b->w0.heap.size<=b\/M b)->
   Sy P (some l) N W (OwnOf (.obj l (.loop rec)::(R s++j))) [] assign (Exit.then (zkG P l body (RQ l rec I Ix R k (OwnOf (.obj l (.loop rec)::(R s++j))) W)) NoQ) (zoh (List.zip ps.toList B) fr) (.obj l (.loop rec)::(R s++j)))
  (q:∀s,I xs.length s->SyX N w0 M ds (Q .normal) fr (R s++Lit++L1))
  (r:∀c k s,k<=xs.length->Ix c k s->Sy P ro N w0 M ds c Q fr (R s++Lit++L1)):
  Sy P ro N w0 M ds (.rangeFunc S ps assign body) Q fr L:=
 zlY F A Y U J I Ix R Lit Lit L1 g0 h0 hL H V K m q r
theorem zgb{γ α:Type}{S:Operand}{ps:Array Tmp}{assign body:Code}{F:Nat}{T:List Value}{xs:List α}{Arg:(Nat->Prop)->α->List Value->List Res->World->Prop}
  (B:zi6 P ro N w0 M L ps assign body)(hg:ev (get fr) S=some (.func (.func F) #[] T.toArray))(V:∀args w,(callFunc F args).run P w= .ok (.enter F args) w)(H:ps.toList.all (λp=>Nat.blt p N)=true)
  (I:Nat->γ->Prop)(Ix:Code->Nat->γ->Prop)(R:γ->List Res)(Lit L1:List Res)(g0:γ)(h0:I 0 g0)(hL:L.Perm (R g0++Lit++L1))
  (G:∀(w:World) (A:Nat->Prop) (X:List Res),Keep M w0 w->(∀b,A b->w0.heap.size<=b\/M b)->(∀b,A b->¬OwnOf L1 b)->Holds w0.heap.size M (R g0++Lit++L1++X) w->zkH P F T xs Arg w A Lit)
  (K:∀O x E j w,Arg O x E j w->E.length=ps.size)
  (m:∀(l k:Nat) (hk:k<xs.length) (s:γ) (E:List Value) (j:List Res) (W:World) (rec:Loop),rec.state= .ready->I k s->Arg (OwnOf (.obj l (.loop rec)::R s)) xs[k] E j W->Keep M w0 W->(∀b,OwnOf (.obj l (.loop rec)::(R s++j)) b->w0.heap.size<=b\/M b)->
   Sy P (some l) N W (OwnOf (.obj l (.loop rec)::(R s++j))) [] assign (Exit.then (zkG P l body (RQ l rec I Ix R k (OwnOf (.obj l (.loop rec)::(R s++j))) W)) NoQ) (zoh (List.zip ps.toList E) fr) (.obj l (.loop rec)::(R s++j)))
  (q:∀s,I xs.length s->SyX N w0 M ds (Q .normal) fr (R s++Lit++L1))
  (r:∀c k s,k<=xs.length->Ix c k s->Sy P ro N w0 M ds c Q fr (R s++Lit++L1)):
  Sy P ro N w0 M ds (.rangeFunc S ps assign body) Q fr L:=
 zsk False B hg V H I Ix R Lit L1 g0 h0 hL (λw A X Y Z h3 h4 l J U j0 _=>G w A X Y Z h3 h4 l J U j0) (λh=>h.elim) K m q r
open Go.Wd
theorem zpq:Value.int .u8 0=v8 0:=rfl
theorem v8_lit(k:Nat)(h:k<256):Value.int .u8 (k:Int)=v8 (UInt8.ofNat k):=by grind [v8,n8_of_nat]
theorem SlA.mov{w:World}{a:Option Addr}{B:List Value}(h:SlA w a B){l m:Nat}(hm:B.length<=m):SlA w (zbB a l m 1) (B.drop l):=by
 unfold zbB;split
 ·exact .inl (Bp q_o)
 ·rw[Al];exact h.drop l
theorem zrd{a:Option Addr}{l m s:Nat} :zbB a l m s=none↔a=none:=by
 unfold zbB;split
 ·exact Iff.rfl
 ·cases a <;> simp
def SlF(w:World)(M:Nat->Prop)(a:Option Addr)(B:List Value):Prop:=B= []\/∃b off,a=some ⟨b,off,none⟩/\w.rangeAt b off B/\¬M b
theorem SlF.sla{w:World}{M:Nat->Prop}{a:Option Addr}{B:List Value}(h:SlF w M a B):SlA w a B:=h.imp id λ⟨b,o,j,m,_⟩=>⟨b,o,j,m⟩
theorem SlF.of{w:World}{a:Option Addr}{B:List Value}(h:SlA w a B):SlF w No a B:=h.imp id λ⟨b,o,j,m⟩=>⟨b,o,j,m,λh=>h⟩
def FY:=@SlF.of
theorem ztp{w:World}{b off:Nat}{B:List Value}(h:w.rangeAt b off B)(j:B≠[]):b<w.heap.size:=by
 obtain⟨v,m,rfl⟩:=List.exists_cons_of_ne_nil j;have:=h 0 v rfl;exact World.block_lt_of_cell? w ⟨b,off+0,none⟩ this
theorem zek{w0 w:World}{M Mi:Nat->Prop}{b off:Nat}{B:List Value}(h:w0.rangeAt b off B)(m:B≠[])(hn:¬M b)(hk:Keep M w0 w)(hm:∀b,Mi b->w0.heap.size<=b\/M b):w.rangeAt b off B/\¬Mi b:=
 ⟨λj v r=>hk.cell (h j v r) hn,λq=>(hm b q).elim (λA=>by have:=ztp h m;omega) hn⟩
theorem zaW{w w':World}{M:Nat->Prop}{b off:Nat}{B:List Value}(h:w.rangeAt b off B)(hk:Keep M w w')(hn:¬M b):w'.rangeAt b off B:=λj v m=>hk.cell (h j v m) hn
theorem SlF.to{w0 w:World}{M Mi:Nat->Prop}{a:Option Addr}{B:List Value}(h:SlF w0 M a B)(hk:Keep M w0 w)(hm:∀b,Mi b->w0.heap.size<=b\/M b):SlF w Mi a B:=by
 by_cases hne:B= []
 ·exact .inl hne
 ·rcases h with h|⟨b,o,rfl,r,q⟩
  ·exact .inl h
  ·obtain⟨j,m⟩:=zek r hne q hk hm;exact .inr ⟨b,o,rfl,j,m⟩
theorem SlA.to{w0 w:World}{Mi:Nat->Prop}{a:Option Addr}{B:List Value}(h:SlA w0 a B)(hk:Keep No w0 w)(hm:∀b,Mi b->w0.heap.size<=b\/No b):SlF w Mi a B:=(SlF.of h).to hk hm
theorem SlF.mov{w:World}{M:Nat->Prop}{a:Option Addr}{B:List Value}(h:SlF w M a B){l m:Nat}(hm:B.length<=m):SlF w M (zbB a l m 1) (B.drop l):=by
 rcases h with rfl|⟨b,o,rfl,A,r⟩
 ·exact .inl q_p
 ·unfold zbB;split
  ·exact .inl (Bp q_o)
  ·refine .inr ⟨b,o+l*1,by simp[Addr.add_mid],λj v q=>?_,r⟩;rw[Bl] at q;rw[Al,BH];exact A _ v q
theorem SlF.take{w:World}{M:Nat->Prop}{a:Option Addr}{B:List Value}(h:SlF w M a B)(k:Nat):SlF w M a (B.take k):=by
 rcases h with rfl|⟨b,o,rfl,r,q⟩
 ·exact .inl q_p
 ·refine .inr ⟨b,o,rfl,λj v m=>?_,q⟩;rw[C7] at m;split at m
  ·exact r j v m
  ·cases m
theorem SlF.row{r:Nat}{w:World}{M Mi:Nat->Prop}{E n m c:Nat}{a:Option Addr}{xs:List Value}{L:List Res}(hh:Holds r M L w)(hL:Has L (.row (.slice a m c) E 1 n xs))(hm:∀b,Mi b->¬OwnOf [.row (.slice a m c) E 1 n xs] b):SlF w Mi a xs:=by
 have q:w.ownsRow 0 E 1 (.slice a m c) n xs:=hh.has hL;obtain⟨H,⟨_,J⟩|⟨b,G,A,F,_,K,O,S,T,U⟩⟩:=q
 ·exact .inl (Av.1 q_o)
 ·cases F;refine .inr ⟨b,0,rfl,λj v V=>?_,λB=>hm b B ⟨_,A4,rfl⟩⟩
  grind [World.cell?]
def GZ:=@SlF.row
theorem Rd.oldF{w0:World}{M:Nat->Prop}{L:List Res}{a:Option Addr}{B:List Value}(h:SlF w0 M a B):Rd w0 M L a B:=λw X r _=>
 h.imp id λ⟨b,o,m,E,A⟩=>⟨b,o,m,λj v q=>r.cell (E j v q) A⟩
variable {t t':TypeId}{x z:Operand}{y ye:Ty}
theorem zhm{e n:Nat}{lo co:Operand}{k1 k2:IntKind}{z0:Value}{l c:Int}(w:o.op= .makeSlice t lo co:=by exact rfl)(r:ev g lo=some (.int k1 l):=by exact rfl)(hc:ev g co=some (.int k2 c):=by exact rfl)(A:zag P t=some y:=by exact ty rfl)(B:y.desc= .slice e:=by exact rfl)(he:zag P e=some ye:=by exact ty rfl)
  (hz:za8 P e=some [z0]:=by exact zc rfl)(h1:ye.size=1:=by exact rfl)(m:l=(n:Int):=by first|rfl|omega)(j:c=(n:Int):=by first|rfl|omega)(hb:ye.bytes*n<=281474976710656:=by first|(dsimp only;omega)|omega|simp;omega)(hm:n<=maxLen:=by (unfold maxLen;omega)):
  OpT P ro N w0 M ds o g L (λv q=>∃b,v= .slice (some ⟨b,0,none⟩) n n/\q= .blk b e (List.replicate n z0)::L):=zvi w r hc A B he hz h1 m j hb hm
theorem ze8{e b off j dc m F T k:Nat}{a0:Option Addr}{C C' B:List Value}{q xs:Operand}{L':List Res}(hr:Rd w0 M L a0 B)(hk:B.length=k)(hset:zaz C off B=C')(hone:B.all (·.oneCell')=true:=by exact zfT _ (λ_=>rfl) _)(w:o.op= .call { callee:=.builtin .copy,args:=#[q,xs],argTypes:=#[t,t'] } :=by exact rfl)(r:ev g q=some (.slice (some ⟨b,off,none⟩) j dc):=by exact rfl)(hx:ev g xs=some (.slice a0 m F):=by exact rfl)
  (A:zag P t=some y:=by exact ty rfl)(E:y.desc= .slice e:=by exact rfl)(he:zag P e=some ye:=by exact ty rfl)(h1:ye.size=1:=by exact rfl)
  (hL:Upd L (.blk b T C) (.blk b T C') L':=by repeat (first|exact FI|apply FH))(hC:off+k<=C.length:=by first|omega|simp only[A1,AI,AJ];omega|simp;omega|fail)(hn:k=Nat.min m j:=by first|exact(BX q_o).symm|exact(E5 q_o).symm|show _=min _ _;omega):OpT P ro N w0 M ds o g L (Det (.int .i64 k) L'):=by
 subst hset;subst hk;exact zvL w r hx A E he h1 hr hn hone hL hC
theorem zwy{C B:List Value} :zaz C 0 B=B++C.drop B.length:=by simp[zaz]
theorem zmP{m:Operand}{args:Array Operand}{j:Array TypeId}{f b T:Nat}{C C':List Value}{vs cap:List Value}{v:Value}{L':List Res}
  (hc:∀w X,Keep M w0 w->Holds w0.heap.size M (L++X) w->Fn P f (vs++cap) w (λx=>x=b) (λq R=>q=v/\R= [.blk b T C']))
  (O:o.op= .call { callee:=.value m,args:=args,argTypes:=j } :=by exact rfl)(G:ev g m=some (.func (.func f) #[] cap.toArray):=by exact rfl)(ha:evs g args.toList=some vs:=by exact rfl)
  (he:∀args w,(callFunc f args).run P w= .ok (.enter f args) w:=by exact en rfl)
  (hL:Upd L (.blk b T C) (.blk b T C') L':=by repeat (first|exact FI|apply FH)):OpT P ro N w0 M ds o g L (Det v L'):=by
 obtain⟨A,B,E,F⟩:=hL;subst E;subst F;have h:=zd1 (P:=P) (ro:=ro) (N:=N) (w0:=w0) (M:=M) (ds:=ds) (g:=g) (C:=[.blk b T C]) (L1:=A++B) (o:=o) O G ha he (show RemL (A ++ .blk b T C::B) [.blk b T C] (A++B) from CF) (λx V=>⟨_,A4,V.symm⟩) hc;intro a w X next Q U K
 refine h a w X next Q U λq W r S J H=>?_
 obtain⟨R,rfl,rfl,rfl⟩:=S;refine K _ W _ ⟨rfl,rfl⟩ J (H.perm (Aj X ?_));exact(CF (a:=Res.blk b T C') (l₁:=A) (l₂:=B)).symm
theorem zys:Extern.Stop.cell=v8:=rfl
theorem Reads.obj{b off E:Nat}{C B:List Value}{m:Nat×Nat}(hL:Has L (.obj b (.cells C.toArray E m)))(A:Seg C off B):Reads w0 M L b off B:=λw _ _ q j v r=>by
 have h:w.heap[b]?=some (.cells C.toArray E m):=q.has (Et hL);have:=A j v r;simpa [World.cell?,h] using this
theorem SyL.weaken{ops:Array Oper}{Q:Exit->Act->World->Prop}{rest:List Oper}{fr fr':Fr}{L':List Res}(h:SyL P ro N w0 M ds ops Q rest fr' L')(j:Sub fr' fr)(hL:SubR L' L):SyL P ro N w0 M ds ops Q rest fr L:=λa w m=>h a w (m.weaken j hL)
def F9:=@SyL.weaken
theorem Row.nil{m:Nat}{w:World}{E n c s:Nat}{a:Option Addr}{xs:List Value}{L:List Res}(hh:Holds m M L w)(hL:Has L (.row (.slice a n c) E s n xs)):a=none->c=0/\n=0:=by
 have j:w.ownsRow 0 E s (.slice a n c) n xs:=hh.has hL;obtain⟨B,⟨r,F⟩|⟨b,A,q,r,_,G,H,J,K,O⟩⟩:=j
 ·simp_all
 simp_all
def FV:=@Row.nil
theorem zlI{c:Code}{Q:Exit->Act->World->Prop}{fr:Fr}{L1:List Res}{a:Option Addr}{E s n cp:Nat}{xs:List Value}(hr:Rem L (.row (.slice a n cp) E s n xs) L1)
  (h:∀r,(0<n->∃b J,a=some ⟨b,0,none⟩/\r= .blk b E (xs++J))->Sy P ro N w0 M ds c Q fr (r::L1)):Sy P ro N w0 M ds c Q fr L:=by
 by_cases hn:0<n
 ·refine zkQ hr hn λb J j _ _ _ _=>?_;exact h _ λ_=>⟨b,J,j,rfl⟩
 ·refine F8 (h (.row (.slice a n cp) E s n xs) λh=>absurd h hn) Sub.refl ⟨[],?_⟩;rw[AH];exact hr.perm
theorem Row.cap{q:Nat}{w:World}{E n c s:Nat}{a:Option Addr}{xs:List Value}{L:List Res}(hh:Holds q M L w)(hL:Has L (.row (.slice a n c) E s n xs)):n<=c:=by
 have j:w.ownsRow 0 E s (.slice a n c) n xs:=hh.has hL;obtain⟨F,⟨m,G⟩|⟨b,B,r,m,_,H,A,J,K,O⟩⟩:=j
 ·omega
 ·cases m;exact A
def FD:=@Row.cap
end Go.Sy
