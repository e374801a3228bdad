/- Lemmas of this proof. -/
import Derived.Test.YtdnlngbjpdbffaaGreatDoorKJ03
import Derived.Lib.SlBytesConst
import Derived.Lib.ConvBytes
import Derived.Stop.BytesEq
import Derived.KernelRfl
set_option linter.all false
namespace Go.Sy
open Go
theorem SubR.same{r:Res}{R L L':List Res}(h:Rem L r L')(j:SubR R L'):SubR (r::R) L:=FA h rfl j
def F9:=@SubR.same
theorem SubR.go{A B:List Res}(h:SubR A B:=by repeat' (first|exact SubR.nil|apply SubR.same;with_reducible (focus ((repeat (first|exact Rem.here|apply Rem.there));done))|apply SubR.blk;(focus ((repeat (first|exact Rem.here|apply Rem.there));done))|apply SubR.pick;(focus ((repeat (first|exact Rem.here|apply Rem.there));done))|rfl)):SubR A B:=h
theorem SubR.go2{A B:List Res}(h:SubR A B:=by repeat' (first|exact F2|apply F9;with_reducible (focus ((repeat (first|exact F1|apply F3));done))|apply FC;(focus ((repeat (first|exact F1|apply F3));done))|apply F9;(focus ((repeat (first|exact F1|apply F3));done))|apply FA;(focus ((repeat (first|exact F1|apply F3));done))|rfl)):SubR A B:=h
def Fp:=@SubR.go2
def allH(R:List Res)(w:World):Prop:=(∀r∈R,r.holds w)/\R.Pairwise Apart
def pack(R:List Res):Res:=.abs (OwnOf R) (allH R)
theorem OwnOf.app{A B:List Res}{b:Nat} :OwnOf (A++B) b↔OwnOf A b\/OwnOf B b:=by
 constructor
 ·rintro⟨r,j,h⟩;rcases BE.1 j with m|m
  ·exact .inl ⟨r,m,h⟩
  ·exact .inr ⟨r,m,h⟩
 ·rintro(⟨r,j,h⟩|⟨r,j,h⟩)
  ·exact⟨r,AX _ j,h⟩
  ·exact⟨r,Ar _ j,h⟩
theorem OwnOf.cons{r:Res}{B:List Res}{b:Nat} :OwnOf (r::B) b↔r.own b\/OwnOf B b:=by
 constructor
 ·rintro⟨q,m,h⟩;rcases Ag.1 m with j|j
  ·subst j;exact .inl h
  ·exact .inr ⟨q,j,h⟩
 ·rintro(h|⟨q,m,h⟩)
  ·exact⟨r,A5,h⟩
  ·exact⟨q,A9 _ m,h⟩
def Fs:=@OwnOf.cons
theorem OwnOf.nil{b:Nat} :¬OwnOf [] b:=λ⟨_,h,_⟩=>Bm h
theorem allH.congr{R:List Res}{w w':World}(h:allH R w)(hb:∀b,OwnOf R b->w'.heap[b]?=w.heap[b]?):allH R w':=
 ⟨λr j=>GZ (h.1 r j) λb m=>hb b ⟨r,j,m⟩,h.2⟩
theorem Holds.app{B:Nat}{M:Nat->Prop}{R L:List Res}{w:World} :Holds B M (R++L) w↔allH R w/\Holds B M L w/\(∀b,OwnOf R b->B<=b\/M b)/\∀b,OwnOf R b->¬OwnOf L b:=by
 constructor
 ·intro h;have J:=Cf.1 h.apart;exact⟨⟨λr j=>h.all r (AX _ j),J.1⟩,h.sublist (EG R L),λb ⟨r,j,E⟩=>h.mine r (AX _ j) b E,
   λb ⟨r,j,E⟩ ⟨G,m,F⟩=>J.2.2 r j G m b E F⟩
 ·rintro⟨H,A,K,O⟩;refine⟨λr j=>?_,Cf.2 ⟨H.2,A.apart,λr j G m b q C=>O b ⟨r,j,q⟩ ⟨G,m,C⟩⟩,λr j b q=>?_⟩
  ·rcases BE.1 j with h|h
   ·exact H.1 r h
   ·exact A.all r h
  ·rcases BE.1 j with h|h
   ·exact K b ⟨r,h,q⟩
   ·exact A.mine r h b q
def Fc:=@Holds.app
theorem zsj{R:List Res}{b:Nat} :OwnOf [pack R] b↔OwnOf R b:=by
 rw[Fs];exact⟨λh=>h.elim id λh=>(OwnOf.nil h).elim,.inl⟩
theorem zsJ{R:List Res}{w:World} :allH [pack R] w↔allH R w:=by
 constructor
 ·intro h;exact(h.1 (pack R) A5).2 w λ_ _=>rfl
 ·intro h;refine⟨λr j=>?_,Bh _ _⟩;obtain rfl:=AF.1 j;exact⟨λb ⟨r,j,q⟩=>FN (h.1 r j) q,λA m=>h.congr m⟩
theorem Holds.pack{B:Nat}{M:Nat->Prop}{R L:List Res}{w:World} :Holds B M (pack R::L) w↔Holds B M (R++L) w:=by
 show Holds B M ([Sy.pack R]++L) w↔_;rw[Fc,Fc,zsJ];simp only[zsj]
def Ft:=@Holds.pack
theorem Holds.call{B:Nat}{M M':Nat->Prop}{C L R:List Res}{w w':World}(h:Holds B M (C++L) w)(O:B<=w.heap.size)(hM:∀b,M' b->OwnOf C b)(hk:Keep M' w w')(hh:Holds w.heap.size M' R w'):Holds B M (R++L) w':=by
 obtain⟨U,G,K,H⟩:=Fc.1 h;have S:=G.keep hk (λr q b T E=>H b (hM b E) ⟨r,q,T⟩);refine Fc.2 ⟨⟨hh.all,hh.apart⟩,S,λb ⟨r,q,F⟩=>?_,λb ⟨r,q,F⟩ ⟨J,A,m⟩=>?_⟩
 ·rcases hh.mine r q b F with j|j
  ·exact .inl (BG O j)
  ·exact K b (hM b j)
 ·rcases hh.mine r q b F with j|j
  ·have:=FN (G.all J A) m;omega
  ·exact H b (hM b j) ⟨J,A,m⟩
theorem Holds.weak{B j:Nat}{M M':Nat->Prop}{L:List Res}{w:World}(h:Holds B M L w)(hm:∀b,OwnOf L b->j<=b\/M' b):Holds j M' L w:=⟨h.all,h.apart,λr q b m=>hm b ⟨r,q,m⟩⟩
def YR(J Jx:Nat->Res->Prop)(k:Nat)(C:List Res)(W:World)(e:Ending)(W':World):Prop:=
 ∃b j,e= .returned (.bool b)/\(bif b then J (k+1) j else Jx (k+1) j)/\Keep (OwnOf C) W W'/\Holds W.heap.size (OwnOf C) [j] W'
def Yields{α:Type}(P:Program)(l:Nat)(xs:List α)(Arg:(Nat->Prop)->α->List Value->List Res->World->Prop)(J Jx:Nat->Res->Prop)(w:World)(M:Nat->Prop):Prop:=
 ∀(k:Nat) (hk:k<xs.length) (j:Res) (vs:List Value) (RA:List Res) (W:World) (X:List Res),J k j->Arg j.own xs[k] vs RA W->Keep M w W->Holds w.heap.size M (j::RA++X) W->YieldAt Fence.wide 0 P l vs.toArray W (YR J Jx k (j::RA) W)
def zky{α:Type}(P:Program)(gf:Nat)(lb:List Value)(xs:List α)(Arg:(Nat->Prop)->α->List Value->List Res->World->Prop)(w:World)(M:Nat->Prop)(Lit:List Res):Prop:=
 ∀(l:Nat) (J Jx:Nat->Res->Prop) (j0:Res),J 0 j0->Holds w.heap.size M (j0::Lit) w->Yields P l xs Arg J Jx w M->
  Fn P gf (.func (.yield l) #[] #[]::lb) w M (λ_ R=>∃j,R=j::Lit/\(J xs.length j\/∃k,k<=xs.length/\Jx k j))
def zqc{α:Type}(F:Prop)(P:Program)(gf:Nat)(lb:List Value)(xs:List α)(Arg:(Nat->Prop)->α->List Value->List Res->World->Prop)(w:World)(M:Nat->Prop)(Lit Lit2:List Res):Prop:=
 ∀(l:Nat) (J Jx:Nat->Res->Prop) (j0:Res),(F->∀j,¬J xs.length j)->J 0 j0->Holds w.heap.size M (j0::Lit) w->Yields P l xs Arg J Jx w M->
  Fn P gf (.func (.yield l) #[] #[]::lb) w M (λ_ R=>∃j,R=j::Lit2/\(J xs.length j\/∃k,k<=xs.length/\Jx k j))
def zw1{α:Type}(F:Prop)(P:Program)(gf:Nat)(lb:List Value)(xs:List α)(Arg:(Nat->Prop)->α->List Value->List Res->World->Prop)(w:World)(M:Nat->Prop)(Lit:List Res):Prop:=zqc F P gf lb xs Arg w M Lit Lit
theorem Yields.to{α:Type}{P:Program}{l:Nat}{xs:List α}{Arg:(Nat->Prop)->α->List Value->List Res->World->Prop}{J B:Nat->Res->Prop}{w F:World}{M C:Nat->Prop}(h:Yields P l xs Arg J B w M)(hk:Keep M w F)(hm:∀b,C b->w.heap.size<=b\/M b):Yields P l xs Arg J B F C:=
 λk q j U G W X O H A E=>h k q j U G W X O H (hk.trans A hm) (E.weak λb K=>by
  obtain⟨r,T,S⟩:=K;rcases E.mine r T b S with m|m
  ·exact .inl (BG hk.size m)
  ·exact hm b m)
variable {P:Program}{ro:Option Nat}{N:Nat}{w0:World}{M:Nat->Prop}{ds:List Deferred}{g:Nat->Option Value}{L:List Res}{o:Oper}
theorem zda{α:Type}{xs:List α}{Arg:(Nat->Prop)->α->List Value->List Res->World->Prop}{J G:Nat->Res->Prop}{l k:Nat}{j:Res}{B L1:List Res}{T:Operand}{args:Array Operand}{S:Array TypeId}{vs:List Value}
  (Z:Yields P l xs Arg J G w0 M)(hk:k<xs.length)(hj:J k j)(V:o.op= .call { callee:=.value T,args:=args,argTypes:=S } :=by exact rfl)(hf:ev g T=some (.func (.yield l) #[] #[]):=by exact rfl)(ha:evs g args.toList=some vs:=by exact rfl)
  (hL:RemL L (j::B) L1)(harg:∀w X,Keep M w0 w->Holds w0.heap.size M (j::B++(L1++X)) w->Arg j.own xs[k] vs B w):
  OpT P ro N w0 M ds o g L (λv W=>∃b C,v= .bool b/\W=C::L1/\(bif b then J (k+1) C else G (k+1) C)):=by
 intro a w X next Q A hn
 refine⟨λ_ _=>trivial,?_⟩;rw[Oper.semAt_plain (FW ro) _ _ (λc U=>by rw[V] at U;cases U)];have m:args.map a.eval=vs.toArray:=BC.1 (by rw[Bn,A.agr.evals ha]);have q:(L++X).Perm (j::B++(L1++X)):=by rw[<-AL];exact B2 X hL
 have hold:=A.hold.perm q;obtain⟨fn,tmps,assign,body,hy,Y⟩:=Z k hk j vs B w (L1++X) hj (harg w _ A.keep hold) A.keep hold;have F:(execOp a.eval o).run P w= .ok (.round l fn tmps assign body) w:=by
  simp only[execOp,V,resolve,A.agr.eval hf,Deferred.ofValue,m,Sem.run_bind,Sem.run_pure,Result.andThen_ok,invoke];simpa using hy
 rw[F];refine⟨λh=>(by cases h),?_⟩;have H:RoundIn (FW ro) (0-1) P l fn tmps assign body w (YR J G k (j::B) w):=Y;refine H.mono ?_;rintro e w' ⟨b,C,rfl,O,E,K⟩;refine hn _ w' (C::L1) ⟨b,C,rfl,rfl,O⟩ (A.keep.trans E λx ⟨r,hr,hb⟩=>hold.mine r (AX _ hr) x hb) ?_;exact hold.call A.keep.size (λ_ h=>h) E K
def busy(r:Loop):Loop:={ r with state:=.busy }
def zkv(P:Program)(l:Nat)(body:Code)(Q:Exit->Act->World->Prop)(a:Act)(w:World):Prop:=∃w₂,(Instr.beginRound l).run P w= .ok () w₂/\body.wpIn (FW (some l)) 0 P Q a w₂
def RQ{γ:Type}(l:Nat)(rec:Loop)(I:Nat->γ->Prop)(Ix:Code->Nat->γ->Prop)(R:γ->List Res)(k:Nat)(Mb:Nat->Prop)(W:World):Exit->Act->World->Prop
 | .normal,_,W'=>∃s,I (k+1) s/\Keep Mb W W'/\Holds W.heap.size Mb (.obj l (.loop (busy rec))::R s) W'
 | .ret,_,W'=>∃s,Ix .ret (k+1) s/\Keep Mb W W'/\Holds W.heap.size Mb (.obj l (.loop (busy rec))::R s) W'
 | .exit id,_,W'=>∃s,Ix (.exit id) (k+1) s/\Keep Mb W W'/\Holds W.heap.size Mb (.obj l (.loop (busy rec))::R s) W'
 | .goto t,_,W'=>∃s,Ix (.goto t) (k+1) s/\Keep Mb W W'/\Holds W.heap.size Mb (.obj l (.loop (busy rec))::R s) W'
 |_,_,_=>False
def NoQ:Exit->Act->World->Prop:=λ_ _ _=>False
def znW:List (Nat×Value)->Fr->Fr
 | [],fr=>fr
 |p::l,fr=>znW l (p::fr)
theorem zla:∀(l:List (Nat×Value)) (fr:Fr) (tmps:Array Value) (m j:List Deferred),(∀p∈l,p.1<tmps.size)->Agrees (get fr) ⟨tmps,m⟩->
  Agrees (get (znW l fr)) ⟨l.foldl (λt p=>t.setIfInBounds p.1 p.2) tmps,j⟩/\(l.foldl (λt p=>t.setIfInBounds p.1 p.2) tmps).size=tmps.size
 | [],fr,tmps,m,j,_,h=>⟨λt v A=>h t v A,rfl⟩
 |p::l,fr,tmps,m,j,hl,h=>by
  have r:=h.put (d:=p.1) (hl p A5) p.2;simp only[Act.put] at r;have:=zla l (p::fr) (tmps.setIfInBounds p.1 p.2) m j (λq w=>by rw[DQ];exact hl q (A9 _ w)) r;exact⟨this.1,by rw[Ed];rw[this.2,DQ]⟩
variable {fr:Fr}{Q:Exit->Act->World->Prop}
theorem zb9{γ:Type}{Q:Exit->Act->World->Prop}(f:γ->Fr)(R:γ->List Res)(I:γ->Prop){x y:Code}(h:Sy P ro N w0 M ds x (Exit.then (zk5 N w0 M ds f R I) Q) fr L)(h2:∀g,I g->Sy P ro N w0 M ds y Q (f g) (R g)):Sy P ro N w0 M ds x (Exit.then (CK P ro y Q) Q) fr L:=
 λa w A=>wpIn_mono (h a w A) (λe q B j=>by
  cases e with
  |normal=>obtain⟨g,r,m⟩:=j;exact h2 g r q B m
  |exit id=>exact j
  |goto l=>exact j
  |ret=>exact j
  |panic c=>exact j
  |outgrown=>exact j)
theorem zbT{l:Nat}{body:Code}{rec:Loop}{L1:List Res}(hL:Rem L (.obj l (.loop rec)) L1)(hr:rec.state= .ready)(h:Sy P (some l) N w0 M ds body Q fr (.obj l (.loop (busy rec))::L1)):SyX N w0 M ds (zkv P l body Q) fr L:=by
 rintro a w ⟨C,E,F⟩;have j:=F.perm (hL.perm.append_right _);have B:w.heap[l]?=some (.loop rec):=j.hold.all _ A5;have A:=(Aa.1 B).1;refine⟨_,run_beginRound B hr,h a _ ⟨C,E,j.size,j.agr,j.keep.trans FV (λx G=>by subst G;exact j.hold.mine _ A5 x rfl),?_⟩⟩;refine(j.hold.tail.keep (w':=w.putObj l (.loop { rec with state:=.busy })) FV (λr hr b q m=>by subst m;exact(Am.1 j.hold.apart).1 r hr b rfl q)).cons (World.putObj_heap_same A) (λr hr b q m=>(Am.1 j.hold.apart).1 r hr b q m) (λb q=>j.hold.mine _ A5 b q)
theorem zmv{γ:Type}{l:Nat}{rec:Loop}{I:Nat->γ->Prop}{Ix:Code->Nat->γ->Prop}{R:γ->List Res}{k:Nat}(s:γ)(p:γ->Prop)(m:p s)(q:SubR (.obj l (.loop (busy rec))::R s) L){a:Act}{w:World}(j:StD N w0 M ds (get fr) L a w):
  ∃s,p s/\Keep M w0 w/\Holds w0.heap.size M (.obj l (.loop (busy rec))::R s) w:=by
 obtain⟨r,A,j⟩:=j;exact⟨s,m,j.keep,(j.hold.sublist (Cl _ _)).subR q⟩
variable {γ:Type}{l:Nat}{rec:Loop}{I:Nat->γ->Prop}{Ix:Code->Nat->γ->Prop}{R:γ->List Res}{k:Nat}
theorem zfR(s:γ)(j:I (k+1) s)(m:SubR (.obj l (.loop (busy rec))::R s) L):SyX N w0 M ds (RQ l rec I Ix R k M w0 .normal) fr L:=λ_ _ q=>zmv (I:=I) (Ix:=Ix) (k:=k) s (I (k+1)) j m q
theorem zfp(s:γ)(j:Ix .ret (k+1) s)(m:SubR (.obj l (.loop (busy rec))::R s) L):SyX N w0 M ds (RQ l rec I Ix R k M w0 .ret) fr L:=λ_ _ q=>zmv (I:=I) (Ix:=Ix) (k:=k) s (Ix .ret (k+1)) j m q
theorem zh2{id:Nat}(s:γ)(j:Ix (.exit id) (k+1) s)(m:SubR (.obj l (.loop (busy rec))::R s) L):SyX N w0 M ds (RQ l rec I Ix R k M w0 (.exit id)) fr L:=λ_ _ q=>zmv (I:=I) (Ix:=Ix) (k:=k) s (Ix (.exit id) (k+1)) j m q
def zi3(P:Program)(ro:Option Nat)(N:Nat)(w0:World)(M:Nat->Prop)(L:List Res)(ps:Array Tmp)(assign body:Code):Prop:=
 ∀(fn:FuncId) (tmps:Array Value) (w:World) (X:List Res),Keep M w0 w->Holds w0.heap.size M (L++X) w->∃(l:Nat) (Dn:List Nat) (W:World) (rec:Loop),(Instr.enterLoop fn tmps ps assign body ro).run P w= .ok (l,Dn.map col) W/\
  rec.state= .ready/\rec.pending=none/\rec.fn=fn/\rec.tmps=tmps/\rec.params=ps/\rec.assign=assign/\rec.body=body/\Keep No w W/\Holds w0.heap.size M (.obj l (.loop rec)::(L++X++Dn.map dob)) W/\w.heap.size<=l
theorem Holds.newObj{B:Nat}{L:List Res}{w:World}(h:Holds B M L w)(q:B<=w.heap.size)(o:Obj):Holds B M (.obj w.heap.size o::L) (w.alloc o):=by
 refine(h.keep (Fe No w _) (λ_ _ _ _ h=>h)).cons ?_ ?_ ?_
 ·show(w.heap.push _)[w.heap.size]?=_;simp
 ·intro x r b j m;cases j;have:=FN (h.all x r) m;omega
 ·intro b j;cases j;exact .inl q
theorem zcM{ps:Array Tmp}{assign body:Code} :zi3 P none N w0 M L ps assign body:=by
 intro fn tmps w X m r;have q:=r.newObj m.size (.deferred (some []));have j:=q.newObj (by have:=m.size;simp;omega) (.loop { state:=.ready,pending:=none,fn,tmps,params:=ps,assign,body,defers:=w.heap.size });refine⟨w.heap.size+1,[w.heap.size],_,{ state:=.ready,pending:=none,fn,tmps,params:=ps,assign,body,defers:=w.heap.size },run_enterLoop_outer fn tmps ps assign body,rfl,rfl,rfl,rfl,rfl,rfl,rfl,(Fe No w _).trans (Fe No _ _) (λ_ h=>h.elim),?_,by omega⟩;rw[World.size_alloc] at j;refine j.perm ?_;refine List.Perm.cons _ ?_;show(Res.obj w.heap.size (.deferred (some []))::(L++X)).Perm (L++X++[dob w.heap.size]);exact(BU (l₁:=[dob w.heap.size]) (l₂:=L++X))
theorem zlu{γ α:Type}(F:Prop){gv:Operand}{ps:Array Tmp}{assign body:Code}{gf:Nat}{lb:List Value}{xs:List α}{Arg:(Nat->Prop)->α->List Value->List Res->World->Prop}
  (c8:zi3 P ro N w0 M L ps assign body)(hg:ev (get fr) gv=some (.func (.func gf) #[] lb.toArray))(eg:∀args w,(callFunc gf args).run P w= .ok (.enter gf args) w)(f9:ps.toList.all (λp=>Nat.blt p N)=true)
  (I:Nat->γ->Prop)(Ix:Code->Nat->γ->Prop)(R:γ->List Res)(Lit A L1:List Res)(g0:γ)(h0:I 0 g0)(hL:L.Perm (R g0++Lit++L1))
  (e7:∀(w:World) (S:Nat->Prop) (X:List Res),Keep M w0 w->(∀b,S b->w0.heap.size<=b\/M b)->(∀b,S b->¬OwnOf L1 b)->Holds w0.heap.size M (R g0++Lit++L1++X) w->zqc F P gf lb xs Arg w S Lit A)
  (hF:F->∀s,¬I xs.length s)
  (h7:∀O x vs E w,Arg O x vs E w->vs.length=ps.size)
  (b7:∀(l k:Nat) (hk:k<xs.length) (s:γ) (vs:List Value) (E:List Res) (W:World) (rec:Loop),rec.state= .ready->I k s->Arg (OwnOf (.obj l (.loop rec)::R s)) xs[k] vs E W->Keep M w0 W->(∀b,OwnOf (.obj l (.loop rec)::(R s++E)) b->w0.heap.size<=b\/M b)->
   Sy P (some l) N W (OwnOf (.obj l (.loop rec)::(R s++E))) [] assign (Exit.then (zkv P l body (RQ l rec I Ix R k (OwnOf (.obj l (.loop rec)::(R s++E))) W)) NoQ) (znW (List.zip ps.toList vs) fr) (.obj l (.loop rec)::(R s++E)))
  (b9:∀s,I xs.length s->SyX N w0 M ds (Q .normal) fr (R s++A++L1))
  (c4:∀c k s,k<=xs.length->Ix c k s->Sy P ro N w0 M ds c Q fr (R s++A++L1)):
  Sy P ro N w0 M ds (.rangeFunc gv ps assign body) Q fr L:=by
 rintro a w ⟨Ds,e5,hs⟩;refine wpIn_rangeFunc ?_;intro fn i5;obtain⟨l,Dn,W,rec,e1,r1,r2,r3,r4,r5,r6,r7,e9,e6,i7⟩:=c8 fn a.tmps w (Ds.map dob) hs.keep hs.hold;have C:Keep M w0 W:=hs.keep.trans e9 (λ_ h=>h.elim);have h6:(.obj l (.loop rec)::(L++Ds.map dob++Dn.map dob)).Perm ((.obj l (.loop rec)::(R g0))++(Lit++(L1++(Dn++Ds).map dob))):=by
  refine List.Perm.cons _ ?_;have h1:=(hL.append_right (Ds.map dob)).append_right (Dn.map dob);refine h1.trans ?_;simp only[AL,Aw];exact B1 _ (B1 _ (B1 _ BU))
 have b5:=e6.perm h6
 -- the state of the loop, as the iterator has it
 obtain⟨J,hJ⟩:∃J:Nat->Res->Prop,J=λk j=>∃s,I k s/\j=pack (.obj l (.loop rec)::R s):=⟨_,rfl⟩;obtain⟨Jx,c6⟩:∃Jx:Nat->Res->Prop,Jx=λk j=>∃c s,Ix c k s/\j=pack (.obj l (.loop { rec with state:=.done,pending:=some c })::R s):=⟨_,rfl⟩;obtain⟨S,a6⟩:∃S:Nat->Prop,S=OwnOf (pack (.obj l (.loop rec)::R g0)::Lit):=⟨_,rfl⟩;have a9:Holds w0.heap.size M ((pack (.obj l (.loop rec)::R g0)::Lit)++(L1++(Dn++Ds).map dob)) W:=by
  rw[An,Ft];exact b5
 have K:∀b,S b->w0.heap.size<=b\/M b:=λb q=>by
  subst a6;exact(Fc.1 a9).2.2.1 b q
 have c7:∀b,S b->¬OwnOf L1 b:=λb q G=>by
  subst a6;exact(Fc.1 a9).2.2.2 b q (OwnOf.app.2 (.inl G))
 have c9:=e7 W S ((Dn++Ds).map dob) C K c7 (by
  have h2:Holds w0.heap.size M (R g0++(Lit++(L1++(Dn++Ds).map dob))) W:=b5.tail;rw[<-AL,<-AL] at h2;exact h2)
 have e0:(resolve a.eval (rangeCall gv l) 0).run P W= .ok { target:=.fn (.func gf) lb.toArray,args:=#[.func (.yield l) #[] #[]] } W:=by
  simp only[resolve,hs.agr.eval hg];simp[go_sem]
 refine⟨l,Dn.map col,W,{ target:=.fn (.func gf) lb.toArray,args:=#[.func (.yield l) #[] #[]] },W,gf,#[.func (.yield l) #[] #[]]++lb.toArray,W,e1,e0,λf' _=>trivial,?_,(λh=>by cases h),?_⟩
 ·simp[invoke,go_sem,eg]
 have b8:=c9 l J Jx (pack (.obj l (.loop rec)::R g0)) (λhf j U=>by rw[hJ] at U;obtain⟨s,hI,_⟩:=U;exact hF hf s hI) (by rw[hJ];exact⟨g0,h0,rfl⟩) ?_ ?_
 ·have b6:(#[.func (.yield l) #[] #[]]++lb.toArray:Array Value)=(.func (.yield l) #[] #[]::lb).toArray:=by simp
  rw[b6];have e4:CallsIn (FW ro) (0-1) P gf (.func (.yield l) #[] #[]::lb).toArray W (λe w'=>∃v R',e= .returned v/\(∃j,R'=j::A/\(J xs.length j\/∃k,k<=xs.length/\Jx k j))/\Keep S W w'/\Holds W.heap.size S R' w'):=(callsIn_wide (n:=0-1)).2 b8;refine CallsIn.mono e4 ?_;rintro e w3 ⟨v,R',rfl,⟨j,rfl,U⟩,b0,H⟩;have B:Holds w0.heap.size M (j::A++(L1++(Dn++Ds).map dob)) w3:=a9.call C.size (λb q=>by subst a6;exact q) b0 H;have d9:Keep M w0 w3:=C.trans b0 K
  -- the record is shut
  have fin:∀(m:Loop) (s:γ),j=pack (.obj l (.loop m)::R s)->m.state≠ .busy->(Instr.endLoop l).run P w3= .ok m.pending (w3.putObj l (.loop { m with state:=.exhausted }))/\
    StD N w0 M ds (get fr) (R s++A++L1) { a with defers:=Dn.map col++a.defers } (w3.putObj l (.loop { m with state:=.exhausted })):=by
   rintro m s rfl q;rw[An,Ft] at B;have b1:w3.heap[l]?=some (.loop m):=B.all _ A5;refine⟨run_endLoop b1 q,Dn++Ds,by simp[e5],hs.size,hs.agr,d9.trans FV (λx hx=>by subst hx;exact B.mine _ A5 x rfl),?_⟩;have:=B.tail.keep (w':=w3.putObj l (.loop { m with state:=.exhausted })) FV (λr Y b q G=>by subst G;exact(Am.1 B.apart).1 r Y b rfl q);simpa using this
  rcases U with U|⟨k,f5,U⟩
  ·rw[hJ] at U;obtain⟨s,hI,e⟩:=U;obtain⟨he,c3⟩:=fin rec s e (by rw[r1];decide);refine⟨none,_,by rw[he,r2],b9 s hI _ _ c3⟩
  ·rw[c6] at U;obtain⟨c,s,hI,e⟩:=U;obtain⟨he,c3⟩:=fin _ s e q_p;exact⟨some c,_,he,c4 c k s f5 hI _ _ c3⟩
 ·have:=(Fc.1 a9).1;exact⟨this.1,this.2,λr Y b q=> .inr (by subst a6;exact⟨r,Y,q⟩)⟩
 · -- one round
  intro k hk j vs E Z X U b3 e8 a8;rw[hJ] at U;obtain⟨s,hI,rfl⟩:=U;rw[An,Ft] at a8;have f7:Z.heap[l]?=some (.loop rec):=a8.all _ A5;have h9:=h7 _ _ _ _ _ b3;have d8:Keep M w0 Z:=C.trans e8 K;obtain⟨Mb,T⟩:∃Mb:Nat->Prop,Mb=OwnOf (.obj l (.loop rec)::(R s++E)):=⟨_,rfl⟩;have b2:∀b,Mb b↔OwnOf (pack (.obj l (.loop rec)::R s)::E) b:=λb=>by
   subst T;rw[Fs,Fs,OwnOf.app];show _↔OwnOf (.obj l (.loop rec)::R s) b\/_;rw[Fs,or_assoc]
  have c1:∀b,Mb b->w0.heap.size<=b\/M b:=λb q=>by
   have:W.heap.size<=b\/S b:=by
    subst T;obtain⟨r,Y,ho⟩:=q;refine a8.mine r ?_ b ho;rw[An];rcases Ag.1 Y with h|h
    ·rw[h];exact A5
    ·refine A9 _ ?_;rw[<-AL];exact AX _ h
   rcases this with h|h
   ·exact .inl (BG C.size h)
   ·exact K b h
  have b4:=b7 l k hk s vs E Z rec r1 hI b3 d8 (by rw[<-T];exact c1);rw[<-T] at b4;have hy:=run_yield (P:=P) (args:=vs.toArray) f7 (by rw[r5];simpa using h9);rw[r3,r4,r5,r6,r7] at hy;refine⟨fn,_,assign,body,hy,roundIn_of_wpIn trivial ?_⟩;have c0:((ps.zip vs.toArray).foldl (λtmps (x:Tmp×Value)=>match x with|(t,a)=>tmps.setIfInBounds t a) a.tmps)=(List.zip ps.toList vs).foldl (λt p=>t.setIfInBounds p.1 p.2) a.tmps:=by
   rw[<-Array.foldl_toList,Array.toList_zip]
  rw[c0];obtain⟨e2,h8⟩:=zla (List.zip ps.toList vs) fr a.tmps a.defers [] (λp hp=>by
   have h1:p.1∈ps.toList:=(List.of_mem_zip hp).1;have h2:=AT.1 f9 p.1 h1;rw[hs.size];exact AO h2) hs.agr
  have c2:Holds Z.heap.size Mb (.obj l (.loop rec)::(R s++E)) Z:=by
   have h2:Holds W.heap.size S ((.obj l (.loop rec)::(R s++E))++X) Z:=by simpa using a8
   have h3:=(Fc.1 h2).1;exact⟨h3.1,h3.2,λr Y b q=> .inr (by subst T;exact⟨r,Y,q⟩)⟩
  have i1:=b4 ⟨_,[]⟩ Z ⟨[],rfl,by rw[h8];exact hs.size,e2,G8 _ _,by simpa using c2⟩;have conv:∀(e:Exit) (jump:Option Code) (W3:World),(∃s,(match jump with|none=>I (k+1) s|some c=>Ix c (k+1) s)/\Keep Mb Z W3/\Holds Z.heap.size Mb (.obj l (.loop (busy rec))::R s) W3)->
    ∃v w',(Instr.endRound l jump).run P W3= .ok v w'/\YR J Jx k (pack (.obj l (.loop rec)::R s)::E) Z (.returned v) w':=by
   rintro e jump W3 ⟨s',c5,b0,H⟩;have b1:W3.heap[l]?=some (.loop (busy rec)):=H.all _ A5;have f8:=(Aa.1 b1).1;have f6:Mb l:=by subst T;exact⟨_,A5,rfl⟩
   refine⟨_,_,run_endRound jump b1,jump.isNone,pack (.obj l (.loop { rec with state:=if jump.isNone then .ready else .done,pending:=jump })::R s'),rfl,?_,?_,?_⟩
   ·cases jump with
    |none=>
     show J (k+1) _;rw[hJ];refine⟨s',c5,?_⟩;congr 4;cases rec;simp_all
    |some c=>show Jx (k+1) _;rw[c6];exact⟨c,s',c5,rfl⟩
   ·exact(b0.trans FV (λx hx=>by subst hx;exact .inr f6)).mono (λb q=>(b2 b).1 q)
   ·have h4:Holds Z.heap.size Mb (.obj l (.loop { rec with state:=if jump.isNone then .ready else .done,pending:=jump })::R s') (W3.putObj l (.loop { busy rec with state:=if jump.isNone then .ready else .done,pending:=jump })):=by
     refine(H.tail.keep FV (λr Y b q G=>by subst G;exact(Am.1 H.apart).1 r Y b rfl q)).cons (World.putObj_heap_same f8) (λr Y b q G=>(Am.1 H.apart).1 r Y b q G) (λb q=>H.mine _ A5 b q)
    have h5:Holds Z.heap.size (OwnOf (pack (.obj l (.loop rec)::R s)::E)) (.obj l (.loop { rec with state:=if jump.isNone then .ready else .done,pending:=jump })::R s'++[]) (W3.putObj l (.loop { busy rec with state:=if jump.isNone then .ready else .done,pending:=jump })):=by
     rw[AZ];exact⟨h4.all,h4.apart,λr Y b q=>(h4.mine r Y b q).imp id (λh=>(b2 b).1 h)⟩
    exact Ft.2 h5
  refine wpIn_mono i1 ?_;intro e a1 w1 hq;cases e with
  |normal=>
   obtain⟨w2,e3,a7⟩:=hq;refine⟨w2,e3,wpIn_mono a7 ?_⟩;intro e' a3 w3 V;cases e' with
   |normal=>exact conv .normal none w3 V
   |ret=>exact conv .ret (some .ret) w3 V
   |exit id=>exact conv (.exit id) (some (.exit id)) w3 V
   |goto t=>exact conv (.goto t) (some (.goto t)) w3 V
   |panic c=>exact V.elim
   |outgrown=>exact V.elim
  |exit id=>exact hq.elim
  |goto t=>exact hq.elim
  |ret=>exact hq.elim
  |panic c=>exact hq.elim
  |outgrown=>exact hq.elim
theorem zq4{γ α:Type}(F:Prop){K:Operand}{ps:Array Tmp}{assign body:Code}{C:Nat}{S:List Value}{xs:List α}{Arg:(Nat->Prop)->α->List Value->List Res->World->Prop}
  (A:zi3 P ro N w0 M L ps assign body)(V:ev (get fr) K=some (.func (.func C) #[] S.toArray))(T:∀args w,(callFunc C args).run P w= .ok (.enter C args) w)(H:ps.toList.all (λp=>Nat.blt p N)=true)
  (I:Nat->γ->Prop)(Ix:Code->Nat->γ->Prop)(R:γ->List Res)(Lit L1:List Res)(g0:γ)(h0:I 0 g0)(hL:L.Perm (R g0++Lit++L1))
  (G:∀(w:World) (E:Nat->Prop) (X:List Res),Keep M w0 w->(∀b,E b->w0.heap.size<=b\/M b)->(∀b,E b->¬OwnOf L1 b)->Holds w0.heap.size M (R g0++Lit++L1++X) w->zw1 F P C S xs Arg w E Lit)
  (U:F->∀s,¬I xs.length s)
  (J:∀O x B j w,Arg O x B j w->B.length=ps.size)
  (m:∀(l k:Nat) (Y:k<xs.length) (s:γ) (B:List Value) (j:List Res) (W:World) (rec:Loop),rec.state= .ready->I k s->Arg (OwnOf (.obj l (.loop rec)::R s)) xs[k] B j W->Keep M w0 W->(∀b,OwnOf (.obj l (.loop rec)::(R s++j)) b->w0.heap.size<=b\/M b)->
   Sy P (some l) N W (OwnOf (.obj l (.loop rec)::(R s++j))) [] assign (Exit.then (zkv P l body (RQ l rec I Ix R k (OwnOf (.obj l (.loop rec)::(R s++j))) W)) NoQ) (znW (List.zip ps.toList B) fr) (.obj l (.loop rec)::(R s++j)))
  (q:∀s,I xs.length s->SyX N w0 M ds (Q .normal) fr (R s++Lit++L1))
  (r:∀c k s,k<=xs.length->Ix c k s->Sy P ro N w0 M ds c Q fr (R s++Lit++L1)):
  Sy P ro N w0 M ds (.rangeFunc K ps assign body) Q fr L:=
 zlu F A V T H I Ix R Lit Lit L1 g0 h0 hL G U J m q r
theorem zf8{γ α:Type}{K:Operand}{ps:Array Tmp}{assign body:Code}{E:Nat}{S:List Value}{xs:List α}{Arg:(Nat->Prop)->α->List Value->List Res->World->Prop}
  (B:zi3 P ro N w0 M L ps assign body)(hg:ev (get fr) K=some (.func (.func E) #[] S.toArray))(U:∀args w,(callFunc E args).run P w= .ok (.enter E args) w)(G:ps.toList.all (λp=>Nat.blt p N)=true)
  (I:Nat->γ->Prop)(Ix:Code->Nat->γ->Prop)(R:γ->List Res)(Lit L1:List Res)(g0:γ)(h0:I 0 g0)(hL:L.Perm (R g0++Lit++L1))
  (F:∀(w:World) (A:Nat->Prop) (X:List Res),Keep M w0 w->(∀b,A b->w0.heap.size<=b\/M b)->(∀b,A b->¬OwnOf L1 b)->Holds w0.heap.size M (R g0++Lit++L1++X) w->zky P E S xs Arg w A Lit)
  (H:∀O x C j w,Arg O x C j w->C.length=ps.size)
  (m:∀(l k:Nat) (hk:k<xs.length) (s:γ) (C:List Value) (j:List Res) (W:World) (rec:Loop),rec.state= .ready->I k s->Arg (OwnOf (.obj l (.loop rec)::R s)) xs[k] C j W->Keep M w0 W->(∀b,OwnOf (.obj l (.loop rec)::(R s++j)) b->w0.heap.size<=b\/M b)->
   Sy P (some l) N W (OwnOf (.obj l (.loop rec)::(R s++j))) [] assign (Exit.then (zkv P l body (RQ l rec I Ix R k (OwnOf (.obj l (.loop rec)::(R s++j))) W)) NoQ) (znW (List.zip ps.toList C) fr) (.obj l (.loop rec)::(R s++j)))
  (q:∀s,I xs.length s->SyX N w0 M ds (Q .normal) fr (R s++Lit++L1))
  (r:∀c k s,k<=xs.length->Ix c k s->Sy P ro N w0 M ds c Q fr (R s++Lit++L1)):
  Sy P ro N w0 M ds (.rangeFunc K ps assign body) Q fr L:=
 zq4 False B hg U G I Ix R Lit L1 g0 h0 hL (λw A X V Y Z h4 l J T j0 _=>F w A X V Y Z h4 l J T j0) (λh=>h.elim) H m q r
open Go.Wd
theorem zpm:Value.int .u8 0=v8 0:=rfl
theorem v8_lit(k:Nat)(h:k<256):Value.int .u8 (k:Int)=v8 (UInt8.ofNat k):=by unfold v8;rw[n8_of_nat,A3 h]
theorem SlA.mov{w:World}{a:Option Addr}{B:List Value}(h:SlA w a B){l m:Nat}(hm:B.length<=m):SlA w (zb4 a l m 1) (B.drop l):=by
 unfold zb4;split
 ·exact .inl (Bd q_o)
 ·rw[Af];exact h.drop l
def SlF(w:World)(M:Nat->Prop)(a:Option Addr)(B:List Value):Prop:=B= []\/∃b off,a=some ⟨b,off,none⟩/\w.rangeAt b off B/\¬M b
theorem SlF.sla{w:World}{M:Nat->Prop}{a:Option Addr}{B:List Value}(h:SlF w M a B):SlA w a B:=h.imp id λ⟨b,o,j,m,_⟩=>⟨b,o,j,m⟩
theorem SlF.of{w:World}{a:Option Addr}{B:List Value}(h:SlA w a B):SlF w No a B:=h.imp id λ⟨b,o,j,m⟩=>⟨b,o,j,m,λh=>h⟩
def Fk:=@SlF.of
theorem zti{w:World}{b off:Nat}{B:List Value}(h:w.rangeAt b off B)(j:B≠[]):b<w.heap.size:=by
 obtain⟨v,m,rfl⟩:=List.exists_cons_of_ne_nil j;have:=h 0 v rfl;exact World.block_lt_of_cell? w ⟨b,off+0,none⟩ this
theorem zdy{w0 w:World}{M Mi:Nat->Prop}{b off:Nat}{B:List Value}(h:w0.rangeAt b off B)(m:B≠[])(hn:¬M b)(hk:Keep M w0 w)(hm:∀b,Mi b->w0.heap.size<=b\/M b):w.rangeAt b off B/\¬Mi b:=
 ⟨λj v r=>hk.cell (h j v r) hn,λq=>(hm b q).elim (λA=>by have:=zti h m;omega) hn⟩
theorem za5{w w':World}{M:Nat->Prop}{b off:Nat}{B:List Value}(h:w.rangeAt b off B)(hk:Keep M w w')(hn:¬M b):w'.rangeAt b off B:=λj v m=>hk.cell (h j v m) hn
theorem SlF.to{w0 w:World}{M Mi:Nat->Prop}{a:Option Addr}{B:List Value}(h:SlF w0 M a B)(hk:Keep M w0 w)(hm:∀b,Mi b->w0.heap.size<=b\/M b):SlF w Mi a B:=by
 by_cases hne:B= []
 ·exact .inl hne
 ·rcases h with h|⟨b,o,rfl,r,q⟩
  ·exact .inl h
  ·obtain⟨j,m⟩:=zdy r hne q hk hm;exact .inr ⟨b,o,rfl,j,m⟩
theorem SlA.to{w0 w:World}{Mi:Nat->Prop}{a:Option Addr}{B:List Value}(h:SlA w0 a B)(hk:Keep No w0 w)(hm:∀b,Mi b->w0.heap.size<=b\/No b):SlF w Mi a B:=(SlF.of h).to hk hm
theorem SlF.mov{w:World}{M:Nat->Prop}{a:Option Addr}{B:List Value}(h:SlF w M a B){l m:Nat}(hm:B.length<=m):SlF w M (zb4 a l m 1) (B.drop l):=by
 rcases h with rfl|⟨b,o,rfl,A,r⟩
 ·exact .inl q_p
 ·unfold zb4;split
  ·exact .inl (Bd q_o)
  ·refine .inr ⟨b,o+l*1,by simp[Addr.add_mid],λj v q=>?_,r⟩;rw[Be] at q;rw[Af,Az];exact A _ v q
theorem SlF.take{w:World}{M:Nat->Prop}{a:Option Addr}{B:List Value}(h:SlF w M a B)(k:Nat):SlF w M a (B.take k):=by
 rcases h with rfl|⟨b,o,rfl,r,q⟩
 ·exact .inl q_p
 ·refine .inr ⟨b,o,rfl,λj v m=>?_,q⟩;rw[Bt] at m;split at m
  ·exact r j v m
  ·cases m
theorem SlF.row{A:Nat}{w:World}{M Mi:Nat->Prop}{E n m c:Nat}{a:Option Addr}{xs:List Value}{L:List Res}(hh:Holds A M L w)(hL:Has L (.row (.slice a m c) E 1 n xs))(hm:∀b,Mi b->¬OwnOf [.row (.slice a m c) E 1 n xs] b):SlF w Mi a xs:=by
 have q:w.ownsRow 0 E 1 (.slice a m c) n xs:=hh.has hL;obtain⟨K,⟨_,O⟩|⟨b,J,B,H,_,C,S,T,U,F⟩⟩:=q
 ·exact .inl (BF.1 q_o)
 ·cases H;refine .inr ⟨b,0,rfl,λj v r=>?_,λG=>hm b G ⟨_,A5,rfl⟩⟩;rw[<-F,Bt] at r;split at r
  ·simp only[World.cell?,C,AR];simpa using r
  ·cases r
def Fu:=@SlF.row
theorem Rd.oldF{w0:World}{M:Nat->Prop}{L:List Res}{a:Option Addr}{B:List Value}(h:SlF w0 M a B):Rd w0 M L a B:=λw X r _=>
 h.imp id λ⟨b,o,m,C,A⟩=>⟨b,o,m,λj v q=>r.cell (C j v q) A⟩
variable {t t':TypeId}{x z:Operand}{y ye:Ty}
theorem zd1{e n:Nat}{lo co:Operand}{k1 k2:IntKind}{z0:Value}{l c:Int}(w:o.op= .makeSlice t lo co:=by exact rfl)(r:ev g lo=some (.int k1 l):=by exact rfl)(hc:ev g co=some (.int k2 c):=by exact rfl)(A:zac P t=some y:=by exact ty rfl)(B:y.desc= .slice e:=by exact rfl)(he:zac P e=some ye:=by exact ty rfl)
  (hz:zaV P e=some [z0]:=by exact zc rfl)(h1:ye.size=1:=by exact rfl)(m:l=(n:Int):=by first|rfl|omega)(j:c=(n:Int):=by first|rfl|omega)(hb:ye.bytes*n<=281474976710656:=by first|(dsimp only;omega)|omega|simp;omega)(hm:n<=maxLen:=by (unfold maxLen;omega)):
  OpT P ro N w0 M ds o g L (λv q=>∃b,v= .slice (some ⟨b,0,none⟩) n n/\q= .blk b e (List.replicate n z0)::L):=zuM w r hc A B he hz h1 m j hb hm
theorem ze1{e b off j dc m F T k:Nat}{a0:Option Addr}{C C' B:List Value}{q xs:Operand}{L':List Res}(hr:Rd w0 M L a0 B)(hk:B.length=k)(hset:zaz C off B=C')(hone:B.all (·.oneCell')=true:=by exact zfX _ (λ_=>rfl) _)(w:o.op= .call { callee:=.builtin .copy,args:=#[q,xs],argTypes:=#[t,t'] } :=by exact rfl)(r:ev g q=some (.slice (some ⟨b,off,none⟩) j dc):=by exact rfl)(hx:ev g xs=some (.slice a0 m F):=by exact rfl)
  (A:zac P t=some y:=by exact ty rfl)(E:y.desc= .slice e:=by exact rfl)(he:zac P e=some ye:=by exact ty rfl)(h1:ye.size=1:=by exact rfl)
  (hL:Upd L (.blk b T C) (.blk b T C') L':=by repeat (first|exact FU|apply FY))(hC:off+k<=C.length:=by first|omega|simp only[A0,AI,AK];omega|simp;omega|fail)(hn:k=Nat.min m j:=by first|exact(BO q_o).symm|exact(ES q_o).symm|show _=min _ _;omega):OpT P ro N w0 M ds o g L (Det (.int .i64 k) L'):=by
 subst hset;subst hk;exact zvd w r hx A E he h1 hr hn hone hL hC
theorem zvz{C B:List Value} :zaz C 0 B=B++C.drop B.length:=by simp[zaz]
theorem zmp{m:Operand}{args:Array Operand}{j:Array TypeId}{f b T:Nat}{C C':List Value}{vs cap:List Value}{v:Value}{L':List Res}
  (hc:∀w X,Keep M w0 w->Holds w0.heap.size M (L++X) w->Fn P f (vs++cap) w (λx=>x=b) (λq R=>q=v/\R= [.blk b T C']))
  (O:o.op= .call { callee:=.value m,args:=args,argTypes:=j } :=by exact rfl)(G:ev g m=some (.func (.func f) #[] cap.toArray):=by exact rfl)(ha:evs g args.toList=some vs:=by exact rfl)
  (he:∀args w,(callFunc f args).run P w= .ok (.enter f args) w:=by exact en rfl)
  (hL:Upd L (.blk b T C) (.blk b T C') L':=by repeat (first|exact FU|apply FY)):OpT P ro N w0 M ds o g L (Det v L'):=by
 obtain⟨A,B,E,F⟩:=hL;subst E;subst F;have h:=zei (P:=P) (ro:=ro) (N:=N) (w0:=w0) (M:=M) (ds:=ds) (g:=g) (C:=[.blk b T C]) (L1:=A++B) (o:=o) O G ha he (show RemL (A ++ .blk b T C::B) [.blk b T C] (A++B) from CY) (λx V=>⟨_,A5,V.symm⟩) hc;intro a w X next Q U K
 refine h a w X next Q U λq W r S J H=>?_
 obtain⟨R,rfl,rfl,rfl⟩:=S;refine K _ W _ ⟨rfl,rfl⟩ J (H.perm (B2 X ?_));exact(CY (a:=FD b T C') (l₁:=A) (l₂:=B)).symm
theorem zxs:Extern.Stop.cell=v8:=rfl
theorem Reads.obj{b off E:Nat}{C B:List Value}{m:Nat×Nat}(hL:Has L (.obj b (.cells C.toArray E m)))(A:Seg C off B):Reads w0 M L b off B:=λw _ _ q j v r=>by
 have h:w.heap[b]?=some (.cells C.toArray E m):=q.has (F5 hL);have:=A j v r;simpa [World.cell?,h] using this
theorem SyL.weaken{ops:Array Oper}{Q:Exit->Act->World->Prop}{rest:List Oper}{fr fr':Fr}{L':List Res}(h:SyL P ro N w0 M ds ops Q rest fr' L')(j:Sub fr' fr)(hL:SubR L' L):SyL P ro N w0 M ds ops Q rest fr L:=λa w m=>h a w (m.weaken j hL)
def FI:=@SyL.weaken
theorem Row.nil{q:Nat}{w:World}{E n c s:Nat}{a:Option Addr}{xs:List Value}{L:List Res}(hh:Holds q M L w)(hL:Has L (.row (.slice a n c) E s n xs)):a=none->c=0/\n=0:=by
 have j:w.ownsRow 0 E s (.slice a n c) n xs:=hh.has hL;obtain⟨B,⟨m,C⟩|⟨b,A,r,m,_,F,G,H,J,K⟩⟩:=j
 ·cases m;exact λ_=>⟨rfl,rfl⟩
 ·cases m;intro h;cases h
def Fv:=@Row.nil
theorem zec{c:Code}{Q:Exit->Act->World->Prop}{fr:Fr}{L1:List Res}{a:Option Addr}{E s n cp:Nat}{xs:List Value}(hr:Rem L (.row (.slice a n cp) E s n xs) L1)
  (h:∀r,(0<n->∃b J,a=some ⟨b,0,none⟩/\r= .blk b E (xs++J))->Sy P ro N w0 M ds c Q fr (r::L1)):Sy P ro N w0 M ds c Q fr L:=by
 by_cases hn:0<n
 ·refine ziQ hr hn λb J j _ _ _ _=>?_;exact h _ λ_=>⟨b,J,j,rfl⟩
 ·refine FJ (h (.row (.slice a n cp) E s n xs) λh=>absurd h hn) Sub.refl ⟨[],?_⟩;rw[AZ];exact hr.perm
theorem Row.cap{q:Nat}{w:World}{E n c s:Nat}{a:Option Addr}{xs:List Value}{L:List Res}(hh:Holds q M L w)(hL:Has L (.row (.slice a n c) E s n xs)):n<=c:=by
 have j:w.ownsRow 0 E s (.slice a n c) n xs:=hh.has hL;obtain⟨C,⟨m,F⟩|⟨b,B,r,m,_,G,A,H,J,K⟩⟩:=j
 ·omega
 ·cases m;exact A
def FR:=@Row.cap
end Go.Sy
