/- Lemmas of this proof. -/
import Derived.Test.YtdnlngbjpdbffaaGreatDoorHJ04
import Derived.RecoverIn
set_option linter.all false
namespace Go.Sy
open Go Go.RowKit
def pch(v:Value):List PanicEntry:=[{ v,recovered:=false }]
def zhU(w:World)(M:Nat->Prop)(post pan:Value->List Res->Prop)(e:Ending)(w':World):Prop:=
 ∃v R,((e= .returned v/\post v R)\/(e= .panicked (pch v)/\pan v R))/\Keep M w w'/\Holds w.heap.size M R w'
def FnP(P:Program)(f:FuncId)(args:List Value)(w:World)(M:Nat->Prop)(post pan:Value->List Res->Prop):Prop:=
 Calls P f args.toArray w (zhU w M post pan)
theorem FnP.mono{P:Program}{f:FuncId}{args:List Value}{w:World}{M:Nat->Prop}{post pan post' pan':Value->List Res->Prop}(h:FnP P f args w M post pan)(hv:∀v R,post v R->post' v R)(hp:∀v R,pan v R->pan' v R):FnP P f args w M post' pan':=
 Calls.mono h λ_ _ ⟨v,R,e,m,j⟩=>⟨v,R,e.imp (λ⟨e,h⟩=>⟨e,hv v R h⟩) (λ⟨e,h⟩=>⟨e,hp v R h⟩),m,j⟩
variable {P:Program}{ro:Option Nat}{N:Nat}{w0:World}{M:Nat->Prop}{ds:List Deferred}{fr:Fr}{L:List Res}{Q:Exit->Act->World->Prop}
theorem zH{K:Act->World->Prop}{c:List PanicEntry}(h:SyX N w0 M ds (Q (.panic c)) fr L):SyX N w0 M ds (Exit.then K Q (.panic c)) fr L:=h
theorem zbY{id:Nat}{c:List PanicEntry}(h:SyX N w0 M ds (Q (.panic c)) fr L):SyX N w0 M ds (Exit.inBlock id Q (.panic c)) fr L:=h
theorem zlF{g:Nat->Option Value}{o:Oper}{fo:Operand}{args:Array Operand}{a7:Array TypeId}{f:Nat}{vs:List Value}{cap:List Value}{C L1:List Res}{M':Nat->Prop}{post pan:Value->List Res->Prop}
  (ho:o.op= .call { callee:=.value fo,args:=args,argTypes:=a7 })(hf:ev g fo=some (.func (.func f) #[] cap.toArray))(ha:evs g args.toList=some vs)
  (he:∀args w,(callFunc f args).run P w= .ok (.enter f args) w)(hC:RemL L C L1)(hM:∀b,M' b->OwnOf C b)
  (hc:∀w X,Keep M w0 w->Holds w0.heap.size M (L++X) w->FnP P f (vs++cap) w M' post pan)
  {a:Act}{w:World}{X:List Res}{next:Act->World->Prop}(S:St N w0 M ds g (L++X) a w)
  (hn:∀v j R,post v R->Keep M w0 j->Holds w0.heap.size M ((R++L1)++X) j->next (a.put o.dst v) j)
  (hp:∀v j R,pan v R->Keep M w0 j->Holds w0.heap.size M ((R++L1)++X) j->Q (.panic (pch v)) a j):o.wpIn (FW ro) 0 P a w next Q:=by
 refine⟨λ_ _=>trivial,?_⟩;rw[Oper.semAt_plain (FW ro) _ _ (λc hc=>by rw[ho] at hc;cases hc)];have H:args.map a.eval=vs.toArray:=B5.1 (by rw[BZ,S.agr.evals ha]);have V:(execOp a.eval o).run P w= .ok (.enter f (vs++cap).toArray) w:=by
  simp only[execOp,ho,resolve,S.agr.eval hf,Deferred.ofValue,H,Sem.run_bind,Sem.run_pure,Result.andThen_ok,invoke];rw[show(#[]++vs.toArray++cap.toArray:Array Value)=(vs++cap).toArray by simp];exact he _ w
 rw[V];refine⟨λh=>(by cases h),?_⟩;have I:=hc w X S.keep S.hold;have a6:CallsIn (FW ro) (0-1) P f (vs++cap).toArray w (zhU w M' post pan):=(callsIn_wide (n:=0-1)).2 I;refine CallsIn.mono a6 ?_;rintro e j ⟨v,R,J,hk,W⟩;have K:(L++X).Perm (C++(L1++X)):=by rw[<-AF];exact Aj X hC
 have hold:=S.hold.perm K;have q:Holds w0.heap.size M (L1++X) w:=hold.sublist (CN C (L1++X));have m:∀b,M' b->w0.heap.size<=b\/M b:=λb A=>by
  obtain⟨r,E,O⟩:=hM b A;exact hold.mine r (A7 _ E) b O
 have T:∀r∈L1++X,∀b,r.own b->¬M' b:=λr E b A B=>by
  obtain⟨Y,F,O⟩:=hM b B;exact(Bd.1 hold.apart).2.2 Y F r E b O A
 have U:Keep M w0 j:=S.keep.trans hk (λb A=>m b A);have hL:=q.keep hk T;have G:Holds w0.heap.size M ((R++L1)++X) j:=by
  rw[AF];refine⟨λr E=>?_,?_,λr E b A=>?_⟩
  ·rcases Am.1 E with h|h
   ·exact W.all r h
   ·exact hL.all r h
  ·refine Bd.2 ⟨W.apart,hL.apart,λr E Y F b A B=>?_⟩;rcases W.mine r E b A with h|h
   ·have:=F2 (q.all Y F) B;omega
   ·exact T Y F b B h
  ·rcases Am.1 E with h|h
   ·rcases W.mine r h b A with Z|Z
    ·exact .inl (BM S.keep.size Z)
    ·exact m b Z
   ·exact hL.mine r h b A
 rcases J with ⟨rfl,hv⟩|⟨rfl,hv⟩
 ·exact hn v j R hv U G
 ·exact hp v j R hv U G
theorem zdf{ops:Array Oper}{rest:List Oper}{o:Oper}{d:Nat}{F:Operand}{args:Array Operand}{B:Array TypeId}{f:Nat}{vs:List Value}{cap:List Value}{C L1:List Res}{M':Nat->Prop}{post pan:Value->List Res->Prop}
  (hC:RemL L C L1)(hM:∀b,M' b->OwnOf C b)
  (hc:∀w X,Keep M w0 w->Holds w0.heap.size M (L++X) w->FnP P f (vs++cap) w M' post pan)
  (hr:∀v R,post v R->SyL P ro N w0 M ds ops Q rest ((d,v)::fr) (R++L1))
  (hp:∀v R,pan v R->SyX N w0 M ds (Q (.panic (pch v))) fr (R++L1))
  (J:o.op= .call { callee:=.value F,args:=args,argTypes:=B } :=by exact rfl)(I:ev (get fr) F=some (.func (.func f) #[] cap.toArray):=by exact rfl)(ha:evs (get fr) args.toList=some vs:=by exact rfl)
  (he:∀args w,(callFunc f args).run P w= .ok (.enter f args) w:=by exact en rfl)
  (K:zah ops o (get fr)=some true:=by exact rfl)(H:o.dst=some d:=by exact rfl)(G:Nat.blt d N=true:=by exact rfl):SyL P ro N w0 M ds ops Q (o::rest) fr L:=by
 rintro a w ⟨E,j,m⟩;refine zdP (zbq m.agr K) (zlF J I ha he hC hM hc m (λv O R A r q=>?_) (λv O R A r q=>?_))
 ·rw[H];exact hr v R A _ _ ⟨E,j,m.put (A6 G) v r q⟩
 ·exact hp v R A _ _ ⟨E,j,m.size,m.agr,r,q⟩
theorem zbS{ops:Array Oper}{rest:List Oper}{o:Oper}{x:Operand}{t:TypeId}{v:Value}(h:SyX N w0 M ds (Q (.panic (pch (.iface t v)))) fr L)
  (A:o.op= .panic x:=by exact rfl)(hx:ev (get fr) x=some (.iface t v):=by exact rfl)(E:zah ops o (get fr)=some true:=by exact rfl):SyL P ro N w0 M ds ops Q (o::rest) fr L:=by
 rintro a w ⟨B,m,q⟩;refine zdP (zbq q.agr E) ⟨λ_ _=>trivial,?_⟩;rw[Oper.semAt_plain (FW ro) _ _ (λc r=>by rw[A] at r;cases r)];have j:(execOp a.eval o).run P w= .halt (.panic (.iface t v)) w:=by
  simp only[execOp,A,q.agr.eval hx];rfl
 rw[j];exact h a w ⟨B,m,q⟩
def zyp:TypeDesc->Bool
 | .interface _=>false
 |_=>true
theorem zl7{t:TypeId}(h:(P.underlying t).map zyp=some true):∃d,P.underlying t=some d/\∀j,d≠ .interface j:=by
 obtain⟨d,m,q⟩:=AV.1 h;exact⟨d,m,λj e=>by subst e;cases q⟩
theorem zbi{g:Nat->Option Value}{o:Oper}{t:TypeId}{x:Operand}{v:Value}{d:TypeDesc}(m:P.underlying t=some d)(hn:∀r,d≠ .interface r)(j:o.op= .makeInterface t x:=by exact rfl)(hx:ev g x=some v:=by exact rfl):OpT P ro N w0 M ds o g L (Det (.iface t v) L):=
 Eu (by rw[j];rfl) λa w X q=>by
  have h:(Instr.makeInterface t v).run P w= .ok (.iface t v) w:=by
   simp only[Instr.makeInterface,Sem.run_bind,run_underlying m,Result.andThen_ok];cases d <;> first|rfl|exact absurd rfl (hn _)
  simp[execOp,j,q.agr.eval hx,h]
def dfn(f:Nat)(cap:List Value):Deferred:={ target:=.fn (.func f) cap.toArray,args:=#[] }
theorem ziy{ops:Array Oper}{rest:List Oper}{o:Oper}{B:Operand}{A:Array TypeId}{f:Nat}{cap:List Value}
  (h:∀m:List Nat,SyL P none N w0 M (dfn f cap::(m.map col++ds)) ops Q rest fr (L++m.map dob))
  (H:o.op= .defer { callee:=.value B,args:=#[],argTypes:=A } :=by exact rfl)(G:ev (get fr) B=some (.func (.func f) #[] cap.toArray):=by exact rfl)
  (I:zah ops o (get fr)=some true:=by exact rfl)(E:o.dst=none:=by exact rfl):SyL P none N w0 M ds ops Q (o::rest) fr L:=by
 rintro a w ⟨F,r,j⟩;refine zdP (zbq j.agr I) ⟨λ_ _=>trivial,?_⟩;rw[show(FW none).round=none from rfl,Oper.semAt_none];have q:(execOp a.eval o).run P w= .ok (.defer (dfn f cap)) w:=by
  simp only[execOp,H,resolve,j.agr.eval G,Deferred.ofValue,Sem.run_bind,Sem.run_pure,Result.andThen_ok];simp[dfn]
 rw[q];refine h F _ w ⟨[],?_,?_⟩
 ·rw[E];show dfn f cap::a.defers=_;rw[r];rfl
 ·rw[E];exact⟨j.size,j.agr,j.keep,by simpa using j.hold⟩
theorem zay{f:Nat}{fn:Func}{c:Code}{args:List Value}{w:World}{M':Nat->Prop}{post pan:Value->List Res->Prop}{L0:List Res}(m:P.funcs[f]?=some fn)(hb:fn.body=some c)(hn:fn.ntmps=N)(q:args.length<=N)
  (hL:Holds w.heap.size M' L0 w)(h:Sy P none N w M' [] c (bodyPostM Fence.wide 0 P fn (zhU w M' post pan)) (zd8 0 args) L0):FnP P f args w M' post pan:=by
 refine(callsIn_wide (n:=0)).1 (callsIn_of_wp_marks m hb trivial ?_ rfl);refine h _ w ⟨[],rfl,by simp;omega,λt v r=>?_,Fb _ _,by simpa using hL⟩;have:=zgt args 0 t v r;simp only[C0] at this;have j:t<args.length:=(AL.1 this.2).1;rw[Dq (by simpa using j)];simpa using this.2
theorem zdu{fn:Func}{g:Nat->Option Value}{R:Ending->World->Prop}{tail:List Deferred}{u:FrameMode}(hu:u≠ .run):∀(m:List Nat) (a:Act) (w:World),St N w0 M ds g (L++m.map dob) a w->
  (∀A,St N w0 M ds g L a A->LeavesInM Fence.wide 0 P fn a.tmps R tail u A)->LeavesInM Fence.wide 0 P fn a.tmps R (m.map col++tail) u w
 | [],a,w,hs,h=>h w (by simpa using hs)
 |D::m,a,w,hs,h=>by
  have j:=hs.perm (L':=dob D::(L++m.map dob)) (by simpa using List.perm_middle);have B:w.heap[D]?=some (.deferred (some [])):=j.hold.all _ A4;refine⟨hu,.inl ⟨D,_,rfl,run_takeDeferred B,zdu hu m a _ ⟨j.size,j.agr,?_,?_⟩ h⟩⟩
  ·exact j.keep.trans F3 (λx G=>by subst G;exact j.hold.mine _ A4 x rfl)
  ·exact j.hold.tail.keep F3 (λr F b E q=>by subst q;exact(Ai.1 j.hold.apart).1 r F b rfl E)
variable {post pan:Value->List Res->Prop}{R:List Res}{fn:Func}{v:Value}
theorem zoX(m:∀a w,St N w0 M [] (get fr) L a w->(results fn a.tmps).run P w= .ok v w)(r:SubR R L)(hp:post v R)(e:Exit)(he:e= .ret\/e= .normal):
  SyX N w0 M [] (bodyPostM Fence.wide 0 P fn (zhU w0 M post pan) e) fr L:=by
 rintro a w ⟨q,A,B⟩;have key:LeavesInM Fence.wide 0 P fn a.tmps (zhU w0 M post pan) a.defers .returning w:=by
  rw[A];exact zdu q_p q a w B λE j=>⟨v,m a E j,v,R,.inl ⟨rfl,hp⟩,j.keep,j.hold.subR r⟩
 rcases he with rfl|rfl
 ·exact key
 ·exact key
theorem zao(q:SubR R L)(hp:pan v R):SyX N w0 M [] (bodyPostM Fence.wide 0 P fn (zhU w0 M post pan) (.panic (pch v))) fr L:=by
 rintro a w ⟨m,r,A⟩;show LeavesInM Fence.wide 0 P fn a.tmps (zhU w0 M post pan) a.defers (.panicking (pch v)) w;rw[r];exact zdu q_p m a w A λB j=>⟨v,R,.inr ⟨rfl,hp⟩,j.keep,j.hold.subR q⟩
theorem zef(h:fn.results= #[])(j:SubR R L)(hp:post (.tuple #[]) R):SyX N w0 M [] (bodyPostM Fence.wide 0 P fn (zhU w0 M post pan) .normal) fr L:=zoX (λa w _=>results0 h a w) j hp _ (.inr rfl)
theorem zdL{r:ResultVar}{v:Value}(h:fn.results= #[r])(h1:zc3 P N w0 M [] fr L r v)(j:SubR R L)(hp:post v R):SyX N w0 M [] (bodyPostM Fence.wide 0 P fn (zhU w0 M post pan) .ret) fr L:=zoX (results1 h h1) j hp _ (.inl rfl)
def FnD(P:Program)(f:FuncId)(args:List Value)(u:FrameMode)(w:World)(M:Nat->Prop)(post:FrameMode->List Res->Prop):Prop:=
 CallsDIn Fence.wide 0 P f args.toArray u w λe u' w'=>∃v R,e= .returned v/\post u' R/\Keep M w w'/\Holds w.heap.size M R w'
theorem zmX{f:Nat}{cap:List Value}{j:List Nat}{C L1:List Res}{M':Nat->Prop}{u:FrameMode}{m:FrameMode->List Res->Prop}{W:Ending->World->Prop}
  (hu:u≠ .run)(he:∀args w,(callFunc f args).run P w= .ok (.enter f args) w)(hC:RemL L C L1)(hM:∀b,M' b->OwnOf C b)
  (hc:∀w X,Keep M w0 w->Holds w0.heap.size M (L++X) w->FnD P f cap u w M' m)
  (hW:∀Y O,m Y O->settle Y= .returning/\∀a w,St N w0 M [] (get fr) (O++L1) a w->∃v,(results fn a.tmps).run P w= .ok v w/\W (.returned v) w)
  {a:Act}{w:World}(B:StD N w0 M (dfn f cap::(j.map col++[])) (get fr) (L++j.map dob) a w):LeavesInM Fence.wide 0 P fn a.tmps W a.defers u w:=by
 obtain⟨Ds,hd,B⟩:=B;rw[hd];refine zdu hu Ds a w B λw B=>?_;refine⟨hu,.inr ⟨λh=>(by cases h),.func f,cap.toArray,f,cap.toArray,rfl,?_,λ_ _=>trivial,?_⟩⟩
 ·show(invoke (.fn (.func f) cap.toArray) #[]).run P w=_;simp only[invoke];rw[show(#[]++cap.toArray:Array Value)=cap.toArray by simp];exact he _ w
 have I:=hc w (j.map dob) B.keep B.hold;refine CallsDIn.mono I ?_;rintro e Y w' ⟨v,O,rfl,hp,hk,Z⟩;have J:(L++j.map dob).Perm (C++(L1++j.map dob)):=by rw[<-AF];exact Aj _ hC
 have hold:=B.hold.perm J;have A:Holds w0.heap.size M (L1++j.map dob) w:=hold.sublist (CN C (L1++j.map dob));have q:∀b,M' b->w0.heap.size<=b\/M b:=λb E=>by
  obtain⟨r,G,K⟩:=hM b E;exact hold.mine r (A7 _ G) b K
 have S:∀r∈L1++j.map dob,∀b,r.own b->¬M' b:=λr G b E F=>by
  obtain⟨r',H,K⟩:=hM b F;exact(Bd.1 hold.apart).2.2 r' H r G b K E
 have a6:Keep M w0 w':=B.keep.trans hk (λb E=>q b E);have hL:=A.keep hk S;have T:Holds w0.heap.size M ((O++L1)++j.map dob) w':=by
  rw[AF];refine⟨λr G=>?_,?_,λr G b E=>?_⟩
  ·rcases Am.1 G with h|h
   ·exact Z.all r h
   ·exact hL.all r h
  ·refine Bd.2 ⟨Z.apart,hL.apart,λr G r' H b E F=>?_⟩;rcases Z.mine r G b E with h|h
   ·have:=F2 (A.all r' H) F;omega
   ·exact S r' H b F h
  ·rcases Am.1 G with h|h
   ·rcases Z.mine r h b E with h'|h'
    ·exact .inl (BM B.keep.size h')
    ·exact q b h'
   ·exact hL.mine r h b E
 obtain⟨V,U⟩:=hW Y O hp;show LeavesInM Fence.wide 0 P fn a.tmps W (j.map col++[]) (settle Y) w';rw[V];refine zdu (ds:=[]) q_p j a w' ⟨B.size,B.agr,a6,T⟩ λw2 a7=>?_;exact U a w2 a7
theorem zlJ{p q:Nat->Bool}{i:Nat}(j:∀k,q k=true->p k=true)(hp:p i=true)(hn:q i=false):∀ {l:List Nat},i∈l->l.countP q<l.countP p
 |x::l,h=>by
  have m:l.countP q<=l.countP p:=List.countP_mono_left λk _=>j k;rcases AQ.1 h with rfl|h
  ·rw[E6 (by rw[hn];decide),DE hp];omega
  ·have r:=zlJ j hp hn h;by_cases hx:q x=true
   ·rw[DE hx,DE (j x hx)];omega
   ·rw[E6 hx];have:=List.countP_cons (p:=p) (a:=x) (l:=l);rw[this];omega
def zqL(l:List Oper):Bool:=(List.range l.length).all λi=>match l[i]? with
 |none=>true
 |some o=>(pre o).all λj=>Nat.blt j i
def zx4(P:Program)(ro:Option Nat)(N:Nat)(w0:World)(M:Nat->Prop)(ds:List Deferred)(ops:Array Oper)(Q:Exit->Act->World->Prop)(o:Oper)(fr:Fr)(L:List Res)(J:Fr->List Res->Prop):Prop:=
 ∀a w (K:Act->World->Prop),StD N w0 M ds (get fr) L a w->(∀fr' L' a' w',J fr' L'->StD N w0 M ds (get fr') L' a' w'->K a' w')->
  (if Region.wanted o (yielded ops a.tmps) then o.wpIn (FW ro) 0 P a w K Q else (∀f,o.about P w a.eval=some f->(FW ro).fn f)/\K (a.put o.dst undef) w)
theorem zmM{id:Nat}{l:List Oper}(J:(Nat->Bool)->Fr->List Res->Prop)(hm:P.follows .mixedOrders=true)(a6:zqL l=true)(h0:J (λ_=>false) fr L)
  (step:∀b fr L i o,l[i]?=some o->b i=false->(pre o).all b=true->J b fr L->zx4 P ro N w0 M ds l.toArray Q o fr L (λK W=>J (λk=>b k || Nat.beq k i) K W))
  (H:∀b fr L,(∀i,i<l.length->b i=true)->J b fr L->SyX N w0 M ds (Q .normal) fr L):Sy P ro N w0 M ds (.region id l.toArray true) Q fr L:=by
 rintro a w ⟨Ds,a7,B⟩;refine wpIn_region_any hm ?_;have Y:∀i o,l[i]?=some o->∀j∈pre o,j<i:=λi o I j hj=>by
  have A:=(AL.1 I).1;have:=AD.1 a6 i (Ar.2 A);rw[I] at this;exact zaO.1 (AD.1 this j hj)
 have done:∀listed:Array Bool,listed.size=l.length->Region.ready .any l.toArray listed= []->∀i,i<l.length->listed.getD i false=true:=by
  intro listed F m i
  induction i using Nat.strongRecOn with
  |_ i ih=>
   intro A;cases hb:listed.getD i false with
   |true=>rfl
   |false=>
    exfalso;have:i∈Region.ready .any l.toArray listed:=mem_ready.2 ⟨by
     simp only[Au] at hb ⊢;rw[B3 q_o] at hb ⊢;simpa using hb,l[i],by simp[A],λe he Z=>by
     have hp:=Y i l[i] (A2 A) e.on (zdx.2 ⟨e,he,Z,rfl⟩);exact ih e.on hp q_o⟩
    rw[m] at this;cases this
 have key:∀(f:Nat) (listed:Array Bool) (fr:Fr) (L:List Res) (a:Act) (w:World),listed.size=l.length->(List.range l.length).countP (λk=>!listed.getD k false)<=f->J (λk=>listed.getD k false) fr L->StD N w0 M ds (get fr) L a w->
   wpAnyIn (FW ro) 0 P .any l.toArray Q f listed a w:=by
  intro f
  induction f with
  |zero=>
   intro listed fr L a w F hc V E;have G:∀i,i<l.length->listed.getD i false=true:=λi A=>by
    have S:(List.range l.length).countP (λk=>!listed.getD k false)=0:=Nat.le_zero.1 hc;have:=List.countP_eq_zero.1 S i (Ar.2 A);simpa using this
   refine⟨?_,H _ fr L G V a w E⟩;refine DV.2 λi A=>?_;obtain⟨S,o,I,_⟩:=mem_ready.1 A;have O:i<l.length:=by simpa using (Ag.1 I).1
   have:=zbI S;rw[G i O] at this;cases this
  |succ f ih=>
   intro listed fr L a w F hc V E;refine⟨λm=>H _ fr L (done listed F m) V a w E,λi A=>?_⟩;obtain⟨S,o,I,he⟩:=mem_ready.1 A;have O:i<l.length:=by simpa using (Ag.1 I).1
   have a8:l[i]?=some o:=by simpa using I
   have hf:=zbI S;have T:(pre o).all (λk=>listed.getD k false)=true:=AD.2 λj hj=>by
    obtain⟨e,h2,h3,rfl⟩:=zdx.1 hj;exact he e h2 h3
   have q:∀k,(listed.setIfInBounds i true).getD k false=(listed.getD k false || Nat.beq k i):=λk=>by
    by_cases e:i=k
    ·subst e;have:i<listed.size:=q_o;simp[Au,this]
    ·rw[getD_set_ne false e];simp[zaS.2 (λe'=>e e'.symm:k≠i)]
   unfold wpOpIn;rw[I];refine step _ fr L i o a8 hf T V a w _ E λK W a' w' X U=>?_;refine ih _ K W a' w' (by simpa using F) ?_ (by simpa only[q] using X) U;have:(List.range l.length).countP (λk=>!(listed.setIfInBounds i true).getD k false)<(List.range l.length).countP (λk=>!listed.getD k false):=
    zlJ (i:=i) (λk hk=>by rw[q] at hk;simp only[Bool.not_or,A5] at hk;exact hk.1) (by rw[hf];rfl) (by rw[q];simp) (Ar.2 O)
   omega
 refine key _ _ fr L a _ q_p ?_ ?_ ⟨Ds,a7,B.size,B.agr,⟨B.keep.os,B.keep.tape,B.keep.output,B.keep.size,B.keep.block⟩,⟨λr hr=>FC (B.hold.all r hr) (λ_ _=>rfl),B.hold.apart,B.hold.mine⟩⟩
 ·refine BM List.countP_le_length ?_;simp
 ·have e:(λk=>(Array.replicate l.toArray.size false).getD k false)=λ_=>false:=by
   funext k
   simp only[Au,D9];split <;> rfl
  rw[e];exact h0
end Go.Sy
