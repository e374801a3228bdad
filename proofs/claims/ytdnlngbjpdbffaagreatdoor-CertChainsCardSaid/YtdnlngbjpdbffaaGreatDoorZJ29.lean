/- Lemmas. -/
import Derived.RecoverIn
import Derived.Test.YtdnlngbjpdbffaaGreatDoorZJ12
set_option linter.all false
namespace Go.Sy
open RowKit
def pch(v:Value):List PanicEntry:=[{ v,recovered:=false }]
def ziH(w:World)(M:Nat->Prop)(post pan:Value->List Res->Prop)(e:Ending)(w':World):Prop:=
 ∃v R,((e= .returned v/\post v R)\/(e= .panicked (pch v)/\pan v R))/\Keep M w w'/\Holds w.heap.size M R w'
def FnP(P:Program)(f:FuncId)(args:List Value)(w:World)(M:Nat->Prop)(post pan:Value->List Res->Prop):Prop:=
 Calls P f args.toArray w (ziH w M post pan)
theorem FnP.mono{P:Program}{f:FuncId}{args:List Value}{w:World}{M:Nat->Prop}{post pan post' pan':Value->List Res->Prop}(h:FnP P f args w M post pan)(hv:∀v R,post v R->post' v R)(hp:∀v R,pan v R->pan' v R):FnP P f args w M post' pan':=
 Calls.mono h λ_ _ ⟨v,R,e,m,j⟩=>⟨v,R,e.imp (λ⟨e,h⟩=>⟨e,hv v R h⟩) (λ⟨e,h⟩=>⟨e,hp v R h⟩),m,j⟩
variable {P:Program}{ro:Option Nat}{N:Nat}{w0:World}{M:Nat->Prop}{ds:List Deferred}{fr:Fr}{L:List Res}{Q:Exit->Act->World->Prop}
theorem zJ{K:Act->World->Prop}{c:List PanicEntry}(h:SyX N w0 M ds (Q (.panic c)) fr L):SyX N w0 M ds (Exit.then K Q (.panic c)) fr L:=h
theorem zb8{id:Nat}{c:List PanicEntry}(h:SyX N w0 M ds (Q (.panic c)) fr L):SyX N w0 M ds (Exit.inBlock id Q (.panic c)) fr L:=h
theorem zne{g:Nat->Option Value}{o:Oper}{fo:Operand}{args:Array Operand}{a7:Array TypeId}{f:Nat}{vs:List Value}{cap:List Value}{C L1:List Res}{M':Nat->Prop}{post pan:Value->List Res->Prop}
  (ho:o.op= .call { callee:=.value fo,args:=args,argTypes:=a7 })(hf:ev g fo=some (.func (.func f) #[] cap.toArray))(ha:evs g args.toList=some vs)
  (he:∀args w,(callFunc f args).run P w= .ok (.enter f args) w)(hC:RemL L C L1)(hM:∀b,M' b->OwnOf C b)
  (hc:∀w X,Keep M w0 w->Holds w0.heap.size M (L++X) w->FnP P f (vs++cap) w M' post pan)
  {a:Act}{w:World}{X:List Res}{next:Act->World->Prop}(T:St N w0 M ds g (L++X) a w)
  (hn:∀v j R,post v R->Keep M w0 j->Holds w0.heap.size M ((R++L1)++X) j->next (a.put o.dst v) j)
  (hp:∀v j R,pan v R->Keep M w0 j->Holds w0.heap.size M ((R++L1)++X) j->Q (.panic (pch v)) a j):o.wpIn (FW ro) 0 P a w next Q:=by
 refine⟨λ_ _=>trivial,?_⟩;rw[Oper.semAt_plain (FW ro) _ _ (λc hc=>by rw[ho] at hc;cases hc)];have I:args.map a.eval=vs.toArray:=B9.1 (by rw[Bj,T.agr.evals ha]);have W:(execOp a.eval o).run P w= .ok (.enter f (vs++cap).toArray) w:=by
  simp only[execOp,ho,resolve,T.agr.eval hf,Deferred.ofValue,I,Sem.run_bind,Sem.run_pure,Result.andThen_ok,invoke];rw[show(#[]++vs.toArray++cap.toArray:Array Value)=(vs++cap).toArray by simp];exact he _ w
 rw[W];refine⟨λh=>(by cases h),?_⟩;have J:=hc w X T.keep T.hold;have a6:CallsIn (FW ro) (0-1) P f (vs++cap).toArray w (ziH w M' post pan):=(callsIn_wide (n:=0-1)).2 J;refine CallsIn.mono a6 ?_;rintro e j ⟨v,R,K,hk,Y⟩;have O:(L++X).Perm (C++(L1++X)):=by rw[<-AI];exact Ak X hC
 have hold:=T.hold.perm O;have q:Holds w0.heap.size M (L1++X) w:=hold.sublist (CX C (L1++X));have m:∀b,M' b->w0.heap.size<=b\/M b:=λb A=>by
  obtain⟨r,F,S⟩:=hM b A;exact hold.mine r (AH _ F) b S
 have U:∀r∈L1++X,∀b,r.own b->¬M' b:=λr F b A E=>by
  obtain⟨Z,G,S⟩:=hM b E;exact(Bo.1 hold.apart).2.2 Z G r F b S A
 have V:Keep M w0 j:=T.keep.trans hk (λb A=>m b A);have hL:=q.keep hk U;have H:Holds w0.heap.size M ((R++L1)++X) j:=by
  rw[AI];refine⟨λr F=>?_,?_,λr F b A=>?_⟩
  ·rcases Ap.1 F with h|h
   ·exact Y.all r h
   ·exact hL.all r h
  ·refine Bo.2 ⟨Y.apart,hL.apart,λr F Z G b A E=>?_⟩;rcases Y.mine r F b A with h|h
   ·have:=FD (q.all Z G) E;omega
   ·exact U Z G b E h
  ·rcases Ap.1 F with h|h
   ·rcases Y.mine r h b A with h'|h'
    ·exact .inl (BE T.keep.size h')
    ·exact m b h'
   ·exact hL.mine r h b A
 rcases K with ⟨rfl,hv⟩|⟨rfl,hv⟩
 ·exact hn v j R hv V H
 ·exact hp v j R hv V H
theorem zef{ops:Array Oper}{rest:List Oper}{o:Oper}{d:Nat}{G:Operand}{args:Array Operand}{E:Array TypeId}{f:Nat}{vs:List Value}{cap:List Value}{C L1:List Res}{M':Nat->Prop}{post pan:Value->List Res->Prop}
  (hC:RemL L C L1)(hM:∀b,M' b->OwnOf C b)
  (hc:∀w X,Keep M w0 w->Holds w0.heap.size M (L++X) w->FnP P f (vs++cap) w M' post pan)
  (hr:∀v R,post v R->SyL P ro N w0 M ds ops Q rest ((d,v)::fr) (R++L1))
  (hp:∀v R,pan v R->SyX N w0 M ds (Q (.panic (pch v))) fr (R++L1))
  (K:o.op= .call { callee:=.value G,args:=args,argTypes:=E } :=by exact rfl)(J:ev (get fr) G=some (.func (.func f) #[] cap.toArray):=by exact rfl)(ha:evs (get fr) args.toList=some vs:=by exact rfl)
  (he:∀args w,(callFunc f args).run P w= .ok (.enter f args) w:=by exact en rfl)
  (O:zak ops o (get fr)=some true:=by exact rfl)(I:o.dst=some d:=by exact rfl)(H:Nat.blt d N=true:=by exact rfl):SyL P ro N w0 M ds ops Q (o::rest) fr L:=by
 rintro a w ⟨F,j,m⟩;refine zed (zby m.agr O) (zne K J ha he hC hM hc m (λv S R A r q=>?_) (λv S R A r q=>?_))
 ·rw[I];exact hr v R A _ _ ⟨F,j,m.put (A5 H) v r q⟩
 ·exact hp v R A _ _ ⟨F,j,m.size,m.agr,r,q⟩
theorem zb5{ops:Array Oper}{rest:List Oper}{o:Oper}{x:Operand}{t:TypeId}{v:Value}(h:SyX N w0 M ds (Q (.panic (pch (.iface t v)))) fr L)
  (A:o.op= .panic x:=by exact rfl)(hx:ev (get fr) x=some (.iface t v):=by exact rfl)(F:zak ops o (get fr)=some true:=by exact rfl):SyL P ro N w0 M ds ops Q (o::rest) fr L:=by
 rintro a w ⟨E,m,q⟩;refine zed (zby q.agr F) ⟨λ_ _=>trivial,?_⟩;rw[Oper.semAt_plain (FW ro) _ _ (λc r=>by rw[A] at r;cases r)];have j:(execOp a.eval o).run P w= .halt (.panic (.iface t v)) w:=by
  simp only[execOp,A,q.agr.eval hx];rfl
 rw[j];exact h a w ⟨E,m,q⟩
def zAu:TypeDesc->Bool
 | .interface _=>false
 |_=>true
theorem zmF{t:TypeId}(h:(P.underlying t).map zAu=some true):∃d,P.underlying t=some d/\∀j,d≠ .interface j:=by
 obtain⟨d,m,q⟩:=Ab.1 h;exact⟨d,m,λj e=>by subst e;cases q⟩
theorem zbr{g:Nat->Option Value}{o:Oper}{t:TypeId}{x:Operand}{v:Value}{d:TypeDesc}(m:P.underlying t=some d)(hn:∀r,d≠ .interface r)(j:o.op= .makeInterface t x:=by exact rfl)(hx:ev g x=some v:=by exact rfl):OpT P ro N w0 M ds o g L (Det (.iface t v) L):=
 F4 (by rw[j];rfl) λa w X q=>by
  have h:(Instr.makeInterface t v).run P w= .ok (.iface t v) w:=by
   simp only[Instr.makeInterface,Sem.run_bind,run_underlying m,Result.andThen_ok];cases d <;> first|rfl|exact absurd rfl (hn _)
  simp[execOp,j,q.agr.eval hx,h]
def dfn(f:Nat)(cap:List Value):Deferred:={ target:=.fn (.func f) cap.toArray,args:=#[] }
theorem znd{ops:Array Oper}{rest:List Oper}{o:Oper}{E:Operand}{A:Array TypeId}{f:Nat}{cap:List Value}
  (h:∀m:List Nat,SyL P none N w0 M (dfn f cap::(m.map col++ds)) ops Q rest fr (L++m.map dob))
  (I:o.op= .defer { callee:=.value E,args:=#[],argTypes:=A } :=by exact rfl)(H:ev (get fr) E=some (.func (.func f) #[] cap.toArray):=by exact rfl)
  (J:zak ops o (get fr)=some true:=by exact rfl)(F:o.dst=none:=by exact rfl):SyL P none N w0 M ds ops Q (o::rest) fr L:=by
 rintro a w ⟨G,r,j⟩;refine zed (zby j.agr J) ⟨λ_ _=>trivial,?_⟩;rw[show(FW none).round=none from rfl,Oper.semAt_none];have q:(execOp a.eval o).run P w= .ok (.defer (dfn f cap)) w:=by
  simp only[execOp,I,resolve,j.agr.eval H,Deferred.ofValue,Sem.run_bind,Sem.run_pure,Result.andThen_ok];simp[dfn]
 rw[q];refine h G _ w ⟨[],?_,?_⟩
 ·rw[F];show dfn f cap::a.defers=_;rw[r];rfl
 ·rw[F];exact⟨j.size,j.agr,j.keep,by simpa using j.hold⟩
theorem zaI{f:Nat}{fn:Func}{c:Code}{args:List Value}{w:World}{M':Nat->Prop}{post pan:Value->List Res->Prop}{L0:List Res}(m:P.funcs[f]?=some fn)(hb:fn.body=some c)(hn:fn.ntmps=N)(q:args.length<=N)
  (hL:Holds w.heap.size M' L0 w)(h:Sy P none N w M' [] c (bodyPostM Fence.wide 0 P fn (ziH w M' post pan)) (zd6 0 args) L0):FnP P f args w M' post pan:=by
 refine(callsIn_wide (n:=0)).1 (callsIn_of_wp_marks m hb trivial ?_ rfl);refine h _ w ⟨[],rfl,by simp;omega,λt v r=>?_,Fl _ _,by simpa using hL⟩;have:=zhg args 0 t v r;simp only[CD] at this;have j:t<args.length:=(AR.1 this.2).1;rw[E0 (by simpa using j)];simpa using this.2
theorem zdT{fn:Func}{g:Nat->Option Value}{R:Ending->World->Prop}{tail:List Deferred}{u:FrameMode}(hu:u≠ .run):∀(m:List Nat) (a:Act) (w:World),St N w0 M ds g (L++m.map dob) a w->
  (∀A,St N w0 M ds g L a A->LeavesInM Fence.wide 0 P fn a.tmps R tail u A)->LeavesInM Fence.wide 0 P fn a.tmps R (m.map col++tail) u w
 | [],a,w,hs,h=>h w (by simpa using hs)
 |D::m,a,w,hs,h=>by
  have j:=hs.perm (L':=dob D::(L++m.map dob)) (by simpa using List.perm_middle);have E:w.heap[D]?=some (.deferred (some [])):=j.hold.all _ A3;refine⟨hu,.inl ⟨D,_,rfl,run_takeDeferred E,zdT hu m a _ ⟨j.size,j.agr,?_,?_⟩ h⟩⟩
  ·exact j.keep.trans FE (λx H=>by subst H;exact j.hold.mine _ A3 x rfl)
  ·exact j.hold.tail.keep FE (λr G b F q=>by subst q;exact(Ah.1 j.hold.apart).1 r G b rfl F)
variable {post pan:Value->List Res->Prop}{R:List Res}{fn:Func}{v:Value}
theorem zqd(m:∀a w,St N w0 M [] (get fr) L a w->(results fn a.tmps).run P w= .ok v w)(r:SubR R L)(hp:post v R)(e:Exit)(he:e= .ret\/e= .normal):
  SyX N w0 M [] (bodyPostM Fence.wide 0 P fn (ziH w0 M post pan) e) fr L:=by
 rintro a w ⟨q,A,E⟩;have key:LeavesInM Fence.wide 0 P fn a.tmps (ziH w0 M post pan) a.defers .returning w:=by
  rw[A];exact zdT q_p q a w E λF j=>⟨v,m a F j,v,R,.inl ⟨rfl,hp⟩,j.keep,j.hold.subR r⟩
 rcases he with rfl|rfl
 ·exact key
 ·exact key
theorem zau(q:SubR R L)(hp:pan v R):SyX N w0 M [] (bodyPostM Fence.wide 0 P fn (ziH w0 M post pan) (.panic (pch v))) fr L:=by
 rintro a w ⟨m,r,A⟩;show LeavesInM Fence.wide 0 P fn a.tmps (ziH w0 M post pan) a.defers (.panicking (pch v)) w;rw[r];exact zdT q_p m a w A λE j=>⟨v,R,.inr ⟨rfl,hp⟩,j.keep,j.hold.subR q⟩
theorem zeG(h:fn.results= #[])(j:SubR R L)(hp:post (.tuple #[]) R):SyX N w0 M [] (bodyPostM Fence.wide 0 P fn (ziH w0 M post pan) .normal) fr L:=zqd (λa w _=>results0 h a w) j hp _ (.inr rfl)
theorem zd8{r:ResultVar}{v:Value}(h:fn.results= #[r])(h1:zdx P N w0 M [] fr L r v)(j:SubR R L)(hp:post v R):SyX N w0 M [] (bodyPostM Fence.wide 0 P fn (ziH w0 M post pan) .ret) fr L:=zqd (results1 h h1) j hp _ (.inl rfl)
def FnD(P:Program)(f:FuncId)(args:List Value)(u:FrameMode)(w:World)(M:Nat->Prop)(post:FrameMode->List Res->Prop):Prop:=
 CallsDIn Fence.wide 0 P f args.toArray u w λe u' w'=>∃v R,e= .returned v/\post u' R/\Keep M w w'/\Holds w.heap.size M R w'
theorem zox{f:Nat}{cap:List Value}{j:List Nat}{C L1:List Res}{M':Nat->Prop}{u:FrameMode}{m:FrameMode->List Res->Prop}{W:Ending->World->Prop}
  (hu:u≠ .run)(he:∀args w,(callFunc f args).run P w= .ok (.enter f args) w)(hC:RemL L C L1)(hM:∀b,M' b->OwnOf C b)
  (hc:∀w X,Keep M w0 w->Holds w0.heap.size M (L++X) w->FnD P f cap u w M' m)
  (hW:∀Z S,m Z S->settle Z= .returning/\∀a w,St N w0 M [] (get fr) (S++L1) a w->∃v,(results fn a.tmps).run P w= .ok v w/\W (.returned v) w)
  {a:Act}{w:World}(E:StD N w0 M (dfn f cap::(j.map col++[])) (get fr) (L++j.map dob) a w):LeavesInM Fence.wide 0 P fn a.tmps W a.defers u w:=by
 obtain⟨Ds,hd,E⟩:=E;rw[hd];refine zdT hu Ds a w E λw E=>?_;refine⟨hu,.inr ⟨λh=>(by cases h),.func f,cap.toArray,f,cap.toArray,rfl,?_,λ_ _=>trivial,?_⟩⟩
 ·show(invoke (.fn (.func f) cap.toArray) #[]).run P w=_;simp only[invoke];rw[show(#[]++cap.toArray:Array Value)=cap.toArray by simp];exact he _ w
 have J:=hc w (j.map dob) E.keep E.hold;refine CallsDIn.mono J ?_;rintro e Z w' ⟨v,S,rfl,hp,hk,hh⟩;have K:(L++j.map dob).Perm (C++(L1++j.map dob)):=by rw[<-AI];exact Ak _ hC
 have hold:=E.hold.perm K;have A:Holds w0.heap.size M (L1++j.map dob) w:=hold.sublist (CX C (L1++j.map dob));have q:∀b,M' b->w0.heap.size<=b\/M b:=λb F=>by
  obtain⟨r,H,O⟩:=hM b F;exact hold.mine r (AH _ H) b O
 have T:∀r∈L1++j.map dob,∀b,r.own b->¬M' b:=λr H b F G=>by
  obtain⟨r',I,O⟩:=hM b G;exact(Bo.1 hold.apart).2.2 r' I r H b O F
 have a6:Keep M w0 w':=E.keep.trans hk (λb F=>q b F);have hL:=A.keep hk T;have U:Holds w0.heap.size M ((S++L1)++j.map dob) w':=by
  rw[AI];refine⟨λr H=>?_,?_,λr H b F=>?_⟩
  ·rcases Ap.1 H with h|h
   ·exact hh.all r h
   ·exact hL.all r h
  ·refine Bo.2 ⟨hh.apart,hL.apart,λr H r' I b F G=>?_⟩;rcases hh.mine r H b F with h|h
   ·have:=FD (A.all r' I) G;omega
   ·exact T r' I b G h
  ·rcases Ap.1 H with h|h
   ·rcases hh.mine r h b F with h'|h'
    ·exact .inl (BE E.keep.size h')
    ·exact q b h'
   ·exact hL.mine r h b F
 obtain⟨Y,V⟩:=hW Z S hp;show LeavesInM Fence.wide 0 P fn a.tmps W (j.map col++[]) (settle Z) w';rw[Y];refine zdT (ds:=[]) q_p j a w' ⟨E.size,E.agr,a6,U⟩ λw2 a7=>?_;exact V a w2 a7
theorem zmy{p q:Nat->Bool}{i:Nat}(j:∀k,q k=true->p k=true)(hp:p i=true)(hn:q i=false):∀ {l:List Nat},i∈l->l.countP q<l.countP p
 |x::l,h=>by
  have m:l.countP q<=l.countP p:=List.countP_mono_left λk _=>j k;rcases AV.1 h with rfl|h
  ·rw[EF (by rw[hn];decide),DL hp];omega
  ·have r:=zmy j hp hn h;by_cases hx:q x=true
   ·rw[DL hx,DL (j x hx)];omega
   ·rw[EF hx];have:=List.countP_cons (p:=p) (a:=x) (l:=l);rw[this];omega
def zrX(l:List Oper):Bool:=(List.range l.length).all λi=>match l[i]? with
 |none=>true
 |some o=>(pre o).all λj=>Nat.blt j i
def zAg(P:Program)(ro:Option Nat)(N:Nat)(w0:World)(M:Nat->Prop)(ds:List Deferred)(ops:Array Oper)(Q:Exit->Act->World->Prop)(o:Oper)(fr:Fr)(L:List Res)(J:Fr->List Res->Prop):Prop:=
 ∀a w (K:Act->World->Prop),StD N w0 M ds (get fr) L a w->(∀fr' L' a' w',J fr' L'->StD N w0 M ds (get fr') L' a' w'->K a' w')->
  (if Region.wanted o (yielded ops a.tmps) then o.wpIn (FW ro) 0 P a w K Q else (∀f,o.about P w a.eval=some f->(FW ro).fn f)/\K (a.put o.dst undef) w)
theorem zo7{id:Nat}{l:List Oper}(J:(Nat->Bool)->Fr->List Res->Prop)(hm:P.follows .mixedOrders=true)(a6:zrX l=true)(h0:J (λ_=>false) fr L)
  (step:∀b fr L i o,l[i]?=some o->b i=false->(pre o).all b=true->J b fr L->zAg P ro N w0 M ds l.toArray Q o fr L (λO L'=>J (λk=>b k || Nat.beq k i) O L'))
  (I:∀b fr L,(∀i,i<l.length->b i=true)->J b fr L->SyX N w0 M ds (Q .normal) fr L):Sy P ro N w0 M ds (.region id l.toArray true) Q fr L:=by
 rintro a w ⟨Ds,a7,E⟩;refine wpIn_region_any hm ?_;have Y:∀i o,l[i]?=some o->∀j∈pre o,j<i:=λi o K j hj=>by
  have A:=(AR.1 K).1;have:=AF.1 a6 i (Az.2 A);rw[K] at this;exact zaS.1 (AF.1 this j hj)
 have done:∀listed:Array Bool,listed.size=l.length->Region.ready .any l.toArray listed= []->∀i,i<l.length->listed.getD i false=true:=by
  intro listed G m i
  induction i using Nat.strongRecOn with
  |_ i ih=>
   intro A;cases hb:listed.getD i false with
   |true=>rfl
   |false=>
    exfalso;have:i∈Region.ready .any l.toArray listed:=mem_ready.2 ⟨by
     simp only[B1] at hb ⊢;rw[B7 q_o] at hb ⊢;simpa using hb,l[i],by simp[A],λe he Z=>by
     have hp:=Y i l[i] (A2 A) e.on (zdX.2 ⟨e,he,Z,rfl⟩);exact ih e.on hp q_o⟩
    rw[m] at this;cases this
 have key:∀(f:Nat) (listed:Array Bool) (fr:Fr) (L:List Res) (a:Act) (w:World),listed.size=l.length->(List.range l.length).countP (λk=>!listed.getD k false)<=f->J (λk=>listed.getD k false) fr L->StD N w0 M ds (get fr) L a w->
   wpAnyIn (FW ro) 0 P .any l.toArray Q f listed a w:=by
  intro f
  induction f with
  |zero=>
   intro listed fr L a w G hc W F;have H:∀i,i<l.length->listed.getD i false=true:=λi A=>by
    have T:(List.range l.length).countP (λk=>!listed.getD k false)=0:=Nat.le_zero.1 hc;have:=List.countP_eq_zero.1 T i (Az.2 A);simpa using this
   refine⟨?_,I _ fr L H W a w F⟩;refine DX.2 λi A=>?_;obtain⟨T,o,K,_⟩:=mem_ready.1 A;have S:i<l.length:=by simpa using (Af.1 K).1
   have:=zbQ T;rw[H i S] at this;cases this
  |succ f ih=>
   intro listed fr L a w G hc W F;refine⟨λm=>I _ fr L (done listed G m) W a w F,λi A=>?_⟩;obtain⟨T,o,K,he⟩:=mem_ready.1 A;have S:i<l.length:=by simpa using (Af.1 K).1
   have a8:l[i]?=some o:=by simpa using K
   have hf:=zbQ T;have U:(pre o).all (λk=>listed.getD k false)=true:=AF.2 λj hj=>by
    obtain⟨e,h2,h3,rfl⟩:=zdX.1 hj;exact he e h2 h3
   have q:∀k,(listed.setIfInBounds i true).getD k false=(listed.getD k false || Nat.beq k i):=λk=>by
    by_cases e:i=k
    ·subst e;have:i<listed.size:=q_o;simp[B1,this]
    ·rw[getD_set_ne false e];simp[zaY.2 (λe'=>e e'.symm:k≠i)]
   unfold wpOpIn;rw[K];refine step _ fr L i o a8 hf U W a w _ F λO L' a' w' X V=>?_;refine ih _ O L' a' w' (by simpa using G) ?_ (by simpa only[q] using X) V;have:(List.range l.length).countP (λk=>!(listed.setIfInBounds i true).getD k false)<(List.range l.length).countP (λk=>!listed.getD k false):=
    zmy (i:=i) (λk hk=>by rw[q] at hk;simp only[Bool.not_or,A8] at hk;exact hk.1) (by rw[hf];rfl) (by rw[q];simp) (Az.2 S)
   omega
 refine key _ _ fr L a _ q_p ?_ ?_ ⟨Ds,a7,E.size,E.agr,⟨E.keep.os,E.keep.tape,E.keep.output,E.keep.size,E.keep.block⟩,⟨λr hr=>FN (E.hold.all r hr) (λ_ _=>rfl),E.hold.apart,E.hold.mine⟩⟩
 ·refine BE List.countP_le_length ?_;simp
 ·have e:(λk=>(Array.replicate l.toArray.size false).getD k false)=λ_=>false:=by
   funext k
   simp only[B1,DE];split <;> rfl
  rw[e];exact h0
variable {B:List Res}{ops:Array Oper}{g:Nat->Option Value}{o:Oper}
def HOp(P:Program)(ro:Option Nat)(N:Nat)(w0:World)(M:Nat->Prop)(ds:List Deferred)(Q:Exit->Act->World->Prop)(o:Oper)(g:Nat->Option Value)(L:List Res)(post:Value->List Res->Prop):Prop:=
 ∀a w (Ds:List Nat) (K:Act->World->Prop),a.defers=Ds.map col++ds->St N w0 M ds g (L++Ds.map dob) a w->(∀v w' L',post v L'->Keep M w0 w'->Holds w0.heap.size M (L'++Ds.map dob) w'->K (a.put o.dst v) w')->o.wpIn (FW ro) 0 P a w K Q
theorem HOp.of{post:Value->List Res->Prop}(h:OpT P ro N w0 M ds o g L post):HOp P ro N w0 M ds Q o g L post:=λa w F K _ A q=>h a w _ K Q A (λv E L' r m j=>q v E L' r m j)
def SyC(P:Program)(ro:Option Nat)(N:Nat)(w0:World)(M:Nat->Prop)(ds:List Deferred)(ops:Array Oper)(Q:Exit->Act->World->Prop)(B:List Res):List Oper->Fr->List Res->Prop
 | [],fr,L=>SubR B L/\SyX N w0 M ds (Q .normal) fr L
 |o::rest,fr,L=>SubR B L/\∃post,HOp P ro N w0 M ds Q o (only (o.looksAt ops) (get fr)) L post/\zak ops o (only (o.looksAt ops) (get fr))=some true/\((∃d,o.dst=some d/\d<N/\∀v L',post v L'->SyC P ro N w0 M ds ops Q B rest ((d,v)::fr) L')\/(o.dst=none/\∀v L',post v L'->SyC P ro N w0 M ds ops Q B rest fr L'))
def SyF(P:Program)(ro:Option Nat)(N:Nat)(w0:World)(M:Nat->Prop)(ds:List Deferred)(ops:Array Oper)(Q:Exit->Act->World->Prop)(B L:List Res)(chain:List Oper):List Oper->Fr->Prop
 | [],fr=>SyC P ro N w0 M ds ops Q B chain fr L
 |o::rest,fr=>∃d v,o.dst=some d/\d<N/\zak ops o (only (o.looksAt ops) (get fr))=some true/\OpT P ro N w0 M ds o (only (o.looksAt ops) (get fr)) B (Det v B)/\SyF P ro N w0 M ds ops Q B L chain rest ((d,v)::fr)
def zcF(l:List Oper):List Nat->List Oper
 | []=>[]
 |i::r=>match l[i]? with
  |none=>zcF l r
  |some o=>o::zcF l r
theorem zgt{l:List Oper}{i:Nat}{o:Oper}(h:l[i]?=some o)(r:List Nat):zcF l (i::r)=o::zcF l r:=by rw[zcF,h]
def zdo(l:List Oper)(i:Nat)(js:List Nat):Bool:=match l[i]? with
 |none=>false
 |some o=>js.all λj=>match (l[j]?).bind (·.dst) with
  |none=>true
  |some t=>!(o.looksAt l.toArray).contains t&&(Nat.beq i j || !(o.dst==some t))
def zcY(l:List Oper):List Nat->List Nat->Bool
 | [],_=>true
 |i::fi,ci=>zdo l i (i::(fi++ci))&&zcY l fi ci
def zet(l:List Oper):List Nat->Bool
 |i::j::r=>(match l[j]? with
  |none=>false
  |some o=>(pre o).contains i)&&zet l (j::r)
 |_=>true
def zt6(l:List Oper):Bool:=(List.range l.length).all λi=>match l[i]? with
 |none=>true
 |some o=>(List.range l.length).all λj=>match (l[j]?).bind (·.dst) with
  |none=>true
  |some t=>!(o.looksAt l.toArray).contains t || (pre o).contains j
def zc6:List Nat->Bool
 | []=>true
 |i::r=>!r.contains i&&zc6 r
def zr5(l:List Oper)(fi ci:List Nat):Bool:=
 zrX l&&zt6 l&&zcY l fi ci&&zet l ci&&zc6 ci&&ci.all (λi=>Nat.blt i l.length)&&fi.all (λi=>Nat.blt i l.length)&&(List.range l.length).all λi=>fi.contains i || ci.contains i
def FO(P:Program)(ro:Option Nat)(N:Nat)(w0:World)(M:Nat->Prop)(ds:List Deferred)(ops:Array Oper)(B:List Res)(frF:Fr)(o:Oper):Prop:=
 ∃d v,o.dst=some d/\d<N/\get frF d=some v/\zak ops o (only (o.looksAt ops) (get frF))=some true/\OpT P ro N w0 M ds o (only (o.looksAt ops) (get frF)) B (Det v B)
theorem zbU{fr:Fr}{t d:Nat}{v:Value}(h:d≠t):get ((d,v)::fr) t=get fr t:=by
 show(bif Nat.beq d t then some v else get fr t)=_;rw[zaY.2 h];rfl
theorem zdW{fr:Fr}{d:Nat}{v:Value} :get ((d,v)::fr) d=some v:=by
 show(bif Nat.beq d d then some v else get fr d)=_;rw[EG];rfl
theorem zeW{ts:List Nat}{fr:Fr}{d:Nat}{v:Value}(h:ts.contains d=false):only ts (get ((d,v)::fr))=only ts (get fr):=by
 funext t
 unfold only;by_cases ht:ts.contains t=true
 ·rw[ht];have:d≠t:=λe=>by subst e;rw[h] at ht;cases ht
  simp only[cond_true,zbU this]
 ·rw[Br] at ht;rw[ht];rfl
theorem FO.cons{j:Fr}{d:Nat}{v:Value}(h:FO P ro N w0 M ds ops B j o)(h1:(o.looksAt ops).contains d=false)(h2:o.dst≠some d):FO P ro N w0 M ds ops B ((d,v)::j) o:=by
 obtain⟨q,G,r,w,A,E,F⟩:=h;have m:d≠q:=λe=>h2 (by rw[r,e]);exact⟨q,G,r,w,by rw[zbU m];exact A,by rw[zeW h1];exact E,by rw[zeW h1];exact F⟩
theorem zdV{l:List Oper}{i:Nat}{w:List Nat}{o:Oper}(A:l[i]?=some o)(h:zdo l i w=true){j:Nat}(hj:j∈w){o':Oper}{t:Nat}(r:l[j]?=some o')(E:o'.dst=some t):(o.looksAt l.toArray).contains t=false/\(i≠j->o.dst≠some t):=by
 unfold zdo at h;rw[A] at h;have:=AF.1 h j hj;rw[r] at this;simp only[Ac,E,A8,B4,Be] at this;refine⟨this.1,λq e=>?_⟩;rcases this.2 with m|m
 ·exact q (C6 m)
 ·rw[e] at m;simp at m
theorem zn8{l:List Oper}{chain:List Oper} :∀(w:List Nat) (G done:List Nat) (fr:Fr),(∀i∈w,i<l.length)->zcY l w G=true->(∀i∈done,∀o,l[i]?=some o->FO P ro N w0 M ds l.toArray B fr o/\zdo l i (w++G)=true/\i∉w)->zc6 w=true->
  SyF P ro N w0 M ds l.toArray Q B L chain (zcF l w) fr->∃m,(∀t,(∀i∈w,∀o,l[i]?=some o->o.dst≠some t)->get m t=get fr t)/\(∀i,i∈done\/i∈w->∀o,l[i]?=some o->FO P ro N w0 M ds l.toArray B m o)/\SyC P ro N w0 M ds l.toArray Q B chain m L
 | [],G,done,fr,_,_,hd,_,h=>⟨fr,λ_ _=>rfl,λi S o A=>(S.elim (λh=>(hd i h o A).1) (λh=>(by cases h))),h⟩
 |i::w,G,done,fr,hl,hc,hd,hn,h=>by
  have S:i<l.length:=hl i A3;have A:=A2 S;rw[zgt A] at h;obtain⟨d,v,I,Y,Z,e4,h⟩:=h;simp only[zcY,A8] at hc;simp only[zc6,A8,B4] at hn;have r:=zdV A hc.1 A3 A I;have E:∀ {k:Nat}{o:Oper}(V F:List Nat),l[k]?=some o->zdo l k V=true->(∀x∈F,x∈V)->zdo l k F=true:=by
   intro k o V F q h hs;unfold zdo at h ⊢;rw[q] at h ⊢;exact AF.2 λx H=>AF.1 h x (hs x H)
  have hstep:=zn8 (chain:=chain) w G (i::done) ((d,v)::fr) (λk q=>hl k (A1 _ q)) hc.2 (λk q o j=>by
   rcases AV.1 q with rfl|q
   ·have:o=l[k]:=by rw[A] at j;exact(Am j).symm
    subst this;refine⟨⟨d,v,I,Y,zdW,by rw[zeW r.1];exact Z,by rw[zeW r.1];exact e4⟩,E _ _ A hc.1 (λx H=>A1 _ H),λU=>?_⟩;have:=hn.1;simp only[B6,decide_eq_false_iff_not] at this;exact this U
   ·obtain⟨O,J,K⟩:=hd k q o j;have W:=zdV j J (AH _ A3) A I;have T:k≠i:=λe=>K (by rw[e];exact A3);exact⟨O.cons W.1 (W.2 T),E _ _ j J (λx H=>(Ap.1 H).elim (λh=>AH _ (A1 _ h)) (λh=>AY _ h)),λU=>K (A1 _ U)⟩) hn.2 h
  obtain⟨m,O,J,K⟩:=hstep;refine⟨m,λt X=>?_,λk q o j=>?_,K⟩
  ·rw[O t (λk q o j=>X k (A1 _ q) o j)];exact zbU (λe=>X i A3 _ A (by rw[<-e];exact I))
  ·refine J k ?_ o j;rcases q with h|h
   ·exact .inl (A1 _ h)
   ·rcases AV.1 h with rfl|h
    ·exact .inl A3
    ·exact .inr h
theorem zgY{l:List Oper} :∀(cl:List Nat) {j:List Nat},zet l (cl++j)=true->zet l j=true
 | [],_,h=>h
 | [c],[],_=>rfl
 | [c],d::j,h=>by
  simp only[Ae,Ag,zet,A8] at h;exact h.2
 |c::c'::cl,j,h=>by
  simp only[Ae,zet,A8] at h;exact zgY (c'::cl) h.2
theorem zgT{l:List Oper} :∀ {c:Nat}{m:List Nat},zet l (c::m)=true->∀i∈m,∃p,p∈c::m/\∃o,l[i]?=some o/\p∈pre o
 |c,[],_,i,j=>by cases j
 |c,d::m,h,i,j=>by
  simp only[zet,A8] at h;rcases AV.1 j with rfl|j
  ·have q:=h.1;split at q
   ·cases q
   ·rename_i o r;refine⟨c,A3,o,r,?_⟩;simpa [B6] using q
  ·obtain⟨p,A,o,r,w⟩:=zgT h.2 i j;exact⟨p,A1 _ A,o,r,w⟩
theorem zqC{l:List Oper} :∀ {r q:List Nat},zcY l r q=true->∀k∈r,∀o,l[k]?=some o->∀i∈q,∀m,l[i]?=some m->∀d,m.dst=some d->(o.looksAt l.toArray).contains d=false/\(k≠i->o.dst≠some d)
 | [],_,_,_,j,_,_,_,_,_,_,_,_=>by cases j
 |x::r,q,h,k,j,o,ho,i,hi,m,ho',d,hd=>by
  simp only[zcY,A8] at h;rcases AV.1 j with rfl|j
  ·exact zdV ho h.1 (A1 _ (AY _ hi)) ho' hd
  ·exact zqC h.2 k j o ho i hi m ho' d hd
theorem zk2:∀(cl:List Nat) {c:Nat}{j:List Nat},zc6 (cl++c::j)=true->c∉j
 | [],c,j,h=>by
  simp only[Ag,zc6,A8,B4,B6,decide_eq_false_iff_not] at h;exact h.1
 |x::cl,c,j,h=>by
  simp only[Ae,zc6,A8] at h;exact zk2 cl h.2
theorem zmQ{id:Nat}{l:List Oper}(fi ci:List Nat)(hm:P.follows .mixedOrders=true)(c6:(zr5 l fi ci&&zc6 fi)=true)(h:SyF P ro N w0 M ds l.toArray Q B L (zcF l ci) (zcF l fi) fr):Sy P ro N w0 M ds (.region id l.toArray true) Q fr L:=by
 simp only[zr5,A8] at c6;obtain⟨⟨⟨⟨⟨⟨⟨⟨e8,c8⟩,a8⟩,c0⟩,h5⟩,e9⟩,f8⟩,c4⟩,h6⟩:=c6;obtain⟨c3,e6,e7,e5⟩:=zn8 fi ci [] fr (λi hi=>zaS.1 (AF.1 f8 i hi)) a8 (λi hi=>by cases hi) h6 h;have b9:∀(i:Nat) (o:Oper),l[i]?=some o->∀(j:Nat) (G:Oper) (t:Nat),l[j]?=some G->G.dst=some t->(o.looksAt l.toArray).contains t=true->j∈pre o:=by
  intro i o F j G t m ht h4;have h1:=AF.1 c8 i (Az.2 (AR.1 F).1);rw[F] at h1;have h2:=AF.1 h1 j (Az.2 (AR.1 m).1);rw[m] at h2;simp only[Ac,ht,h4,Dc,BO] at h2;simpa [B6] using h2
 refine zo7 (J:=λb I L'=>∃cl T q,ci=cl++T/\(∀c∈cl,b c=true)/\(∀c∈T,b c=false)/\SyC P ro N w0 M ds l.toArray Q B (zcF l T) q L'/\(∀i∈fi,∀o,l[i]?=some o->i∉ci->FO P ro N w0 M ds l.toArray B q o)/\∀t,(∀j o,l[j]?=some o->o.dst=some t->b j=true)->∀v,get q t=some v->get I t=some v) hm e8 ?_ ?_ ?_
 ·refine⟨[],ci,c3,rfl,(λc O=>by cases O),(λ_ _=>rfl),e5,λi hi o F _=>e7 i (.inr hi) o F,λt ht v V=>?_⟩;rw[e6 t (λi hi o F e=>by have:=ht i o F e;cases this)] at V;exact V
 ·rintro b I L' i o F c5 e3 ⟨cl,T,q,E,b2,a6,hC,X,S⟩;have b0:∀j∈pre o,b j=true:=λj hj=>AF.1 e3 j hj;have b3:∀a:Act,Agrees (get I) a->Agrees (only (o.looksAt l.toArray) (get q)) a:=λa ha t v V=>by
   unfold only at V;cases O:(o.looksAt l.toArray).contains t with
   |false=>rw[O] at V;simp at V
   |true=>
    rw[O] at V;exact ha t v (S t (λj G m hd=>b0 j (b9 i o F j G t m hd O)) v V)
  by_cases hic:i∈ci
  ·have d8:i∈T:=by
    rw[E] at hic;rcases Ap.1 hic with h|h
    ·rw[b2 i h] at c5;cases c5
    ·exact h
   obtain⟨c,H,rfl⟩:∃c H,T=c::H:=by cases T with
    |nil=>cases d8
    |cons c r=>exact⟨c,r,rfl⟩
   have c9:i=c:=by
    rcases AV.1 d8 with h|h
    ·exact h
    ·obtain⟨p,hp,G,m,h8⟩:=zgT (zgY cl (by rw[<-E];exact c0)) i h;rw[F] at m;cases m;have:=b0 p h8;rw[a6 p hp] at this;cases this
   subst c9;rw[zgt F] at hC;obtain⟨b7,post,c2,hw,e4⟩:=hC;have h7:i∉H:=zk2 cl (by rw[<-E];exact h5);rintro a w K ⟨Ds,a7,U⟩ hK;have b1:St N w0 M ds (only (o.looksAt l.toArray) (get q)) (L'++Ds.map dob) a w:=⟨U.size,b3 a U.agr,U.keep,U.hold⟩;rw[if_pos (zby b1.agr hw)];refine c2 a w Ds K a7 b1 λv w' W hp hk hh=>?_;have b5:∀c∈cl++[i],(b c || Nat.beq c i)=true:=λc O=>by
    rcases Ap.1 O with h|h
    ·rw[b2 c h];rfl
    ·rw[AD.1 h,EG,Dq]
   have b6:∀c∈H,(b c || Nat.beq c i)=false:=λc O=>by
    rw[a6 c (A1 _ O),BO];exact zaY.2 (λe=>h7 (e ▸ O))
   have b4:ci=(cl++[i])++H:=by rw[E,AI];rfl
   rcases e4 with ⟨d,hd,b8,c1⟩|⟨hd,c1⟩
   ·rw[hd];refine hK ((d,v)::I) W _ _ ⟨cl++[i],H,(d,v)::q,b4,b5,b6,c1 v W hp,λk hk G m d9=>?_,λt ht u hu=>?_⟩ ⟨Ds,a7,U.put b8 v hk hh⟩
    ·have hF:=X k hk G m d9;obtain⟨h1,h2⟩:=zqC a8 k hk G m i (E ▸ AY _ A3) o F d hd;exact hF.cons h1 (h2 (λe=>d9 (e ▸ hic)))
    ·by_cases e:d=t
     ·subst e;rw[zdW] at hu ⊢;exact hu
     ·rw[zbU e] at hu ⊢;refine S t (λj G m A=>?_) u hu;have:(b j || Nat.beq j i)=true:=ht j G m A;have a9:j≠i:=λe'=>by subst e';rw[F] at m;cases m;rw[hd] at A;exact e (Am A)
      rwa[zaY.2 a9,Cc] at this
   ·rw[hd];refine hK I W _ _ ⟨cl++[i],H,q,b4,b5,b6,c1 v W hp,X,λt ht u hu=>?_⟩ ⟨Ds,a7,U.put_none hk hh⟩;refine S t (λj G m A=>?_) u hu;have:(b j || Nat.beq j i)=true:=ht j G m A;have a9:j≠i:=λe'=>by subst e';rw[F] at m;cases m;rw[hd] at A;cases A
    rwa[zaY.2 a9,Cc] at this
  ·have h3:i∈fi:=by
    have:=AF.1 c4 i (Az.2 (AR.1 F).1);simp only[Be,B6,decide_eq_true_eq] at this;exact this.resolve_right hic
   obtain⟨d,v,hd,b8,V,hw,c2⟩:=X i h3 o F hic;have b7:SubR B L':=by
    cases hcr0:zcF l T with
    |nil=>rw[hcr0] at hC;exact hC.1
    |cons G r=>rw[hcr0] at hC;exact hC.1
   obtain⟨Y,hY⟩:=b7.perm;rintro a w K ⟨Ds,a7,U⟩ hK;have b1:St N w0 M ds (only (o.looksAt l.toArray) (get q)) (B++(Y++Ds.map dob)) a w:=⟨U.size,b3 a U.agr,U.keep,U.hold.perm (by rw[<-AI];exact Ak _ hY)⟩;rw[if_pos (zby b1.agr hw)];refine c2 a w _ K Q b1 λv' w' W ⟨e1,e2⟩ hk hh=>?_;subst e1;subst e2;rw[hd];have f9:Holds w0.heap.size M (L'++Ds.map dob) w':=hh.perm (by rw[<-AI];exact Ak _ hY.symm);refine hK ((d,v')::I) L' _ _ ⟨cl,T,q,E,λc O=>(by show(b c || Nat.beq c i)=true;rw[b2 c O];rfl),λc O=>?_,hC,X,λt ht u hu=>?_⟩ ⟨Ds,a7,U.put b8 v' hk f9⟩
   ·show(b c || Nat.beq c i)=false;rw[a6 c O,BO];exact zaY.2 (λe=>hic (by rw[E,<-e];exact AY _ O))
   ·by_cases e:d=t
    ·subst e;rw[zdW];rw[V] at hu;exact hu
    ·rw[zbU e];refine S t (λj G m A=>?_) u hu;have:(b j || Nat.beq j i)=true:=ht j G m A;have a9:j≠i:=λe'=>by subst e';rw[F] at m;cases m;rw[hd] at A;exact e (Am A)
     rwa[zaY.2 a9,Cc] at this
 ·rintro b I L' Z ⟨cl,T,q,E,b2,a6,hC,X,S⟩;have e0:T= []:=by
   cases T with
   |nil=>rfl
   |cons c r=>
    have c7:c<l.length:=zaS.1 (AF.1 e9 c (by rw[E];exact AY _ A3));have:=a6 c A3;rw[Z c c7] at this;cases this
  subst e0;exact hC.2.weaken (λt v V=>S t (λj o F _=>Z j (AR.1 F).1) v V) Ez
theorem zdp{id:Nat}{l:List Oper}(j m:List Nat)(hm:P.follows .mixedOrders=true)(q:(zr5 l j m&&zc6 j)=true)(h:SyF P ro N w0 M ds l.toArray Q L L (zcF l m) (zcF l j) fr):Sy P ro N w0 M ds (.region id l.toArray true) Q fr L:=zmQ j m hm q h
def znG:List Nat->List Res->List Res
 | [],L=>L
 |k::ks,L=>znG ks (L.eraseIdx k)
theorem zmR{id:Nat}{l:List Oper}(r:List Nat)(j m:List Nat)(hm:P.follows .mixedOrders=true)(q:(zr5 l j m&&zc6 j)=true)(h:SyF P ro N w0 M ds l.toArray Q (znG r L) L (zcF l m) (zcF l j) fr):Sy P ro N w0 M ds (.region id l.toArray true) Q fr L:=zmQ j m hm q h
variable {rest chain:List Oper}{d:Nat}{L':List Res}
theorem yfv(h:OpT P ro N w0 M ds o (only (o.looksAt ops) (get fr)) B (Det v B))(q:zak ops o (only (o.looksAt ops) (get fr))=some true:=by exact rfl)(m:o.dst=some d:=by exact rfl)(j:Nat.blt d N=true:=by exact rfl)
  (k:SyF P ro N w0 M ds ops Q B L chain rest ((d,v)::fr)):SyF P ro N w0 M ds ops Q B L chain (o::rest) fr:=⟨d,v,m,A5 j,q,h,k⟩
theorem yf0(k:SyC P ro N w0 M ds ops Q B chain fr L):SyF P ro N w0 M ds ops Q B L chain [] fr:=k
theorem ycs{post:Value->List Res->Prop}(h:OpT P ro N w0 M ds o (only (o.looksAt ops) (get fr)) L post)(r:zak ops o (only (o.looksAt ops) (get fr))=some true:=by exact rfl)(q:o.dst=some d:=by exact rfl)(m:Nat.blt d N=true:=by exact rfl)(j:SubR B L:=by first|(focus ((repeat (first|exact Ez|apply F7));done))|exact FT)
  (k:∀v L',post v L'->SyC P ro N w0 M ds ops Q B rest ((d,v)::fr) L'):SyC P ro N w0 M ds ops Q B (o::rest) fr L:=⟨j,post,HOp.of h,r,.inl ⟨d,q,A5 m,k⟩⟩
theorem ycv(h:OpT P ro N w0 M ds o (only (o.looksAt ops) (get fr)) L (Det v L'))(A:zak ops o (only (o.looksAt ops) (get fr))=some true:=by exact rfl)(w:o.dst=some d:=by exact rfl)(r:Nat.blt d N=true:=by exact rfl)(q:SubR B L:=by first|(focus ((repeat (first|exact Ez|apply F7));done))|exact FT)
  (k:SyC P ro N w0 M ds ops Q B rest ((d,v)::fr) L'):SyC P ro N w0 M ds ops Q B (o::rest) fr L:=ycs h A w r q λ_ _ ⟨j,m⟩=>by subst j;subst m;exact k
theorem ycn(h:OpT P ro N w0 M ds o (only (o.looksAt ops) (get fr)) L (Det v L'))(w:zak ops o (only (o.looksAt ops) (get fr))=some true:=by exact rfl)(r:o.dst=none:=by exact rfl)(q:SubR B L:=by first|(focus ((repeat (first|exact Ez|apply F7));done))|exact FT)
  (k:SyC P ro N w0 M ds ops Q B rest fr L'):SyC P ro N w0 M ds ops Q B (o::rest) fr L:=⟨q,Det v L',HOp.of h,w,.inr ⟨r,λ_ _ ⟨j,m⟩=>by subst j;subst m;exact k⟩⟩
theorem yc0(k:SyX N w0 M ds (Q .normal) fr L)(j:SubR B L:=by first|(focus ((repeat (first|exact Ez|apply F7));done))|exact FT):SyC P ro N w0 M ds ops Q B [] fr L:=⟨j,k⟩
end Go.Sy
