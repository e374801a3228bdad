/- Lemmas of this proof. -/
import Derived.Test.YtdnlngbjpdbffaaGreatDoorWJ35
set_option maxRecDepth 10000
set_option linter.all false
namespace Go.Sy
open Go Go.RowKit
variable {P:Program}{ro:Option Nat}{N:Nat}{w0:World}{M:Nat->Prop}{ds:List Deferred}{fr:Fr}{L B:List Res}{Q:Exit->Act->World->Prop}{ops:Array Oper}{g:Nat->Option Value}{o:Oper}
def zvY(P:Program)(ro:Option Nat)(N:Nat)(w0:World)(M:Nat->Prop)(ds:List Deferred)(ops:Array Oper)(B:List Res)(o:Oper)(g:Nat->Option Value)(v:Value):Prop:=
 (zal ops o g=some true/\OpT P ro N w0 M ds o g B (Det v B))\/(zal ops o g=some false/\v=undef)
def SyG(P:Program)(ro:Option Nat)(N:Nat)(w0:World)(M:Nat->Prop)(ds:List Deferred)(ops:Array Oper)(B:List Res)(K:Fr->Prop):List Oper->Fr->Prop
 | [],fr=>K fr
 |o::rest,fr=>∃d v,o.dst=some d/\d<N/\zvY P ro N w0 M ds ops B o (only (o.looksAt ops) (get fr)) v/\SyG P ro N w0 M ds ops B K rest ((d,v)::fr)
def FG(P:Program)(ro:Option Nat)(N:Nat)(w0:World)(M:Nat->Prop)(ds:List Deferred)(ops:Array Oper)(B:List Res)(frF:Fr)(o:Oper):Prop:=
 ∃d v,o.dst=some d/\d<N/\get frF d=some v/\zvY P ro N w0 M ds ops B o (only (o.looksAt ops) (get frF)) v
theorem FG.cons{j:Fr}{d:Nat}{v:Value}(h:FG P ro N w0 M ds ops B j o)(h1:(o.looksAt ops).contains d=false)(h2:o.dst≠some d):FG P ro N w0 M ds ops B ((d,v)::j) o:=by
 obtain⟨q,E,r,w,A,C⟩:=h;have m:d≠q:=λe=>h2 (by rw[r,e]);exact⟨q,E,r,w,by rw[zbP m];exact A,by rw[zeQ h1];exact C⟩
theorem zeh{l:List Oper}{k:Nat}(m j:List Nat)(h:zdh l k m=true)(q:∀x∈j,x∈m):zdh l k j=true:=by
 unfold zdh at h ⊢;cases hk:l[k]? with
 |none=>rw[hk] at h;cases h
 |some o=>
  rw[hk] at h;exact AL.2 λx r=>AL.1 h x (q x r)
theorem zkv{l:List Oper}{K:Fr->Prop} :∀(q C done:List Nat) (fr:Fr),(∀i∈q,i<l.length)->zcP l q C=true->(∀i∈done,∀o,l[i]?=some o->FG P ro N w0 M ds l.toArray B fr o/\zdh l i (q++C)=true/\i∉q)->zcZ q=true->
  SyG P ro N w0 M ds l.toArray B K (zcw l q) fr->∃m,(∀t,(∀i∈q,∀o,l[i]?=some o->o.dst≠some t)->get m t=get fr t)/\(∀i,i∈done\/i∈q->∀o,l[i]?=some o->FG P ro N w0 M ds l.toArray B m o)/\K m
 | [],C,done,fr,_,_,hd,_,h=>⟨fr,λ_ _=>rfl,λi I o w=>(I.elim (λh=>(hd i h o w).1) (λh=>(by cases h))),h⟩
 |i::q,C,done,fr,hl,hc,hd,hn,h=>by
  have I:i<l.length:=hl i A3;have w:=A1 I;rw[zgi w] at h;obtain⟨d,v,E,U,V,h⟩:=h;simp only[zcP,AA] at hc;simp only[zcZ,AA,B3] at hn;have A:=zdM w hc.1 A3 w E;obtain⟨m,H,F,G⟩:=zkv (K:=K) q C (i::done) ((d,v)::fr) (λk r=>hl k (A4 _ r)) hc.2 (λk r o j=>by
   rcases AS.1 r with rfl|r
   ·have:o=l[k]:=by rw[w] at j;exact(Am j).symm
    subst this;refine⟨⟨d,v,E,U,zdO,by rw[zeQ A.1];exact V⟩,zeh _ _ hc.1 (λx R=>A4 _ R),λO=>?_⟩;have:=hn.1;simp only[B4,decide_eq_false_iff_not] at this;exact this O
   ·obtain⟨H,F,G⟩:=hd k r o j;have S:=zdM j F (AM _ A3) w E;have J:k≠i:=λe=>G (by rw[e];exact A3);exact⟨H.cons S.1 (S.2 J),zeh _ _ F (λx R=>(Ao.1 R).elim (λh=>AM _ (A4 _ h)) (λh=>AX _ h)),λO=>G (A4 _ O)⟩) hn.2 h
  refine⟨m,λt T=>?_,λk r o j=>?_,G⟩
  ·rw[H t (λk r o j=>T k (A4 _ r) o j)];exact zbP (λe=>T i A3 _ w (by rw[<-e];exact E))
  ·refine F k ?_ o j;rcases r with h|h
   ·exact .inl (A4 _ h)
   ·rcases AS.1 h with rfl|h
    ·exact .inl A3
    ·exact .inr h
def HOpB(P:Program)(ro:Option Nat)(N:Nat)(w0:World)(M:Nat->Prop)(ds:List Deferred)(Q:Exit->Act->World->Prop)(frB:Fr)(o:Oper)(g:Nat->Option Value)(L:List Res)(post:Value->List Res->Prop):Prop:=
 ∀a w (Ds:List Nat) (K:Act->World->Prop),a.defers=Ds.map col++ds->Agrees (get frB) a->St N w0 M ds g (L++Ds.map dob) a w->(∀v w' L',post v L'->Keep M w0 w'->Holds w0.heap.size M (L'++Ds.map dob) w'->K (a.put o.dst v) w')->o.wpIn (FW ro) 0 P a w K Q
theorem HOpB.of{frB:Fr}{post:Value->List Res->Prop}(h:OpT P ro N w0 M ds o g L post):HOpB P ro N w0 M ds Q frB o g L post:=λa w E K _ _ A q=>h a w _ K Q A (λv C L' r m j=>q v C L' r m j)
theorem HOpB.callP{frB:Fr}{G:Operand}{args:Array Operand}{F:Array TypeId}{f:Nat}{vs:List Value}{cap:List Value}{C L1:List Res}{M':Nat->Prop}{post j:Value->List Res->Prop}
  (hC:RemL L C L1)(hM:∀b,M' b->OwnOf C b)
  (hc:∀w X,Keep M w0 w->Holds w0.heap.size M (L++X) w->FnP P f (vs++cap) w M' post j)
  (hp:∀v R,j v R->SyX N w0 M ds (Q (.panic (pch v))) frB (R++L1))
  (T:o.op= .call { callee:=.value G,args:=args,argTypes:=F } :=by exact rfl)(O:ev g G=some (.func (.func f) #[] cap.toArray):=by exact rfl)(ha:evs g args.toList=some vs:=by exact rfl)
  (he:∀args w,(callFunc f args).run P w= .ok (.enter f args) w:=by exact en rfl):HOpB P ro N w0 M ds Q frB o g L (λv L'=>∃R,L'=R++L1/\post v R):=by
 rintro a w J K q m H S;refine zmt T O ha he hC hM hc H (λv I R E A r=>?_) (λv I R E A r=>?_)
 ·exact S v I _ ⟨R,rfl,E⟩ A r
 ·exact hp v R E _ _ ⟨J,q,H.size,m,A,r⟩
def SyH(P:Program)(ro:Option Nat)(N:Nat)(w0:World)(M:Nat->Prop)(ds:List Deferred)(ops:Array Oper)(Q:Exit->Act->World->Prop)(fin:Bool)(frB:Fr)(B:List Res):List (Oper×List Oper)->Fr->List Res->Prop
 | [],fr,L=>(fin=true\/SubR B L)/\SyX N w0 M ds (Q .normal) fr L
 |(o,ls)::rest,fr,L=>SubR B L/\∃post,HOpB P ro N w0 M ds Q frB o (only (o.looksAt ops) (get fr)) L post/\zal ops o (only (o.looksAt ops) (get fr))=some true/\
  ((∃d,o.dst=some d/\d<N/\∀v L',post v L'->SyG P ro N w0 M ds ops B (λfr'=>SyH P ro N w0 M ds ops Q fin frB B rest fr' L') ls ((d,v)::fr))\/(o.dst=none/\ls= []/\∀v L',post v L'->SyH P ro N w0 M ds ops Q fin frB B rest fr L'))
def zdi(ci:List (Nat×List Nat)):List Nat:=ci.flatMap λc=>c.1::c.2
theorem zib(c:Nat×List Nat)(r:List (Nat×List Nat)):zdi (c::r)=c.1::(c.2++zdi r):=rfl
theorem zha{i:Nat}{j:List (Nat×List Nat)} :i∈zdi j↔ ∃c∈j,i=c.1\/i∈c.2:=by
 unfold zdi;simp only[List.mem_flatMap,AS]
def zgo(l:List Oper):List (Nat×List Nat)->List (Oper×List Oper)
 | []=>[]
 |c::r=>match l[c.1]? with
  |none=>zgo l r
  |some o=>(o,zcw l c.2)::zgo l r
theorem zkS{l:List Oper}{c:Nat×List Nat}{o:Oper}(h:l[c.1]?=some o)(r:List (Nat×List Nat)):zgo l (c::r)=(o,zcw l c.2)::zgo l r:=by rw[zgo,h]
def zkB(l:List Oper):List (Nat×List Nat)->Bool
 | []=>true
 |c::r=>zcP l c.2 (zdi r)&&zcZ c.2&&c.2.all (λk=>Nat.blt k l.length&&match l[k]? with
   |none=>false
   |some o=>(pre o).contains c.1 || c.2.any λk'=>(pre o).contains k') && !(c.1::c.2).any (λk=>(zdi r).contains k) && !c.2.contains c.1&&zkB l r
def zrr(l:List Oper)(fi:List Nat)(ci:List (Nat×List Nat)):Bool:=
 zrx l&&ztB l&&zcP l fi (zdi ci)&&zcZ fi&&zek l (ci.map Prod.fst)&&zkB l ci&&(ci.map Prod.fst).all (λi=>Nat.blt i l.length)&&fi.all (λi=>Nat.blt i l.length)&&fi.all (λi=>!(zdi ci).contains i)&&(List.range l.length).all λi=>fi.contains i || (zdi ci).contains i
theorem zhc{l:List Oper} :∀(cl:List (Nat×List Nat)) {j:List (Nat×List Nat)},zkB l (cl++j)=true->zkB l j=true
 | [],_,h=>h
 |c::cl,j,h=>by
  simp only[Ab,zkB,AA] at h;exact zhc cl h.2
structure GOk(l:List Oper)(c:Nat×List Nat)(r:List (Nat×List Nat)):Prop where
 free:zcP l c.2 (zdi r)=true
 nod:zcZ c.2=true
 lt:∀k∈c.2,k<l.length
 pr:∀k∈c.2,∀o,l[k]?=some o->c.1∈pre o\/∃k'∈c.2,k'∈pre o
 past:∀k,k=c.1\/k∈c.2->k∉zdi r
 self:c.1∉c.2
theorem zmm{l:List Oper}{c:Nat×List Nat}{r:List (Nat×List Nat)}(h:zkB l (c::r)=true):GOk l c r:=by
 simp only[zkB,AA,B3] at h;obtain⟨⟨⟨⟨⟨C,E⟩,q⟩,w⟩,A⟩,G⟩:=h;refine⟨C,E,λk j=>?_,λk j o F=>?_,λk j m=>?_,λm=>?_⟩
 ·have:=AL.1 q k j;simp only[AA] at this;exact zaQ.1 this.1
 ·have:=AL.1 q k j;simp only[AA,F,Be,DY,B4,decide_eq_true_eq] at this;exact this.2
 ·rw[DM] at w;have:=w k (by rcases j with rfl|j;exact A3;exact A4 _ j);simp only[B4,decide_eq_true_eq] at this;exact this m
 ·simp only[B4,decide_eq_false_iff_not] at A;exact A m
def zvu(l:List Oper)(ci:List (Nat×List Nat)):Bool:=match ci.getLast? with
 |none=>false
 |some c=>match l[c.1]? with
  |none=>false
  |some o=>(List.range l.length).all λj=>Nat.beq j c.1 || (pre o).contains j
def zy1(l:List Oper)(frB:List Nat):Bool:=l.all λo=>match o.dst with
 |none=>true
 |some t=>!frB.contains t
theorem zt1{id:Nat}{l:List Oper}(fin:Bool)(frB:Fr)(fi:List Nat)(ci:List (Nat×List Nat))(hm:P.follows .mixedOrders=true)(l6:Sub frB fr)(h9:(zrr l fi ci&&zy1 l (frB.map Prod.fst)&&(!fin || zvu l ci))=true)(h:SyG P ro N w0 M ds l.toArray B (λR=>SyH P ro N w0 M ds l.toArray Q fin frB B (zgo l ci) R L) (zcw l fi) fr):Sy P ro N w0 M ds (.region id l.toArray true) Q fr L:=by
 simp only[zrr,AA] at h9;obtain⟨⟨⟨⟨⟨⟨⟨⟨⟨⟨⟨j9,i5⟩,c2⟩,l4⟩,e9⟩,hG⟩,h8⟩,k6⟩,i7⟩,h7⟩,k5⟩,U⟩:=h9;have l1:∀(i:Nat) (o:Oper) (d:Nat),l[i]?=some o->o.dst=some d->get frB d=none:=by
  intro i o d I Z;have G:=AL.1 k5 o (BY I);rw[Z] at G;simp only[B4,B3,decide_eq_false_iff_not] at G;have:∀f:Fr,d∉f.map Prod.fst->get f d=none:=by
   intro f
   induction f with
   |nil=>intro _;rfl
   |cons p f ih=>
    intro hn;obtain⟨t,u⟩:=p;rw[Aw,AS] at hn;rw[zbP (λe=>hn (.inl e.symm))];exact ih (λhm=>hn (.inr hm))
  exact this frB G
 obtain⟨h5,j5,j6,j4⟩:=zkv fi (zdi ci) [] fr (λi hi=>zaQ.1 (AL.1 k6 i hi)) c2 (λi hi=>by cases hi) l4 h;have e6:∀(i:Nat) (o:Oper),l[i]?=some o->∀(j:Nat) (E:Oper) (t:Nat),l[j]?=some E->E.dst=some t->(o.looksAt l.toArray).contains t=true->j∈pre o:=by
  intro i o I j E t m ht l2;have G:=AL.1 i5 i (Ay.2 (AU.1 I).1);rw[I] at G;have h2:=AL.1 G j (Ay.2 (AU.1 m).1);rw[m] at h2;simp only[Ac,ht,l2,Dc,BL] at h2;simpa [B4] using h2
 have a8:∀ {fi ci:List Nat},zcP l fi ci=true->∀k∈fi,zdh l k ci=true:=by
  intro fi ci
  induction fi with
  |nil=>intro _ k A;cases A
  |cons x fi ih=>
   intro h k A;simp only[zcP,AA] at h;rcases AS.1 A with rfl|A
   ·exact zeh _ _ h.1 (λy hy=>A4 _ (AX _ hy))
   ·exact ih h.2 k A
 refine zod (J:=λb R L'=>∃cl cr H,∃Fs:List Nat,ci=cl++cr/\(∀c∈cl,b c.1=true)/\(∀c∈cr,b c.1=false/\∀k∈c.2,b k=false)/\SyH P ro N w0 M ds l.toArray Q fin frB B (zgo l cr) H L'/\(∀i∈Fs,∀o,l[i]?=some o->FG P ro N w0 M ds l.toArray B H o/\zdh l i (zdi cr)=true/\i∉zdi cr)/\(∀i∈fi,i∈Fs)/\(∀c∈cl,∀k∈c.2,k∈Fs)/\(∀j o,l[j]?=some o->b j=true->∀q∈pre o,b q=true)/\Sub frB R/\∀t,(∀j o,l[j]?=some o->o.dst=some t->b j=true)->∀v,get H t=some v->get R t=some v) hm j9 ?_ ?_ ?_
 ·refine⟨[],ci,h5,fi,rfl,(λc C=>by cases C),(λ_ _=>⟨rfl,λ_ _=>rfl⟩),j4,λi hi o I=>⟨j6 i (.inr hi) o I,a8 c2 i hi,λhm=>?_⟩,λi hi=>hi,(λc C=>by cases C),(λ_ _ _ h=>by cases h),l6,λt ht v hv=>?_⟩
  ·have:=AL.1 i7 i hi;simp only[B4,B3,decide_eq_false_iff_not] at this;exact this hm
  ·rw[j5 t (λi hi o I e=>by have:=ht i o I e;cases this)] at hv;exact hv
 ·rintro b R L' i o I b1 j1 ⟨cl,cr,H,Fs,S,b2,W,hC,a9,c3,b9,b7,c6,b0⟩;have V:∀j∈pre o,b j=true:=λj hj=>AL.1 j1 j hj;have c7:∀a:Act,Agrees (get R) a->Agrees (only (o.looksAt l.toArray) (get H)) a:=λa ha t v hv=>by
   unfold only at hv;cases C:(o.looksAt l.toArray).contains t with
   |false=>rw[C] at hv;simp at hv
   |true=>
    rw[C] at hv;exact ha t v (b0 t (λj E m Z=>V j (e6 i o I j E t m Z C)) v hv)
  have a6:∀j E,l[j]?=some E->(b j || Nat.beq j i)=true->∀q∈pre E,(b q || Nat.beq q i)=true:=λj E m hj q hq=>by
   rcases Ej.1 hj with h|h
   ·rw[b7 j E m h q hq];rfl
   ·have:j=i:=C3 h;subst this;rw[I] at m;cases m;rw[V q hq];rfl
  have e3:∀d v,o.dst=some d->Sub frB ((d,v)::R):=λd v Z t u hu=>by
   have a7:d≠t:=λe=>by rw[<-e,l1 i o d I Z] at hu;cases hu
   rw[zbP a7];exact c6 t u hu
  have k8:i∈Fs\/∃c∈cr,i=c.1:=by
   have:=AL.1 h7 i (Ay.2 (AU.1 I).1);simp only[Be,B4,decide_eq_true_eq] at this;rcases this with h|h
   ·exact .inl (c3 i h)
   ·obtain⟨c,C,X⟩:=zha.1 h;rw[S] at C;rcases Ao.1 C with C|C
    ·rcases X with rfl|X
     ·rw[b2 c C] at b1;cases b1
     ·exact .inl (b9 c C i X)
    ·rcases X with rfl|X
     ·exact .inr ⟨c,C,rfl⟩
     ·exfalso;obtain⟨p,q,rfl⟩:=List.append_of_mem C;have hg:=zmm (zhc p (zhc cl (by rw[<-S];exact hG)));rcases hg.pr i X o I with G|⟨k',l0,G⟩
      ·have:=V c.1 G;rw[(W c C).1] at this;cases this
      ·have:=V k' G;rw[(W c C).2 k' l0] at this;cases this
  rcases k8 with k9|⟨c,c9,X⟩
  ·obtain⟨⟨d,v,Z,e5,hv,hstep⟩,l7,j0⟩:=a9 i k9 o I;have e4:SubR B L':=by
    cases hcr0:zgo l cr with
    |nil=>
     rw[hcr0] at hC;rcases hC.1 with hf|hf
     ·exfalso;have c5:cr= []:=by
       cases cr with
       |nil=>rfl
       |cons c r=>
        have b6:c.1<l.length:=zaQ.1 (AL.1 h8 c.1 (by rw[S];exact Dp (AX _ A3)));rw[zkS (A1 b6)] at hcr0;cases hcr0
      subst c5;rw[hf] at U;simp only[Dc,BL,zvu] at U;rw[AG] at S;split at U
      ·cases U
      ·rename_i c e7;split at U
       ·cases U
       ·rename_i E m;have e0:c∈cl:=by rw[<-S];exact List.mem_of_getLast? e7
        have G:=AL.1 U i (Ay.2 (AU.1 I).1);rcases Ej.1 G with G|G
        ·have:i=c.1:=C3 G;rw[this,b2 c e0] at b1;cases b1
        ·have h2:=b7 c.1 E m (b2 c e0) i (by simpa [B4] using G);rw[h2] at b1;cases b1
     ·exact hf
    |cons E r=>rw[hcr0] at hC;exact hC.1
   obtain⟨Y,hY⟩:=e4.perm;rintro a w K ⟨Ds,c1,hs⟩ hK;have b3:St N w0 M ds (only (o.looksAt l.toArray) (get H)) (B++(Y++Ds.map dob)) a w:=⟨hs.size,c7 a hs.agr,hs.keep,hs.hold.perm (by rw[<-AH];exact Aj _ hY)⟩;have fin:∀w',Keep M w0 w'->Holds w0.heap.size M (L'++Ds.map dob) w'->K (a.put (some d) v) w':=by
    intro w' A k7;refine hK ((d,v)::R) L' _ _ ⟨cl,cr,H,Fs,S,λc C=>(by show(b c.1 || Nat.beq c.1 i)=true;rw[b2 c C];rfl),λc C=>?_,hC,a9,c3,b9,a6,e3 d v Z,λt ht u hu=>?_⟩ ⟨Ds,c1,hs.put e5 v A k7⟩
    ·have a7:∀k,k=c.1\/k∈c.2->Nat.beq k i=false:=λk A=>zaV.2 (λe=>j0 (zha.2 ⟨c,C,by rw[<-e];exact A⟩));refine⟨?_,λk A=>?_⟩
     ·show(b c.1 || Nat.beq c.1 i)=false;rw[(W c C).1,BL,a7 _ (.inl rfl)]
     ·show(b k || Nat.beq k i)=false;rw[(W c C).2 k A,BL,a7 _ (.inr A)]
    ·by_cases e:d=t
     ·subst e;rw[zdO];rw[hv] at hu;exact hu
     ·rw[zbP e];refine b0 t (λj E m T=>?_) u hu;have:(b j || Nat.beq j i)=true:=ht j E m T;have c4:j≠i:=λe'=>by subst e';rw[I] at m;cases m;rw[Z] at T;exact e (Am T)
      rwa[zaV.2 c4,CW] at this
   rcases hstep with ⟨hw,f9⟩|⟨hw,rfl⟩
   ·rw[if_pos (zbu b3.agr hw)];refine f9 a w _ K Q b3 λv' w' b4 ⟨e1,e2⟩ A hh=>?_;subst e1;subst e2;rw[Z];exact fin w' A (hh.perm (by rw[<-AH];exact Aj _ hY.symm))
   ·rw[if_neg (by rw[zbu b3.agr hw];decide),Z];exact⟨λ_ _=>by cases ro <;> trivial,fin w hs.keep hs.hold⟩
  ·obtain⟨F,O,rfl⟩:∃c O,cr=c::O:=by cases cr with
    |nil=>cases c9
    |cons c r=>exact⟨c,r,rfl⟩
   have i8:i=F.1:=by
    rcases AS.1 c9 with h|h
    ·rw[X,h]
    ·obtain⟨p,hp,E,m,l5⟩:=zgG (l:=l) (c:=F.1) (m:=O.map Prod.fst) (zgK (cl.map Prod.fst) (by
      have:=e9;rw[S,Aq,Aw] at this;exact this)) i (by rw[X];exact Dp h)
     rw[I] at m;cases m;have G:=V p l5;have:p∈(F::O).map Prod.fst:=hp;obtain⟨c',k0,rfl⟩:=C4.1 this;rw[(W c' k0).1] at G;cases G
   subst i8;have hg:=zmm (zhc cl (by rw[<-S];exact hG));rw[zkS I] at hC;obtain⟨e4,post,f9,hw,j2⟩:=hC;rintro a w K ⟨Ds,c1,hs⟩ hK;have b3:St N w0 M ds (only (o.looksAt l.toArray) (get H)) (L'++Ds.map dob) a w:=⟨hs.size,c7 a hs.agr,hs.keep,hs.hold⟩;rw[if_pos (zbu b3.agr hw)];refine f9 a w Ds K c1 (λt u hu=>hs.agr t u (c6 t u hu)) b3 λv w' b4 hp A hh=>?_;have d8:∀c∈cl++[F],(b c.1 || Nat.beq c.1 F.1)=true:=λc C=>by
    rcases Ao.1 C with h|h
    ·rw[b2 c h];rfl
    ·rw[AE.1 h,EI,Dr]
   have a7:∀k,k∈zdi O->Nat.beq k F.1=false:=λk A=>zaV.2 (λe=>hg.past F.1 (.inl rfl) (e ▸ A));have d9:∀c∈O,(b c.1 || Nat.beq c.1 F.1)=false/\∀k∈c.2,(b k || Nat.beq k F.1)=false:=λc C=>by
    refine⟨?_,λk A=>?_⟩
    ·rw[(W c (A4 _ C)).1,BL];exact a7 _ (zha.2 ⟨c,C,.inl rfl⟩)
    ·rw[(W c (A4 _ C)).2 k A,BL];exact a7 _ (zha.2 ⟨c,C,.inr A⟩)
   have c8:ci=(cl++[F])++O:=by rw[S,AH];rfl
   have e8:∀k∈F.2,(b k || Nat.beq k F.1)=false:=λk A=>by
    rw[(W F A3).2 k A,BL];exact zaV.2 (λe=>hg.self (e ▸ A))
   rcases j2 with ⟨d,Z,e5,f8⟩|⟨Z,l3,f8⟩
   ·rw[Z];have b8:∀k∈Fs,∀E,l[k]?=some E->FG P ro N w0 M ds l.toArray B ((d,v)::H) E/\zdh l k (F.2++zdi O)=true/\k∉F.2:=λk A E m=>by
     obtain⟨G,h2,h3⟩:=a9 k A E m;rw[zib] at h2 h3;have h4:=zdM m h2 A3 I Z;refine⟨G.cons h4.1 (h4.2 (λe=>h3 (by rw[e];exact A3))),zeh _ _ h2 (λx hx=>A4 _ hx),λhm=>h3 (A4 _ (AM _ hm))⟩
    obtain⟨j3,j7,h6,j8⟩:=zkv F.2 (zdi O) Fs ((d,v)::H) hg.lt hg.free b8 hg.nod (f8 v b4 hp);refine hK ((d,v)::R) b4 _ _ ⟨cl++[F],O,j3,Fs++F.2,c8,d8,d9,j8,λk A E m=>?_,λk A=>AM _ (c3 k A),λc C k A=>?_,a6,e3 d v Z,λt ht u hu=>?_⟩ ⟨Ds,c1,hs.put e5 v A hh⟩
    ·rcases Ao.1 A with h|h
     ·refine⟨h6 k (.inl h) E m,zeh _ _ (b8 k h E m).2.1 (λx hx=>AX _ hx),λhm=>(a9 k h E m).2.2 ?_⟩;rw[zib];exact A4 _ (AX _ hm)
     ·exact⟨h6 k (.inr h) E m,a8 hg.free k h,hg.past k (.inr h)⟩
    ·rcases Ao.1 C with h|h
     ·exact AM _ (b9 c h k A)
     ·rw[AE.1 h] at A;exact AX _ A
    ·rw[j7 t (λk A E m e=>by
      have G:(b k || Nat.beq k F.1)=true:=ht k E m e;rw[e8 k A] at G;cases G)] at hu
     by_cases e:d=t
     ·subst e;rw[zdO] at hu ⊢;exact hu
     ·rw[zbP e] at hu ⊢;refine b0 t (λj E m T=>?_) u hu;have:(b j || Nat.beq j F.1)=true:=ht j E m T;have c4:j≠F.1:=λe'=>by subst e';rw[I] at m;cases m;rw[Z] at T;exact e (Am T)
      rwa[zaV.2 c4,CW] at this
   ·rw[Z];have i9:∀k∈F.2,False:=λk A=>by
     have G:=hg.lt k A;have h2:zcw l F.2≠[]:=by
      cases hc2:F.2 with
      |nil=>rw[hc2] at A;cases A
      |cons x r=>
       have hx:x<l.length:=hg.lt x (by rw[hc2];exact A3);rw[zgi (A1 hx)];exact λe=>by cases e
     exact h2 l3
    refine hK R b4 _ _ ⟨cl++[F],O,H,Fs,c8,d8,d9,f8 v b4 hp,λk A E m=>?_,c3,λc C k A=>?_,a6,c6,λt ht u hu=>?_⟩ ⟨Ds,c1,hs.put_none A hh⟩
    ·obtain⟨G,h2,h3⟩:=a9 k A E m;rw[zib] at h2 h3;exact⟨G,zeh _ _ h2 (λx hx=>A4 _ (AX _ hx)),λhm=>h3 (A4 _ (AX _ hm))⟩
    ·rcases Ao.1 C with h|h
     ·exact b9 c h k A
     ·rw[AE.1 h] at A;exact(i9 k A).elim
    ·refine b0 t (λj E m T=>?_) u hu;have:(b j || Nat.beq j F.1)=true:=ht j E m T;have c4:j≠F.1:=λe'=>by subst e';rw[I] at m;cases m;rw[Z] at T;cases T
     rwa[zaV.2 c4,CW] at this
 ·rintro b R L' b5 ⟨cl,cr,H,Fs,S,b2,W,hC,a9,c3,b9,b7,c6,b0⟩;have c5:cr= []:=by
   cases cr with
   |nil=>rfl
   |cons c r=>
    have b6:c.1<l.length:=zaQ.1 (AL.1 h8 c.1 (by rw[S];exact Dp (AX _ A3)));have:=(W c A3).1;rw[b5 c.1 b6] at this;cases this
  subst c5;exact hC.2.weaken (λt v hv=>b0 t (λj o I _=>b5 j (AU.1 I).1) v hv) Ex
theorem zdy{id:Nat}{l:List Oper}(A:List Nat)(fin:Bool)(frB:Fr)(m:List Nat)(j:List (Nat×List Nat))(hm:P.follows .mixedOrders=true)(w:Sub frB fr)(r:(zrr l m j&&zy1 l (frB.map Prod.fst)&&(!fin || zvu l j))=true)(h:SyG P ro N w0 M ds l.toArray (zne A L) (λq=>SyH P ro N w0 M ds l.toArray Q fin frB (zne A L) (zgo l j) q L) (zcw l m) fr):Sy P ro N w0 M ds (.region id l.toArray true) Q fr L:=zt1 fin frB m j hm w r h
variable {fin:Bool}{frB:Fr}{K:Fr->Prop}{rest:List Oper}{cs:List (Oper×List Oper)}{ls:List Oper}{d:Nat}{v:Value}{L':List Res}
theorem ygv(h:OpT P ro N w0 M ds o (only (o.looksAt ops) (get fr)) B (Det v B))(q:zal ops o (only (o.looksAt ops) (get fr))=some true:=by exact rfl)(m:o.dst=some d:=by exact rfl)(j:Nat.blt d N=true:=by exact rfl)
  (k:SyG P ro N w0 M ds ops B K rest ((d,v)::fr)):SyG P ro N w0 M ds ops B K (o::rest) fr:=⟨d,v,m,A5 j,.inl ⟨q,h⟩,k⟩
theorem ygn(q:zal ops o (only (o.looksAt ops) (get fr))=some false:=by exact rfl)(m:o.dst=some d:=by exact rfl)(j:Nat.blt d N=true:=by exact rfl)
  (k:SyG P ro N w0 M ds ops B K rest ((d,undef)::fr)):SyG P ro N w0 M ds ops B K (o::rest) fr:=⟨d,undef,m,A5 j,.inr ⟨q,rfl⟩,k⟩
theorem yg0(k:K fr):SyG P ro N w0 M ds ops B K [] fr:=k
theorem yhs{post:Value->List Res->Prop}(h:OpT P ro N w0 M ds o (only (o.looksAt ops) (get fr)) L post)(w:zal ops o (only (o.looksAt ops) (get fr))=some true:=by exact rfl)(r:o.dst=some d:=by exact rfl)(q:Nat.blt d N=true:=by exact rfl)(m:SubR B L:=by first|(focus ((repeat (first|exact Ex|apply F5));done))|exact FL)
  (k:∀v L',post v L'->SyG P ro N w0 M ds ops B (λj=>SyH P ro N w0 M ds ops Q fin frB B cs j L') ls ((d,v)::fr)):SyH P ro N w0 M ds ops Q fin frB B ((o,ls)::cs) fr L:=⟨m,post,HOpB.of h,w,.inl ⟨d,r,A5 q,k⟩⟩
theorem yhv(h:OpT P ro N w0 M ds o (only (o.looksAt ops) (get fr)) L (Det v L'))(C:zal ops o (only (o.looksAt ops) (get fr))=some true:=by exact rfl)(A:o.dst=some d:=by exact rfl)(w:Nat.blt d N=true:=by exact rfl)(r:SubR B L:=by first|(focus ((repeat (first|exact Ex|apply F5));done))|exact FL)
  (k:SyG P ro N w0 M ds ops B (λj=>SyH P ro N w0 M ds ops Q fin frB B cs j L') ls ((d,v)::fr)):SyH P ro N w0 M ds ops Q fin frB B ((o,ls)::cs) fr L:=yhs h C A w r λ_ _ ⟨m,q⟩=>by subst m;subst q;exact k
theorem yhn(h:OpT P ro N w0 M ds o (only (o.looksAt ops) (get fr)) L (Det v L'))(w:zal ops o (only (o.looksAt ops) (get fr))=some true:=by exact rfl)(r:o.dst=none:=by exact rfl)(q:SubR B L:=by first|(focus ((repeat (first|exact Ex|apply F5));done))|exact FL)
  (k:SyH P ro N w0 M ds ops Q fin frB B cs fr L'):SyH P ro N w0 M ds ops Q fin frB B ((o,[])::cs) fr L:=⟨q,Det v L',HOpB.of h,w,.inr ⟨r,rfl,λ_ _ ⟨j,m⟩=>by subst j;subst m;exact k⟩⟩
theorem yhp{r:Operand}{args:Array Operand}{q:Array TypeId}{f:Nat}{vs:List Value}{cap:List Value}{C L1:List Res}{M':Nat->Prop}{post j:Value->List Res->Prop}
  (hC:RemL L C L1)(hM:∀b,M' b->OwnOf C b)
  (hc:∀w X,Keep M w0 w->Holds w0.heap.size M (L++X) w->FnP P f (vs++cap) w M' post j)
  (hp:∀v R,j v R->SyX N w0 M ds (Q (.panic (pch v))) frB (R++L1))
  (H:o.op= .call { callee:=.value r,args:=args,argTypes:=q } :=by exact rfl)(G:ev (only (o.looksAt ops) (get fr)) r=some (.func (.func f) #[] cap.toArray):=by exact rfl)(ha:evs (only (o.looksAt ops) (get fr)) args.toList=some vs:=by exact rfl)
  (he:∀args w,(callFunc f args).run P w= .ok (.enter f args) w:=by exact en rfl)
  (J:zal ops o (only (o.looksAt ops) (get fr))=some true:=by exact rfl)(F:o.dst=some d:=by exact rfl)(E:Nat.blt d N=true:=by exact rfl)(A:SubR B L:=by first|(focus ((repeat (first|exact Ex|apply F5));done))|exact FL)
  (k:∀v R,post v R->SyG P ro N w0 M ds ops B (λm=>SyH P ro N w0 M ds ops Q fin frB B cs m (R++L1)) ls ((d,v)::fr)):SyH P ro N w0 M ds ops Q fin frB B ((o,ls)::cs) fr L:=
 ⟨A,_,HOpB.callP hC hM hc hp H G ha he,J,.inl ⟨d,F,A5 E,λ_ _ ⟨_,e,I⟩=>by subst e;exact k _ _ I⟩⟩
theorem yh0(k:SyX N w0 M ds (Q .normal) fr L)(j:SubR B L:=by first|(focus ((repeat (first|exact Ex|apply F5));done))|exact FL):SyH P ro N w0 M ds ops Q fin frB B [] fr L:=⟨.inr j,k⟩
theorem zin(k:SyX N w0 M ds (Q .normal) fr L):SyH P ro N w0 M ds ops Q true frB B [] fr L:=⟨.inl rfl,k⟩
end Go.Sy
namespace Go.Ct
open Go Go.Sy
def _root_.Go.Sy.Bs.pre(s:Bs)(y:Nat):Bs:=⟨s.a,y,s.c,s.l.take y⟩
theorem Rsub.pre(s:Bs){y:Nat}(m:y<=s.n):Rsub s (s.pre y):=λw h=>by
 have q:=h.cap;refine⟨?_,?_,?_,h.nil⟩
 ·show(s.l.take y).length=y;rw[AR,h.len,BM m]
 ·show y<=s.c;omega
 ·have j:=(Fc h.sla).take y;rw[<-C9] at j;exact j.sla
theorem zyI{s:Bs}(h:s.l.length=s.n){x:Nat} :(s.sub x s.n).l=s.l.drop x:=by
 show(s.l.take s.n).drop x=_;rw[<-h,Bw]
end Go.Ct
namespace Go.Proofs.YtdnlngbjpdbffaaGreatDoor
open Go Go.Sy Go.Ct Go.RowKit
attribute [local irreducible] Sy SyL SyX SyC SyF SyG SyH Sy.Fn Sy.FnP callFunc
def zvL(s:Bs)(ls:List (List UInt8))(v:Value)(R:List Res):Prop:=∃a c,∃xs:List Bs,v= .slice a xs.length c/\R= [.row (.slice a xs.length c) 23 1 xs.length (xs.map Bs.val)]/\xs.map (·.l)=ls/\xs.length<=s.n/\∀x∈xs,Rsub s x/\0<x.n/\x.n<=s.n
theorem zmE(s:Bs)(w:World)(Z:s.ok w)(hb:s.n<1000000):Sy.Fn Tryz.prog 45 [s.val] w No (zvL s (zb5 s.l)):=by
 refine zt Tryz.func45 Tryz.ntmps45 ?_;have hv:s.val= .slice s.a s.n s.c:=rfl;rw[hv];repeat' (first|refine s_t ?_|refine zD [0,1] ?_;refine zb ?_)
 refine zbz (za3 23 1) ?_;refine zN (γ:=Bs×List Bs×Option Addr×Nat) (λg=>[(0,.slice g.1.a g.1.n g.1.c),(3,.slice g.2.2.1 g.2.1.length g.2.2.2)])
  (λg=>[.row (.slice g.2.2.1 g.2.1.length g.2.2.2) 23 1 g.2.1.length (g.2.1.reverse.map Bs.val)])
  (λg=>Rsub s g.1/\g.2.1.length+g.1.n<=s.n/\zb5 s.l=g.2.1.reverse.map (·.l)++zb5 g.1.l/\∀x∈g.2.1,Rsub s x/\0<x.n/\x.n<=s.n) (λg=>g.1.n) (s,[],none,0) ⟨Rsub.refl,by simp,rfl,λ_ h=>by cases h⟩ ?_ ?_ ?_
 ·exact q_h
 ·exact q_h
 rintro⟨j,F,U,W⟩ ⟨m,Y,r,C⟩;dsimp only at m Y r C ⊢;have q:=m w Z;have E:=q.len;have O:=λS (X:Keep No w S)=>zmQ j S (q.keep X) q_o;have H:j.val= .slice j.a j.n j.c:=rfl;rw[H] at O;repeat' (first|refine s_t ?_|refine q_k 2 ?_;(refine q_s (zi (hc:=zu O)) ?_;rintro _ _ ⟨R,rfl,rfl,(⟨G,rfl⟩|⟨x,y,t,G,rfl⟩)⟩);refine zb ?_|(refine zy ?_;first|refine zw ?_|refine zY ?_|refine zaR ?_|fail)|fail)
 ·have g:decide ((0:Int)=0)=true:=rfl;repeat' (first|refine s_0 ?_|refine q_k 3 ?_;refine q_v (zS (hr:=g)) ?_|refine q_k 4 ?_)
  rw[zhQ G,AG] at r;exact zap rfl (zh rfl) Ex ⟨U,W,F.reverse,by rw[Bz],by rw[Bz];rfl,r.symm,by rw[Bz];omega,λx hx=>C x (Da.1 hx)⟩
 ·have A:=zjA G;rw[E] at A;have g:decide ((y:Int)=0)=false:=q_f;have J:=q.cap;have hys:F.reverse.map Bs.val++[.slice j.a y j.c]=((⟨j.a,y,j.c,j.l.take y⟩::F).reverse).map Bs.val:=by rw[Cj,Aq];rfl
  repeat' (first|refine s_0 ?_|refine q_k 3 ?_;refine q_v (zS (hr:=g)) ?_|refine q_k 5 ?_;refine zbN ?_;(refine q_s zz ?_;rintro _ _ ⟨_,rfl,rfl⟩);(refine q_s (zaE (hys:=hys) (hkm:=rfl)) ?_;rintro _ _ ⟨rfl,T,V,rfl⟩);refine zb ?_|refine q_k 6 ?_;refine zbN ?_;refine zb ?_)
  refine zE (j.sub y j.n,j.pre y::F,T,V) ⟨m.trans (Rsub.sub j A.2.2 (A6 _)),?_,?_,?_⟩ ?_ ?_ ?_
  ·show(F.length+1)+(j.n-y)<=s.n;omega
  ·rw[r,zhU G,Cj,Aq,AH];show _=_++([(j.pre y).l]++zb5 (j.sub y j.n).l);rw[zyI E];rfl
  ·intro z I;rcases AS.1 I with rfl|I
   ·exact⟨m.trans (Rsub.pre j A.2.2),by show 0<y;omega,by show y<=s.n;omega⟩
   ·exact C z I
  ·show j.n-y<j.n;omega
  ·exact q_h
  ·exact q_h
theorem zp2{t:Nat} :∀(ls:List (List UInt8)) (i:Nat) (j:i<ls.length),(∀x∈ls.take i,(x.headD 0).toNat≠t)->(ls[i].headD 0).toNat=t->pick t ls=zaL ls[i]
 |x::ls,0,_,_,h=>by
  have m:(x.headD 0).toNat=t:=h;rw[pick,if_pos m];rfl
 |x::ls,i+1,j,hn,h=>by
  rw[pick,if_neg (hn x q_p)];exact zp2 ls i (by simpa using j) (λy q=>hn y (by rw[By];exact A4 _ q)) h
theorem zma{t:Nat} :∀(ls:List (List UInt8)),(∀x∈ls,(x.headD 0).toNat≠t)->pick t ls= []
 | [],_=>rfl
 |x::ls,h=>by
  rw[pick,if_neg (h x A3)];exact zma ls (λy j=>h y (A4 _ j))
theorem zgJ(s:Bs)(n:Nat)(w:World)(hs:s.ok w)(hb:s.n<1000000)(hn:n<=30):Sy.Fn Tryz.prog 94 [s.val,.int .i64 (n:Int)] w No (zd0 s (item s.l n)):=by
 refine zt Tryz.func94 Tryz.ntmps94 ?_;have hv:s.val= .slice s.a s.n s.c:=rfl;have hc:=λI (X:Keep No w I)=>zdH s I (hs.keep X) q_o;rw[hv] at hc ⊢;unfold zd0 at hc;have g0:IntKind.i64.wrap (160+(n:Int))=((160+n:Nat):Int):=q_w;repeat' (first|refine s_0 ?_|refine q_k 0 ?_|refine q_k 1 ?_;(refine q_s (zi (hc:=zu hc)) ?_;rintro _ _ ⟨R,rfl,s1,rfl,a7,q,b6,rfl⟩))
 have Y:=q w hs;have he:=λI (X:Keep No w I)=>zmE s1 I (Y.keep X) q_o;unfold zvL at he;have b0:s1.val= .slice s1.a s1.n s1.c:=rfl;rw[b0] at he ⊢;repeat' (first|refine s_t ?_|refine q_k 2 ?_|(refine zy ?_;first|refine q_s (zi (hc:=zu he)) ?_;rintro _ _ ⟨R,rfl,aE,cE,xs,rfl,rfl,b3,b9,b5⟩|refine zw ?_|fail)|fail)
 have a6:item s.l n=pick (160+n) (xs.map (·.l)):=by rw[b3,a7];rfl
 rw[a6];obtain⟨m,hm⟩:∃m,m=xs.length:=⟨_,rfl⟩;rw[<-hm];refine zgX (a:=aE) (cp:=cE) (E:=23) (s:=1) (n:=m) (xs:=xs.map Bs.val) (by exact Es) λr hr=>?_;refine zN (γ:=Nat) (λi=>[(1,.int .i64 (n:Int)),(5,.slice aE m cE),(6,.int .i64 (i:Int))]) (λ_=>[r]) (λi=>i<=m/\∀x∈(xs.map (·.l)).take i,(x.headD 0).toNat≠160+n) (λi=>m-i) 0 ⟨A9 _,λ_ h=>by cases h⟩ ?_ ?_ ?_
 ·exact q_h
 ·exact q_h
 rintro i ⟨hi,G⟩;by_cases hlt:i<m
 ·have g1:decide ((i:Int)<(m:Int))=true:=q_d;have g5:IntKind.i64.wrap ((i:Int)+1)=((i+1:Nat):Int):=q_w;obtain⟨x,hx⟩:∃x,x=xs[i]'q_o:=⟨_,rfl⟩;have b4:x∈xs:=by rw[hx];exact Ad _
  obtain⟨Z,b7,b8⟩:=b5 x b4;have C:=Z w Y;obtain⟨bE,J,rfl,rfl⟩:=hr q_o;have H:(xs.map Bs.val++J)[0+i]?=some (.slice x.a x.n x.c):=by rw[AZ,BO (by rw[A0];omega),AY,A1 q_o,<-hx];rfl
  have S:(xs.map (·.l))[i]'(by rw[A0];omega)=x.l:=by rw[EE,<-hx]
  have A:=C.len;obtain⟨y,rr,T⟩:∃y r,x.l=y::r:=by
   cases h:x.l with
   |nil=>rw[h] at A;simp at A;omega
   |cons y r=>exact⟨y,r,rfl⟩
  obtain⟨bx,ox,b2,O⟩:=zb2 C.sla (i:=0) (by rw[T];simp);have V:w.cell? ⟨bx,ox+0,none⟩=some (.int .u8 (y.toNat:Int)):=O 0 _ (by rw[T];rfl);have c0:=y.toNat_lt;have g2:IntKind.i64.wrap (y.toNat:Int)=(y.toNat:Int):=IntWalk.i64_in _ q_o;have F:=λI (X:Keep No w I)=>zdH x I (C.keep X) q_o;unfold zd0 at F;have b1:x.val= .slice x.a x.n x.c:=rfl;rw[b1] at F;have W:((x.l).headD 0).toNat=y.toNat:=by rw[T];rfl
  rw[b2] at H F;by_cases hy:y.toNat=160+n
  ·have g3:decide ((y.toNat:Int)=((160+n:Nat):Int))=true:=q_d;have a8:pick (160+n) (xs.map (·.l))=zaL x.l:=by
    have:=zp2 (xs.map (·.l)) i (by rw[A0];omega) G (by rw[S,W,hy]);rwa[S] at this
   rw[a8];repeat' (first|refine s_t ?_|refine q_k 3 ?_;refine q_v (zo (hr:=g1)) ?_|refine q_k 5 ?_;refine q_v (zq (j:=i)) ?_;refine q_v (zL (hv:=H)) ?_;refine q_v (zq (j:=0)) ?_;refine q_v (zn (hv:=V)) ?_;refine q_x (zam (hr:=g2)) ?_;refine q_v (zF (hr:=g0)) ?_;refine q_v (zS (hr:=g3)) ?_|refine q_k 6 ?_;refine q_v (zq (j:=i)) ?_;refine q_v (zL (hv:=H)) ?_;(refine q_s (zi (hc:=zu F)) ?_;rintro _ _ ⟨R,rfl,s2,rfl,q1,q2,q3,rfl⟩);refine zb ?_)
   exact zap rfl (zh rfl) Er ⟨s2,rfl,q1,(q.trans Z).trans q2,by omega,rfl⟩
  ·have g3:decide ((y.toNat:Int)=((160+n:Nat):Int))=false:=q_f;repeat' (first|refine s_t ?_|refine q_k 3 ?_;refine q_v (zo (hr:=g1)) ?_|refine q_k 5 ?_;refine q_v (zq (j:=i)) ?_;refine q_v (zL (hv:=H)) ?_;refine q_v (zq (j:=0)) ?_;refine q_v (zn (hv:=V)) ?_;refine q_x (zam (hr:=g2)) ?_;refine q_v (zF (hr:=g0)) ?_;refine q_v (zS (hr:=g3)) ?_|refine q_k 4 ?_;refine q_x (zF (hr:=g5)) ?_)
   refine zE (i+1) ⟨hlt,λz U=>?_⟩ ?_ ?_ ?_
   ·have a9:(xs.map (·.l)).take (i+1)=(xs.map (·.l)).take i++[x.l]:=by rw[zaO (by rw[A0];omega),S]
    rw[a9] at U;rcases Ao.1 U with U|U
    ·exact G z U
    ·rw[AE.1 U,W];exact hy
   ·show m-(i+1)<m-i;omega
   ·exact q_h
   ·exact q_h
 obtain rfl:i=m:=q_o;have g1:decide ((i:Int)<(i:Int))=false:=q_f;rw[A8 (by rw[A0];omega)] at G;rw[zma _ G];repeat' (first|refine s_0 ?_|refine q_k 3 ?_;refine q_v (zo (hr:=g1)) ?_|refine q_k 7 ?_)
 exact zap rfl (zh rfl) Er ⟨zrs,rfl,rfl,Rsub.none s,A9 _,rfl⟩
end Go.Proofs.YtdnlngbjpdbffaaGreatDoor
