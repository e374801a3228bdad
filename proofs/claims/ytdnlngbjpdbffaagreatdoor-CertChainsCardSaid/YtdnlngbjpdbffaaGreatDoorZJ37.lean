/- Lemmas. -/
import Derived.Test.YtdnlngbjpdbffaaGreatDoorZJ36
set_option maxRecDepth 10000
set_option linter.all false
namespace Go.Sy
open RowKit
variable {P:Program}{ro:Option Nat}{N:Nat}{w0:World}{M:Nat->Prop}{ds:List Deferred}{fr:Fr}{L B:List Res}{Q:Exit->Act->World->Prop}{ops:Array Oper}{g:Nat->Option Value}{o:Oper}
def zws(P:Program)(ro:Option Nat)(N:Nat)(w0:World)(M:Nat->Prop)(ds:List Deferred)(ops:Array Oper)(B:List Res)(o:Oper)(g:Nat->Option Value)(v:Value):Prop:=
 (zak ops o g=some true/\OpT P ro N w0 M ds o g B (Det v B))\/(zak ops o g=some false/\v=undef)
def SyG(P:Program)(ro:Option Nat)(N:Nat)(w0:World)(M:Nat->Prop)(ds:List Deferred)(ops:Array Oper)(B:List Res)(K:Fr->Prop):List Oper->Fr->Prop
 | [],fr=>K fr
 |o::rest,fr=>∃d v,o.dst=some d/\d<N/\zws P ro N w0 M ds ops B o (only (o.looksAt ops) (get fr)) v/\SyG P ro N w0 M ds ops B K rest ((d,v)::fr)
def FG(P:Program)(ro:Option Nat)(N:Nat)(w0:World)(M:Nat->Prop)(ds:List Deferred)(ops:Array Oper)(B:List Res)(frF:Fr)(o:Oper):Prop:=
 ∃d v,o.dst=some d/\d<N/\get frF d=some v/\zws P ro N w0 M ds ops B o (only (o.looksAt ops) (get frF)) v
theorem FG.cons{j:Fr}{d:Nat}{v:Value}(h:FG P ro N w0 M ds ops B j o)(h1:(o.looksAt ops).contains d=false)(h2:o.dst≠some d):FG P ro N w0 M ds ops B ((d,v)::j) o:=by
 obtain⟨q,F,r,w,A,E⟩:=h;have m:d≠q:=λe=>h2 (by rw[r,e]);exact⟨q,F,r,w,by rw[zbU m];exact A,by rw[zeW h1];exact E⟩
theorem zep{l:List Oper}{k:Nat}(m j:List Nat)(h:zdo l k m=true)(q:∀x∈j,x∈m):zdo l k j=true:=by
 unfold zdo at h ⊢;cases hk:l[k]? with
 |none=>rw[hk] at h;cases h
 |some o=>
  rw[hk] at h;exact AF.2 λx r=>AF.1 h x (q x r)
theorem zkt{l:List Oper}{K:Fr->Prop} :∀(q E done:List Nat) (fr:Fr),(∀i∈q,i<l.length)->zcY l q E=true->(∀i∈done,∀o,l[i]?=some o->FG P ro N w0 M ds l.toArray B fr o/\zdo l i (q++E)=true/\i∉q)->zc6 q=true->
  SyG P ro N w0 M ds l.toArray B K (zcF l q) fr->∃m,(∀t,(∀i∈q,∀o,l[i]?=some o->o.dst≠some t)->get m t=get fr t)/\(∀i,i∈done\/i∈q->∀o,l[i]?=some o->FG P ro N w0 M ds l.toArray B m o)/\K m
 | [],E,done,fr,_,_,hd,_,h=>⟨fr,λ_ _=>rfl,λi J o w=>(J.elim (λh=>(hd i h o w).1) (λh=>(by cases h))),h⟩
 |i::q,E,done,fr,hl,hc,hd,hn,h=>by
  have J:i<l.length:=hl i A3;have w:=A2 J;rw[zgt w] at h;obtain⟨d,v,F,V,W,h⟩:=h;simp only[zcY,A8] at hc;simp only[zc6,A8,B4] at hn;have A:=zdV w hc.1 A3 w F;obtain⟨m,I,G,H⟩:=zkt (K:=K) q E (i::done) ((d,v)::fr) (λk r=>hl k (A1 _ r)) hc.2 (λk r o j=>by
   rcases AV.1 r with rfl|r
   ·have:o=l[k]:=by rw[w] at j;exact(Am j).symm
    subst this;refine⟨⟨d,v,F,V,zdW,by rw[zeW A.1];exact W⟩,zep _ _ hc.1 (λx S=>A1 _ S),λR=>?_⟩;have:=hn.1;simp only[B6,decide_eq_false_iff_not] at this;exact this R
   ·obtain⟨I,G,H⟩:=hd k r o j;have T:=zdV j G (AH _ A3) w F;have O:k≠i:=λe=>H (by rw[e];exact A3);exact⟨I.cons T.1 (T.2 O),zep _ _ G (λx S=>(Ap.1 S).elim (λh=>AH _ (A1 _ h)) (λh=>AY _ h)),λR=>H (A1 _ R)⟩) hn.2 h
  refine⟨m,λt U=>?_,λk r o j=>?_,H⟩
  ·rw[I t (λk r o j=>U k (A1 _ r) o j)];exact zbU (λe=>U i A3 _ w (by rw[<-e];exact F))
  ·refine G k ?_ o j;rcases r with h|h
   ·exact .inl (A1 _ h)
   ·rcases AV.1 h with rfl|h
    ·exact .inl A3
    ·exact .inr h
def HOpB(P:Program)(ro:Option Nat)(N:Nat)(w0:World)(M:Nat->Prop)(ds:List Deferred)(Q:Exit->Act->World->Prop)(frB:Fr)(o:Oper)(g:Nat->Option Value)(L:List Res)(post:Value->List Res->Prop):Prop:=
 ∀a w (Ds:List Nat) (K:Act->World->Prop),a.defers=Ds.map col++ds->Agrees (get frB) a->St N w0 M ds g (L++Ds.map dob) a w->(∀v w' L',post v L'->Keep M w0 w'->Holds w0.heap.size M (L'++Ds.map dob) w'->K (a.put o.dst v) w')->o.wpIn (FW ro) 0 P a w K Q
theorem HOpB.of{frB:Fr}{post:Value->List Res->Prop}(h:OpT P ro N w0 M ds o g L post):HOpB P ro N w0 M ds Q frB o g L post:=λa w F K _ _ A q=>h a w _ K Q A (λv E L' r m j=>q v E L' r m j)
theorem HOpB.callP{frB:Fr}{G:Operand}{args:Array Operand}{F:Array TypeId}{f:Nat}{vs:List Value}{cap:List Value}{C L1:List Res}{M':Nat->Prop}{post j:Value->List Res->Prop}
  (hC:RemL L C L1)(hM:∀b,M' b->OwnOf C b)
  (hc:∀w X,Keep M w0 w->Holds w0.heap.size M (L++X) w->FnP P f (vs++cap) w M' post j)
  (hp:∀v R,j v R->SyX N w0 M ds (Q (.panic (pch v))) frB (R++L1))
  (T:o.op= .call { callee:=.value G,args:=args,argTypes:=F } :=by exact rfl)(O:ev g G=some (.func (.func f) #[] cap.toArray):=by exact rfl)(ha:evs g args.toList=some vs:=by exact rfl)
  (he:∀args w,(callFunc f args).run P w= .ok (.enter f args) w:=by exact en rfl):HOpB P ro N w0 M ds Q frB o g L (λv L'=>∃R,L'=R++L1/\post v R):=by
 rintro a w J K q m H S;refine zne T O ha he hC hM hc H (λv I R E A r=>?_) (λv I R E A r=>?_)
 ·exact S v I _ ⟨R,rfl,E⟩ A r
 ·exact hp v R E _ _ ⟨J,q,H.size,m,A,r⟩
def SyH(P:Program)(ro:Option Nat)(N:Nat)(w0:World)(M:Nat->Prop)(ds:List Deferred)(ops:Array Oper)(Q:Exit->Act->World->Prop)(fin:Bool)(frB:Fr)(B:List Res):List (Oper×List Oper)->Fr->List Res->Prop
 | [],fr,L=>(fin=true\/SubR B L)/\SyX N w0 M ds (Q .normal) fr L
 |(o,ls)::rest,fr,L=>SubR B L/\∃post,HOpB P ro N w0 M ds Q frB o (only (o.looksAt ops) (get fr)) L post/\zak ops o (only (o.looksAt ops) (get fr))=some true/\
  ((∃d,o.dst=some d/\d<N/\∀v L',post v L'->SyG P ro N w0 M ds ops B (λfr'=>SyH P ro N w0 M ds ops Q fin frB B rest fr' L') ls ((d,v)::fr))\/(o.dst=none/\ls= []/\∀v L',post v L'->SyH P ro N w0 M ds ops Q fin frB B rest fr L'))
def zdn(ci:List (Nat×List Nat)):List Nat:=ci.flatMap λc=>c.1::c.2
theorem zid(c:Nat×List Nat)(r:List (Nat×List Nat)):zdn (c::r)=c.1::(c.2++zdn r):=rfl
theorem zhn{i:Nat}{j:List (Nat×List Nat)} :i∈zdn j↔ ∃c∈j,i=c.1\/i∈c.2:=by
 unfold zdn;simp only[List.mem_flatMap,AV]
def zgz(l:List Oper):List (Nat×List Nat)->List (Oper×List Oper)
 | []=>[]
 |c::r=>match l[c.1]? with
  |none=>zgz l r
  |some o=>(o,zcF l c.2)::zgz l r
theorem zlw{l:List Oper}{c:Nat×List Nat}{o:Oper}(h:l[c.1]?=some o)(r:List (Nat×List Nat)):zgz l (c::r)=(o,zcF l c.2)::zgz l r:=by rw[zgz,h]
def zkY(l:List Oper):List (Nat×List Nat)->Bool
 | []=>true
 |c::r=>zcY l c.2 (zdn r)&&zc6 c.2&&c.2.all (λk=>Nat.blt k l.length&&match l[k]? with
   |none=>false
   |some o=>(pre o).contains c.1 || c.2.any λk'=>(pre o).contains k') && !(c.1::c.2).any (λk=>(zdn r).contains k) && !c.2.contains c.1&&zkY l r
def zr8(l:List Oper)(fi:List Nat)(ci:List (Nat×List Nat)):Bool:=
 zrX l&&zt6 l&&zcY l fi (zdn ci)&&zc6 fi&&zet l (ci.map Prod.fst)&&zkY l ci&&(ci.map Prod.fst).all (λi=>Nat.blt i l.length)&&fi.all (λi=>Nat.blt i l.length)&&fi.all (λi=>!(zdn ci).contains i)&&(List.range l.length).all λi=>fi.contains i || (zdn ci).contains i
theorem zht{l:List Oper} :∀(cl:List (Nat×List Nat)) {j:List (Nat×List Nat)},zkY l (cl++j)=true->zkY l j=true
 | [],_,h=>h
 |c::cl,j,h=>by
  simp only[Ae,zkY,A8] at h;exact zht cl h.2
structure GOk(l:List Oper)(c:Nat×List Nat)(r:List (Nat×List Nat)):Prop where
 free:zcY l c.2 (zdn r)=true
 nod:zc6 c.2=true
 lt:∀k∈c.2,k<l.length
 pr:∀k∈c.2,∀o,l[k]?=some o->c.1∈pre o\/∃k'∈c.2,k'∈pre o
 past:∀k,k=c.1\/k∈c.2->k∉zdn r
 self:c.1∉c.2
theorem zmB{l:List Oper}{c:Nat×List Nat}{r:List (Nat×List Nat)}(h:zkY l (c::r)=true):GOk l c r:=by
 simp only[zkY,A8,B4] at h;obtain⟨⟨⟨⟨⟨E,F⟩,q⟩,w⟩,A⟩,H⟩:=h;refine⟨E,F,λk j=>?_,λk j o G=>?_,λk j m=>?_,λm=>?_⟩
 ·have:=AF.1 q k j;simp only[A8] at this;exact zaS.1 this.1
 ·have:=AF.1 q k j;simp only[A8,G,Be,DY,B6,decide_eq_true_eq] at this;exact this.2
 ·rw[DO] at w;have:=w k (by rcases j with rfl|j;exact A3;exact A1 _ j);simp only[B6,decide_eq_true_eq] at this;exact this m
 ·simp only[B6,decide_eq_false_iff_not] at A;exact A m
def zv6(l:List Oper)(ci:List (Nat×List Nat)):Bool:=match ci.getLast? with
 |none=>false
 |some c=>match l[c.1]? with
  |none=>false
  |some o=>(List.range l.length).all λj=>Nat.beq j c.1 || (pre o).contains j
def zzL(l:List Oper)(frB:List Nat):Bool:=l.all λo=>match o.dst with
 |none=>true
 |some t=>!frB.contains t
theorem zuy{id:Nat}{l:List Oper}(fin:Bool)(frB:Fr)(fi:List Nat)(ci:List (Nat×List Nat))(hm:P.follows .mixedOrders=true)(l6:Sub frB fr)(h9:(zr8 l fi ci&&zzL l (frB.map Prod.fst)&&(!fin || zv6 l ci))=true)(h:SyG P ro N w0 M ds l.toArray B (λS=>SyH P ro N w0 M ds l.toArray Q fin frB B (zgz l ci) S L) (zcF l fi) fr):Sy P ro N w0 M ds (.region id l.toArray true) Q fr L:=by
 simp only[zr8,A8] at h9;obtain⟨⟨⟨⟨⟨⟨⟨⟨⟨⟨⟨j9,i5⟩,c2⟩,l4⟩,e9⟩,hG⟩,h8⟩,k6⟩,i7⟩,h7⟩,k5⟩,V⟩:=h9;have l1:∀(i:Nat) (o:Oper) (d:Nat),l[i]?=some o->o.dst=some d->get frB d=none:=by
  intro i o d O hd;have H:=AF.1 k5 o (BB O);rw[hd] at H;simp only[B6,B4,decide_eq_false_iff_not] at H;have:∀f:Fr,d∉f.map Prod.fst->get f d=none:=by
   intro f
   induction f with
   |nil=>intro _;rfl
   |cons p f ih=>
    intro hn;obtain⟨t,u⟩:=p;rw[Au,AV] at hn;rw[zbU (λe=>hn (.inl e.symm))];exact ih (λhm=>hn (.inr hm))
  exact this frB H
 obtain⟨h5,j5,j6,j4⟩:=zkt fi (zdn ci) [] fr (λi hi=>zaS.1 (AF.1 k6 i hi)) c2 (λi hi=>by cases hi) l4 h;have e6:∀(i:Nat) (o:Oper),l[i]?=some o->∀(j:Nat) (F:Oper) (t:Nat),l[j]?=some F->F.dst=some t->(o.looksAt l.toArray).contains t=true->j∈pre o:=by
  intro i o O j F t m ht l2;have H:=AF.1 i5 i (Az.2 (AR.1 O).1);rw[O] at H;have h2:=AF.1 H j (Az.2 (AR.1 m).1);rw[m] at h2;simp only[Ac,ht,l2,Dc,BO] at h2;simpa [B6] using h2
 have a8:∀ {fi ci:List Nat},zcY l fi ci=true->∀k∈fi,zdo l k ci=true:=by
  intro fi ci
  induction fi with
  |nil=>intro _ k A;cases A
  |cons x fi ih=>
   intro h k A;simp only[zcY,A8] at h;rcases AV.1 A with rfl|A
   ·exact zep _ _ h.1 (λy hy=>A1 _ (AY _ hy))
   ·exact ih h.2 k A
 refine zo7 (J:=λb S L'=>∃cl cr I,∃Fs:List Nat,ci=cl++cr/\(∀c∈cl,b c.1=true)/\(∀c∈cr,b c.1=false/\∀k∈c.2,b k=false)/\SyH P ro N w0 M ds l.toArray Q fin frB B (zgz l cr) I L'/\(∀i∈Fs,∀o,l[i]?=some o->FG P ro N w0 M ds l.toArray B I o/\zdo l i (zdn cr)=true/\i∉zdn cr)/\(∀i∈fi,i∈Fs)/\(∀c∈cl,∀k∈c.2,k∈Fs)/\(∀j o,l[j]?=some o->b j=true->∀q∈pre o,b q=true)/\Sub frB S/\∀t,(∀j o,l[j]?=some o->o.dst=some t->b j=true)->∀v,get I t=some v->get S t=some v) hm j9 ?_ ?_ ?_
 ·refine⟨[],ci,h5,fi,rfl,(λc E=>by cases E),(λ_ _=>⟨rfl,λ_ _=>rfl⟩),j4,λi hi o O=>⟨j6 i (.inr hi) o O,a8 c2 i hi,λhm=>?_⟩,λi hi=>hi,(λc E=>by cases E),(λ_ _ _ h=>by cases h),l6,λt ht v hv=>?_⟩
  ·have:=AF.1 i7 i hi;simp only[B6,B4,decide_eq_false_iff_not] at this;exact this hm
  ·rw[j5 t (λi hi o O e=>by have:=ht i o O e;cases this)] at hv;exact hv
 ·rintro b S L' i o O b1 j1 ⟨cl,cr,I,Fs,T,b2,X,hC,a9,c3,b9,b7,c6,b0⟩;have W:∀j∈pre o,b j=true:=λj hj=>AF.1 j1 j hj;have c7:∀a:Act,Agrees (get S) a->Agrees (only (o.looksAt l.toArray) (get I)) a:=λa ha t v hv=>by
   unfold only at hv;cases E:(o.looksAt l.toArray).contains t with
   |false=>rw[E] at hv;simp at hv
   |true=>
    rw[E] at hv;exact ha t v (b0 t (λj F m hd=>W j (e6 i o O j F t m hd E)) v hv)
  have a6:∀j F,l[j]?=some F->(b j || Nat.beq j i)=true->∀q∈pre F,(b q || Nat.beq q i)=true:=λj F m hj q hq=>by
   rcases Ek.1 hj with h|h
   ·rw[b7 j F m h q hq];rfl
   ·have:j=i:=C6 h;subst this;rw[O] at m;cases m;rw[W q hq];rfl
  have e3:∀d v,o.dst=some d->Sub frB ((d,v)::S):=λd v hd t u hu=>by
   have a7:d≠t:=λe=>by rw[<-e,l1 i o d O hd] at hu;cases hu
   rw[zbU a7];exact c6 t u hu
  have k8:i∈Fs\/∃c∈cr,i=c.1:=by
   have:=AF.1 h7 i (Az.2 (AR.1 O).1);simp only[Be,B6,decide_eq_true_eq] at this;rcases this with h|h
   ·exact .inl (c3 i h)
   ·obtain⟨c,E,Z⟩:=zhn.1 h;rw[T] at E;rcases Ap.1 E with E|E
    ·rcases Z with rfl|Z
     ·rw[b2 c E] at b1;cases b1
     ·exact .inl (b9 c E i Z)
    ·rcases Z with rfl|Z
     ·exact .inr ⟨c,E,rfl⟩
     ·exfalso;obtain⟨p,q,rfl⟩:=List.append_of_mem E;have hg:=zmB (zht p (zht cl (by rw[<-T];exact hG)));rcases hg.pr i Z o O with H|⟨k',l0,H⟩
      ·have:=W c.1 H;rw[(X c E).1] at this;cases this
      ·have:=W k' H;rw[(X c E).2 k' l0] at this;cases this
  rcases k8 with k9|⟨c,c9,Z⟩
  ·obtain⟨⟨d,v,hd,e5,hv,hstep⟩,l7,j0⟩:=a9 i k9 o O;have e4:SubR B L':=by
    cases hcr0:zgz l cr with
    |nil=>
     rw[hcr0] at hC;rcases hC.1 with hf|hf
     ·exfalso;have c5:cr= []:=by
       cases cr with
       |nil=>rfl
       |cons c r=>
        have b6:c.1<l.length:=zaS.1 (AF.1 h8 c.1 (by rw[T];exact Do (AY _ A3)));rw[zlw (A2 b6)] at hcr0;cases hcr0
      subst c5;rw[hf] at V;simp only[Dc,BO,zv6] at V;rw[AJ] at T;split at V
      ·cases V
      ·rename_i c e7;split at V
       ·cases V
       ·rename_i F m;have e0:c∈cl:=by rw[<-T];exact List.mem_of_getLast? e7
        have H:=AF.1 V i (Az.2 (AR.1 O).1);rcases Ek.1 H with H|H
        ·have:i=c.1:=C6 H;rw[this,b2 c e0] at b1;cases b1
        ·have h2:=b7 c.1 F m (b2 c e0) i (by simpa [B6] using H);rw[h2] at b1;cases b1
     ·exact hf
    |cons F r=>rw[hcr0] at hC;exact hC.1
   obtain⟨Y,hY⟩:=e4.perm;rintro a w K ⟨Ds,c1,hs⟩ hK;have b3:St N w0 M ds (only (o.looksAt l.toArray) (get I)) (B++(Y++Ds.map dob)) a w:=⟨hs.size,c7 a hs.agr,hs.keep,hs.hold.perm (by rw[<-AI];exact Ak _ hY)⟩;have fin:∀w',Keep M w0 w'->Holds w0.heap.size M (L'++Ds.map dob) w'->K (a.put (some d) v) w':=by
    intro w' A k7;refine hK ((d,v)::S) L' _ _ ⟨cl,cr,I,Fs,T,λc E=>(by show(b c.1 || Nat.beq c.1 i)=true;rw[b2 c E];rfl),λc E=>?_,hC,a9,c3,b9,a6,e3 d v hd,λt ht u hu=>?_⟩ ⟨Ds,c1,hs.put e5 v A k7⟩
    ·have a7:∀k,k=c.1\/k∈c.2->Nat.beq k i=false:=λk A=>zaY.2 (λe=>j0 (zhn.2 ⟨c,E,by rw[<-e];exact A⟩));refine⟨?_,λk A=>?_⟩
     ·show(b c.1 || Nat.beq c.1 i)=false;rw[(X c E).1,BO,a7 _ (.inl rfl)]
     ·show(b k || Nat.beq k i)=false;rw[(X c E).2 k A,BO,a7 _ (.inr A)]
    ·by_cases e:d=t
     ·subst e;rw[zdW];rw[hv] at hu;exact hu
     ·rw[zbU e];refine b0 t (λj F m U=>?_) u hu;have:(b j || Nat.beq j i)=true:=ht j F m U;have c4:j≠i:=λe'=>by subst e';rw[O] at m;cases m;rw[hd] at U;exact e (Am U)
      rwa[zaY.2 c4,Cc] at this
   rcases hstep with ⟨hw,f9⟩|⟨hw,rfl⟩
   ·rw[if_pos (zby b3.agr hw)];refine f9 a w _ K Q b3 λv' w' b4 ⟨e1,e2⟩ A hh=>?_;subst e1;subst e2;rw[hd];exact fin w' A (hh.perm (by rw[<-AI];exact Ak _ hY.symm))
   ·rw[if_neg (by rw[zby b3.agr hw];decide),hd];exact⟨λ_ _=>by cases ro <;> trivial,fin w hs.keep hs.hold⟩
  ·obtain⟨G,R,rfl⟩:∃c R,cr=c::R:=by cases cr with
    |nil=>cases c9
    |cons c r=>exact⟨c,r,rfl⟩
   have i8:i=G.1:=by
    rcases AV.1 c9 with h|h
    ·rw[Z,h]
    ·obtain⟨p,hp,F,m,l5⟩:=zgT (l:=l) (c:=G.1) (m:=R.map Prod.fst) (zgY (cl.map Prod.fst) (by
      have:=e9;rw[T,Ar,Au] at this;exact this)) i (by rw[Z];exact Do h)
     rw[O] at m;cases m;have H:=W p l5;have:p∈(G::R).map Prod.fst:=hp;obtain⟨c',k0,rfl⟩:=Bv.1 this;rw[(X c' k0).1] at H;cases H
   subst i8;have hg:=zmB (zht cl (by rw[<-T];exact hG));rw[zlw O] at hC;obtain⟨e4,post,f9,hw,j2⟩:=hC;rintro a w K ⟨Ds,c1,hs⟩ hK;have b3:St N w0 M ds (only (o.looksAt l.toArray) (get I)) (L'++Ds.map dob) a w:=⟨hs.size,c7 a hs.agr,hs.keep,hs.hold⟩;rw[if_pos (zby b3.agr hw)];refine f9 a w Ds K c1 (λt u hu=>hs.agr t u (c6 t u hu)) b3 λv w' b4 hp A hh=>?_;have d8:∀c∈cl++[G],(b c.1 || Nat.beq c.1 G.1)=true:=λc E=>by
    rcases Ap.1 E with h|h
    ·rw[b2 c h];rfl
    ·rw[AD.1 h,EG,Dq]
   have a7:∀k,k∈zdn R->Nat.beq k G.1=false:=λk A=>zaY.2 (λe=>hg.past G.1 (.inl rfl) (e ▸ A));have d9:∀c∈R,(b c.1 || Nat.beq c.1 G.1)=false/\∀k∈c.2,(b k || Nat.beq k G.1)=false:=λc E=>by
    refine⟨?_,λk A=>?_⟩
    ·rw[(X c (A1 _ E)).1,BO];exact a7 _ (zhn.2 ⟨c,E,.inl rfl⟩)
    ·rw[(X c (A1 _ E)).2 k A,BO];exact a7 _ (zhn.2 ⟨c,E,.inr A⟩)
   have c8:ci=(cl++[G])++R:=by rw[T,AI];rfl
   have e8:∀k∈G.2,(b k || Nat.beq k G.1)=false:=λk A=>by
    rw[(X G A3).2 k A,BO];exact zaY.2 (λe=>hg.self (e ▸ A))
   rcases j2 with ⟨d,hd,e5,f8⟩|⟨hd,l3,f8⟩
   ·rw[hd];have b8:∀k∈Fs,∀F,l[k]?=some F->FG P ro N w0 M ds l.toArray B ((d,v)::I) F/\zdo l k (G.2++zdn R)=true/\k∉G.2:=λk A F m=>by
     obtain⟨H,h2,h3⟩:=a9 k A F m;rw[zid] at h2 h3;have h4:=zdV m h2 A3 O hd;refine⟨H.cons h4.1 (h4.2 (λe=>h3 (by rw[e];exact A3))),zep _ _ h2 (λx hx=>A1 _ hx),λhm=>h3 (A1 _ (AH _ hm))⟩
    obtain⟨j3,j7,h6,j8⟩:=zkt G.2 (zdn R) Fs ((d,v)::I) hg.lt hg.free b8 hg.nod (f8 v b4 hp);refine hK ((d,v)::S) b4 _ _ ⟨cl++[G],R,j3,Fs++G.2,c8,d8,d9,j8,λk A F m=>?_,λk A=>AH _ (c3 k A),λc E k A=>?_,a6,e3 d v hd,λt ht u hu=>?_⟩ ⟨Ds,c1,hs.put e5 v A hh⟩
    ·rcases Ap.1 A with h|h
     ·refine⟨h6 k (.inl h) F m,zep _ _ (b8 k h F m).2.1 (λx hx=>AY _ hx),λhm=>(a9 k h F m).2.2 ?_⟩;rw[zid];exact A1 _ (AY _ hm)
     ·exact⟨h6 k (.inr h) F m,a8 hg.free k h,hg.past k (.inr h)⟩
    ·rcases Ap.1 E with h|h
     ·exact AH _ (b9 c h k A)
     ·rw[AD.1 h] at A;exact AY _ A
    ·rw[j7 t (λk A F m e=>by
      have H:(b k || Nat.beq k G.1)=true:=ht k F m e;rw[e8 k A] at H;cases H)] at hu
     by_cases e:d=t
     ·subst e;rw[zdW] at hu ⊢;exact hu
     ·rw[zbU e] at hu ⊢;refine b0 t (λj F m U=>?_) u hu;have:(b j || Nat.beq j G.1)=true:=ht j F m U;have c4:j≠G.1:=λe'=>by subst e';rw[O] at m;cases m;rw[hd] at U;exact e (Am U)
      rwa[zaY.2 c4,Cc] at this
   ·rw[hd];have i9:∀k∈G.2,False:=λk A=>by
     have H:=hg.lt k A;have h2:zcF l G.2≠[]:=by
      cases hc2:G.2 with
      |nil=>rw[hc2] at A;cases A
      |cons x r=>
       have hx:x<l.length:=hg.lt x (by rw[hc2];exact A3);rw[zgt (A2 hx)];exact λe=>by cases e
     exact h2 l3
    refine hK S b4 _ _ ⟨cl++[G],R,I,Fs,c8,d8,d9,f8 v b4 hp,λk A F m=>?_,c3,λc E k A=>?_,a6,c6,λt ht u hu=>?_⟩ ⟨Ds,c1,hs.put_none A hh⟩
    ·obtain⟨H,h2,h3⟩:=a9 k A F m;rw[zid] at h2 h3;exact⟨H,zep _ _ h2 (λx hx=>A1 _ (AY _ hx)),λhm=>h3 (A1 _ (AY _ hm))⟩
    ·rcases Ap.1 E with h|h
     ·exact b9 c h k A
     ·rw[AD.1 h] at A;exact(i9 k A).elim
    ·refine b0 t (λj F m U=>?_) u hu;have:(b j || Nat.beq j G.1)=true:=ht j F m U;have c4:j≠G.1:=λe'=>by subst e';rw[O] at m;cases m;rw[hd] at U;cases U
     rwa[zaY.2 c4,Cc] at this
 ·rintro b S L' b5 ⟨cl,cr,I,Fs,T,b2,X,hC,a9,c3,b9,b7,c6,b0⟩;have c5:cr= []:=by
   cases cr with
   |nil=>rfl
   |cons c r=>
    have b6:c.1<l.length:=zaS.1 (AF.1 h8 c.1 (by rw[T];exact Do (AY _ A3)));have:=(X c A3).1;rw[b5 c.1 b6] at this;cases this
  subst c5;exact hC.2.weaken (λt v hv=>b0 t (λj o O _=>b5 j (AR.1 O).1) v hv) Ez
theorem zdm{id:Nat}{l:List Oper}(A:List Nat)(fin:Bool)(frB:Fr)(m:List Nat)(j:List (Nat×List Nat))(hm:P.follows .mixedOrders=true)(w:Sub frB fr)(r:(zr8 l m j&&zzL l (frB.map Prod.fst)&&(!fin || zv6 l j))=true)(h:SyG P ro N w0 M ds l.toArray (znG A L) (λq=>SyH P ro N w0 M ds l.toArray Q fin frB (znG A L) (zgz l j) q L) (zcF l m) fr):Sy P ro N w0 M ds (.region id l.toArray true) Q fr L:=zuy fin frB m j hm w r h
variable {fin:Bool}{frB:Fr}{K:Fr->Prop}{rest:List Oper}{cs:List (Oper×List Oper)}{ls:List Oper}{d:Nat}{v:Value}{L':List Res}
theorem ygv(h:OpT P ro N w0 M ds o (only (o.looksAt ops) (get fr)) B (Det v B))(q:zak ops o (only (o.looksAt ops) (get fr))=some true:=by exact rfl)(m:o.dst=some d:=by exact rfl)(j:Nat.blt d N=true:=by exact rfl)
  (k:SyG P ro N w0 M ds ops B K rest ((d,v)::fr)):SyG P ro N w0 M ds ops B K (o::rest) fr:=⟨d,v,m,A5 j,.inl ⟨q,h⟩,k⟩
theorem ygn(q:zak ops o (only (o.looksAt ops) (get fr))=some false:=by exact rfl)(m:o.dst=some d:=by exact rfl)(j:Nat.blt d N=true:=by exact rfl)
  (k:SyG P ro N w0 M ds ops B K rest ((d,undef)::fr)):SyG P ro N w0 M ds ops B K (o::rest) fr:=⟨d,undef,m,A5 j,.inr ⟨q,rfl⟩,k⟩
theorem yg0(k:K fr):SyG P ro N w0 M ds ops B K [] fr:=k
theorem yhs{post:Value->List Res->Prop}(h:OpT P ro N w0 M ds o (only (o.looksAt ops) (get fr)) L post)(w:zak ops o (only (o.looksAt ops) (get fr))=some true:=by exact rfl)(r:o.dst=some d:=by exact rfl)(q:Nat.blt d N=true:=by exact rfl)(m:SubR B L:=by first|(focus ((repeat (first|exact Ez|apply F7));done))|exact FT)
  (k:∀v L',post v L'->SyG P ro N w0 M ds ops B (λj=>SyH P ro N w0 M ds ops Q fin frB B cs j L') ls ((d,v)::fr)):SyH P ro N w0 M ds ops Q fin frB B ((o,ls)::cs) fr L:=⟨m,post,HOpB.of h,w,.inl ⟨d,r,A5 q,k⟩⟩
theorem yhv(h:OpT P ro N w0 M ds o (only (o.looksAt ops) (get fr)) L (Det v L'))(E:zak ops o (only (o.looksAt ops) (get fr))=some true:=by exact rfl)(A:o.dst=some d:=by exact rfl)(w:Nat.blt d N=true:=by exact rfl)(r:SubR B L:=by first|(focus ((repeat (first|exact Ez|apply F7));done))|exact FT)
  (k:SyG P ro N w0 M ds ops B (λj=>SyH P ro N w0 M ds ops Q fin frB B cs j L') ls ((d,v)::fr)):SyH P ro N w0 M ds ops Q fin frB B ((o,ls)::cs) fr L:=yhs h E A w r λ_ _ ⟨m,q⟩=>by subst m;subst q;exact k
theorem yhn(h:OpT P ro N w0 M ds o (only (o.looksAt ops) (get fr)) L (Det v L'))(w:zak ops o (only (o.looksAt ops) (get fr))=some true:=by exact rfl)(r:o.dst=none:=by exact rfl)(q:SubR B L:=by first|(focus ((repeat (first|exact Ez|apply F7));done))|exact FT)
  (k:SyH P ro N w0 M ds ops Q fin frB B cs fr L'):SyH P ro N w0 M ds ops Q fin frB B ((o,[])::cs) fr L:=⟨q,Det v L',HOpB.of h,w,.inr ⟨r,rfl,λ_ _ ⟨j,m⟩=>by subst j;subst m;exact k⟩⟩
theorem yhp{r:Operand}{args:Array Operand}{q:Array TypeId}{f:Nat}{vs:List Value}{cap:List Value}{C L1:List Res}{M':Nat->Prop}{post j:Value->List Res->Prop}
  (hC:RemL L C L1)(hM:∀b,M' b->OwnOf C b)
  (hc:∀w X,Keep M w0 w->Holds w0.heap.size M (L++X) w->FnP P f (vs++cap) w M' post j)
  (hp:∀v R,j v R->SyX N w0 M ds (Q (.panic (pch v))) frB (R++L1))
  (H:o.op= .call { callee:=.value r,args:=args,argTypes:=q } :=by exact rfl)(G:ev (only (o.looksAt ops) (get fr)) r=some (.func (.func f) #[] cap.toArray):=by exact rfl)(ha:evs (only (o.looksAt ops) (get fr)) args.toList=some vs:=by exact rfl)
  (he:∀args w,(callFunc f args).run P w= .ok (.enter f args) w:=by exact en rfl)
  (J:zak ops o (only (o.looksAt ops) (get fr))=some true:=by exact rfl)(F:o.dst=some d:=by exact rfl)(E:Nat.blt d N=true:=by exact rfl)(A:SubR B L:=by first|(focus ((repeat (first|exact Ez|apply F7));done))|exact FT)
  (k:∀v R,post v R->SyG P ro N w0 M ds ops B (λm=>SyH P ro N w0 M ds ops Q fin frB B cs m (R++L1)) ls ((d,v)::fr)):SyH P ro N w0 M ds ops Q fin frB B ((o,ls)::cs) fr L:=
 ⟨A,_,HOpB.callP hC hM hc hp H G ha he,J,.inl ⟨d,F,A5 E,λ_ _ ⟨_,e,I⟩=>by subst e;exact k _ _ I⟩⟩
theorem yh0(k:SyX N w0 M ds (Q .normal) fr L)(j:SubR B L:=by first|(focus ((repeat (first|exact Ez|apply F7));done))|exact FT):SyH P ro N w0 M ds ops Q fin frB B [] fr L:=⟨.inr j,k⟩
theorem zg5(k:SyX N w0 M ds (Q .normal) fr L):SyH P ro N w0 M ds ops Q true frB B [] fr L:=⟨.inl rfl,k⟩
end Go.Sy
namespace Go.Ct
open Sy
def _root_.Go.Sy.Bs.pre(s:Bs)(y:Nat):Bs:=⟨s.a,y,s.c,s.l.take y⟩
theorem Rsub.pre(s:Bs){y:Nat}(m:y<=s.n):Rsub s (s.pre y):=λw h=>by
 have q:=h.cap;refine⟨?_,?_,?_,h.nil⟩
 ·show(s.l.take y).length=y;rw[AS,h.len,BP m]
 ·show y<=s.c;omega
 ·have j:=(Fi h.sla).take y;rw[<-C0] at j;exact j.sla
end Go.Ct
namespace Go.Proofs.YtdnlngbjpdbffaaGreatDoor
open Sy Ct RowKit
attribute [local irreducible] Sy SyL SyX SyC SyF SyG SyH Sy.Fn Sy.FnP callFunc
theorem zyJ{s:Bs}(h:s.l.length=s.n){x:Nat} :(s.sub x s.n).l=s.l.drop x:=by
 show(s.l.take s.n).drop x=_;rw[<-h,C3]
def zrO(s:Bs)(ls:List (List UInt8))(v:Value)(R:List Res):Prop:=∃a c,∃xs:List Bs,v= .slice a xs.length c/\R= [.row (.slice a xs.length c) 23 1 xs.length (xs.map Bs.val)]/\xs.map (·.l)=ls/\xs.length<=s.n/\∀x∈xs,Rsub s x/\0<x.n/\x.n<=s.n
theorem zjw(s:Bs)(w:World)(hs:s.ok w)(hb:s.n<1000000):Sy.Fn Tryz.prog 45 [s.val] w No (zrO s (zbW s.l)):=by
 refine zt Tryz.func45 Tryz.ntmps45 ?_;have hv:s.val= .slice s.a s.n s.c:=rfl;rw[hv];repeat' first|refine s_t ?_|refine zA [0,1] ?_;refine zb ?_
 refine zbg (zaT 23 1) ?_;refine zL (γ:=Bs×List Bs×Option Addr×Nat) (λg=>[(0,.slice g.1.a g.1.n g.1.c),(3,.slice g.2.2.1 g.2.1.length g.2.2.2)])
  (λg=>[.row (.slice g.2.2.1 g.2.1.length g.2.2.2) 23 1 g.2.1.length (g.2.1.reverse.map Bs.val)])
  (λg=>Rsub s g.1/\g.2.1.length+g.1.n<=s.n/\zbW s.l=g.2.1.reverse.map (·.l)++zbW g.1.l/\∀x∈g.2.1,Rsub s x/\0<x.n/\x.n<=s.n) (λg=>g.1.n) (s,[],none,0) ⟨Rsub.refl,by simp,rfl,λ_ h=>by cases h⟩ ?_ ?_ ?_
 ·exact q_h
 ·exact q_h
 rintro⟨j,G,V,X⟩ ⟨m,Z,r,E⟩;dsimp only at m Z r E ⊢;have q:=m w hs;have F:=q.len;have S:=λT (Y:Keep No w T)=>zmN j T (q.keep Y) q_o;have I:j.val= .slice j.a j.n j.c:=rfl;rw[I] at S;repeat' first|refine s_t ?_|refine q_k 2 ?_;(refine q_s (zi (hc:=zr S)) ?_;rintro _ _ ⟨R,rfl,rfl,(⟨H,rfl⟩|⟨x,y,t,H,rfl⟩)⟩);refine zb ?_|(refine zx ?_;first|refine zw ?_|refine zZ ?_|refine zaU ?_|fail)|fail
 ·have g:decide ((0:Int)=0)=true:=rfl;repeat' first|refine s_0 ?_|refine q_k 3 ?_;refine q_v (zS (hr:=g)) ?_|refine q_k 4 ?_
  rw[ziz H,AJ] at r;exact zar rfl (zh rfl) Ez ⟨V,X,G.reverse,by rw[Bd],by rw[Bd];rfl,r.symm,by rw[Bd];omega,λx hx=>E x (CQ.1 hx)⟩
 ·have A:=zjR H;rw[F] at A;have g:decide ((y:Int)=0)=false:=q_f;have O:=q.cap;have hys:G.reverse.map Bs.val++[.slice j.a y j.c]=((⟨j.a,y,j.c,j.l.take y⟩::G).reverse).map Bs.val:=by rw[CL,Ar];rfl
  repeat' first|refine s_0 ?_|refine q_k 3 ?_;refine q_v (zS (hr:=g)) ?_|refine q_k 5 ?_;refine zbR ?_;(refine q_s zz ?_;rintro _ _ ⟨_,rfl,rfl⟩);(refine q_s (zaz (hys:=hys) (hkm:=rfl)) ?_;rintro _ _ ⟨rfl,U,W,rfl⟩);refine zb ?_|refine q_k 6 ?_;refine zbR ?_;refine zb ?_
  refine zC (j.sub y j.n,j.pre y::G,U,W) ⟨m.trans (Rsub.sub j A.2.2 (A7 _)),?_,?_,?_⟩ ?_ ?_ ?_
  ·show(G.length+1)+(j.n-y)<=s.n;omega
  ·rw[r,zio H,CL,Ar,AI];show _=_++([(j.pre y).l]++zbW (j.sub y j.n).l);rw[zyJ F];rfl
  ·intro z J;rcases AV.1 J with rfl|J
   ·exact⟨m.trans (Rsub.pre j A.2.2),by show 0<y;omega,by show y<=s.n;omega⟩
   ·exact E z J
  ·show j.n-y<j.n;omega
  ·exact q_h
  ·exact q_h
theorem zqj{t:Nat} :∀(ls:List (List UInt8)) (i:Nat) (j:i<ls.length),(∀x∈ls.take i,(x.headD 0).toNat≠t)->(ls[i].headD 0).toNat=t->pick t ls=zaN ls[i]
 |x::ls,0,_,_,h=>by
  have m:(x.headD 0).toNat=t:=h;rw[pick,if_pos m];rfl
 |x::ls,i+1,j,hn,h=>by
  rw[pick,if_neg (hn x q_p)];exact zqj ls i (by simpa using j) (λy q=>hn y (by rw[C4];exact A1 _ q)) h
theorem zms{t:Nat} :∀(ls:List (List UInt8)),(∀x∈ls,(x.headD 0).toNat≠t)->pick t ls= []
 | [],_=>rfl
 |x::ls,h=>by
  rw[pick,if_neg (h x A3)];exact zms ls (λy j=>h y (A1 _ j))
theorem zg1(s:Bs)(n:Nat)(w:World)(hs:s.ok w)(hb:s.n<1000000)(hn:n<=30):Sy.Fn Tryz.prog 94 [s.val,.int .i64 (n:Int)] w No (zdS s (item s.l n)):=by
 refine zt Tryz.func94 Tryz.ntmps94 ?_;have hv:s.val= .slice s.a s.n s.c:=rfl;have hc:=λO (Y:Keep No w O)=>zds s O (hs.keep Y) q_o;rw[hv] at hc ⊢;unfold zdS at hc;have g0:IntKind.i64.wrap (160+(n:Int))=((160+n:Nat):Int):=q_w;repeat' first|refine s_0 ?_|refine q_k 0 ?_|refine q_k 1 ?_;(refine q_s (zi (hc:=zr hc)) ?_;rintro _ _ ⟨R,rfl,s1,rfl,a8,q,b7,rfl⟩)
 have Z:=q w hs;have he:=λO (Y:Keep No w O)=>zjw s1 O (Z.keep Y) q_o;unfold zrO at he;have b1:s1.val= .slice s1.a s1.n s1.c:=rfl;rw[b1] at he ⊢;repeat' first|refine s_t ?_|refine q_k 2 ?_|(refine zx ?_;first|refine q_s (zi (hc:=zr he)) ?_;rintro _ _ ⟨R,rfl,aE,cE,xs,rfl,rfl,b4,c0,b6⟩|refine zw ?_|fail)|fail
 have a7:item s.l n=pick (160+n) (xs.map (·.l)):=by rw[b4,a8];rfl
 rw[a7];obtain⟨m,hm⟩:∃m,m=xs.length:=⟨_,rfl⟩;rw[<-hm];refine zgh (a:=aE) (cp:=cE) (E:=23) (s:=1) (n:=m) (xs:=xs.map Bs.val) (by exact Eu) λr hr=>?_;refine zL (γ:=Nat) (λi=>[(1,.int .i64 (n:Int)),(5,.slice aE m cE),(6,.int .i64 (i:Int))]) (λ_=>[r]) (λi=>i<=m/\∀x∈(xs.map (·.l)).take i,(x.headD 0).toNat≠160+n) (λi=>m-i) 0 ⟨AA _,λ_ h=>by cases h⟩ ?_ ?_ ?_
 ·exact q_h
 ·exact q_h
 rintro i ⟨hi,H⟩;by_cases hlt:i<m
 ·have g1:decide ((i:Int)<(m:Int))=true:=q_d;have g5:IntKind.i64.wrap ((i:Int)+1)=((i+1:Nat):Int):=q_w;obtain⟨x,hx⟩:∃x,x=xs[i]'q_o:=⟨_,rfl⟩;have b5:x∈xs:=by rw[hx];exact AX _
  obtain⟨a6,b8,b9⟩:=b6 x b5;have F:=a6 w Z;obtain⟨bE,J,rfl,rfl⟩:=hr q_o;have I:(xs.map Bs.val++J)[0+i]?=some (.slice x.a x.n x.c):=by rw[Aa,BH (by rw[A0];omega),AW,A2 q_o,<-hx];rfl
  have T:(xs.map (·.l))[i]'(by rw[A0];omega)=x.l:=by rw[Da,<-hx]
  have A:=F.len;obtain⟨y,rr,U⟩:∃y r,x.l=y::r:=by
   cases h:x.l with
   |nil=>rw[h] at A;simp at A;omega
   |cons y r=>exact⟨y,r,rfl⟩
  obtain⟨bx,ox,b3,S⟩:=zca F.sla (i:=0) (by rw[U];simp);have W:w.cell? ⟨bx,ox+0,none⟩=some (.int .u8 (y.toNat:Int)):=S 0 _ (by rw[U];rfl);have c1:=y.toNat_lt;have g2:IntKind.i64.wrap (y.toNat:Int)=(y.toNat:Int):=IntWalk.i64_in _ q_o;have G:=λO (Y:Keep No w O)=>zds x O (F.keep Y) q_o;unfold zdS at G;have b2:x.val= .slice x.a x.n x.c:=rfl;rw[b2] at G;have X:((x.l).headD 0).toNat=y.toNat:=by rw[U];rfl
  rw[b3] at I G;by_cases hy:y.toNat=160+n
  ·have g3:decide ((y.toNat:Int)=((160+n:Nat):Int))=true:=q_d;have a9:pick (160+n) (xs.map (·.l))=zaN x.l:=by
    have:=zqj (xs.map (·.l)) i (by rw[A0];omega) H (by rw[T,X,hy]);rwa[T] at this
   rw[a9];repeat' first|refine s_t ?_|refine q_k 3 ?_;refine q_v (zn (hr:=g1)) ?_|refine q_k 5 ?_;refine q_v (zq (j:=i)) ?_;refine q_v (zM (hv:=I)) ?_;refine q_v (zq (j:=0)) ?_;refine q_v (zo (hv:=W)) ?_;refine q_x (zam (hr:=g2)) ?_;refine q_v (zD (hr:=g0)) ?_;refine q_v (zS (hr:=g3)) ?_|refine q_k 6 ?_;refine q_v (zq (j:=i)) ?_;refine q_v (zM (hv:=I)) ?_;(refine q_s (zi (hc:=zr G)) ?_;rintro _ _ ⟨R,rfl,s2,rfl,q1,q2,q3,rfl⟩);refine zb ?_
   exact zar rfl (zh rfl) Ev ⟨s2,rfl,q1,(q.trans a6).trans q2,by omega,rfl⟩
  ·have g3:decide ((y.toNat:Int)=((160+n:Nat):Int))=false:=q_f;repeat' first|refine s_t ?_|refine q_k 3 ?_;refine q_v (zn (hr:=g1)) ?_|refine q_k 5 ?_;refine q_v (zq (j:=i)) ?_;refine q_v (zM (hv:=I)) ?_;refine q_v (zq (j:=0)) ?_;refine q_v (zo (hv:=W)) ?_;refine q_x (zam (hr:=g2)) ?_;refine q_v (zD (hr:=g0)) ?_;refine q_v (zS (hr:=g3)) ?_|refine q_k 4 ?_;refine q_x (zD (hr:=g5)) ?_
   refine zC (i+1) ⟨hlt,λz V=>?_⟩ ?_ ?_ ?_
   ·have b0:(xs.map (·.l)).take (i+1)=(xs.map (·.l)).take i++[x.l]:=by rw[zaE (by rw[A0];omega),T]
    rw[b0] at V;rcases Ap.1 V with V|V
    ·exact H z V
    ·rw[AD.1 V,X];exact hy
   ·show m-(i+1)<m-i;omega
   ·exact q_h
   ·exact q_h
 obtain rfl:i=m:=q_o;have g1:decide ((i:Int)<(i:Int))=false:=q_f;rw[A6 (by rw[A0];omega)] at H;rw[zms _ H];repeat' first|refine s_0 ?_|refine q_k 3 ?_;refine q_v (zn (hr:=g1)) ?_|refine q_k 7 ?_
 exact zar rfl (zh rfl) Ev ⟨zrV,rfl,rfl,Rsub.none s,AA _,rfl⟩
end Go.Proofs.YtdnlngbjpdbffaaGreatDoor
