/- Lemmas of this proof. -/
import Derived.Test.YtdnlngbjpdbffaaGreatDoorHJ34
set_option maxRecDepth 10000
set_option linter.all false
namespace Go.Sy
open Go Go.RowKit
variable {P:Program}{ro:Option Nat}{N:Nat}{w0:World}{M:Nat->Prop}{ds:List Deferred}{fr:Fr}{L B:List Res}{Q:Exit->Act->World->Prop}{ops:Array Oper}{g:Nat->Option Value}{o:Oper}
def zuN(P:Program)(ro:Option Nat)(N:Nat)(w0:World)(M:Nat->Prop)(ds:List Deferred)(ops:Array Oper)(B:List Res)(o:Oper)(g:Nat->Option Value)(v:Value):Prop:=
 (zah ops o g=some true/\OpT P ro N w0 M ds o g B (Det v B))\/(zah ops o g=some false/\v=undef)
def SyG(P:Program)(ro:Option Nat)(N:Nat)(w0:World)(M:Nat->Prop)(ds:List Deferred)(ops:Array Oper)(B:List Res)(K:Fr->Prop):List Oper->Fr->Prop
 | [],fr=>K fr
 |o::rest,fr=>∃d v,o.dst=some d/\d<N/\zuN P ro N w0 M ds ops B o (only (o.looksAt ops) (get fr)) v/\SyG P ro N w0 M ds ops B K rest ((d,v)::fr)
def FG(P:Program)(ro:Option Nat)(N:Nat)(w0:World)(M:Nat->Prop)(ds:List Deferred)(ops:Array Oper)(B:List Res)(frF:Fr)(o:Oper):Prop:=
 ∃d v,o.dst=some d/\d<N/\get frF d=some v/\zuN P ro N w0 M ds ops B o (only (o.looksAt ops) (get frF)) v
theorem FG.cons{j:Fr}{d:Nat}{v:Value}(h:FG P ro N w0 M ds ops B j o)(h1:(o.looksAt ops).contains d=false)(h2:o.dst≠some d):FG P ro N w0 M ds ops B ((d,v)::j) o:=by
 obtain⟨q,F,r,w,A,E⟩:=h;have m:d≠q:=λe=>h2 (by rw[r,e]);exact⟨q,F,r,w,by rw[zbK m];exact A,by rw[zeA h1];exact E⟩
theorem zd3{l:List Oper}{k:Nat}(m j:List Nat)(h:zcV l k m=true)(q:∀x∈j,x∈m):zcV l k j=true:=by
 unfold zcV at h ⊢;cases hk:l[k]? with
 |none=>rw[hk] at h;cases h
 |some o=>
  rw[hk] at h;exact AD.2 λx r=>AD.1 h x (q x r)
theorem zjx{l:List Oper}{K:Fr->Prop} :∀(q E done:List Nat) (fr:Fr),(∀i∈q,i<l.length)->zcz l q E=true->(∀i∈done,∀o,l[i]?=some o->FG P ro N w0 M ds l.toArray B fr o/\zcV l i (q++E)=true/\i∉q)->zcG q=true->
  SyG P ro N w0 M ds l.toArray B K (zcj l q) fr->∃m,(∀t,(∀i∈q,∀o,l[i]?=some o->o.dst≠some t)->get m t=get fr t)/\(∀i,i∈done\/i∈q->∀o,l[i]?=some o->FG P ro N w0 M ds l.toArray B m o)/\K m
 | [],E,done,fr,_,_,hd,_,h=>⟨fr,λ_ _=>rfl,λi J o w=>(J.elim (λh=>(hd i h o w).1) (λh=>(by cases h))),h⟩
 |i::q,E,done,fr,hl,hc,hd,hn,h=>by
  have J:i<l.length:=hl i A4;have w:=A2 J;rw[zfM w] at h;obtain⟨d,v,F,V,W,h⟩:=h;simp only[zcz,A5] at hc;simp only[zcG,A5,Aw] at hn;have A:=zdA w hc.1 A4 w F;obtain⟨m,I,G,H⟩:=zjx (K:=K) q E (i::done) ((d,v)::fr) (λk r=>hl k (A0 _ r)) hc.2 (λk r o j=>by
   rcases AQ.1 r with rfl|r
   ·have:o=l[k]:=by rw[w] at j;exact(An j).symm
    subst this;refine⟨⟨d,v,F,V,zdz,by rw[zeA A.1];exact W⟩,zd3 _ _ hc.1 (λx S=>A0 _ S),λR=>?_⟩;have:=hn.1;simp only[Ay,decide_eq_false_iff_not] at this;exact this R
   ·obtain⟨I,G,H⟩:=hd k r o j;have T:=zdA j G (A7 _ A4) w F;have O:k≠i:=λe=>H (by rw[e];exact A4);exact⟨I.cons T.1 (T.2 O),zd3 _ _ G (λx S=>(Am.1 S).elim (λh=>A7 _ (A0 _ h)) (λh=>AB _ h)),λR=>H (A0 _ R)⟩) hn.2 h
  refine⟨m,λt U=>?_,λk r o j=>?_,H⟩
  ·rw[I t (λk r o j=>U k (A0 _ r) o j)];exact zbK (λe=>U i A4 _ w (by rw[<-e];exact F))
  ·refine G k ?_ o j;rcases r with h|h
   ·exact .inl (A0 _ h)
   ·rcases AQ.1 h with rfl|h
    ·exact .inl A4
    ·exact .inr h
def HOpB(P:Program)(ro:Option Nat)(N:Nat)(w0:World)(M:Nat->Prop)(ds:List Deferred)(Q:Exit->Act->World->Prop)(frB:Fr)(o:Oper)(g:Nat->Option Value)(L:List Res)(post:Value->List Res->Prop):Prop:=
 ∀a w (Ds:List Nat) (K:Act->World->Prop),a.defers=Ds.map col++ds->Agrees (get frB) a->St N w0 M ds g (L++Ds.map dob) a w->(∀v w' L',post v L'->Keep M w0 w'->Holds w0.heap.size M (L'++Ds.map dob) w'->K (a.put o.dst v) w')->o.wpIn (FW ro) 0 P a w K Q
theorem HOpB.of{frB:Fr}{post:Value->List Res->Prop}(h:OpT P ro N w0 M ds o g L post):HOpB P ro N w0 M ds Q frB o g L post:=λa w F K _ _ A q=>h a w _ K Q A (λv E L' r m j=>q v E L' r m j)
theorem HOpB.callP{frB:Fr}{G:Operand}{args:Array Operand}{F:Array TypeId}{f:Nat}{vs:List Value}{cap:List Value}{C L1:List Res}{M':Nat->Prop}{post j:Value->List Res->Prop}
  (hC:RemL L C L1)(hM:∀b,M' b->OwnOf C b)
  (hc:∀w X,Keep M w0 w->Holds w0.heap.size M (L++X) w->FnP P f (vs++cap) w M' post j)
  (hp:∀v R,j v R->SyX N w0 M ds (Q (.panic (pch v))) frB (R++L1))
  (T:o.op= .call { callee:=.value G,args:=args,argTypes:=F } :=by exact rfl)(O:ev g G=some (.func (.func f) #[] cap.toArray):=by exact rfl)(ha:evs g args.toList=some vs:=by exact rfl)
  (he:∀args w,(callFunc f args).run P w= .ok (.enter f args) w:=by exact en rfl):HOpB P ro N w0 M ds Q frB o g L (λv L'=>∃R,L'=R++L1/\post v R):=by
 rintro a w J K q m H S;refine zlF T O ha he hC hM hc H (λv I R E A r=>?_) (λv I R E A r=>?_)
 ·exact S v I _ ⟨R,rfl,E⟩ A r
 ·exact hp v R E _ _ ⟨J,q,H.size,m,A,r⟩
def SyH(P:Program)(ro:Option Nat)(N:Nat)(w0:World)(M:Nat->Prop)(ds:List Deferred)(ops:Array Oper)(Q:Exit->Act->World->Prop)(fin:Bool)(frB:Fr)(B:List Res):List (Oper×List Oper)->Fr->List Res->Prop
 | [],fr,L=>(fin=true\/SubR B L)/\SyX N w0 M ds (Q .normal) fr L
 |(o,ls)::rest,fr,L=>SubR B L/\∃post,HOpB P ro N w0 M ds Q frB o (only (o.looksAt ops) (get fr)) L post/\zah ops o (only (o.looksAt ops) (get fr))=some true/\
  ((∃d,o.dst=some d/\d<N/\∀v L',post v L'->SyG P ro N w0 M ds ops B (λfr'=>SyH P ro N w0 M ds ops Q fin frB B rest fr' L') ls ((d,v)::fr))\/(o.dst=none/\ls= []/\∀v L',post v L'->SyH P ro N w0 M ds ops Q fin frB B rest fr L'))
def zcX(ci:List (Nat×List Nat)):List Nat:=ci.flatMap λc=>c.1::c.2
theorem zhJ(c:Nat×List Nat)(r:List (Nat×List Nat)):zcX (c::r)=c.1::(c.2++zcX r):=rfl
theorem zgA{i:Nat}{j:List (Nat×List Nat)} :i∈zcX j↔ ∃c∈j,i=c.1\/i∈c.2:=by
 unfold zcX;simp only[List.mem_flatMap,AQ]
def zfR(l:List Oper):List (Nat×List Nat)->List (Oper×List Oper)
 | []=>[]
 |c::r=>match l[c.1]? with
  |none=>zfR l r
  |some o=>(o,zcj l c.2)::zfR l r
theorem zkj{l:List Oper}{c:Nat×List Nat}{o:Oper}(h:l[c.1]?=some o)(r:List (Nat×List Nat)):zfR l (c::r)=(o,zcj l c.2)::zfR l r:=by rw[zfR,h]
def zjZ(l:List Oper):List (Nat×List Nat)->Bool
 | []=>true
 |c::r=>zcz l c.2 (zcX r)&&zcG c.2&&c.2.all (λk=>Nat.blt k l.length&&match l[k]? with
   |none=>false
   |some o=>(pre o).contains c.1 || c.2.any λk'=>(pre o).contains k') && !(c.1::c.2).any (λk=>(zcX r).contains k) && !c.2.contains c.1&&zjZ l r
def zqN(l:List Oper)(fi:List Nat)(ci:List (Nat×List Nat)):Bool:=
 zqL l&&zsv l&&zcz l fi (zcX ci)&&zcG fi&&zd9 l (ci.map Prod.fst)&&zjZ l ci&&(ci.map Prod.fst).all (λi=>Nat.blt i l.length)&&fi.all (λi=>Nat.blt i l.length)&&fi.all (λi=>!(zcX ci).contains i)&&(List.range l.length).all λi=>fi.contains i || (zcX ci).contains i
theorem zgN{l:List Oper} :∀(cl:List (Nat×List Nat)) {j:List (Nat×List Nat)},zjZ l (cl++j)=true->zjZ l j=true
 | [],_,h=>h
 |c::cl,j,h=>by
  simp only[Aa,zjZ,A5] at h;exact zgN cl h.2
structure GOk(l:List Oper)(c:Nat×List Nat)(r:List (Nat×List Nat)):Prop where
 free:zcz l c.2 (zcX r)=true
 nod:zcG c.2=true
 lt:∀k∈c.2,k<l.length
 pr:∀k∈c.2,∀o,l[k]?=some o->c.1∈pre o\/∃k'∈c.2,k'∈pre o
 past:∀k,k=c.1\/k∈c.2->k∉zcX r
 self:c.1∉c.2
theorem zlS{l:List Oper}{c:Nat×List Nat}{r:List (Nat×List Nat)}(h:zjZ l (c::r)=true):GOk l c r:=by
 simp only[zjZ,A5,Aw] at h;obtain⟨⟨⟨⟨⟨E,F⟩,q⟩,w⟩,A⟩,H⟩:=h;refine⟨E,F,λk j=>?_,λk j o G=>?_,λk j m=>?_,λm=>?_⟩
 ·have:=AD.1 q k j;simp only[A5] at this;exact zaO.1 this.1
 ·have:=AD.1 q k j;simp only[A5,G,Bf,DW,Ay,decide_eq_true_eq] at this;exact this.2
 ·rw[DK] at w;have:=w k (by rcases j with rfl|j;exact A4;exact A0 _ j);simp only[Ay,decide_eq_true_eq] at this;exact this m
 ·simp only[Ay,decide_eq_false_iff_not] at A;exact A m
def zul(l:List Oper)(ci:List (Nat×List Nat)):Bool:=match ci.getLast? with
 |none=>false
 |some c=>match l[c.1]? with
  |none=>false
  |some o=>(List.range l.length).all λj=>Nat.beq j c.1 || (pre o).contains j
def zxt(l:List Oper)(frB:List Nat):Bool:=l.all λo=>match o.dst with
 |none=>true
 |some t=>!frB.contains t
theorem zs2{id:Nat}{l:List Oper}(fin:Bool)(frB:Fr)(fi:List Nat)(ci:List (Nat×List Nat))(hm:P.follows .mixedOrders=true)(l6:Sub frB fr)(h9:(zqN l fi ci&&zxt l (frB.map Prod.fst)&&(!fin || zul l ci))=true)(h:SyG P ro N w0 M ds l.toArray B (λS=>SyH P ro N w0 M ds l.toArray Q fin frB B (zfR l ci) S L) (zcj l fi) fr):Sy P ro N w0 M ds (.region id l.toArray true) Q fr L:=by
 simp only[zqN,A5] at h9;obtain⟨⟨⟨⟨⟨⟨⟨⟨⟨⟨⟨j9,i5⟩,c2⟩,l4⟩,e9⟩,hG⟩,h8⟩,k6⟩,i7⟩,h7⟩,k5⟩,V⟩:=h9;have l1:∀(i:Nat) (o:Oper) (d:Nat),l[i]?=some o->o.dst=some d->get frB d=none:=by
  intro i o d O hd;have H:=AD.1 k5 o (BE O);rw[hd] at H;simp only[Ay,Aw,decide_eq_false_iff_not] at H;have:∀f:Fr,d∉f.map Prod.fst->get f d=none:=by
   intro f
   induction f with
   |nil=>intro _;rfl
   |cons p f ih=>
    intro hn;obtain⟨t,u⟩:=p;rw[As,AQ] at hn;rw[zbK (λe=>hn (.inl e.symm))];exact ih (λhm=>hn (.inr hm))
  exact this frB H
 obtain⟨h5,j5,j6,j4⟩:=zjx fi (zcX ci) [] fr (λi hi=>zaO.1 (AD.1 k6 i hi)) c2 (λi hi=>by cases hi) l4 h;have e6:∀(i:Nat) (o:Oper),l[i]?=some o->∀(j:Nat) (F:Oper) (t:Nat),l[j]?=some F->F.dst=some t->(o.looksAt l.toArray).contains t=true->j∈pre o:=by
  intro i o O j F t m ht l2;have H:=AD.1 i5 i (Ar.2 (AL.1 O).1);rw[O] at H;have h2:=AD.1 H j (Ar.2 (AL.1 m).1);rw[m] at h2;simp only[AW,ht,l2,DZ,BG] at h2;simpa [Ay] using h2
 have a8:∀ {fi ci:List Nat},zcz l fi ci=true->∀k∈fi,zcV l k ci=true:=by
  intro fi ci
  induction fi with
  |nil=>intro _ k A;cases A
  |cons x fi ih=>
   intro h k A;simp only[zcz,A5] at h;rcases AQ.1 A with rfl|A
   ·exact zd3 _ _ h.1 (λy hy=>A0 _ (AB _ hy))
   ·exact ih h.2 k A
 refine zmM (J:=λb S L'=>∃cl cr I,∃Fs:List Nat,ci=cl++cr/\(∀c∈cl,b c.1=true)/\(∀c∈cr,b c.1=false/\∀k∈c.2,b k=false)/\SyH P ro N w0 M ds l.toArray Q fin frB B (zfR l cr) I L'/\(∀i∈Fs,∀o,l[i]?=some o->FG P ro N w0 M ds l.toArray B I o/\zcV l i (zcX cr)=true/\i∉zcX cr)/\(∀i∈fi,i∈Fs)/\(∀c∈cl,∀k∈c.2,k∈Fs)/\(∀j o,l[j]?=some o->b j=true->∀q∈pre o,b q=true)/\Sub frB S/\∀t,(∀j o,l[j]?=some o->o.dst=some t->b j=true)->∀v,get I t=some v->get S t=some v) hm j9 ?_ ?_ ?_
 ·refine⟨[],ci,h5,fi,rfl,(λc E=>by cases E),(λ_ _=>⟨rfl,λ_ _=>rfl⟩),j4,λi hi o O=>⟨j6 i (.inr hi) o O,a8 c2 i hi,λhm=>?_⟩,λi hi=>hi,(λc E=>by cases E),(λ_ _ _ h=>by cases h),l6,λt ht v hv=>?_⟩
  ·have:=AD.1 i7 i hi;simp only[Ay,Aw,decide_eq_false_iff_not] at this;exact this hm
  ·rw[j5 t (λi hi o O e=>by have:=ht i o O e;cases this)] at hv;exact hv
 ·rintro b S L' i o O b1 j1 ⟨cl,cr,I,Fs,T,b2,X,hC,a9,c3,b9,b7,c6,b0⟩;have W:∀j∈pre o,b j=true:=λj hj=>AD.1 j1 j hj;have c7:∀a:Act,Agrees (get S) a->Agrees (only (o.looksAt l.toArray) (get I)) a:=λa ha t v hv=>by
   unfold only at hv;cases E:(o.looksAt l.toArray).contains t with
   |false=>rw[E] at hv;simp at hv
   |true=>
    rw[E] at hv;exact ha t v (b0 t (λj F m hd=>W j (e6 i o O j F t m hd E)) v hv)
  have a6:∀j F,l[j]?=some F->(b j || Nat.beq j i)=true->∀q∈pre F,(b q || Nat.beq q i)=true:=λj F m hj q hq=>by
   rcases EY.1 hj with h|h
   ·rw[b7 j F m h q hq];rfl
   ·have:j=i:=Bu h;subst this;rw[O] at m;cases m;rw[W q hq];rfl
  have e3:∀d v,o.dst=some d->Sub frB ((d,v)::S):=λd v hd t u hu=>by
   have a7:d≠t:=λe=>by rw[<-e,l1 i o d O hd] at hu;cases hu
   rw[zbK a7];exact c6 t u hu
  have k8:i∈Fs\/∃c∈cr,i=c.1:=by
   have:=AD.1 h7 i (Ar.2 (AL.1 O).1);simp only[Bf,Ay,decide_eq_true_eq] at this;rcases this with h|h
   ·exact .inl (c3 i h)
   ·obtain⟨c,E,Z⟩:=zgA.1 h;rw[T] at E;rcases Am.1 E with E|E
    ·rcases Z with rfl|Z
     ·rw[b2 c E] at b1;cases b1
     ·exact .inl (b9 c E i Z)
    ·rcases Z with rfl|Z
     ·exact .inr ⟨c,E,rfl⟩
     ·exfalso;obtain⟨p,q,rfl⟩:=List.append_of_mem E;have hg:=zlS (zgN p (zgN cl (by rw[<-T];exact hG)));rcases hg.pr i Z o O with H|⟨k',l0,H⟩
      ·have:=W c.1 H;rw[(X c E).1] at this;cases this
      ·have:=W k' H;rw[(X c E).2 k' l0] at this;cases this
  rcases k8 with k9|⟨c,c9,Z⟩
  ·obtain⟨⟨d,v,hd,e5,hv,hstep⟩,l7,j0⟩:=a9 i k9 o O;have e4:SubR B L':=by
    cases hcr0:zfR l cr with
    |nil=>
     rw[hcr0] at hC;rcases hC.1 with hf|hf
     ·exfalso;have c5:cr= []:=by
       cases cr with
       |nil=>rfl
       |cons c r=>
        have b6:c.1<l.length:=zaO.1 (AD.1 h8 c.1 (by rw[T];exact Dk (AB _ A4)));rw[zkj (A2 b6)] at hcr0;cases hcr0
      subst c5;rw[hf] at V;simp only[DZ,BG,zul] at V;rw[AH] at T;split at V
      ·cases V
      ·rename_i c e7;split at V
       ·cases V
       ·rename_i F m;have e0:c∈cl:=by rw[<-T];exact List.mem_of_getLast? e7
        have H:=AD.1 V i (Ar.2 (AL.1 O).1);rcases EY.1 H with H|H
        ·have:i=c.1:=Bu H;rw[this,b2 c e0] at b1;cases b1
        ·have h2:=b7 c.1 F m (b2 c e0) i (by simpa [Ay] using H);rw[h2] at b1;cases b1
     ·exact hf
    |cons F r=>rw[hcr0] at hC;exact hC.1
   obtain⟨Y,hY⟩:=e4.perm;rintro a w K ⟨Ds,c1,hs⟩ hK;have b3:St N w0 M ds (only (o.looksAt l.toArray) (get I)) (B++(Y++Ds.map dob)) a w:=⟨hs.size,c7 a hs.agr,hs.keep,hs.hold.perm (by rw[<-AF];exact Aj _ hY)⟩;have fin:∀w',Keep M w0 w'->Holds w0.heap.size M (L'++Ds.map dob) w'->K (a.put (some d) v) w':=by
    intro w' A k7;refine hK ((d,v)::S) L' _ _ ⟨cl,cr,I,Fs,T,λc E=>(by show(b c.1 || Nat.beq c.1 i)=true;rw[b2 c E];rfl),λc E=>?_,hC,a9,c3,b9,a6,e3 d v hd,λt ht u hu=>?_⟩ ⟨Ds,c1,hs.put e5 v A k7⟩
    ·have a7:∀k,k=c.1\/k∈c.2->Nat.beq k i=false:=λk A=>zaS.2 (λe=>j0 (zgA.2 ⟨c,E,by rw[<-e];exact A⟩));refine⟨?_,λk A=>?_⟩
     ·show(b c.1 || Nat.beq c.1 i)=false;rw[(X c E).1,BG,a7 _ (.inl rfl)]
     ·show(b k || Nat.beq k i)=false;rw[(X c E).2 k A,BG,a7 _ (.inr A)]
    ·by_cases e:d=t
     ·subst e;rw[zdz];rw[hv] at hu;exact hu
     ·rw[zbK e];refine b0 t (λj F m U=>?_) u hu;have:(b j || Nat.beq j i)=true:=ht j F m U;have c4:j≠i:=λe'=>by subst e';rw[O] at m;cases m;rw[hd] at U;exact e (An U)
      rwa[zaS.2 c4,CQ] at this
   rcases hstep with ⟨hw,f9⟩|⟨hw,rfl⟩
   ·rw[if_pos (zbq b3.agr hw)];refine f9 a w _ K Q b3 λv' w' b4 ⟨e1,e2⟩ A hh=>?_;subst e1;subst e2;rw[hd];exact fin w' A (hh.perm (by rw[<-AF];exact Aj _ hY.symm))
   ·rw[if_neg (by rw[zbq b3.agr hw];decide),hd];exact⟨λ_ _=>by cases ro <;> trivial,fin w hs.keep hs.hold⟩
  ·obtain⟨G,R,rfl⟩:∃c R,cr=c::R:=by cases cr with
    |nil=>cases c9
    |cons c r=>exact⟨c,r,rfl⟩
   have i8:i=G.1:=by
    rcases AQ.1 c9 with h|h
    ·rw[Z,h]
    ·obtain⟨p,hp,F,m,l5⟩:=zgh (l:=l) (c:=G.1) (m:=R.map Prod.fst) (zgj (cl.map Prod.fst) (by
      have:=e9;rw[T,B2,As] at this;exact this)) i (by rw[Z];exact Dk h)
     rw[O] at m;cases m;have H:=W p l5;have:p∈(G::R).map Prod.fst:=hp;obtain⟨c',k0,rfl⟩:=C9.1 this;rw[(X c' k0).1] at H;cases H
   subst i8;have hg:=zlS (zgN cl (by rw[<-T];exact hG));rw[zkj O] at hC;obtain⟨e4,post,f9,hw,j2⟩:=hC;rintro a w K ⟨Ds,c1,hs⟩ hK;have b3:St N w0 M ds (only (o.looksAt l.toArray) (get I)) (L'++Ds.map dob) a w:=⟨hs.size,c7 a hs.agr,hs.keep,hs.hold⟩;rw[if_pos (zbq b3.agr hw)];refine f9 a w Ds K c1 (λt u hu=>hs.agr t u (c6 t u hu)) b3 λv w' b4 hp A hh=>?_;have d8:∀c∈cl++[G],(b c.1 || Nat.beq c.1 G.1)=true:=λc E=>by
    rcases Am.1 E with h|h
    ·rw[b2 c h];rfl
    ·rw[AC.1 h,E9,Dl]
   have a7:∀k,k∈zcX R->Nat.beq k G.1=false:=λk A=>zaS.2 (λe=>hg.past G.1 (.inl rfl) (e ▸ A));have d9:∀c∈R,(b c.1 || Nat.beq c.1 G.1)=false/\∀k∈c.2,(b k || Nat.beq k G.1)=false:=λc E=>by
    refine⟨?_,λk A=>?_⟩
    ·rw[(X c (A0 _ E)).1,BG];exact a7 _ (zgA.2 ⟨c,E,.inl rfl⟩)
    ·rw[(X c (A0 _ E)).2 k A,BG];exact a7 _ (zgA.2 ⟨c,E,.inr A⟩)
   have c8:ci=(cl++[G])++R:=by rw[T,AF];rfl
   have e8:∀k∈G.2,(b k || Nat.beq k G.1)=false:=λk A=>by
    rw[(X G A4).2 k A,BG];exact zaS.2 (λe=>hg.self (e ▸ A))
   rcases j2 with ⟨d,hd,e5,f8⟩|⟨hd,l3,f8⟩
   ·rw[hd];have b8:∀k∈Fs,∀F,l[k]?=some F->FG P ro N w0 M ds l.toArray B ((d,v)::I) F/\zcV l k (G.2++zcX R)=true/\k∉G.2:=λk A F m=>by
     obtain⟨H,h2,h3⟩:=a9 k A F m;rw[zhJ] at h2 h3;have h4:=zdA m h2 A4 O hd;refine⟨H.cons h4.1 (h4.2 (λe=>h3 (by rw[e];exact A4))),zd3 _ _ h2 (λx hx=>A0 _ hx),λhm=>h3 (A0 _ (A7 _ hm))⟩
    obtain⟨j3,j7,h6,j8⟩:=zjx G.2 (zcX R) Fs ((d,v)::I) hg.lt hg.free b8 hg.nod (f8 v b4 hp);refine hK ((d,v)::S) b4 _ _ ⟨cl++[G],R,j3,Fs++G.2,c8,d8,d9,j8,λk A F m=>?_,λk A=>A7 _ (c3 k A),λc E k A=>?_,a6,e3 d v hd,λt ht u hu=>?_⟩ ⟨Ds,c1,hs.put e5 v A hh⟩
    ·rcases Am.1 A with h|h
     ·refine⟨h6 k (.inl h) F m,zd3 _ _ (b8 k h F m).2.1 (λx hx=>AB _ hx),λhm=>(a9 k h F m).2.2 ?_⟩;rw[zhJ];exact A0 _ (AB _ hm)
     ·exact⟨h6 k (.inr h) F m,a8 hg.free k h,hg.past k (.inr h)⟩
    ·rcases Am.1 E with h|h
     ·exact A7 _ (b9 c h k A)
     ·rw[AC.1 h] at A;exact AB _ A
    ·rw[j7 t (λk A F m e=>by
      have H:(b k || Nat.beq k G.1)=true:=ht k F m e;rw[e8 k A] at H;cases H)] at hu
     by_cases e:d=t
     ·subst e;rw[zdz] at hu ⊢;exact hu
     ·rw[zbK e] at hu ⊢;refine b0 t (λj F m U=>?_) u hu;have:(b j || Nat.beq j G.1)=true:=ht j F m U;have c4:j≠G.1:=λe'=>by subst e';rw[O] at m;cases m;rw[hd] at U;exact e (An U)
      rwa[zaS.2 c4,CQ] at this
   ·rw[hd];have i9:∀k∈G.2,False:=λk A=>by
     have H:=hg.lt k A;have h2:zcj l G.2≠[]:=by
      cases hc2:G.2 with
      |nil=>rw[hc2] at A;cases A
      |cons x r=>
       have hx:x<l.length:=hg.lt x (by rw[hc2];exact A4);rw[zfM (A2 hx)];exact λe=>by cases e
     exact h2 l3
    refine hK S b4 _ _ ⟨cl++[G],R,I,Fs,c8,d8,d9,f8 v b4 hp,λk A F m=>?_,c3,λc E k A=>?_,a6,c6,λt ht u hu=>?_⟩ ⟨Ds,c1,hs.put_none A hh⟩
    ·obtain⟨H,h2,h3⟩:=a9 k A F m;rw[zhJ] at h2 h3;exact⟨H,zd3 _ _ h2 (λx hx=>A0 _ (AB _ hx)),λhm=>h3 (A0 _ (AB _ hm))⟩
    ·rcases Am.1 E with h|h
     ·exact b9 c h k A
     ·rw[AC.1 h] at A;exact(i9 k A).elim
    ·refine b0 t (λj F m U=>?_) u hu;have:(b j || Nat.beq j G.1)=true:=ht j F m U;have c4:j≠G.1:=λe'=>by subst e';rw[O] at m;cases m;rw[hd] at U;cases U
     rwa[zaS.2 c4,CQ] at this
 ·rintro b S L' b5 ⟨cl,cr,I,Fs,T,b2,X,hC,a9,c3,b9,b7,c6,b0⟩;have c5:cr= []:=by
   cases cr with
   |nil=>rfl
   |cons c r=>
    have b6:c.1<l.length:=zaO.1 (AD.1 h8 c.1 (by rw[T];exact Dk (AB _ A4)));have:=(X c A4).1;rw[b5 c.1 b6] at this;cases this
  subst c5;exact hC.2.weaken (λt v hv=>b0 t (λj o O _=>b5 j (AL.1 O).1) v hv) Ep
theorem zgB{id:Nat}{l:List Oper}(A:List Nat)(fin:Bool)(frB:Fr)(m:List Nat)(j:List (Nat×List Nat))(hm:P.follows .mixedOrders=true)(w:Sub frB fr)(r:(zqN l m j&&zxt l (frB.map Prod.fst)&&(!fin || zul l j))=true)(h:SyG P ro N w0 M ds l.toArray (zmu A L) (λq=>SyH P ro N w0 M ds l.toArray Q fin frB (zmu A L) (zfR l j) q L) (zcj l m) fr):Sy P ro N w0 M ds (.region id l.toArray true) Q fr L:=zs2 fin frB m j hm w r h
variable {fin:Bool}{frB:Fr}{K:Fr->Prop}{rest:List Oper}{cs:List (Oper×List Oper)}{ls:List Oper}{d:Nat}{v:Value}{L':List Res}
theorem ygv(h:OpT P ro N w0 M ds o (only (o.looksAt ops) (get fr)) B (Det v B))(q:zah ops o (only (o.looksAt ops) (get fr))=some true:=by exact rfl)(m:o.dst=some d:=by exact rfl)(j:Nat.blt d N=true:=by exact rfl)
  (k:SyG P ro N w0 M ds ops B K rest ((d,v)::fr)):SyG P ro N w0 M ds ops B K (o::rest) fr:=⟨d,v,m,A6 j,.inl ⟨q,h⟩,k⟩
theorem yg0(k:K fr):SyG P ro N w0 M ds ops B K [] fr:=k
theorem yhs{post:Value->List Res->Prop}(h:OpT P ro N w0 M ds o (only (o.looksAt ops) (get fr)) L post)(w:zah ops o (only (o.looksAt ops) (get fr))=some true:=by exact rfl)(r:o.dst=some d:=by exact rfl)(q:Nat.blt d N=true:=by exact rfl)(m:SubR B L:=by first|(focus ((repeat (first|exact Ep|apply Ex));done))|exact FE)
  (k:∀v L',post v L'->SyG P ro N w0 M ds ops B (λj=>SyH P ro N w0 M ds ops Q fin frB B cs j L') ls ((d,v)::fr)):SyH P ro N w0 M ds ops Q fin frB B ((o,ls)::cs) fr L:=⟨m,post,HOpB.of h,w,.inl ⟨d,r,A6 q,k⟩⟩
theorem yhv(h:OpT P ro N w0 M ds o (only (o.looksAt ops) (get fr)) L (Det v L'))(E:zah ops o (only (o.looksAt ops) (get fr))=some true:=by exact rfl)(A:o.dst=some d:=by exact rfl)(w:Nat.blt d N=true:=by exact rfl)(r:SubR B L:=by first|(focus ((repeat (first|exact Ep|apply Ex));done))|exact FE)
  (k:SyG P ro N w0 M ds ops B (λj=>SyH P ro N w0 M ds ops Q fin frB B cs j L') ls ((d,v)::fr)):SyH P ro N w0 M ds ops Q fin frB B ((o,ls)::cs) fr L:=yhs h E A w r λ_ _ ⟨m,q⟩=>by subst m;subst q;exact k
theorem yhn(h:OpT P ro N w0 M ds o (only (o.looksAt ops) (get fr)) L (Det v L'))(w:zah ops o (only (o.looksAt ops) (get fr))=some true:=by exact rfl)(r:o.dst=none:=by exact rfl)(q:SubR B L:=by first|(focus ((repeat (first|exact Ep|apply Ex));done))|exact FE)
  (k:SyH P ro N w0 M ds ops Q fin frB B cs fr L'):SyH P ro N w0 M ds ops Q fin frB B ((o,[])::cs) fr L:=⟨q,Det v L',HOpB.of h,w,.inr ⟨r,rfl,λ_ _ ⟨j,m⟩=>by subst j;subst m;exact k⟩⟩
theorem yhp{r:Operand}{args:Array Operand}{q:Array TypeId}{f:Nat}{vs:List Value}{cap:List Value}{C L1:List Res}{M':Nat->Prop}{post j:Value->List Res->Prop}
  (hC:RemL L C L1)(hM:∀b,M' b->OwnOf C b)
  (hc:∀w X,Keep M w0 w->Holds w0.heap.size M (L++X) w->FnP P f (vs++cap) w M' post j)
  (hp:∀v R,j v R->SyX N w0 M ds (Q (.panic (pch v))) frB (R++L1))
  (H:o.op= .call { callee:=.value r,args:=args,argTypes:=q } :=by exact rfl)(G:ev (only (o.looksAt ops) (get fr)) r=some (.func (.func f) #[] cap.toArray):=by exact rfl)(ha:evs (only (o.looksAt ops) (get fr)) args.toList=some vs:=by exact rfl)
  (he:∀args w,(callFunc f args).run P w= .ok (.enter f args) w:=by exact en rfl)
  (J:zah ops o (only (o.looksAt ops) (get fr))=some true:=by exact rfl)(F:o.dst=some d:=by exact rfl)(E:Nat.blt d N=true:=by exact rfl)(A:SubR B L:=by first|(focus ((repeat (first|exact Ep|apply Ex));done))|exact FE)
  (k:∀v R,post v R->SyG P ro N w0 M ds ops B (λm=>SyH P ro N w0 M ds ops Q fin frB B cs m (R++L1)) ls ((d,v)::fr)):SyH P ro N w0 M ds ops Q fin frB B ((o,ls)::cs) fr L:=
 ⟨A,_,HOpB.callP hC hM hc hp H G ha he,J,.inl ⟨d,F,A6 E,λ_ _ ⟨_,e,I⟩=>by subst e;exact k _ _ I⟩⟩
theorem zlp(k:SyX N w0 M ds (Q .normal) fr L):SyH P ro N w0 M ds ops Q true frB B [] fr L:=⟨.inl rfl,k⟩
end Go.Sy
