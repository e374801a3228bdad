/- Lemmas of this proof. -/
import Derived.Test.YtdnlngbjpdbffaaGreatDoorKJ31
set_option maxRecDepth 10000
set_option linter.all false
namespace Go.Sy
open Go Go.RowKit
variable {P:Program}{ro:Option Nat}{N:Nat}{w0:World}{M:Nat->Prop}{ds:List Deferred}{fr:Fr}{L B:List Res}{Q:Exit->Act->World->Prop}{ops:Array Oper}{g:Nat->Option Value}{o:Oper}
def HOp(P:Program)(ro:Option Nat)(N:Nat)(w0:World)(M:Nat->Prop)(ds:List Deferred)(Q:Exit->Act->World->Prop)(o:Oper)(g:Nat->Option Value)(L:List Res)(post:Value->List Res->Prop):Prop:=
 ∀a w (Ds:List Nat) (K:Act->World->Prop),a.defers=Ds.map col++ds->St N w0 M ds g (L++Ds.map dob) a w->(∀v w' L',post v L'->Keep M w0 w'->Holds w0.heap.size M (L'++Ds.map dob) w'->K (a.put o.dst v) w')->o.wpIn (FW ro) 0 P a w K Q
theorem HOp.of{post:Value->List Res->Prop}(h:OpT P ro N w0 M ds o g L post):HOp P ro N w0 M ds Q o g L post:=λa w C K _ t q=>h a w _ K Q t (λv A L' r m j=>q v A L' r m j)
def SyC(P:Program)(ro:Option Nat)(N:Nat)(w0:World)(M:Nat->Prop)(ds:List Deferred)(ops:Array Oper)(Q:Exit->Act->World->Prop)(B:List Res):List Oper->Fr->List Res->Prop
 | [],fr,L=>SubR B L/\SyX N w0 M ds (Q .normal) fr L
 |o::rest,fr,L=>SubR B L/\∃post,HOp P ro N w0 M ds Q o (only (o.looksAt ops) (get fr)) L post/\zar ops o (only (o.looksAt ops) (get fr))=some true/\((∃d,o.dst=some d/\d<N/\∀v L',post v L'->SyC P ro N w0 M ds ops Q B rest ((d,v)::fr) L')\/(o.dst=none/\∀v L',post v L'->SyC P ro N w0 M ds ops Q B rest fr L'))
def SyF(P:Program)(ro:Option Nat)(N:Nat)(w0:World)(M:Nat->Prop)(ds:List Deferred)(ops:Array Oper)(Q:Exit->Act->World->Prop)(B L:List Res)(chain:List Oper):List Oper->Fr->Prop
 | [],fr=>SyC P ro N w0 M ds ops Q B chain fr L
 |o::rest,fr=>∃d v,o.dst=some d/\d<N/\zar ops o (only (o.looksAt ops) (get fr))=some true/\OpT P ro N w0 M ds o (only (o.looksAt ops) (get fr)) B (Det v B)/\SyF P ro N w0 M ds ops Q B L chain rest ((d,v)::fr)
def zdr(l:List Oper):List Nat->List Oper
 | []=>[]
 |i::r=>match l[i]? with
  |none=>zdr l r
  |some o=>o::zdr l r
theorem zka{l:List Oper}{i:Nat}{o:Oper}(h:l[i]?=some o)(r:List Nat):zdr l (i::r)=o::zdr l r:=by rw[zdr,h]
def zgj(l:List Oper)(i:Nat)(js:List Nat):Bool:=match l[i]? with
 |none=>false
 |some o=>js.all λj=>match (l[j]?).bind (·.dst) with
  |none=>true
  |some t=>!(o.looksAt l.toArray).contains t&&(Nat.beq i j || !(o.dst==some t))
def zf2(l:List Oper):List Nat->List Nat->Bool
 | [],_=>true
 |i::fi,ci=>zgj l i (i::(fi++ci))&&zf2 l fi ci
def zeq(l:List Oper):List Nat->Bool
 |i::j::r=>(match l[j]? with
  |none=>false
  |some o=>(pre o).contains i)&&zeq l (j::r)
 |_=>true
def zws(l:List Oper):Bool:=(List.range l.length).all λi=>match l[i]? with
 |none=>true
 |some o=>(List.range l.length).all λj=>match (l[j]?).bind (·.dst) with
  |none=>true
  |some t=>!(o.looksAt l.toArray).contains t || (pre o).contains j
def zdX:List Nat->Bool
 | []=>true
 |i::r=>!r.contains i&&zdX r
def zp8(l:List Oper)(fi ci:List Nat):Bool:=
 zt8 l&&zws l&&zf2 l fi ci&&zeq l ci&&zdX ci&&ci.all (λi=>Nat.blt i l.length)&&fi.all (λi=>Nat.blt i l.length)&&(List.range l.length).all λi=>fi.contains i || ci.contains i
def FO(P:Program)(ro:Option Nat)(N:Nat)(w0:World)(M:Nat->Prop)(ds:List Deferred)(ops:Array Oper)(B:List Res)(frF:Fr)(o:Oper):Prop:=
 ∃d v,o.dst=some d/\d<N/\get frF d=some v/\zar ops o (only (o.looksAt ops) (get frF))=some true/\OpT P ro N w0 M ds o (only (o.looksAt ops) (get frF)) B (Det v B)
theorem zdT{fr:Fr}{t d:Nat}{v:Value}(h:d≠t):get ((d,v)::fr) t=get fr t:=by
 show(bif Nat.beq d t then some v else get fr t)=_;rw[za4.2 h];rfl
theorem zgS{fr:Fr}{d:Nat}{v:Value} :get ((d,v)::fr) d=some v:=by
 show(bif Nat.beq d d then some v else get fr d)=_;rw[Ex];rfl
theorem zgy{ts:List Nat}{fr:Fr}{d:Nat}{v:Value}(h:ts.contains d=false):only ts (get ((d,v)::fr))=only ts (get fr):=by
 funext t
 unfold only;by_cases ht:ts.contains t=true
 ·rw[ht];have:d≠t:=λe=>by subst e;rw[h] at ht;cases ht
  simp only[cond_true,zdT this]
 ·rw[CI] at ht;rw[ht];rfl
theorem FO.cons{j:Fr}{d:Nat}{v:Value}(h:FO P ro N w0 M ds ops B j o)(h1:(o.looksAt ops).contains d=false)(h2:o.dst≠some d):FO P ro N w0 M ds ops B ((d,v)::j) o:=by
 obtain⟨q,E,r,t,w,A,C⟩:=h;have m:d≠q:=λe=>h2 (by rw[r,e]);exact⟨q,E,r,t,by rw[zdT m];exact w,by rw[zgy h1];exact A,by rw[zgy h1];exact C⟩
theorem zgT{l:List Oper}{i:Nat}{w:List Nat}{o:Oper}(A:l[i]?=some o)(h:zgj l i w=true){j:Nat}(hj:j∈w){o':Oper}{t:Nat}(r:l[j]?=some o')(C:o'.dst=some t):(o.looksAt l.toArray).contains t=false/\(i≠j->o.dst≠some t):=by
 unfold zgj at h;rw[A] at h;have:=AT.1 h j hj;rw[r] at this;simp only[BB,C,AB,BQ,Bl] at this;refine⟨this.1,λq e=>?_⟩;rcases this.2 with m|m
 ·exact q (BT m)
 ·rw[e] at m;simp at m
theorem znI{l:List Oper}{chain:List Oper} :∀(w:List Nat) (F done:List Nat) (fr:Fr),(∀i∈w,i<l.length)->zf2 l w F=true->(∀i∈done,∀o,l[i]?=some o->FO P ro N w0 M ds l.toArray B fr o/\zgj l i (w++F)=true/\i∉w)->zdX w=true->
  SyF P ro N w0 M ds l.toArray Q B L chain (zdr l w) fr->∃m,(∀t,(∀i∈w,∀o,l[i]?=some o->o.dst≠some t)->get m t=get fr t)/\(∀i,i∈done\/i∈w->∀o,l[i]?=some o->FO P ro N w0 M ds l.toArray B m o)/\SyC P ro N w0 M ds l.toArray Q B chain m L
 | [],F,done,fr,_,_,hd,_,h=>⟨fr,λ_ _=>rfl,λi O o A=>(O.elim (λh=>(hd i h o A).1) (λh=>(by cases h))),h⟩
 |i::w,F,done,fr,hl,hc,hd,hn,h=>by
  have O:i<l.length:=hl i A5;have A:=A1 O;rw[zka A] at h;obtain⟨d,v,H,W,X,Y,h⟩:=h;simp only[zf2,AB] at hc;simp only[zdX,AB,BQ] at hn;have r:=zgT A hc.1 A5 A H;have C:∀ {k:Nat}{o:Oper}(T E:List Nat),l[k]?=some o->zgj l k T=true->(∀x∈E,x∈T)->zgj l k E=true:=by
   intro k o T E q h Z;unfold zgj at h ⊢;rw[q] at h ⊢;exact AT.2 λx G=>AT.1 h x (Z x G)
  have hstep:=znI (chain:=chain) w F (i::done) ((d,v)::fr) (λk q=>hl k (A9 _ q)) hc.2 (λk q o j=>by
   rcases Ag.1 q with rfl|q
   ·have:o=l[k]:=by rw[A] at j;exact(Ap j).symm
    subst this;refine⟨⟨d,v,H,W,zgS,by rw[zgy r.1];exact X,by rw[zgy r.1];exact Y⟩,C _ _ A hc.1 (λx G=>A9 _ G),λS=>?_⟩;have:=hn.1;simp only[CQ,decide_eq_false_iff_not] at this;exact this S
   ·obtain⟨K,I,J⟩:=hd k q o j;have U:=zgT j I (AX _ A5) A H;have R:k≠i:=λe=>J (by rw[e];exact A5);exact⟨K.cons U.1 (U.2 R),C _ _ j I (λx G=>(BE.1 G).elim (λh=>AX _ (A9 _ h)) (λh=>Ar _ h)),λS=>J (A9 _ S)⟩) hn.2 h
  obtain⟨m,K,I,J⟩:=hstep;refine⟨m,λt V=>?_,λk q o j=>?_,J⟩
  ·rw[K t (λk q o j=>V k (A9 _ q) o j)];exact zdT (λe=>V i A5 _ A (by rw[<-e];exact H))
  ·refine I k ?_ o j;rcases q with h|h
   ·exact .inl (A9 _ h)
   ·rcases Ag.1 h with rfl|h
    ·exact .inl A5
    ·exact .inr h
theorem ziu{l:List Oper} :∀(cl:List Nat) {j:List Nat},zeq l (cl++j)=true->zeq l j=true
 | [],_,h=>h
 | [c],[],_=>rfl
 | [c],d::j,h=>by
  simp only[An,B3,zeq,AB] at h;exact h.2
 |c::c'::cl,j,h=>by
  simp only[An,zeq,AB] at h;exact ziu (c'::cl) h.2
theorem zib{l:List Oper} :∀ {c:Nat}{m:List Nat},zeq l (c::m)=true->∀i∈m,∃p,p∈c::m/\∃o,l[i]?=some o/\p∈pre o
 |c,[],_,i,j=>by cases j
 |c,d::m,h,i,j=>by
  simp only[zeq,AB] at h;rcases Ag.1 j with rfl|j
  ·have q:=h.1;split at q
   ·cases q
   ·rename_i o r;refine⟨c,A5,o,r,?_⟩;simpa [CQ] using q
  ·obtain⟨p,w,o,r,t⟩:=zib h.2 i j;exact⟨p,A9 _ w,o,r,t⟩
theorem zpn{l:List Oper} :∀ {r q:List Nat},zf2 l r q=true->∀k∈r,∀o,l[k]?=some o->∀i∈q,∀m,l[i]?=some m->∀d,m.dst=some d->(o.looksAt l.toArray).contains d=false/\(k≠i->o.dst≠some d)
 | [],_,_,_,j,_,_,_,_,_,_,_,_=>by cases j
 |x::r,q,h,k,j,o,ho,i,hi,m,ho',d,hd=>by
  simp only[zf2,AB] at h;rcases Ag.1 j with rfl|j
  ·exact zgT ho h.1 (A9 _ (Ar _ hi)) ho' hd
  ·exact zpn h.2 k j o ho i hi m ho' d hd
theorem zjU:∀(cl:List Nat) {c:Nat}{j:List Nat},zdX (cl++c::j)=true->c∉j
 | [],c,j,h=>by
  simp only[B3,zdX,AB,BQ,CQ,decide_eq_false_iff_not] at h;exact h.1
 |x::cl,c,j,h=>by
  simp only[An,zdX,AB] at h;exact zjU cl h.2
theorem zln{id:Nat}{l:List Oper}(fi ci:List Nat)(hm:P.follows .mixedOrders=true)(c5:(zp8 l fi ci&&zdX fi)=true)(h:SyF P ro N w0 M ds l.toArray Q B L (zdr l ci) (zdr l fi) fr):Sy P ro N w0 M ds (.region id l.toArray true) Q fr L:=by
 simp only[zp8,AB] at c5;obtain⟨⟨⟨⟨⟨⟨⟨⟨e7,c7⟩,a7⟩,b9⟩,f8⟩,e8⟩,e9⟩,c3⟩,f9⟩:=c5;obtain⟨c2,e5,e6,e4⟩:=znI fi ci [] fr (λi hi=>zaA.1 (AT.1 e9 i hi)) a7 (λi hi=>by cases hi) f9 h;have b8:∀(i:Nat) (o:Oper),l[i]?=some o->∀(j:Nat) (F:Oper) (t:Nat),l[j]?=some F->F.dst=some t->(o.looksAt l.toArray).contains t=true->j∈pre o:=by
  intro i o E j F t m ht f7;have h1:=AT.1 c7 i (B9.2 (AQ.1 E).1);rw[E] at h1;have h2:=AT.1 h1 j (B9.2 (AQ.1 m).1);rw[m] at h2;simp only[BB,ht,f7,Eu,Bz] at h2;simpa [CQ] using h2
 -- J: what has been done of the order; what is known.
 refine zsV (J:=λb H L'=>∃cl R q,ci=cl++R/\(∀c∈cl,b c=true)/\(∀c∈R,b c=false)/\SyC P ro N w0 M ds l.toArray Q B (zdr l R) q L'/\(∀i∈fi,∀o,l[i]?=some o->i∉ci->FO P ro N w0 M ds l.toArray B q o)/\∀t,(∀j o,l[j]?=some o->o.dst=some t->b j=true)->∀v,get q t=some v->get H t=some v) hm e7 ?_ ?_ ?_
 ·refine⟨[],ci,c2,rfl,(λc I=>by cases I),(λ_ _=>rfl),e4,λi hi o E _=>e6 i (.inr hi) o E,λt ht v T=>?_⟩;rw[e5 t (λi hi o E e=>by have:=ht i o E e;cases this)] at T;exact T
 ·rintro b H L' i o E c4 e0 ⟨cl,R,q,C,b1,X,hC,V,O⟩;have a9:∀j∈pre o,b j=true:=λj hj=>AT.1 e0 j hj;have b2:∀a:Act,Agrees (get H) a->Agrees (only (o.looksAt l.toArray) (get q)) a:=λa ha t v T=>by
   unfold only at T;cases I:(o.looksAt l.toArray).contains t with
   |false=>rw[I] at T;simp at T
   |true=>
    rw[I] at T;exact ha t v (O t (λj F m Z=>a9 j (b8 i o E j F t m Z I)) v T)
  by_cases hic:i∈ci
  ·have c9:i∈R:=by
    rw[C] at hic;rcases BE.1 hic with h|h
    ·rw[b1 i h] at c4;cases c4
    ·exact h
   obtain⟨c,G,rfl⟩:∃c G,R=c::G:=by cases R with
    |nil=>cases c9
    |cons c r=>exact⟨c,r,rfl⟩
   have c8:i=c:=by
    rcases Ag.1 c9 with h|h
    ·exact h
    ·obtain⟨p,hp,F,m,h4⟩:=zib (ziu cl (by rw[<-C];exact b9)) i h;rw[E] at m;cases m;have:=a9 p h4;rw[X p hp] at this;cases this
   subst c8;rw[zka E] at hC;obtain⟨b6,post,c1,hw,e3⟩:=hC;have h3:i∉G:=zjU cl (by rw[<-C];exact f8);rintro a w K ⟨Ds,a6,S⟩ hK;have b0:St N w0 M ds (only (o.looksAt l.toArray) (get q)) (L'++Ds.map dob) a w:=⟨S.size,b2 a S.agr,S.keep,S.hold⟩;rw[if_pos (zcr b0.agr hw)];refine c1 a w Ds K a6 b0 λv w' U hp hk hh=>?_;have b4:∀c∈cl++[i],(b c || Nat.beq c i)=true:=λc I=>by
    rcases BE.1 I with h|h
    ·rw[b1 c h];rfl
    ·rw[AF.1 h,Ex,EX]
   have b5:∀c∈G,(b c || Nat.beq c i)=false:=λc I=>by
    rw[X c (A9 _ I),Bz];exact za4.2 (λe=>h3 (e ▸ I))
   have b3:ci=(cl++[i])++G:=by rw[C,AL];rfl
   rcases e3 with ⟨d,Z,b7,c0⟩|⟨Z,c0⟩
   ·rw[Z];refine hK ((d,v)::H) U _ _ ⟨cl++[i],G,(d,v)::q,b3,b4,b5,c0 v U hp,λk hk F m d8=>?_,λt ht u hu=>?_⟩ ⟨Ds,a6,S.put b7 v hk hh⟩
    ·have hF:=V k hk F m d8;obtain⟨h1,h2⟩:=zpn a7 k hk F m i (C ▸ Ar _ A5) o E d Z;exact hF.cons h1 (h2 (λe=>d8 (e ▸ hic)))
    ·by_cases e:d=t
     ·subst e;rw[zgS] at hu ⊢;exact hu
     ·rw[zdT e] at hu ⊢;refine O t (λj F m A=>?_) u hu;have:(b j || Nat.beq j i)=true:=ht j F m A;have a8:j≠i:=λe'=>by subst e';rw[E] at m;cases m;rw[Z] at A;exact e (Ap A)
      rwa[za4.2 a8,Do] at this
   ·rw[Z];refine hK H U _ _ ⟨cl++[i],G,q,b3,b4,b5,c0 v U hp,V,λt ht u hu=>?_⟩ ⟨Ds,a6,S.put_none hk hh⟩;refine O t (λj F m A=>?_) u hu;have:(b j || Nat.beq j i)=true:=ht j F m A;have a8:j≠i:=λe'=>by subst e';rw[E] at m;cases m;rw[Z] at A;cases A
    rwa[za4.2 a8,Do] at this
  ·have f6:i∈fi:=by
    have:=AT.1 c3 i (B9.2 (AQ.1 E).1);simp only[Bl,CQ,decide_eq_true_eq] at this;exact this.resolve_right hic
   obtain⟨d,v,Z,b7,T,hw,c1⟩:=V i f6 o E hic;have b6:SubR B L':=by
    cases hcr0:zdr l R with
    |nil=>rw[hcr0] at hC;exact hC.1
    |cons F r=>rw[hcr0] at hC;exact hC.1
   obtain⟨Y,hY⟩:=b6.perm;rintro a w K ⟨Ds,a6,S⟩ hK;have b0:St N w0 M ds (only (o.looksAt l.toArray) (get q)) (B++(Y++Ds.map dob)) a w:=⟨S.size,b2 a S.agr,S.keep,S.hold.perm (by rw[<-AL];exact B2 _ hY)⟩;rw[if_pos (zcr b0.agr hw)];refine c1 a w _ K Q b0 λv' w' U ⟨e1,e2⟩ hk hh=>?_;subst e1;subst e2;rw[Z];have f5:Holds w0.heap.size M (L'++Ds.map dob) w':=hh.perm (by rw[<-AL];exact B2 _ hY.symm);refine hK ((d,v')::H) L' _ _ ⟨cl,R,q,C,λc I=>(by show(b c || Nat.beq c i)=true;rw[b1 c I];rfl),λc I=>?_,hC,V,λt ht u hu=>?_⟩ ⟨Ds,a6,S.put b7 v' hk f5⟩
   ·show(b c || Nat.beq c i)=false;rw[X c I,Bz];exact za4.2 (λe=>hic (by rw[C,<-e];exact Ar _ I))
   ·by_cases e:d=t
    ·subst e;rw[zgS];rw[T] at hu;exact hu
    ·rw[zdT e];refine O t (λj F m A=>?_) u hu;have:(b j || Nat.beq j i)=true:=ht j F m A;have a8:j≠i:=λe'=>by subst e';rw[E] at m;cases m;rw[Z] at A;exact e (Ap A)
     rwa[za4.2 a8,Do] at this
 ·rintro b H L' W ⟨cl,R,q,C,b1,X,hC,V,O⟩;have d9:R= []:=by
   cases R with
   |nil=>rfl
   |cons c r=>
    have c6:c<l.length:=zaA.1 (AT.1 e8 c (by rw[C];exact Ar _ A5));have:=X c A5;rw[W c c6] at this;cases this
  subst d9;exact hC.2.weaken (λt v T=>O t (λj o E _=>W j (AQ.1 E).1) v T) F8
theorem zdc{id:Nat}{l:List Oper}(j m:List Nat)(hm:P.follows .mixedOrders=true)(q:(zp8 l j m&&zdX j)=true)(h:SyF P ro N w0 M ds l.toArray Q L L (zdr l m) (zdr l j) fr):Sy P ro N w0 M ds (.region id l.toArray true) Q fr L:=zln j m hm q h
def zue:List Nat->List Res->List Res
 | [],L=>L
 |k::ks,L=>zue ks (L.eraseIdx k)
theorem zlk{id:Nat}{l:List Oper}(r:List Nat)(j m:List Nat)(hm:P.follows .mixedOrders=true)(q:(zp8 l j m&&zdX j)=true)(h:SyF P ro N w0 M ds l.toArray Q (zue r L) L (zdr l m) (zdr l j) fr):Sy P ro N w0 M ds (.region id l.toArray true) Q fr L:=zln j m hm q h
variable {rest chain:List Oper}{d:Nat}{v:Value}{L':List Res}
theorem yfv(h:OpT P ro N w0 M ds o (only (o.looksAt ops) (get fr)) B (Det v B))(q:zar ops o (only (o.looksAt ops) (get fr))=some true:=by exact rfl)(m:o.dst=some d:=by exact rfl)(j:Nat.blt d N=true:=by exact rfl)
  (k:SyF P ro N w0 M ds ops Q B L chain rest ((d,v)::fr)):SyF P ro N w0 M ds ops Q B L chain (o::rest) fr:=⟨d,v,m,AO j,q,h,k⟩
theorem yf0(k:SyC P ro N w0 M ds ops Q B chain fr L):SyF P ro N w0 M ds ops Q B L chain [] fr:=k
theorem ycs{post:Value->List Res->Prop}(h:OpT P ro N w0 M ds o (only (o.looksAt ops) (get fr)) L post)(r:zar ops o (only (o.looksAt ops) (get fr))=some true:=by exact rfl)(q:o.dst=some d:=by exact rfl)(m:Nat.blt d N=true:=by exact rfl)(j:SubR B L:=by first|(focus ((repeat (first|exact F8|apply FE));done))|exact Fp)
  (k:∀v L',post v L'->SyC P ro N w0 M ds ops Q B rest ((d,v)::fr) L'):SyC P ro N w0 M ds ops Q B (o::rest) fr L:=⟨j,post,HOp.of h,r,.inl ⟨d,q,AO m,k⟩⟩
theorem ycv(h:OpT P ro N w0 M ds o (only (o.looksAt ops) (get fr)) L (Det v L'))(w:zar ops o (only (o.looksAt ops) (get fr))=some true:=by exact rfl)(t:o.dst=some d:=by exact rfl)(r:Nat.blt d N=true:=by exact rfl)(q:SubR B L:=by first|(focus ((repeat (first|exact F8|apply FE));done))|exact Fp)
  (k:SyC P ro N w0 M ds ops Q B rest ((d,v)::fr) L'):SyC P ro N w0 M ds ops Q B (o::rest) fr L:=ycs h w t r q λ_ _ ⟨j,m⟩=>by subst j;subst m;exact k
theorem ycn(h:OpT P ro N w0 M ds o (only (o.looksAt ops) (get fr)) L (Det v L'))(t:zar ops o (only (o.looksAt ops) (get fr))=some true:=by exact rfl)(r:o.dst=none:=by exact rfl)(q:SubR B L:=by first|(focus ((repeat (first|exact F8|apply FE));done))|exact Fp)
  (k:SyC P ro N w0 M ds ops Q B rest fr L'):SyC P ro N w0 M ds ops Q B (o::rest) fr L:=⟨q,Det v L',HOp.of h,t,.inr ⟨r,λ_ _ ⟨j,m⟩=>by subst j;subst m;exact k⟩⟩
theorem yc0(k:SyX N w0 M ds (Q .normal) fr L)(j:SubR B L:=by first|(focus ((repeat (first|exact F8|apply FE));done))|exact Fp):SyC P ro N w0 M ds ops Q B [] fr L:=⟨j,k⟩
end Go.Sy
namespace Go.Ct
open Go Go.Sy
theorem zdV{w:World}{a:Option Addr}{B:List Value}(h:SlA w a B){i:Nat}(m:i<B.length):∃b o,a=some ⟨b,o,none⟩/\∀(j:Nat) (v:Value),B[j]?=some v->w.cell? ⟨b,o+j,none⟩=some v:=by
 rcases h with rfl|⟨b,o,rfl,q⟩
 ·exact absurd m q_p
 ·exact⟨b,o,rfl,q⟩
theorem zdg{α β:Type}(f:α->β){l:List α}{i:Nat}(h:i<l.length):(l.map f)[i]?=some (f l[i]):=by rw[AY,A1 h];rfl
theorem zaP{α:Type}{l:List α}{i:Nat}(h:i<l.length):l.take (i+1)=l.take i++[l[i]]:=Aj h
theorem zmQ:∀bs:List Bool,bs.all id=!bs.contains false
 | []=>rfl
 |x::l=>by
  have j:=zmQ l;cases x
  ·simp
  ·simp only[BP,id,Ax,j,List.contains_cons];rfl
end Go.Ct
namespace Go.Proofs.YtdnlngbjpdbffaaGreatDoor
open Go Go.Sy Go.Ct Go.RowKit
attribute [local irreducible] Sy SyL SyX Sy.Fn callFunc
theorem zuN(a:Option Addr)(m c:Nat)(bs:List Bool)(u:Bool)(w:World)(hm:bs.length=m)(E:m<1000000)(F:SlA w a (bs.map Value.bool)):
  Sy.Fn Tryz.prog 280 [.slice a m c,.bool u] w No (λv R=>∃z:Int,v= .int .i64 z/\decide (z>=0)=bs.contains u/\R= []):=by
 refine zo Tryz.func280 Tryz.ntmps280 ?_;repeat' (first|refine s_t ?_|refine zK [0,1] ?_;refine zb ?_)
 refine zE (γ:=Nat) (λi=>[(0,.slice a m c),(1,.bool u),(7,.int .i64 (m:Int)),(8,.int .i64 (i:Int))]) (λ_=>[]) (λi=>i<=m/\(bs.take i).contains u=false) (λi=>m-i) 0 ⟨AE _,rfl⟩ ?_ ?_ ?_
 ·exact q_h
 ·exact q_h
 rintro i ⟨H,q⟩;by_cases hlt:i<m
 ·obtain⟨G,I,rfl,r⟩:=zdV F (i:=i) (by rw[A0];omega);have C:=r i _ (zdg Value.bool q_o);have g1:decide ((i:Int)<(m:Int))=true:=q_d;have g5:IntKind.i64.wrap ((i:Int)+1)=((i+1:Nat):Int):=q_w;have A:bs.take (i+1)=bs.take i++[bs[i]]:=zaP q_o;have t:bs[i]∈bs:=Ah q_o;generalize bs[i]=x at*;by_cases hx:u=x
  ·have g2:(u==x)=true:=by simp[hx]
   repeat' (first|refine s_t ?_|refine zg 2 ?_;refine q_v (zl (hr:=g1)) ?_|refine zK [3,5] ?_;refine zb ?_|refine q_k 4 ?_;refine q_v (zL (j:=i)) ?_;refine q_v (zn (hv:=C)) ?_;refine q_v (zfx (hr:=g2)) ?_)
   exact zaw rfl (zr rfl) F2 ⟨i,rfl,by rw[decide_eq_true q_o];symm;simp[hx,t],rfl⟩
  ·have g2:(u==x)=false:=by simp[hx]
   repeat' (first|refine s_t ?_|refine zg 2 ?_;refine q_v (zl (hr:=g1)) ?_|refine q_k 3 ?_|refine q_k 4 ?_;refine q_v (zL (j:=i)) ?_;refine q_v (zn (hv:=C)) ?_;refine q_v (zfx (hr:=g2)) ?_|refine zg 6 ?_;refine q_x (zA (hr:=g5)) ?_)
   refine zy (i+1) ⟨hlt,?_⟩ ?_ ?_ ?_
   ·rw[A];simp only[CQ,BE,AF,decide_eq_false_iff_not] at q ⊢;rintro(h|h)
    ·exact q h
    ·exact hx h
   ·show m-(i+1)<m-i;omega
   ·exact q_h
   ·exact q_h
 obtain rfl:i=m:=q_o;rw[A6 q_o] at q;have g1:decide ((i:Int)<(i:Int))=false:=q_f;repeat' (first|refine s_0 ?_|refine zg 2 ?_;refine q_v (zl (hr:=g1)) ?_|refine q_k 7 ?_)
 exact zaw rfl (zr rfl) F2 ⟨-1,rfl,by rw[q];rfl,rfl⟩
theorem zmZ(a:Option Addr)(m c:Nat)(bs:List Bool)(u:Bool)(w:World)(hm:bs.length=m)(j:m<1000000)(A:SlA w a (bs.map Value.bool)):
  q_G 234 [.slice a m c,.bool u] w (.bool (bs.contains u)):=by
 refine zo Tryz.func234 Tryz.ntmps234 ?_;have r:=λq (t:Keep No w q)=>zuN a m c bs u q hm j ((Fk A).to (Mi:=No) t (λ_ h=> .inr h)).sla;repeat' (first|refine s_0 ?_|refine q_k 0 ?_|refine q_k 1 ?_;(refine q_s (zh (hc:=zq r)) ?_;rintro _ _ ⟨R,rfl,z,rfl,C,rfl⟩);refine q_x (zP (hr:=C)) ?_)
 exact q_r
theorem zvb(b m:Nat)(bs:List Bool)(w:World)(hm:bs.length=m)(j:m<1000000)(A:w.rangeAt b 0 (bs.map Value.bool)):
  q_G 167 [.slice (some ⟨b,0,none⟩) m m] w (.bool (bs.all id)):=by
 refine zo Tryz.func167 Tryz.ntmps167 ?_;have r:=λq (t:Keep No w q)=>zmZ (some ⟨b,0,none⟩) m m bs false q hm j ((Fk (w:=w) (.inr ⟨b,0,rfl,A⟩)).to (Mi:=No) t (λ_ h=> .inr h)).sla;rw[zmQ];repeat' (first|refine s_0 ?_|refine q_k 0 ?_|refine q_k 1 ?_;refine q_v (za (hc:=zq r)) ?_;refine zJ ?_;refine zb ?_)
 exact q_r
theorem zuY(b m:Nat)(bs:List Bool)(w:World)(hm:bs.length=m)(j:m<1000000)(A:w.rangeAt b 0 (bs.map Value.bool)):
  q_G 216 [.slice (some ⟨b,0,none⟩) m m] w (.bool (bs.all id)):=by
 refine zo Tryz.func216 Tryz.ntmps216 ?_;have r:=λq (t:Keep No w q)=>zmZ (some ⟨b,0,none⟩) m m bs false q hm j ((Fk (w:=w) (.inr ⟨b,0,rfl,A⟩)).to (Mi:=No) t (λ_ h=> .inr h)).sla;rw[zmQ];repeat' (first|refine s_0 ?_|refine q_k 0 ?_|refine q_k 1 ?_;refine q_v (za (hc:=zq r)) ?_;refine zJ ?_;refine zb ?_)
 exact q_r
theorem zus(l:List UInt8)(w:World)(G:l.length<1000000000):q_G 169 [zX l] w (.bool (zbO l)):=by
 refine zo Tryz.func169 Tryz.ntmps169 ?_;unfold zX;have H:((str l).size:Int)=(l.length:Int):=rfl;have C:=λE=>zmz l E;unfold zX at C;repeat' (first|refine s_t ?_|refine zK [0,1] ?_;refine zb ?_)
 refine zE (γ:=Nat) (λi=>[(0,.string (str l)),(5,.int .i64 (l.length:Int)),(6,.int .i64 (i:Int))]) (λ_=>[]) (λi=>i<=l.length/\(l.take i).all ze7=true) (λi=>l.length-i) 0 ⟨AE _,rfl⟩ ?_ ?_ ?_
 ·exact q_h
 ·exact q_h
 rintro i ⟨F,q⟩;by_cases hlt:i<l.length
 ·have g1:decide ((i:Int)<(l.length:Int))=true:=q_d;have g5:IntKind.i64.wrap ((i:Int)+1)=((i+1:Nat):Int):=q_w;have hv:(str l).data[i]?=some l[i]:=by show l.toArray[i]?=_;rw[BM,A1 hlt]
  have t:l.take (i+1)=l.take i++[l[i]]:=zaP hlt;have r:l[i]∈l:=Ah hlt;generalize l[i]=x at*;have hc:x.toNat<33\/(33<=x.toNat/\126<x.toNat)\/(33<=x.toNat/\x.toNat<=126):=q_o;have m:¬(33<=x.toNat/\x.toNat<=126)->zbO l=false:=λh=>by
   have:l.all ze7=false:=by
    rw[Bi];exact⟨x,r,by simp only[ze7,AB,decide_eq_true_eq];exact h⟩
   simp[zbO,this]
  rcases hc with h|⟨h,A⟩|⟨h,A⟩
  ·rw[m q_o];repeat' (first|refine s_t ?_|refine zg 2 ?_;refine q_v (zl (hr:=g1)) ?_|refine zK [3,5] ?_;refine zb ?_|refine q_k 4 ?_;refine q_v (zN (j:=i) (hv:=hv)) ?_;refine zR ?_;refine zb ?_)
   exact q_r
  ·rw[m q_o];repeat' (first|refine s_t ?_|refine zg 2 ?_;refine q_v (zl (hr:=g1)) ?_|refine zK [3,5] ?_;refine zb ?_|refine q_k 4 ?_;refine q_v (zN (j:=i) (hv:=hv)) ?_;refine zR ?_;refine zb ?_;refine q_v (zN (j:=i) (hv:=hv)) ?_;refine q_x zF ?_)
   exact q_r
  ·repeat' (first|refine s_t ?_|refine zg 2 ?_;refine q_v (zl (hr:=g1)) ?_|refine q_k 3 ?_|refine q_k 4 ?_;refine q_v (zN (j:=i) (hv:=hv)) ?_;refine zR ?_;refine zb ?_;refine q_v (zN (j:=i) (hv:=hv)) ?_;refine q_x zF ?_|refine zg 6 ?_;refine q_x (zA (hr:=g5)) ?_)
   refine zy (i+1) ⟨hlt,?_⟩ ?_ ?_ ?_
   ·rw[t,Bc,q];simp only[BP,E9,ze7,decide_eq_true h,decide_eq_true A,Ax]
   ·show l.length-(i+1)<l.length-i;omega
   ·exact q_h
   ·exact q_h
 obtain rfl:i=l.length:=q_o;rw[A6 (A4 _)] at q;have g1:decide ((l.length:Int)<(l.length:Int))=false:=q_f;repeat' (first|refine s_0 ?_|refine zg 2 ?_;refine q_v (zl (hr:=g1)) ?_|refine q_k 7 ?_;refine q_v (za (hc:=q_c C)) ?_;refine zb ?_)
 exact zaw rfl (zr rfl) F2 ⟨by simp[zbO,q],rfl⟩
theorem zry(a1 a2:Option Addr)(m H G I:Nat)(q r:List (List UInt8))(w:World)(h1:q.length=m)(h2:r.length=G)(hb:m<1000000)(s1:SlA w a1 (q.map zX))(s2:SlA w a2 (r.map zX)):
  q_G 165 [.slice a1 m H,.slice a2 G I] w (.bool (q==r)):=by
 refine zo Tryz.func165 Tryz.ntmps165 ?_;by_cases hn:¬m=G
 ·have g1:decide ((m:Int)≠(G:Int))=true:=q_d;have e:(q==r)=false:=by
   rw[beq_eq_false_iff_ne];intro e;exact hn (by rw[<-h1,<-h2,e])
  rw[e];repeat' (first|refine s_0 ?_|refine zK [0,2] ?_;refine zb ?_|refine q_k 1 ?_;refine q_v (zaC (hr:=g1)) ?_)
  exact q_r
 have g1:decide ((m:Int)≠(G:Int))=false:=q_f;repeat' (first|refine s_t ?_|refine zK [0,3] ?_;refine zb ?_|refine q_k 1 ?_;refine q_v (zaC (hr:=g1)) ?_)
 refine zE (γ:=Nat) (λi=>[(0,.slice a1 m H),(1,.slice a2 G I),(12,.int .i64 (m:Int)),(13,.int .i64 (i:Int))]) (λ_=>[]) (λi=>i<=m/\q.take i=r.take i) (λi=>m-i) 0 ⟨AE _,rfl⟩ ?_ ?_ ?_
 ·exact q_h
 ·exact q_h
 rintro i ⟨O,F⟩;by_cases hlt:i<m
 ·obtain⟨J,R,rfl,t⟩:=zdV s1 (i:=i) (by rw[A0];omega);obtain⟨K,S,rfl,A⟩:=zdV s2 (i:=i) (by rw[A0];omega);have C:=t i _ (zdg zX q_o);have E:=A i _ (zdg zX q_o);unfold zX at C E;have g2:decide ((i:Int)<(m:Int))=true:=q_d;have g5:IntKind.i64.wrap ((i:Int)+1)=((i+1:Nat):Int):=q_w;have t1:q.take (i+1)=q.take i++[q[i]]:=zaP q_o;have t2:r.take (i+1)=r.take i++[r[i]]:=zaP q_o;by_cases hx:q[i]=r[i]
  ·have g3:decide (q[i]≠r[i])=false:=decide_eq_false (λh=>h hx);repeat' (first|refine s_t ?_|refine zg 4 ?_;refine q_v (zl (hr:=g2)) ?_|refine q_k 5 ?_|refine z5 (id:=6) 8 [[],[],[0,1],[0,1,2],[],[],[4,5],[4,5,6],[0,1,2,3,4,5,6,7]] mixed ?_ ?_;kernel_rfl;refine zt ?_;refine zt ?_;refine q_D (zL (j:=i)) ?_;refine q_D (zn (hv:=C)) ?_;refine zt ?_;refine zt ?_;refine q_D (zL (j:=i)) ?_;refine q_D (zn (hv:=E)) ?_;refine zam ?_;refine q_v (zdu (hr:=g3)) ?_|refine zg 8 ?_;refine q_x (zA (hr:=g5)) ?_)
   refine zy (i+1) ⟨hlt,by rw[t1,t2,F,hx]⟩ ?_ ?_ ?_
   ·show m-(i+1)<m-i;omega
   ·exact q_h
   ·exact q_h
  ·have g3:decide (q[i]≠r[i])=true:=decide_eq_true hx;have e:(q==r)=false:=by
    rw[beq_eq_false_iff_ne];intro e;subst e;exact hx rfl
   rw[e];repeat' (first|refine s_t ?_|refine zg 4 ?_;refine q_v (zl (hr:=g2)) ?_|refine zK [5,7] ?_;refine zb ?_|refine z5 (id:=6) 8 [[],[],[0,1],[0,1,2],[],[],[4,5],[4,5,6],[0,1,2,3,4,5,6,7]] mixed ?_ ?_;kernel_rfl;refine zt ?_;refine zt ?_;refine q_D (zL (j:=i)) ?_;refine q_D (zn (hv:=C)) ?_;refine zt ?_;refine zt ?_;refine q_D (zL (j:=i)) ?_;refine q_D (zn (hv:=E)) ?_;refine zam ?_;refine q_v (zdu (hr:=g3)) ?_|fail)
   exact q_r
 obtain rfl:i=m:=q_o;have e:(q==r)=true:=by
  rw[beq_iff_eq];rw[A6 q_o,A6 q_o] at F;exact F
 rw[e];have g2:decide ((i:Int)<(i:Int))=false:=q_f;repeat' (first|refine s_0 ?_|refine zg 4 ?_;refine q_v (zl (hr:=g2)) ?_|refine q_k 9 ?_)
 exact q_r
theorem zfu(C1 C2:List Value)(p q:Prin)(w:World)(h1:PrinIn w C1 p)(h2:PrinIn w C2 q)(hb:p.parts.length<1000000):q_G 73 [.agg C1.toArray,.agg C2.toArray] w (.bool (p.same q)):=by
 obtain⟨⟨a1,r,rfl,F,C,s1,H⟩,-⟩:=h1;obtain⟨⟨a2,t,rfl,G,E,s2,I⟩,-⟩:=h2;refine zo Tryz.func73 Tryz.ntmps73 ?_;unfold zX Prin.same;have A:=λm (j:Keep No w m)=>zry a1 a2 p.parts.length r q.parts.length t p.parts q.parts m rfl rfl hb ((Fk s1).to (Mi:=No) j (λ_ h=> .inr h)).sla ((Fk s2).to (Mi:=No) j (λ_ h=> .inr h)).sla;by_cases hr:p.realm=q.realm
 ·have g:decide (p.realm=q.realm)=true:=decide_eq_true hr;have e:(p.realm==q.realm)=true:=beq_iff_eq.2 hr;rw[e,Ax];repeat' (first|refine s_0 ?_|refine zg 0 ?_;refine zi ?_;intro _;refine zV ?_;intro _|refine q_k 1 ?_;refine zk ?_;refine zb ?_;refine zk ?_;refine q_x (zbf (hr:=g)) ?_;refine zk ?_;refine zb ?_;refine zk ?_;refine q_v (za (hc:=zq A)) ?_;refine zb ?_)
  exact q_r
 ·have g:decide (p.realm=q.realm)=false:=decide_eq_false hr;have e:(p.realm==q.realm)=false:=beq_eq_false_iff_ne.2 hr;rw[e,BX];repeat' (first|refine s_0 ?_|refine zg 0 ?_;refine zi ?_;intro _;refine zV ?_;intro _|refine q_k 1 ?_;refine zk ?_;refine zb ?_;refine zk ?_;refine q_x (zbf (hr:=g)) ?_)
  exact q_r
theorem zoe(a0:Option Addr)(n c:Nat)(l:List (List UInt8))(w:World)(hn:l.length=n)(hb:n<1000000)(j:SlA w a0 (l.map zX))(hc:n<=c)(hnil:a0=none->c=0):
  Sy.Fn Tryz.prog 166 [.slice a0 n c] w No (zcK 9 n (l.map zX)):=by
 refine zo Tryz.func166 Tryz.ntmps166 ?_;cases a0 with
 |none=>
  obtain rfl:=hnil rfl;obtain rfl:n=0:=q_o;obtain rfl:l= []:=BF.1 hn;repeat' (first|refine s_0 ?_|refine zK [0,2] ?_;refine zb ?_|refine q_k 1 ?_;refine zaH ?_)
  exact zbK (zaO 9 1) (zaw rfl (zr rfl) q_h ⟨_,_,rfl,rfl⟩)
 |some ad=>
  repeat' (first|refine s_0 ?_|refine q_k 0 ?_|refine q_k 1 ?_;refine zaH ?_|refine zg 3 ?_;(refine q_s zg6 ?_;rintro _ _ ⟨_,rfl,rfl⟩);refine zb ?_;(refine q_s zbH ?_;rintro _ _ ⟨rfl,_,_,rfl⟩);refine zb ?_)
  exact q_r
theorem zns(C:List Value)(p:Prin)(w:World)(h:PrinIn w C p)(hb:p.parts.length<1000000):Sy.Fn Tryz.prog 75 [.agg C.toArray] w No (λv R=>∃a c,v= .agg #[.slice a p.parts.length c,zX p.realm]/\R= [.row (.slice a p.parts.length c) 9 1 p.parts.length (p.parts.map zX)]):=by
 obtain⟨⟨a1,t,rfl,E,G,s1,F⟩,-⟩:=h;refine zo Tryz.func75 Tryz.ntmps75 ?_;have q:=λr (A:Keep No w r)=>zoe a1 p.parts.length t p.parts r rfl hb ((Fk s1).to (Mi:=No) A (λ_ h=> .inr h)).sla E F;unfold zcK at q;repeat' (first|refine s_0 ?_|refine zg 0 ?_;refine zi ?_;intro _;refine zi ?_;intro _|refine q_k 1 ?_;refine zk ?_;(refine q_s (zh (hc:=zq q)) ?_;rintro _ _ ⟨R,rfl,j,m,rfl,rfl⟩);refine zb ?_;refine zS ?_|refine zg 2 ?_;refine zk ?_;refine zS ?_)
 exact zaw rfl (zz (B:=[.slice j p.parts.length m,zX p.realm]) rfl (ty rfl) rfl F4 F0 rfl) q_h ⟨j,m,rfl,rfl⟩
end Go.Proofs.YtdnlngbjpdbffaaGreatDoor
