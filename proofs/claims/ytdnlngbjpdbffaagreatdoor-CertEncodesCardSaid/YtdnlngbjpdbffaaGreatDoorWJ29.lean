/- Lemmas of this proof. -/
import Derived.Test.YtdnlngbjpdbffaaGreatDoorWJ28
set_option maxRecDepth 10000
set_option linter.all false
namespace Go.Sy
open Go Go.RowKit
variable {P:Program}{ro:Option Nat}{N:Nat}{w0:World}{M:Nat->Prop}{ds:List Deferred}{fr:Fr}{L B:List Res}{Q:Exit->Act->World->Prop}{ops:Array Oper}{g:Nat->Option Value}{o:Oper}
def HOp(P:Program)(ro:Option Nat)(N:Nat)(w0:World)(M:Nat->Prop)(ds:List Deferred)(Q:Exit->Act->World->Prop)(o:Oper)(g:Nat->Option Value)(L:List Res)(post:Value->List Res->Prop):Prop:=
 ∀a w (Ds:List Nat) (K:Act->World->Prop),a.defers=Ds.map col++ds->St N w0 M ds g (L++Ds.map dob) a w->(∀v w' L',post v L'->Keep M w0 w'->Holds w0.heap.size M (L'++Ds.map dob) w'->K (a.put o.dst v) w')->o.wpIn (FW ro) 0 P a w K Q
theorem HOp.of{post:Value->List Res->Prop}(h:OpT P ro N w0 M ds o g L post):HOp P ro N w0 M ds Q o g L post:=λa w E K _ A q=>h a w _ K Q A (λv C L' r m j=>q v C L' r m j)
def SyC(P:Program)(ro:Option Nat)(N:Nat)(w0:World)(M:Nat->Prop)(ds:List Deferred)(ops:Array Oper)(Q:Exit->Act->World->Prop)(B:List Res):List Oper->Fr->List Res->Prop
 | [],fr,L=>SubR B L/\SyX N w0 M ds (Q .normal) fr L
 |o::rest,fr,L=>SubR B L/\∃post,HOp P ro N w0 M ds Q o (only (o.looksAt ops) (get fr)) L post/\zal ops o (only (o.looksAt ops) (get fr))=some true/\((∃d,o.dst=some d/\d<N/\∀v L',post v L'->SyC P ro N w0 M ds ops Q B rest ((d,v)::fr) L')\/(o.dst=none/\∀v L',post v L'->SyC P ro N w0 M ds ops Q B rest fr L'))
def SyF(P:Program)(ro:Option Nat)(N:Nat)(w0:World)(M:Nat->Prop)(ds:List Deferred)(ops:Array Oper)(Q:Exit->Act->World->Prop)(B L:List Res)(chain:List Oper):List Oper->Fr->Prop
 | [],fr=>SyC P ro N w0 M ds ops Q B chain fr L
 |o::rest,fr=>∃d v,o.dst=some d/\d<N/\zal ops o (only (o.looksAt ops) (get fr))=some true/\OpT P ro N w0 M ds o (only (o.looksAt ops) (get fr)) B (Det v B)/\SyF P ro N w0 M ds ops Q B L chain rest ((d,v)::fr)
def zcw(l:List Oper):List Nat->List Oper
 | []=>[]
 |i::r=>match l[i]? with
  |none=>zcw l r
  |some o=>o::zcw l r
theorem zgi{l:List Oper}{i:Nat}{o:Oper}(h:l[i]?=some o)(r:List Nat):zcw l (i::r)=o::zcw l r:=by rw[zcw,h]
def zdh(l:List Oper)(i:Nat)(js:List Nat):Bool:=match l[i]? with
 |none=>false
 |some o=>js.all λj=>match (l[j]?).bind (·.dst) with
  |none=>true
  |some t=>!(o.looksAt l.toArray).contains t&&(Nat.beq i j || !(o.dst==some t))
def zcP(l:List Oper):List Nat->List Nat->Bool
 | [],_=>true
 |i::fi,ci=>zdh l i (i::(fi++ci))&&zcP l fi ci
def zek(l:List Oper):List Nat->Bool
 |i::j::r=>(match l[j]? with
  |none=>false
  |some o=>(pre o).contains i)&&zek l (j::r)
 |_=>true
def ztB(l:List Oper):Bool:=(List.range l.length).all λi=>match l[i]? with
 |none=>true
 |some o=>(List.range l.length).all λj=>match (l[j]?).bind (·.dst) with
  |none=>true
  |some t=>!(o.looksAt l.toArray).contains t || (pre o).contains j
def zcZ:List Nat->Bool
 | []=>true
 |i::r=>!r.contains i&&zcZ r
def zrw(l:List Oper)(fi ci:List Nat):Bool:=
 zrx l&&ztB l&&zcP l fi ci&&zek l ci&&zcZ ci&&ci.all (λi=>Nat.blt i l.length)&&fi.all (λi=>Nat.blt i l.length)&&(List.range l.length).all λi=>fi.contains i || ci.contains i
def FO(P:Program)(ro:Option Nat)(N:Nat)(w0:World)(M:Nat->Prop)(ds:List Deferred)(ops:Array Oper)(B:List Res)(frF:Fr)(o:Oper):Prop:=
 ∃d v,o.dst=some d/\d<N/\get frF d=some v/\zal ops o (only (o.looksAt ops) (get frF))=some true/\OpT P ro N w0 M ds o (only (o.looksAt ops) (get frF)) B (Det v B)
theorem zbP{fr:Fr}{t d:Nat}{v:Value}(h:d≠t):get ((d,v)::fr) t=get fr t:=by
 show(bif Nat.beq d t then some v else get fr t)=_;rw[zaV.2 h];rfl
theorem zdO{fr:Fr}{d:Nat}{v:Value} :get ((d,v)::fr) d=some v:=by
 show(bif Nat.beq d d then some v else get fr d)=_;rw[EI];rfl
theorem zeQ{ts:List Nat}{fr:Fr}{d:Nat}{v:Value}(h:ts.contains d=false):only ts (get ((d,v)::fr))=only ts (get fr):=by
 funext t
 unfold only;by_cases ht:ts.contains t=true
 ·rw[ht];have:d≠t:=λe=>by subst e;rw[h] at ht;cases ht
  simp only[cond_true,zbP this]
 ·rw[C8] at ht;rw[ht];rfl
theorem FO.cons{j:Fr}{d:Nat}{v:Value}(h:FO P ro N w0 M ds ops B j o)(h1:(o.looksAt ops).contains d=false)(h2:o.dst≠some d):FO P ro N w0 M ds ops B ((d,v)::j) o:=by
 obtain⟨q,F,r,w,A,C,E⟩:=h;have m:d≠q:=λe=>h2 (by rw[r,e]);exact⟨q,F,r,w,by rw[zbP m];exact A,by rw[zeQ h1];exact C,by rw[zeQ h1];exact E⟩
theorem zdM{l:List Oper}{i:Nat}{w:List Nat}{o:Oper}(A:l[i]?=some o)(h:zdh l i w=true){j:Nat}(hj:j∈w){o':Oper}{t:Nat}(r:l[j]?=some o')(C:o'.dst=some t):(o.looksAt l.toArray).contains t=false/\(i≠j->o.dst≠some t):=by
 unfold zdh at h;rw[A] at h;have:=AL.1 h j hj;rw[r] at this;simp only[Ac,C,AA,B3,Be] at this;refine⟨this.1,λq e=>?_⟩;rcases this.2 with m|m
 ·exact q (C3 m)
 ·rw[e] at m;simp at m
theorem zoE{l:List Oper}{chain:List Oper} :∀(w:List Nat) (F done:List Nat) (fr:Fr),(∀i∈w,i<l.length)->zcP l w F=true->(∀i∈done,∀o,l[i]?=some o->FO P ro N w0 M ds l.toArray B fr o/\zdh l i (w++F)=true/\i∉w)->zcZ w=true->
  SyF P ro N w0 M ds l.toArray Q B L chain (zcw l w) fr->∃m,(∀t,(∀i∈w,∀o,l[i]?=some o->o.dst≠some t)->get m t=get fr t)/\(∀i,i∈done\/i∈w->∀o,l[i]?=some o->FO P ro N w0 M ds l.toArray B m o)/\SyC P ro N w0 M ds l.toArray Q B chain m L
 | [],F,done,fr,_,_,hd,_,h=>⟨fr,λ_ _=>rfl,λi O o A=>(O.elim (λh=>(hd i h o A).1) (λh=>(by cases h))),h⟩
 |i::w,F,done,fr,hl,hc,hd,hn,h=>by
  have O:i<l.length:=hl i A3;have A:=A1 O;rw[zgi A] at h;obtain⟨d,v,H,W,X,Y,h⟩:=h;simp only[zcP,AA] at hc;simp only[zcZ,AA,B3] at hn;have r:=zdM A hc.1 A3 A H;have C:∀ {k:Nat}{o:Oper}(T E:List Nat),l[k]?=some o->zdh l k T=true->(∀x∈E,x∈T)->zdh l k E=true:=by
   intro k o T E q h Z;unfold zdh at h ⊢;rw[q] at h ⊢;exact AL.2 λx G=>AL.1 h x (Z x G)
  have hstep:=zoE (chain:=chain) w F (i::done) ((d,v)::fr) (λk q=>hl k (A4 _ q)) hc.2 (λk q o j=>by
   rcases AS.1 q with rfl|q
   ·have:o=l[k]:=by rw[A] at j;exact(Am j).symm
    subst this;refine⟨⟨d,v,H,W,zdO,by rw[zeQ r.1];exact X,by rw[zeQ r.1];exact Y⟩,C _ _ A hc.1 (λx G=>A4 _ G),λS=>?_⟩;have:=hn.1;simp only[B4,decide_eq_false_iff_not] at this;exact this S
   ·obtain⟨K,I,J⟩:=hd k q o j;have U:=zdM j I (AM _ A3) A H;have R:k≠i:=λe=>J (by rw[e];exact A3);exact⟨K.cons U.1 (U.2 R),C _ _ j I (λx G=>(Ao.1 G).elim (λh=>AM _ (A4 _ h)) (λh=>AX _ h)),λS=>J (A4 _ S)⟩) hn.2 h
  obtain⟨m,K,I,J⟩:=hstep;refine⟨m,λt V=>?_,λk q o j=>?_,J⟩
  ·rw[K t (λk q o j=>V k (A4 _ q) o j)];exact zbP (λe=>V i A3 _ A (by rw[<-e];exact H))
  ·refine I k ?_ o j;rcases q with h|h
   ·exact .inl (A4 _ h)
   ·rcases AS.1 h with rfl|h
    ·exact .inl A3
    ·exact .inr h
theorem zgK{l:List Oper} :∀(cl:List Nat) {j:List Nat},zek l (cl++j)=true->zek l j=true
 | [],_,h=>h
 | [c],[],_=>rfl
 | [c],d::j,h=>by
  simp only[Ab,Af,zek,AA] at h;exact h.2
 |c::c'::cl,j,h=>by
  simp only[Ab,zek,AA] at h;exact zgK (c'::cl) h.2
theorem zgG{l:List Oper} :∀ {c:Nat}{m:List Nat},zek l (c::m)=true->∀i∈m,∃p,p∈c::m/\∃o,l[i]?=some o/\p∈pre o
 |c,[],_,i,j=>by cases j
 |c,d::m,h,i,j=>by
  simp only[zek,AA] at h;rcases AS.1 j with rfl|j
  ·have q:=h.1;split at q
   ·cases q
   ·rename_i o r;refine⟨c,A3,o,r,?_⟩;simpa [B4] using q
  ·obtain⟨p,A,o,r,w⟩:=zgG h.2 i j;exact⟨p,A4 _ A,o,r,w⟩
theorem zp8{l:List Oper} :∀ {r q:List Nat},zcP l r q=true->∀k∈r,∀o,l[k]?=some o->∀i∈q,∀m,l[i]?=some m->∀d,m.dst=some d->(o.looksAt l.toArray).contains d=false/\(k≠i->o.dst≠some d)
 | [],_,_,_,j,_,_,_,_,_,_,_,_=>by cases j
 |x::r,q,h,k,j,o,ho,i,hi,m,ho',d,hd=>by
  simp only[zcP,AA] at h;rcases AS.1 j with rfl|j
  ·exact zdM ho h.1 (A4 _ (AX _ hi)) ho' hd
  ·exact zp8 h.2 k j o ho i hi m ho' d hd
theorem zk1:∀(cl:List Nat) {c:Nat}{j:List Nat},zcZ (cl++c::j)=true->c∉j
 | [],c,j,h=>by
  simp only[Af,zcZ,AA,B3,B4,decide_eq_false_iff_not] at h;exact h.1
 |x::cl,c,j,h=>by
  simp only[Ab,zcZ,AA] at h;exact zk1 cl h.2
theorem zmc{id:Nat}{l:List Oper}(fi ci:List Nat)(hm:P.follows .mixedOrders=true)(c5:(zrw l fi ci&&zcZ fi)=true)(h:SyF P ro N w0 M ds l.toArray Q B L (zcw l ci) (zcw l fi) fr):Sy P ro N w0 M ds (.region id l.toArray true) Q fr L:=by
 simp only[zrw,AA] at c5;obtain⟨⟨⟨⟨⟨⟨⟨⟨e7,c7⟩,a7⟩,b9⟩,h4⟩,e8⟩,e9⟩,c3⟩,h5⟩:=c5;obtain⟨c2,e5,e6,e4⟩:=zoE fi ci [] fr (λi hi=>zaQ.1 (AL.1 e9 i hi)) a7 (λi hi=>by cases hi) h5 h;have b8:∀(i:Nat) (o:Oper),l[i]?=some o->∀(j:Nat) (F:Oper) (t:Nat),l[j]?=some F->F.dst=some t->(o.looksAt l.toArray).contains t=true->j∈pre o:=by
  intro i o E j F t m ht h3;have h1:=AL.1 c7 i (Ay.2 (AU.1 E).1);rw[E] at h1;have h2:=AL.1 h1 j (Ay.2 (AU.1 m).1);rw[m] at h2;simp only[Ac,ht,h3,Dc,BL] at h2;simpa [B4] using h2
 -- J: what has been done of the order; what is known.
 refine zod (J:=λb H L'=>∃cl R q,ci=cl++R/\(∀c∈cl,b c=true)/\(∀c∈R,b c=false)/\SyC P ro N w0 M ds l.toArray Q B (zcw l R) q L'/\(∀i∈fi,∀o,l[i]?=some o->i∉ci->FO P ro N w0 M ds l.toArray B q o)/\∀t,(∀j o,l[j]?=some o->o.dst=some t->b j=true)->∀v,get q t=some v->get H t=some v) hm e7 ?_ ?_ ?_
 ·refine⟨[],ci,c2,rfl,(λc I=>by cases I),(λ_ _=>rfl),e4,λi hi o E _=>e6 i (.inr hi) o E,λt ht v T=>?_⟩;rw[e5 t (λi hi o E e=>by have:=ht i o E e;cases this)] at T;exact T
 ·rintro b H L' i o E c4 e0 ⟨cl,R,q,C,b1,X,hC,V,O⟩;have a9:∀j∈pre o,b j=true:=λj hj=>AL.1 e0 j hj;have b2:∀a:Act,Agrees (get H) a->Agrees (only (o.looksAt l.toArray) (get q)) a:=λa ha t v T=>by
   unfold only at T;cases I:(o.looksAt l.toArray).contains t with
   |false=>rw[I] at T;simp at T
   |true=>
    rw[I] at T;exact ha t v (O t (λj F m Z=>a9 j (b8 i o E j F t m Z I)) v T)
  by_cases hic:i∈ci
  ·have c9:i∈R:=by
    rw[C] at hic;rcases Ao.1 hic with h|h
    ·rw[b1 i h] at c4;cases c4
    ·exact h
   obtain⟨c,G,rfl⟩:∃c G,R=c::G:=by cases R with
    |nil=>cases c9
    |cons c r=>exact⟨c,r,rfl⟩
   have c8:i=c:=by
    rcases AS.1 c9 with h|h
    ·exact h
    ·obtain⟨p,hp,F,m,h7⟩:=zgG (zgK cl (by rw[<-C];exact b9)) i h;rw[E] at m;cases m;have:=a9 p h7;rw[X p hp] at this;cases this
   subst c8;rw[zgi E] at hC;obtain⟨b6,post,c1,hw,e3⟩:=hC;have h6:i∉G:=zk1 cl (by rw[<-C];exact h4);rintro a w K ⟨Ds,a6,S⟩ hK;have b0:St N w0 M ds (only (o.looksAt l.toArray) (get q)) (L'++Ds.map dob) a w:=⟨S.size,b2 a S.agr,S.keep,S.hold⟩;rw[if_pos (zbu b0.agr hw)];refine c1 a w Ds K a6 b0 λv w' U hp hk hh=>?_;have b4:∀c∈cl++[i],(b c || Nat.beq c i)=true:=λc I=>by
    rcases Ao.1 I with h|h
    ·rw[b1 c h];rfl
    ·rw[AE.1 h,EI,Dr]
   have b5:∀c∈G,(b c || Nat.beq c i)=false:=λc I=>by
    rw[X c (A4 _ I),BL];exact zaV.2 (λe=>h6 (e ▸ I))
   have b3:ci=(cl++[i])++G:=by rw[C,AH];rfl
   rcases e3 with ⟨d,Z,b7,c0⟩|⟨Z,c0⟩
   ·rw[Z];refine hK ((d,v)::H) U _ _ ⟨cl++[i],G,(d,v)::q,b3,b4,b5,c0 v U hp,λk hk F m d8=>?_,λt ht u hu=>?_⟩ ⟨Ds,a6,S.put b7 v hk hh⟩
    ·have hF:=V k hk F m d8;obtain⟨h1,h2⟩:=zp8 a7 k hk F m i (C ▸ AX _ A3) o E d Z;exact hF.cons h1 (h2 (λe=>d8 (e ▸ hic)))
    ·by_cases e:d=t
     ·subst e;rw[zdO] at hu ⊢;exact hu
     ·rw[zbP e] at hu ⊢;refine O t (λj F m A=>?_) u hu;have:(b j || Nat.beq j i)=true:=ht j F m A;have a8:j≠i:=λe'=>by subst e';rw[E] at m;cases m;rw[Z] at A;exact e (Am A)
      rwa[zaV.2 a8,CW] at this
   ·rw[Z];refine hK H U _ _ ⟨cl++[i],G,q,b3,b4,b5,c0 v U hp,V,λt ht u hu=>?_⟩ ⟨Ds,a6,S.put_none hk hh⟩;refine O t (λj F m A=>?_) u hu;have:(b j || Nat.beq j i)=true:=ht j F m A;have a8:j≠i:=λe'=>by subst e';rw[E] at m;cases m;rw[Z] at A;cases A
    rwa[zaV.2 a8,CW] at this
  ·have f9:i∈fi:=by
    have:=AL.1 c3 i (Ay.2 (AU.1 E).1);simp only[Be,B4,decide_eq_true_eq] at this;exact this.resolve_right hic
   obtain⟨d,v,Z,b7,T,hw,c1⟩:=V i f9 o E hic;have b6:SubR B L':=by
    cases hcr0:zcw l R with
    |nil=>rw[hcr0] at hC;exact hC.1
    |cons F r=>rw[hcr0] at hC;exact hC.1
   obtain⟨Y,hY⟩:=b6.perm;rintro a w K ⟨Ds,a6,S⟩ hK;have b0:St N w0 M ds (only (o.looksAt l.toArray) (get q)) (B++(Y++Ds.map dob)) a w:=⟨S.size,b2 a S.agr,S.keep,S.hold.perm (by rw[<-AH];exact Aj _ hY)⟩;rw[if_pos (zbu b0.agr hw)];refine c1 a w _ K Q b0 λv' w' U ⟨e1,e2⟩ hk hh=>?_;subst e1;subst e2;rw[Z];have f8:Holds w0.heap.size M (L'++Ds.map dob) w':=hh.perm (by rw[<-AH];exact Aj _ hY.symm);refine hK ((d,v')::H) L' _ _ ⟨cl,R,q,C,λc I=>(by show(b c || Nat.beq c i)=true;rw[b1 c I];rfl),λc I=>?_,hC,V,λt ht u hu=>?_⟩ ⟨Ds,a6,S.put b7 v' hk f8⟩
   ·show(b c || Nat.beq c i)=false;rw[X c I,BL];exact zaV.2 (λe=>hic (by rw[C,<-e];exact AX _ I))
   ·by_cases e:d=t
    ·subst e;rw[zdO];rw[T] at hu;exact hu
    ·rw[zbP e];refine O t (λj F m A=>?_) u hu;have:(b j || Nat.beq j i)=true:=ht j F m A;have a8:j≠i:=λe'=>by subst e';rw[E] at m;cases m;rw[Z] at A;exact e (Am A)
     rwa[zaV.2 a8,CW] at this
 ·rintro b H L' W ⟨cl,R,q,C,b1,X,hC,V,O⟩;have d9:R= []:=by
   cases R with
   |nil=>rfl
   |cons c r=>
    have c6:c<l.length:=zaQ.1 (AL.1 e8 c (by rw[C];exact AX _ A3));have:=X c A3;rw[W c c6] at this;cases this
  subst d9;exact hC.2.weaken (λt v T=>O t (λj o E _=>W j (AU.1 E).1) v T) Ex
theorem zdC{id:Nat}{l:List Oper}(j m:List Nat)(hm:P.follows .mixedOrders=true)(q:(zrw l j m&&zcZ j)=true)(h:SyF P ro N w0 M ds l.toArray Q L L (zcw l m) (zcw l j) fr):Sy P ro N w0 M ds (.region id l.toArray true) Q fr L:=zmc j m hm q h
def zne:List Nat->List Res->List Res
 | [],L=>L
 |k::ks,L=>zne ks (L.eraseIdx k)
theorem zmk{id:Nat}{l:List Oper}(r:List Nat)(j m:List Nat)(hm:P.follows .mixedOrders=true)(q:(zrw l j m&&zcZ j)=true)(h:SyF P ro N w0 M ds l.toArray Q (zne r L) L (zcw l m) (zcw l j) fr):Sy P ro N w0 M ds (.region id l.toArray true) Q fr L:=zmc j m hm q h
variable {rest chain:List Oper}{d:Nat}{v:Value}{L':List Res}
theorem yfv(h:OpT P ro N w0 M ds o (only (o.looksAt ops) (get fr)) B (Det v B))(q:zal ops o (only (o.looksAt ops) (get fr))=some true:=by exact rfl)(m:o.dst=some d:=by exact rfl)(j:Nat.blt d N=true:=by exact rfl)
  (k:SyF P ro N w0 M ds ops Q B L chain rest ((d,v)::fr)):SyF P ro N w0 M ds ops Q B L chain (o::rest) fr:=⟨d,v,m,A5 j,q,h,k⟩
theorem yf0(k:SyC P ro N w0 M ds ops Q B chain fr L):SyF P ro N w0 M ds ops Q B L chain [] fr:=k
theorem ycs{post:Value->List Res->Prop}(h:OpT P ro N w0 M ds o (only (o.looksAt ops) (get fr)) L post)(r:zal ops o (only (o.looksAt ops) (get fr))=some true:=by exact rfl)(q:o.dst=some d:=by exact rfl)(m:Nat.blt d N=true:=by exact rfl)(j:SubR B L:=by first|(focus ((repeat (first|exact Ex|apply F5));done))|exact FL)
  (k:∀v L',post v L'->SyC P ro N w0 M ds ops Q B rest ((d,v)::fr) L'):SyC P ro N w0 M ds ops Q B (o::rest) fr L:=⟨j,post,HOp.of h,r,.inl ⟨d,q,A5 m,k⟩⟩
theorem ycv(h:OpT P ro N w0 M ds o (only (o.looksAt ops) (get fr)) L (Det v L'))(A:zal ops o (only (o.looksAt ops) (get fr))=some true:=by exact rfl)(w:o.dst=some d:=by exact rfl)(r:Nat.blt d N=true:=by exact rfl)(q:SubR B L:=by first|(focus ((repeat (first|exact Ex|apply F5));done))|exact FL)
  (k:SyC P ro N w0 M ds ops Q B rest ((d,v)::fr) L'):SyC P ro N w0 M ds ops Q B (o::rest) fr L:=ycs h A w r q λ_ _ ⟨j,m⟩=>by subst j;subst m;exact k
theorem ycn(h:OpT P ro N w0 M ds o (only (o.looksAt ops) (get fr)) L (Det v L'))(w:zal ops o (only (o.looksAt ops) (get fr))=some true:=by exact rfl)(r:o.dst=none:=by exact rfl)(q:SubR B L:=by first|(focus ((repeat (first|exact Ex|apply F5));done))|exact FL)
  (k:SyC P ro N w0 M ds ops Q B rest fr L'):SyC P ro N w0 M ds ops Q B (o::rest) fr L:=⟨q,Det v L',HOp.of h,w,.inr ⟨r,λ_ _ ⟨j,m⟩=>by subst j;subst m;exact k⟩⟩
theorem yc0(k:SyX N w0 M ds (Q .normal) fr L)(j:SubR B L:=by first|(focus ((repeat (first|exact Ex|apply F5));done))|exact FL):SyC P ro N w0 M ds ops Q B [] fr L:=⟨j,k⟩
end Go.Sy
namespace Go.Ct
open Go Go.Sy
theorem zb2{w:World}{a:Option Addr}{B:List Value}(h:SlA w a B){i:Nat}(m:i<B.length):∃b o,a=some ⟨b,o,none⟩/\∀(j:Nat) (v:Value),B[j]?=some v->w.cell? ⟨b,o+j,none⟩=some v:=by
 rcases h with rfl|⟨b,o,rfl,q⟩
 ·exact absurd m q_p
 ·exact⟨b,o,rfl,q⟩
theorem zcM{α β:Type}(f:α->β){l:List α}{i:Nat}(h:i<l.length):(l.map f)[i]?=some (f l[i]):=by rw[AY,A1 h];rfl
theorem zaO{α:Type}{l:List α}{i:Nat}(h:i<l.length):l.take (i+1)=l.take i++[l[i]]:=BK h
theorem zoI:∀bs:List Bool,bs.all id=!bs.contains false
 | []=>rfl
 |x::l=>by
  have j:=zoI l;cases x
  ·simp
  ·simp only[BS,id,B6,j,List.contains_cons];rfl
end Go.Ct
namespace Go.Proofs.YtdnlngbjpdbffaaGreatDoor
open Go Go.Sy Go.Ct Go.RowKit
attribute [local irreducible] Sy SyL SyX Sy.Fn callFunc
theorem zwq(a:Option Addr)(m c:Nat)(bs:List Bool)(u:Bool)(w:World)(hm:bs.length=m)(F:m<1000000)(G:SlA w a (bs.map Value.bool)):
  Sy.Fn Tryz.prog 280 [.slice a m c,.bool u] w No (λv R=>∃z:Int,v= .int .i64 z/\decide (z>=0)=bs.contains u/\R= []):=by
 refine zt Tryz.func280 Tryz.ntmps280 ?_;repeat' (first|refine s_t ?_|refine zD [0,1] ?_;refine zb ?_)
 refine zN (γ:=Nat) (λi=>[(0,.slice a m c),(1,.bool u),(7,.int .i64 (m:Int)),(8,.int .i64 (i:Int))]) (λ_=>[]) (λi=>i<=m/\(bs.take i).contains u=false) (λi=>m-i) 0 ⟨A9 _,rfl⟩ ?_ ?_ ?_
 ·exact q_h
 ·exact q_h
 rintro i ⟨I,q⟩;by_cases hlt:i<m
 ·obtain⟨H,J,rfl,r⟩:=zb2 G (i:=i) (by rw[A0];omega);have E:=r i _ (zcM Value.bool q_o);have g1:decide ((i:Int)<(m:Int))=true:=q_d;have g5:IntKind.i64.wrap ((i:Int)+1)=((i+1:Nat):Int):=q_w;have C:bs.take (i+1)=bs.take i++[bs[i]]:=zaO q_o;have A:bs[i]∈bs:=Ad q_o;generalize bs[i]=x at*;by_cases hx:u=x
  ·have g2:(u==x)=true:=by simp[hx]
   repeat' (first|refine s_t ?_|refine zf 2 ?_;refine q_v (zo (hr:=g1)) ?_|refine zD [3,5] ?_;refine zb ?_|refine q_k 4 ?_;refine q_v (zq (j:=i)) ?_;refine q_v (zn (hv:=E)) ?_;refine q_v (ziI (hr:=g2)) ?_)
   exact zap rfl (zh rfl) Er ⟨i,rfl,by rw[decide_eq_true q_o];symm;simp[hx,A],rfl⟩
  ·have g2:(u==x)=false:=by simp[hx]
   repeat' (first|refine s_t ?_|refine zf 2 ?_;refine q_v (zo (hr:=g1)) ?_|refine q_k 3 ?_|refine q_k 4 ?_;refine q_v (zq (j:=i)) ?_;refine q_v (zn (hv:=E)) ?_;refine q_v (ziI (hr:=g2)) ?_|refine zf 6 ?_;refine q_x (zF (hr:=g5)) ?_)
   refine zE (i+1) ⟨hlt,?_⟩ ?_ ?_ ?_
   ·rw[C];simp only[B4,Ao,AE,decide_eq_false_iff_not] at q ⊢;rintro(h|h)
    ·exact q h
    ·exact hx h
   ·show m-(i+1)<m-i;omega
   ·exact q_h
   ·exact q_h
 obtain rfl:i=m:=q_o;rw[A8 q_o] at q;have g1:decide ((i:Int)<(i:Int))=false:=q_f;repeat' (first|refine s_0 ?_|refine zf 2 ?_;refine q_v (zo (hr:=g1)) ?_|refine q_k 7 ?_)
 exact zap rfl (zh rfl) Er ⟨-1,rfl,by rw[q];rfl,rfl⟩
theorem zow(a:Option Addr)(m c:Nat)(bs:List Bool)(u:Bool)(w:World)(hm:bs.length=m)(j:m<1000000)(C:SlA w a (bs.map Value.bool)):
  q_G 234 [.slice a m c,.bool u] w (.bool (bs.contains u)):=by
 refine zt Tryz.func234 Tryz.ntmps234 ?_;have r:=λq (A:Keep No w q)=>zwq a m c bs u q hm j ((Fc C).to (Mi:=No) A (λ_ h=> .inr h)).sla;repeat' (first|refine s_0 ?_|refine q_k 0 ?_|refine q_k 1 ?_;(refine q_s (zi (hc:=zu r)) ?_;rintro _ _ ⟨R,rfl,z,rfl,E,rfl⟩);refine q_x (zP (hr:=E)) ?_)
 exact q_r
theorem zxv(b m:Nat)(bs:List Bool)(w:World)(hm:bs.length=m)(j:m<1000000)(C:w.rangeAt b 0 (bs.map Value.bool)):
  q_G 167 [.slice (some ⟨b,0,none⟩) m m] w (.bool (bs.all id)):=by
 refine zt Tryz.func167 Tryz.ntmps167 ?_;have r:=λq (A:Keep No w q)=>zow (some ⟨b,0,none⟩) m m bs false q hm j ((Fc (w:=w) (.inr ⟨b,0,rfl,C⟩)).to (Mi:=No) A (λ_ h=> .inr h)).sla;rw[zoI];repeat' (first|refine s_0 ?_|refine q_k 0 ?_|refine q_k 1 ?_;refine q_v (za (hc:=zu r)) ?_;refine zJ ?_;refine zb ?_)
 exact q_r
theorem zwk(b m:Nat)(bs:List Bool)(w:World)(hm:bs.length=m)(j:m<1000000)(C:w.rangeAt b 0 (bs.map Value.bool)):
  q_G 216 [.slice (some ⟨b,0,none⟩) m m] w (.bool (bs.all id)):=by
 refine zt Tryz.func216 Tryz.ntmps216 ?_;have r:=λq (A:Keep No w q)=>zow (some ⟨b,0,none⟩) m m bs false q hm j ((Fc (w:=w) (.inr ⟨b,0,rfl,C⟩)).to (Mi:=No) A (λ_ h=> .inr h)).sla;rw[zoI];repeat' (first|refine s_0 ?_|refine q_k 0 ?_|refine q_k 1 ?_;refine q_v (za (hc:=zu r)) ?_;refine zJ ?_;refine zb ?_)
 exact q_r
theorem zwf(l:List UInt8)(w:World)(H:l.length<1000000000):q_G 169 [zT l] w (.bool (zb0 l)):=by
 refine zt Tryz.func169 Tryz.ntmps169 ?_;unfold zT;have I:((str l).size:Int)=(l.length:Int):=rfl;have E:=λF=>zos l F;unfold zT at E;repeat' (first|refine s_t ?_|refine zD [0,1] ?_;refine zb ?_)
 refine zN (γ:=Nat) (λi=>[(0,.string (str l)),(5,.int .i64 (l.length:Int)),(6,.int .i64 (i:Int))]) (λ_=>[]) (λi=>i<=l.length/\(l.take i).all zfQ=true) (λi=>l.length-i) 0 ⟨A9 _,rfl⟩ ?_ ?_ ?_
 ·exact q_h
 ·exact q_h
 rintro i ⟨G,q⟩;by_cases hlt:i<l.length
 ·have g1:decide ((i:Int)<(l.length:Int))=true:=q_d;have g5:IntKind.i64.wrap ((i:Int)+1)=((i+1:Nat):Int):=q_w;have hv:(str l).data[i]?=some l[i]:=by show l.toArray[i]?=_;rw[BH,A1 hlt]
  have A:l.take (i+1)=l.take i++[l[i]]:=zaO hlt;have r:l[i]∈l:=Ad hlt;generalize l[i]=x at*;have hc:x.toNat<33\/(33<=x.toNat/\126<x.toNat)\/(33<=x.toNat/\x.toNat<=126):=q_o;have m:¬(33<=x.toNat/\x.toNat<=126)->zb0 l=false:=λh=>by
   have:l.all zfQ=false:=by
    rw[Bk];exact⟨x,r,by simp only[zfQ,AA,decide_eq_true_eq];exact h⟩
   simp[zb0,this]
  rcases hc with h|⟨h,C⟩|⟨h,C⟩
  ·rw[m q_o];repeat' (first|refine s_t ?_|refine zf 2 ?_;refine q_v (zo (hr:=g1)) ?_|refine zD [3,5] ?_;refine zb ?_|refine q_k 4 ?_;refine q_v (zR (j:=i) (hv:=hv)) ?_;refine zag ?_;refine zb ?_)
   exact q_r
  ·rw[m q_o];repeat' (first|refine s_t ?_|refine zf 2 ?_;refine q_v (zo (hr:=g1)) ?_|refine zD [3,5] ?_;refine zb ?_|refine q_k 4 ?_;refine q_v (zR (j:=i) (hv:=hv)) ?_;refine zag ?_;refine zb ?_;refine q_v (zR (j:=i) (hv:=hv)) ?_;refine q_x zH ?_)
   exact q_r
  ·repeat' (first|refine s_t ?_|refine zf 2 ?_;refine q_v (zo (hr:=g1)) ?_|refine q_k 3 ?_|refine q_k 4 ?_;refine q_v (zR (j:=i) (hv:=hv)) ?_;refine zag ?_;refine zb ?_;refine q_v (zR (j:=i) (hv:=hv)) ?_;refine q_x zH ?_|refine zf 6 ?_;refine q_x (zF (hr:=g5)) ?_)
   refine zE (i+1) ⟨hlt,?_⟩ ?_ ?_ ?_
   ·rw[A,BW,q];simp only[BS,Du,zfQ,decide_eq_true h,decide_eq_true C,B6]
   ·show l.length-(i+1)<l.length-i;omega
   ·exact q_h
   ·exact q_h
 obtain rfl:i=l.length:=q_o;rw[A8 (A6 _)] at q;have g1:decide ((l.length:Int)<(l.length:Int))=false:=q_f;repeat' (first|refine s_0 ?_|refine zf 2 ?_;refine q_v (zo (hr:=g1)) ?_|refine q_k 7 ?_;refine q_v (za (hc:=q_c E)) ?_;refine zb ?_)
 exact zap rfl (zh rfl) Er ⟨by simp[zb0,q],rfl⟩
theorem zs1(a1 a2:Option Addr)(m I H J:Nat)(q r:List (List UInt8))(w:World)(h1:q.length=m)(h2:r.length=H)(hb:m<1000000)(s1:SlA w a1 (q.map zT))(s2:SlA w a2 (r.map zT)):
  q_G 165 [.slice a1 m I,.slice a2 H J] w (.bool (q==r)):=by
 refine zt Tryz.func165 Tryz.ntmps165 ?_;by_cases hn:¬m=H
 ·have g1:decide ((m:Int)≠(H:Int))=true:=q_d;have e:(q==r)=false:=by
   rw[beq_eq_false_iff_ne];intro e;exact hn (by rw[<-h1,<-h2,e])
  rw[e];repeat' (first|refine s_0 ?_|refine zD [0,2] ?_;refine zb ?_|refine q_k 1 ?_;refine q_v (zaf (hr:=g1)) ?_)
  exact q_r
 have g1:decide ((m:Int)≠(H:Int))=false:=q_f;repeat' (first|refine s_t ?_|refine zD [0,3] ?_;refine zb ?_|refine q_k 1 ?_;refine q_v (zaf (hr:=g1)) ?_)
 refine zN (γ:=Nat) (λi=>[(0,.slice a1 m I),(1,.slice a2 H J),(12,.int .i64 (m:Int)),(13,.int .i64 (i:Int))]) (λ_=>[]) (λi=>i<=m/\q.take i=r.take i) (λi=>m-i) 0 ⟨A9 _,rfl⟩ ?_ ?_ ?_
 ·exact q_h
 ·exact q_h
 rintro i ⟨R,G⟩;by_cases hlt:i<m
 ·obtain⟨K,S,rfl,A⟩:=zb2 s1 (i:=i) (by rw[A0];omega);obtain⟨O,T,rfl,C⟩:=zb2 s2 (i:=i) (by rw[A0];omega);have E:=A i _ (zcM zT q_o);have F:=C i _ (zcM zT q_o);unfold zT at E F;have g2:decide ((i:Int)<(m:Int))=true:=q_d;have g5:IntKind.i64.wrap ((i:Int)+1)=((i+1:Nat):Int):=q_w;have t1:q.take (i+1)=q.take i++[q[i]]:=zaO q_o;have t2:r.take (i+1)=r.take i++[r[i]]:=zaO q_o;by_cases hx:q[i]=r[i]
  ·have g3:decide (q[i]≠r[i])=false:=decide_eq_false (λh=>h hx);repeat' (first|refine s_t ?_|refine zf 4 ?_;refine q_v (zo (hr:=g2)) ?_|refine q_k 5 ?_|refine zaj (id:=6) 8 [[],[],[0,1],[0,1,2],[],[],[4,5],[4,5,6],[0,1,2,3,4,5,6,7]] mixed ?_ ?_;kernel_rfl;refine zA ?_;refine zA ?_;refine q_D (zq (j:=i)) ?_;refine q_D (zn (hv:=E)) ?_;refine zA ?_;refine zA ?_;refine q_D (zq (j:=i)) ?_;refine q_D (zn (hv:=F)) ?_;refine zaB ?_;refine q_v (zcR (hr:=g3)) ?_|refine zf 8 ?_;refine q_x (zF (hr:=g5)) ?_)
   refine zE (i+1) ⟨hlt,by rw[t1,t2,G,hx]⟩ ?_ ?_ ?_
   ·show m-(i+1)<m-i;omega
   ·exact q_h
   ·exact q_h
  ·have g3:decide (q[i]≠r[i])=true:=decide_eq_true hx;have e:(q==r)=false:=by
    rw[beq_eq_false_iff_ne];intro e;subst e;exact hx rfl
   rw[e];repeat' (first|refine s_t ?_|refine zf 4 ?_;refine q_v (zo (hr:=g2)) ?_|refine zD [5,7] ?_;refine zb ?_|refine zaj (id:=6) 8 [[],[],[0,1],[0,1,2],[],[],[4,5],[4,5,6],[0,1,2,3,4,5,6,7]] mixed ?_ ?_;kernel_rfl;refine zA ?_;refine zA ?_;refine q_D (zq (j:=i)) ?_;refine q_D (zn (hv:=E)) ?_;refine zA ?_;refine zA ?_;refine q_D (zq (j:=i)) ?_;refine q_D (zn (hv:=F)) ?_;refine zaB ?_;refine q_v (zcR (hr:=g3)) ?_|fail)
   exact q_r
 obtain rfl:i=m:=q_o;have e:(q==r)=true:=by
  rw[beq_iff_eq];rw[A8 q_o,A8 q_o] at G;exact G
 rw[e];have g2:decide ((i:Int)<(i:Int))=false:=q_f;repeat' (first|refine s_0 ?_|refine zf 4 ?_;refine q_v (zo (hr:=g2)) ?_|refine q_k 9 ?_)
 exact q_r
theorem zja(C1 C2:List Value)(p q:Prin)(w:World)(h1:PrinIn w C1 p)(h2:PrinIn w C2 q)(hb:p.parts.length<1000000):q_G 73 [.agg C1.toArray,.agg C2.toArray] w (.bool (p.same q)):=by
 obtain⟨⟨a1,r,rfl,G,E,s1,I⟩,-⟩:=h1;obtain⟨⟨a2,A,rfl,H,F,s2,J⟩,-⟩:=h2;refine zt Tryz.func73 Tryz.ntmps73 ?_;unfold zT Prin.same;have C:=λm (j:Keep No w m)=>zs1 a1 a2 p.parts.length r q.parts.length A p.parts q.parts m rfl rfl hb ((Fc s1).to (Mi:=No) j (λ_ h=> .inr h)).sla ((Fc s2).to (Mi:=No) j (λ_ h=> .inr h)).sla;by_cases hr:p.realm=q.realm
 ·have g:decide (p.realm=q.realm)=true:=decide_eq_true hr;have e:(p.realm==q.realm)=true:=beq_iff_eq.2 hr;rw[e,B6];repeat' (first|refine s_0 ?_|refine zf 0 ?_;refine zj ?_;intro _;refine zW ?_;intro _|refine q_k 1 ?_;refine zm ?_;refine zb ?_;refine zm ?_;refine q_x (zbD (hr:=g)) ?_;refine zm ?_;refine zb ?_;refine zm ?_;refine q_v (za (hc:=zu C)) ?_;refine zb ?_)
  exact q_r
 ·have g:decide (p.realm=q.realm)=false:=decide_eq_false hr;have e:(p.realm==q.realm)=false:=beq_eq_false_iff_ne.2 hr;rw[e,BZ];repeat' (first|refine s_0 ?_|refine zf 0 ?_;refine zj ?_;intro _;refine zW ?_;intro _|refine q_k 1 ?_;refine zm ?_;refine zb ?_;refine zm ?_;refine q_x (zbD (hr:=g)) ?_)
  exact q_r
theorem zpj(a0:Option Addr)(n c:Nat)(l:List (List UInt8))(w:World)(hn:l.length=n)(hb:n<1000000)(j:SlA w a0 (l.map zT))(hc:n<=c)(hnil:a0=none->c=0):
  Sy.Fn Tryz.prog 166 [.slice a0 n c] w No (zbG 9 n (l.map zT)):=by
 refine zt Tryz.func166 Tryz.ntmps166 ?_;cases a0 with
 |none=>
  obtain rfl:=hnil rfl;obtain rfl:n=0:=q_o;obtain rfl:l= []:=As.1 hn;repeat' (first|refine s_0 ?_|refine zD [0,2] ?_;refine zb ?_|refine q_k 1 ?_;refine zaD ?_)
  exact zcf (za3 9 1) (zap rfl (zh rfl) q_h ⟨_,_,rfl,rfl⟩)
 |some ad=>
  repeat' (first|refine s_0 ?_|refine q_k 0 ?_|refine q_k 1 ?_;refine zaD ?_|refine zf 3 ?_;(refine q_s zfr ?_;rintro _ _ ⟨_,rfl,rfl⟩);refine zb ?_;(refine q_s zb4 ?_;rintro _ _ ⟨rfl,_,_,rfl⟩);refine zb ?_)
  exact q_r
theorem zof(C:List Value)(p:Prin)(w:World)(h:PrinIn w C p)(hb:p.parts.length<1000000):Sy.Fn Tryz.prog 75 [.agg C.toArray] w No (λv R=>∃a c,v= .agg #[.slice a p.parts.length c,zT p.realm]/\R= [.row (.slice a p.parts.length c) 9 1 p.parts.length (p.parts.map zT)]):=by
 obtain⟨⟨a1,A,rfl,F,H,s1,G⟩,-⟩:=h;refine zt Tryz.func75 Tryz.ntmps75 ?_;have q:=λr (E:Keep No w r)=>zpj a1 p.parts.length A p.parts r rfl hb ((Fc s1).to (Mi:=No) E (λ_ h=> .inr h)).sla F G;unfold zbG at q;repeat' (first|refine s_0 ?_|refine zf 0 ?_;refine zj ?_;intro _;refine zj ?_;intro _|refine q_k 1 ?_;refine zm ?_;(refine q_s (zi (hc:=zu q)) ?_;rintro _ _ ⟨R,rfl,j,m,rfl,rfl⟩);refine zb ?_;refine zO ?_|refine zf 2 ?_;refine zm ?_;refine zO ?_)
 exact zap rfl (zB (B:=[.slice j p.parts.length m,zT p.realm]) rfl (ty rfl) rfl Ev Et rfl) q_h ⟨j,m,rfl,rfl⟩
end Go.Proofs.YtdnlngbjpdbffaaGreatDoor
