/- Lemmas of this proof. -/
import Derived.Test.YtdnlngbjpdbffaaGreatDoorHJ27
import Derived.Test.YtdnlngbjpdbffaaGreatDoorHJ26
set_option maxRecDepth 10000
set_option linter.all false
namespace Go.Sy
open Go Go.RowKit
variable {P:Program}{ro:Option Nat}{N:Nat}{w0:World}{M:Nat->Prop}{ds:List Deferred}{fr:Fr}{L B:List Res}{Q:Exit->Act->World->Prop}{ops:Array Oper}{g:Nat->Option Value}{o:Oper}
def HOp(P:Program)(ro:Option Nat)(N:Nat)(w0:World)(M:Nat->Prop)(ds:List Deferred)(Q:Exit->Act->World->Prop)(o:Oper)(g:Nat->Option Value)(L:List Res)(post:Value->List Res->Prop):Prop:=
 ∀a w (Ds:List Nat) (K:Act->World->Prop),a.defers=Ds.map col++ds->St N w0 M ds g (L++Ds.map dob) a w->(∀v w' L',post v L'->Keep M w0 w'->Holds w0.heap.size M (L'++Ds.map dob) w'->K (a.put o.dst v) w')->o.wpIn (FW ro) 0 P a w K Q
theorem HOp.of{post:Value->List Res->Prop}(h:OpT P ro N w0 M ds o g L post):HOp P ro N w0 M ds Q o g L post:=λa w F K _ A q=>h a w _ K Q A (λv E L' r m j=>q v E L' r m j)
def SyC(P:Program)(ro:Option Nat)(N:Nat)(w0:World)(M:Nat->Prop)(ds:List Deferred)(ops:Array Oper)(Q:Exit->Act->World->Prop)(B:List Res):List Oper->Fr->List Res->Prop
 | [],fr,L=>SubR B L/\SyX N w0 M ds (Q .normal) fr L
 |o::rest,fr,L=>SubR B L/\∃post,HOp P ro N w0 M ds Q o (only (o.looksAt ops) (get fr)) L post/\zah ops o (only (o.looksAt ops) (get fr))=some true/\((∃d,o.dst=some d/\d<N/\∀v L',post v L'->SyC P ro N w0 M ds ops Q B rest ((d,v)::fr) L')\/(o.dst=none/\∀v L',post v L'->SyC P ro N w0 M ds ops Q B rest fr L'))
def SyF(P:Program)(ro:Option Nat)(N:Nat)(w0:World)(M:Nat->Prop)(ds:List Deferred)(ops:Array Oper)(Q:Exit->Act->World->Prop)(B L:List Res)(chain:List Oper):List Oper->Fr->Prop
 | [],fr=>SyC P ro N w0 M ds ops Q B chain fr L
 |o::rest,fr=>∃d v,o.dst=some d/\d<N/\zah ops o (only (o.looksAt ops) (get fr))=some true/\OpT P ro N w0 M ds o (only (o.looksAt ops) (get fr)) B (Det v B)/\SyF P ro N w0 M ds ops Q B L chain rest ((d,v)::fr)
def zcj(l:List Oper):List Nat->List Oper
 | []=>[]
 |i::r=>match l[i]? with
  |none=>zcj l r
  |some o=>o::zcj l r
theorem zfM{l:List Oper}{i:Nat}{o:Oper}(h:l[i]?=some o)(r:List Nat):zcj l (i::r)=o::zcj l r:=by rw[zcj,h]
def zcV(l:List Oper)(i:Nat)(js:List Nat):Bool:=match l[i]? with
 |none=>false
 |some o=>js.all λj=>match (l[j]?).bind (·.dst) with
  |none=>true
  |some t=>!(o.looksAt l.toArray).contains t&&(Nat.beq i j || !(o.dst==some t))
def zcz(l:List Oper):List Nat->List Nat->Bool
 | [],_=>true
 |i::fi,ci=>zcV l i (i::(fi++ci))&&zcz l fi ci
def zd9(l:List Oper):List Nat->Bool
 |i::j::r=>(match l[j]? with
  |none=>false
  |some o=>(pre o).contains i)&&zd9 l (j::r)
 |_=>true
def zsv(l:List Oper):Bool:=(List.range l.length).all λi=>match l[i]? with
 |none=>true
 |some o=>(List.range l.length).all λj=>match (l[j]?).bind (·.dst) with
  |none=>true
  |some t=>!(o.looksAt l.toArray).contains t || (pre o).contains j
def zcG:List Nat->Bool
 | []=>true
 |i::r=>!r.contains i&&zcG r
def zqu(l:List Oper)(fi ci:List Nat):Bool:=
 zqL l&&zsv l&&zcz l fi ci&&zd9 l ci&&zcG ci&&ci.all (λi=>Nat.blt i l.length)&&fi.all (λi=>Nat.blt i l.length)&&(List.range l.length).all λi=>fi.contains i || ci.contains i
def FO(P:Program)(ro:Option Nat)(N:Nat)(w0:World)(M:Nat->Prop)(ds:List Deferred)(ops:Array Oper)(B:List Res)(frF:Fr)(o:Oper):Prop:=
 ∃d v,o.dst=some d/\d<N/\get frF d=some v/\zah ops o (only (o.looksAt ops) (get frF))=some true/\OpT P ro N w0 M ds o (only (o.looksAt ops) (get frF)) B (Det v B)
theorem zbK{fr:Fr}{t d:Nat}{v:Value}(h:d≠t):get ((d,v)::fr) t=get fr t:=by
 show(bif Nat.beq d t then some v else get fr t)=_;rw[zaS.2 h];rfl
theorem zdz{fr:Fr}{d:Nat}{v:Value} :get ((d,v)::fr) d=some v:=by
 show(bif Nat.beq d d then some v else get fr d)=_;rw[E9];rfl
theorem zeA{ts:List Nat}{fr:Fr}{d:Nat}{v:Value}(h:ts.contains d=false):only ts (get ((d,v)::fr))=only ts (get fr):=by
 funext t
 unfold only;by_cases ht:ts.contains t=true
 ·rw[ht];have:d≠t:=λe=>by subst e;rw[h] at ht;cases ht
  simp only[cond_true,zbK this]
 ·rw[Bo] at ht;rw[ht];rfl
theorem FO.cons{j:Fr}{d:Nat}{v:Value}(h:FO P ro N w0 M ds ops B j o)(h1:(o.looksAt ops).contains d=false)(h2:o.dst≠some d):FO P ro N w0 M ds ops B ((d,v)::j) o:=by
 obtain⟨q,G,r,w,A,E,F⟩:=h;have m:d≠q:=λe=>h2 (by rw[r,e]);exact⟨q,G,r,w,by rw[zbK m];exact A,by rw[zeA h1];exact E,by rw[zeA h1];exact F⟩
theorem zdA{l:List Oper}{i:Nat}{w:List Nat}{o:Oper}(A:l[i]?=some o)(h:zcV l i w=true){j:Nat}(hj:j∈w){o':Oper}{t:Nat}(r:l[j]?=some o')(E:o'.dst=some t):(o.looksAt l.toArray).contains t=false/\(i≠j->o.dst≠some t):=by
 unfold zcV at h;rw[A] at h;have:=AD.1 h j hj;rw[r] at this;simp only[AW,E,A5,Aw,Bf] at this;refine⟨this.1,λq e=>?_⟩;rcases this.2 with m|m
 ·exact q (Bu m)
 ·rw[e] at m;simp at m
theorem znl{l:List Oper}{chain:List Oper} :∀(w:List Nat) (G done:List Nat) (fr:Fr),(∀i∈w,i<l.length)->zcz l w G=true->(∀i∈done,∀o,l[i]?=some o->FO P ro N w0 M ds l.toArray B fr o/\zcV l i (w++G)=true/\i∉w)->zcG w=true->
  SyF P ro N w0 M ds l.toArray Q B L chain (zcj l w) fr->∃m,(∀t,(∀i∈w,∀o,l[i]?=some o->o.dst≠some t)->get m t=get fr t)/\(∀i,i∈done\/i∈w->∀o,l[i]?=some o->FO P ro N w0 M ds l.toArray B m o)/\SyC P ro N w0 M ds l.toArray Q B chain m L
 | [],G,done,fr,_,_,hd,_,h=>⟨fr,λ_ _=>rfl,λi R o A=>(R.elim (λh=>(hd i h o A).1) (λh=>(by cases h))),h⟩
 |i::w,G,done,fr,hl,hc,hd,hn,h=>by
  have R:i<l.length:=hl i A4;have A:=A2 R;rw[zfM A] at h;obtain⟨d,v,I,X,Y,Z,h⟩:=h;simp only[zcz,A5] at hc;simp only[zcG,A5,Aw] at hn;have r:=zdA A hc.1 A4 A I;have E:∀ {k:Nat}{o:Oper}(U F:List Nat),l[k]?=some o->zcV l k U=true->(∀x∈F,x∈U)->zcV l k F=true:=by
   intro k o U F q h hs;unfold zcV at h ⊢;rw[q] at h ⊢;exact AD.2 λx H=>AD.1 h x (hs x H)
  have hstep:=znl (chain:=chain) w G (i::done) ((d,v)::fr) (λk q=>hl k (A0 _ q)) hc.2 (λk q o j=>by
   rcases AQ.1 q with rfl|q
   ·have:o=l[k]:=by rw[A] at j;exact(An j).symm
    subst this;refine⟨⟨d,v,I,X,zdz,by rw[zeA r.1];exact Y,by rw[zeA r.1];exact Z⟩,E _ _ A hc.1 (λx H=>A0 _ H),λT=>?_⟩;have:=hn.1;simp only[Ay,decide_eq_false_iff_not] at this;exact this T
   ·obtain⟨O,J,K⟩:=hd k q o j;have V:=zdA j J (A7 _ A4) A I;have S:k≠i:=λe=>K (by rw[e];exact A4);exact⟨O.cons V.1 (V.2 S),E _ _ j J (λx H=>(Am.1 H).elim (λh=>A7 _ (A0 _ h)) (λh=>AB _ h)),λT=>K (A0 _ T)⟩) hn.2 h
  obtain⟨m,O,J,K⟩:=hstep;refine⟨m,λt W=>?_,λk q o j=>?_,K⟩
  ·rw[O t (λk q o j=>W k (A0 _ q) o j)];exact zbK (λe=>W i A4 _ A (by rw[<-e];exact I))
  ·refine J k ?_ o j;rcases q with h|h
   ·exact .inl (A0 _ h)
   ·rcases AQ.1 h with rfl|h
    ·exact .inl A4
    ·exact .inr h
theorem zgj{l:List Oper} :∀(cl:List Nat) {j:List Nat},zd9 l (cl++j)=true->zd9 l j=true
 | [],_,h=>h
 | [c],[],_=>rfl
 | [c],d::j,h=>by
  simp only[Aa,AY,zd9,A5] at h;exact h.2
 |c::c'::cl,j,h=>by
  simp only[Aa,zd9,A5] at h;exact zgj (c'::cl) h.2
theorem zgh{l:List Oper} :∀ {c:Nat}{m:List Nat},zd9 l (c::m)=true->∀i∈m,∃p,p∈c::m/\∃o,l[i]?=some o/\p∈pre o
 |c,[],_,i,j=>by cases j
 |c,d::m,h,i,j=>by
  simp only[zd9,A5] at h;rcases AQ.1 j with rfl|j
  ·have q:=h.1;split at q
   ·cases q
   ·rename_i o r;refine⟨c,A4,o,r,?_⟩;simpa [Ay] using q
  ·obtain⟨p,A,o,r,w⟩:=zgh h.2 i j;exact⟨p,A0 _ A,o,r,w⟩
theorem zoN{l:List Oper} :∀ {r q:List Nat},zcz l r q=true->∀k∈r,∀o,l[k]?=some o->∀i∈q,∀m,l[i]?=some m->∀d,m.dst=some d->(o.looksAt l.toArray).contains d=false/\(k≠i->o.dst≠some d)
 | [],_,_,_,j,_,_,_,_,_,_,_,_=>by cases j
 |x::r,q,h,k,j,o,ho,i,hi,m,ho',d,hd=>by
  simp only[zcz,A5] at h;rcases AQ.1 j with rfl|j
  ·exact zdA ho h.1 (A0 _ (AB _ hi)) ho' hd
  ·exact zoN h.2 k j o ho i hi m ho' d hd
theorem zks:∀(cl:List Nat) {c:Nat}{j:List Nat},zcG (cl++c::j)=true->c∉j
 | [],c,j,h=>by
  simp only[AY,zcG,A5,Aw,Ay,decide_eq_false_iff_not] at h;exact h.1
 |x::cl,c,j,h=>by
  simp only[Aa,zcG,A5] at h;exact zks cl h.2
theorem zl6{id:Nat}{l:List Oper}(fi ci:List Nat)(hm:P.follows .mixedOrders=true)(c5:(zqu l fi ci&&zcG fi)=true)(h:SyF P ro N w0 M ds l.toArray Q B L (zcj l ci) (zcj l fi) fr):Sy P ro N w0 M ds (.region id l.toArray true) Q fr L:=by
 simp only[zqu,A5] at c5;obtain⟨⟨⟨⟨⟨⟨⟨⟨e7,c7⟩,a7⟩,b9⟩,h4⟩,e8⟩,e9⟩,c3⟩,h5⟩:=c5;obtain⟨c2,e5,e6,e4⟩:=znl fi ci [] fr (λi hi=>zaO.1 (AD.1 e9 i hi)) a7 (λi hi=>by cases hi) h5 h;have b8:∀(i:Nat) (o:Oper),l[i]?=some o->∀(j:Nat) (G:Oper) (t:Nat),l[j]?=some G->G.dst=some t->(o.looksAt l.toArray).contains t=true->j∈pre o:=by
  intro i o F j G t m ht h3;have h1:=AD.1 c7 i (Ar.2 (AL.1 F).1);rw[F] at h1;have h2:=AD.1 h1 j (Ar.2 (AL.1 m).1);rw[m] at h2;simp only[AW,ht,h3,DZ,BG] at h2;simpa [Ay] using h2
 -- J: what has been done of the order; what is known.
 refine zmM (J:=λb I L'=>∃cl S q,ci=cl++S/\(∀c∈cl,b c=true)/\(∀c∈S,b c=false)/\SyC P ro N w0 M ds l.toArray Q B (zcj l S) q L'/\(∀i∈fi,∀o,l[i]?=some o->i∉ci->FO P ro N w0 M ds l.toArray B q o)/\∀t,(∀j o,l[j]?=some o->o.dst=some t->b j=true)->∀v,get q t=some v->get I t=some v) hm e7 ?_ ?_ ?_
 ·refine⟨[],ci,c2,rfl,(λc O=>by cases O),(λ_ _=>rfl),e4,λi hi o F _=>e6 i (.inr hi) o F,λt ht v U=>?_⟩;rw[e5 t (λi hi o F e=>by have:=ht i o F e;cases this)] at U;exact U
 ·rintro b I L' i o F c4 e0 ⟨cl,S,q,E,b1,Z,hC,W,R⟩;have a9:∀j∈pre o,b j=true:=λj hj=>AD.1 e0 j hj;have b2:∀a:Act,Agrees (get I) a->Agrees (only (o.looksAt l.toArray) (get q)) a:=λa ha t v U=>by
   unfold only at U;cases O:(o.looksAt l.toArray).contains t with
   |false=>rw[O] at U;simp at U
   |true=>
    rw[O] at U;exact ha t v (R t (λj G m hd=>a9 j (b8 i o F j G t m hd O)) v U)
  by_cases hic:i∈ci
  ·have c9:i∈S:=by
    rw[E] at hic;rcases Am.1 hic with h|h
    ·rw[b1 i h] at c4;cases c4
    ·exact h
   obtain⟨c,H,rfl⟩:∃c H,S=c::H:=by cases S with
    |nil=>cases c9
    |cons c r=>exact⟨c,r,rfl⟩
   have c8:i=c:=by
    rcases AQ.1 c9 with h|h
    ·exact h
    ·obtain⟨p,hp,G,m,h7⟩:=zgh (zgj cl (by rw[<-E];exact b9)) i h;rw[F] at m;cases m;have:=a9 p h7;rw[Z p hp] at this;cases this
   subst c8;rw[zfM F] at hC;obtain⟨b6,post,c1,hw,e3⟩:=hC;have h6:i∉H:=zks cl (by rw[<-E];exact h4);rintro a w K ⟨Ds,a6,T⟩ hK;have b0:St N w0 M ds (only (o.looksAt l.toArray) (get q)) (L'++Ds.map dob) a w:=⟨T.size,b2 a T.agr,T.keep,T.hold⟩;rw[if_pos (zbq b0.agr hw)];refine c1 a w Ds K a6 b0 λv w' V hp hk hh=>?_;have b4:∀c∈cl++[i],(b c || Nat.beq c i)=true:=λc O=>by
    rcases Am.1 O with h|h
    ·rw[b1 c h];rfl
    ·rw[AC.1 h,E9,Dl]
   have b5:∀c∈H,(b c || Nat.beq c i)=false:=λc O=>by
    rw[Z c (A0 _ O),BG];exact zaS.2 (λe=>h6 (e ▸ O))
   have b3:ci=(cl++[i])++H:=by rw[E,AF];rfl
   rcases e3 with ⟨d,hd,b7,c0⟩|⟨hd,c0⟩
   ·rw[hd];refine hK ((d,v)::I) V _ _ ⟨cl++[i],H,(d,v)::q,b3,b4,b5,c0 v V hp,λk hk G m d8=>?_,λt ht u hu=>?_⟩ ⟨Ds,a6,T.put b7 v hk hh⟩
    ·have hF:=W k hk G m d8;obtain⟨h1,h2⟩:=zoN a7 k hk G m i (E ▸ AB _ A4) o F d hd;exact hF.cons h1 (h2 (λe=>d8 (e ▸ hic)))
    ·by_cases e:d=t
     ·subst e;rw[zdz] at hu ⊢;exact hu
     ·rw[zbK e] at hu ⊢;refine R t (λj G m A=>?_) u hu;have:(b j || Nat.beq j i)=true:=ht j G m A;have a8:j≠i:=λe'=>by subst e';rw[F] at m;cases m;rw[hd] at A;exact e (An A)
      rwa[zaS.2 a8,CQ] at this
   ·rw[hd];refine hK I V _ _ ⟨cl++[i],H,q,b3,b4,b5,c0 v V hp,W,λt ht u hu=>?_⟩ ⟨Ds,a6,T.put_none hk hh⟩;refine R t (λj G m A=>?_) u hu;have:(b j || Nat.beq j i)=true:=ht j G m A;have a8:j≠i:=λe'=>by subst e';rw[F] at m;cases m;rw[hd] at A;cases A
    rwa[zaS.2 a8,CQ] at this
  ·have f9:i∈fi:=by
    have:=AD.1 c3 i (Ar.2 (AL.1 F).1);simp only[Bf,Ay,decide_eq_true_eq] at this;exact this.resolve_right hic
   obtain⟨d,v,hd,b7,U,hw,c1⟩:=W i f9 o F hic;have b6:SubR B L':=by
    cases hcr0:zcj l S with
    |nil=>rw[hcr0] at hC;exact hC.1
    |cons G r=>rw[hcr0] at hC;exact hC.1
   obtain⟨Y,hY⟩:=b6.perm;rintro a w K ⟨Ds,a6,T⟩ hK;have b0:St N w0 M ds (only (o.looksAt l.toArray) (get q)) (B++(Y++Ds.map dob)) a w:=⟨T.size,b2 a T.agr,T.keep,T.hold.perm (by rw[<-AF];exact Aj _ hY)⟩;rw[if_pos (zbq b0.agr hw)];refine c1 a w _ K Q b0 λv' w' V ⟨e1,e2⟩ hk hh=>?_;subst e1;subst e2;rw[hd];have f8:Holds w0.heap.size M (L'++Ds.map dob) w':=hh.perm (by rw[<-AF];exact Aj _ hY.symm);refine hK ((d,v')::I) L' _ _ ⟨cl,S,q,E,λc O=>(by show(b c || Nat.beq c i)=true;rw[b1 c O];rfl),λc O=>?_,hC,W,λt ht u hu=>?_⟩ ⟨Ds,a6,T.put b7 v' hk f8⟩
   ·show(b c || Nat.beq c i)=false;rw[Z c O,BG];exact zaS.2 (λe=>hic (by rw[E,<-e];exact AB _ O))
   ·by_cases e:d=t
    ·subst e;rw[zdz];rw[U] at hu;exact hu
    ·rw[zbK e];refine R t (λj G m A=>?_) u hu;have:(b j || Nat.beq j i)=true:=ht j G m A;have a8:j≠i:=λe'=>by subst e';rw[F] at m;cases m;rw[hd] at A;exact e (An A)
     rwa[zaS.2 a8,CQ] at this
 ·rintro b I L' X ⟨cl,S,q,E,b1,Z,hC,W,R⟩;have d9:S= []:=by
   cases S with
   |nil=>rfl
   |cons c r=>
    have c6:c<l.length:=zaO.1 (AD.1 e8 c (by rw[E];exact AB _ A4));have:=Z c A4;rw[X c c6] at this;cases this
  subst d9;exact hC.2.weaken (λt v U=>R t (λj o F _=>X j (AL.1 F).1) v U) Ep
theorem zdq{id:Nat}{l:List Oper}(j m:List Nat)(hm:P.follows .mixedOrders=true)(q:(zqu l j m&&zcG j)=true)(h:SyF P ro N w0 M ds l.toArray Q L L (zcj l m) (zcj l j) fr):Sy P ro N w0 M ds (.region id l.toArray true) Q fr L:=zl6 j m hm q h
def zmu:List Nat->List Res->List Res
 | [],L=>L
 |k::ks,L=>zmu ks (L.eraseIdx k)
theorem zlX{id:Nat}{l:List Oper}(r:List Nat)(j m:List Nat)(hm:P.follows .mixedOrders=true)(q:(zqu l j m&&zcG j)=true)(h:SyF P ro N w0 M ds l.toArray Q (zmu r L) L (zcj l m) (zcj l j) fr):Sy P ro N w0 M ds (.region id l.toArray true) Q fr L:=zl6 j m hm q h
variable {rest chain:List Oper}{d:Nat}{v:Value}{L':List Res}
theorem yfv(h:OpT P ro N w0 M ds o (only (o.looksAt ops) (get fr)) B (Det v B))(q:zah ops o (only (o.looksAt ops) (get fr))=some true:=by exact rfl)(m:o.dst=some d:=by exact rfl)(j:Nat.blt d N=true:=by exact rfl)
  (k:SyF P ro N w0 M ds ops Q B L chain rest ((d,v)::fr)):SyF P ro N w0 M ds ops Q B L chain (o::rest) fr:=⟨d,v,m,A6 j,q,h,k⟩
theorem yf0(k:SyC P ro N w0 M ds ops Q B chain fr L):SyF P ro N w0 M ds ops Q B L chain [] fr:=k
theorem ycs{post:Value->List Res->Prop}(h:OpT P ro N w0 M ds o (only (o.looksAt ops) (get fr)) L post)(r:zah ops o (only (o.looksAt ops) (get fr))=some true:=by exact rfl)(q:o.dst=some d:=by exact rfl)(m:Nat.blt d N=true:=by exact rfl)(j:SubR B L:=by first|(focus ((repeat (first|exact Ep|apply Ex));done))|exact FE)
  (k:∀v L',post v L'->SyC P ro N w0 M ds ops Q B rest ((d,v)::fr) L'):SyC P ro N w0 M ds ops Q B (o::rest) fr L:=⟨j,post,HOp.of h,r,.inl ⟨d,q,A6 m,k⟩⟩
theorem ycv(h:OpT P ro N w0 M ds o (only (o.looksAt ops) (get fr)) L (Det v L'))(A:zah ops o (only (o.looksAt ops) (get fr))=some true:=by exact rfl)(w:o.dst=some d:=by exact rfl)(r:Nat.blt d N=true:=by exact rfl)(q:SubR B L:=by first|(focus ((repeat (first|exact Ep|apply Ex));done))|exact FE)
  (k:SyC P ro N w0 M ds ops Q B rest ((d,v)::fr) L'):SyC P ro N w0 M ds ops Q B (o::rest) fr L:=ycs h A w r q λ_ _ ⟨j,m⟩=>by subst j;subst m;exact k
theorem ycn(h:OpT P ro N w0 M ds o (only (o.looksAt ops) (get fr)) L (Det v L'))(w:zah ops o (only (o.looksAt ops) (get fr))=some true:=by exact rfl)(r:o.dst=none:=by exact rfl)(q:SubR B L:=by first|(focus ((repeat (first|exact Ep|apply Ex));done))|exact FE)
  (k:SyC P ro N w0 M ds ops Q B rest fr L'):SyC P ro N w0 M ds ops Q B (o::rest) fr L:=⟨q,Det v L',HOp.of h,w,.inr ⟨r,λ_ _ ⟨j,m⟩=>by subst j;subst m;exact k⟩⟩
theorem yc0(k:SyX N w0 M ds (Q .normal) fr L)(j:SubR B L:=by first|(focus ((repeat (first|exact Ep|apply Ex));done))|exact FE):SyC P ro N w0 M ds ops Q B [] fr L:=⟨j,k⟩
end Go.Sy
namespace Go.Ct
open Go Go.Sy
theorem zdb{w:World}{a:Option Addr}{B:List Value}(h:SlA w a B){i:Nat}(m:i<B.length):∃b o,a=some ⟨b,o,none⟩/\∀(j:Nat) (v:Value),B[j]?=some v->w.cell? ⟨b,o+j,none⟩=some v:=by
 rcases h with rfl|⟨b,o,rfl,q⟩
 ·exact absurd m q_p
 ·exact⟨b,o,rfl,q⟩
theorem zdw{α β:Type}(f:α->β){l:List α}{i:Nat}(h:i<l.length):(l.map f)[i]?=some (f l[i]):=by rw[Ak,A2 h];rfl
theorem zaI{α:Type}{l:List α}{i:Nat}(h:i<l.length):l.take (i+1)=l.take i++[l[i]]:=BF h
theorem zmQ:∀bs:List Bool,bs.all id=!bs.contains false
 | []=>rfl
 |x::l=>by
  have j:=zmQ l;cases x
  ·simp
  ·simp only[BI,id,B1,j,List.contains_cons];rfl
end Go.Ct
namespace Go.Proofs.YtdnlngbjpdbffaaGreatDoor
open Go Go.Sy Go.Ct Go.RowKit
attribute [local irreducible] Sy SyL SyX Sy.Fn callFunc
theorem zvD(a:Option Addr)(m c:Nat)(bs:List Bool)(u:Bool)(w:World)(hm:bs.length=m)(G:m<1000000)(H:SlA w a (bs.map Value.bool)):
  Sy.Fn Tryz.prog 280 [.slice a m c,.bool u] w No (λv R=>∃z:Int,v= .int .i64 z/\decide (z>=0)=bs.contains u/\R= []):=by
 refine zz Tryz.func280 Tryz.ntmps280 ?_;repeat' (first|refine s_t ?_|refine zL [0,1] ?_;refine zf ?_)
 refine zX (γ:=Nat) (λi=>[(0,.slice a m c),(1,.bool u),(7,.int .i64 (m:Int)),(8,.int .i64 (i:Int))]) (λ_=>[]) (λi=>i<=m/\(bs.take i).contains u=false) (λi=>m-i) 0 ⟨AE _,rfl⟩ ?_ ?_ ?_
 ·exact q_h
 ·exact q_h
 rintro i ⟨J,q⟩;by_cases hlt:i<m
 ·obtain⟨I,K,rfl,r⟩:=zdb H (i:=i) (by rw[A1];omega);have F:=r i _ (zdw Value.bool q_o);have g1:decide ((i:Int)<(m:Int))=true:=q_d;have g5:IntKind.i64.wrap ((i:Int)+1)=((i+1:Nat):Int):=q_w;have E:bs.take (i+1)=bs.take i++[bs[i]]:=zaI q_o;have A:bs[i]∈bs:=AX q_o;generalize bs[i]=x at*;by_cases hx:u=x
  ·have g2:(u==x)=true:=by simp[hx]
   repeat' (first|refine s_t ?_|refine ze 2 ?_;refine q_v (zm (hr:=g1)) ?_|refine zL [3,5] ?_;refine zf ?_|refine q_k 4 ?_;refine q_v (zG (j:=i)) ?_;refine q_v (zp (hv:=F)) ?_;refine q_v (zik (hr:=g2)) ?_)
   exact zaq rfl (zj rfl) El ⟨i,rfl,by rw[decide_eq_true q_o];symm;simp[hx,A],rfl⟩
  ·have g2:(u==x)=false:=by simp[hx]
   repeat' (first|refine s_t ?_|refine ze 2 ?_;refine q_v (zm (hr:=g1)) ?_|refine q_k 3 ?_|refine q_k 4 ?_;refine q_v (zG (j:=i)) ?_;refine q_v (zp (hv:=F)) ?_;refine q_v (zik (hr:=g2)) ?_|refine ze 6 ?_;refine q_x (zN (hr:=g5)) ?_)
   refine zQ (i+1) ⟨hlt,?_⟩ ?_ ?_ ?_
   ·rw[E];simp only[Ay,Am,AC,decide_eq_false_iff_not] at q ⊢;rintro(h|h)
    ·exact q h
    ·exact hx h
   ·show m-(i+1)<m-i;omega
   ·exact q_h
   ·exact q_h
 obtain rfl:i=m:=q_o;rw[A9 q_o] at q;have g1:decide ((i:Int)<(i:Int))=false:=q_f;repeat' (first|refine s_0 ?_|refine ze 2 ?_;refine q_v (zm (hr:=g1)) ?_|refine q_k 7 ?_)
 exact zaq rfl (zj rfl) El ⟨-1,rfl,by rw[q];rfl,rfl⟩
theorem znL(a:Option Addr)(m c:Nat)(bs:List Bool)(u:Bool)(w:World)(hm:bs.length=m)(j:m<1000000)(E:SlA w a (bs.map Value.bool)):
  q_G 234 [.slice a m c,.bool u] w (.bool (bs.contains u)):=by
 refine zz Tryz.func234 Tryz.ntmps234 ?_;have r:=λq (A:Keep No w q)=>zvD a m c bs u q hm j ((FY E).to (Mi:=No) A (λ_ h=> .inr h)).sla;repeat' (first|refine s_0 ?_|refine q_k 0 ?_|refine q_k 1 ?_;(refine q_s (zn (hc:=zr r)) ?_;rintro _ _ ⟨R,rfl,z,rfl,F,rfl⟩);refine q_x (zai (hr:=F)) ?_)
 exact q_r
theorem zwg(b m:Nat)(bs:List Bool)(w:World)(hm:bs.length=m)(j:m<1000000)(E:w.rangeAt b 0 (bs.map Value.bool)):
  q_G 167 [.slice (some ⟨b,0,none⟩) m m] w (.bool (bs.all id)):=by
 refine zz Tryz.func167 Tryz.ntmps167 ?_;have r:=λq (A:Keep No w q)=>znL (some ⟨b,0,none⟩) m m bs false q hm j ((FY (w:=w) (.inr ⟨b,0,rfl,E⟩)).to (Mi:=No) A (λ_ h=> .inr h)).sla;rw[zmQ];repeat' (first|refine s_0 ?_|refine q_k 0 ?_|refine q_k 1 ?_;refine q_v (za (hc:=zr r)) ?_;refine zI ?_;refine zf ?_)
 exact q_r
theorem zvE(b m:Nat)(bs:List Bool)(w:World)(hm:bs.length=m)(j:m<1000000)(E:w.rangeAt b 0 (bs.map Value.bool)):
  q_G 216 [.slice (some ⟨b,0,none⟩) m m] w (.bool (bs.all id)):=by
 refine zz Tryz.func216 Tryz.ntmps216 ?_;have r:=λq (A:Keep No w q)=>znL (some ⟨b,0,none⟩) m m bs false q hm j ((FY (w:=w) (.inr ⟨b,0,rfl,E⟩)).to (Mi:=No) A (λ_ h=> .inr h)).sla;rw[zmQ];repeat' (first|refine s_0 ?_|refine q_k 0 ?_|refine q_k 1 ?_;refine q_v (za (hc:=zr r)) ?_;refine zI ?_;refine zf ?_)
 exact q_r
theorem zvB(l:List UInt8)(w:World)(I:l.length<1000000000):q_G 169 [zW l] w (.bool (zec l)):=by
 refine zz Tryz.func169 Tryz.ntmps169 ?_;unfold zW;have J:((str l).size:Int)=(l.length:Int):=rfl;have F:=λG=>zmz l G;unfold zW at F;repeat' (first|refine s_t ?_|refine zL [0,1] ?_;refine zf ?_)
 refine zX (γ:=Nat) (λi=>[(0,.string (str l)),(5,.int .i64 (l.length:Int)),(6,.int .i64 (i:Int))]) (λ_=>[]) (λi=>i<=l.length/\(l.take i).all zn7=true) (λi=>l.length-i) 0 ⟨AE _,rfl⟩ ?_ ?_ ?_
 ·exact q_h
 ·exact q_h
 rintro i ⟨H,q⟩;by_cases hlt:i<l.length
 ·have g1:decide ((i:Int)<(l.length:Int))=true:=q_d;have g5:IntKind.i64.wrap ((i:Int)+1)=((i+1:Nat):Int):=q_w;have hv:(str l).data[i]?=some l[i]:=by show l.toArray[i]?=_;rw[Bv,A2 hlt]
  have A:l.take (i+1)=l.take i++[l[i]]:=zaI hlt;have r:l[i]∈l:=AX hlt;generalize l[i]=x at*;have hc:x.toNat<33\/(33<=x.toNat/\126<x.toNat)\/(33<=x.toNat/\x.toNat<=126):=q_o;have m:¬(33<=x.toNat/\x.toNat<=126)->zec l=false:=λh=>by
   have:l.all zn7=false:=by
    rw[BT];exact⟨x,r,by simp only[zn7,A5,decide_eq_true_eq];exact h⟩
   simp[zec,this]
  rcases hc with h|⟨h,E⟩|⟨h,E⟩
  ·rw[m q_o];repeat' (first|refine s_t ?_|refine ze 2 ?_;refine q_v (zm (hr:=g1)) ?_|refine zL [3,5] ?_;refine zf ?_|refine q_k 4 ?_;refine q_v (zas (j:=i) (hv:=hv)) ?_;refine q_x zm ?_)
   exact q_r
  ·rw[m q_o];repeat' (first|refine s_t ?_|refine ze 2 ?_;refine q_v (zm (hr:=g1)) ?_|refine zL [3,5] ?_;refine zf ?_|refine q_k 4 ?_;refine q_v (zas (j:=i) (hv:=hv)) ?_;refine q_x zm ?_;refine q_v (zas (j:=i) (hv:=hv)) ?_;refine q_x zF ?_)
   exact q_r
  ·repeat' (first|refine s_t ?_|refine ze 2 ?_;refine q_v (zm (hr:=g1)) ?_|refine q_k 3 ?_|refine q_k 4 ?_;refine q_v (zas (j:=i) (hv:=hv)) ?_;refine q_x zm ?_;refine q_v (zas (j:=i) (hv:=hv)) ?_;refine q_x zF ?_|refine ze 6 ?_;refine q_x (zN (hr:=g5)) ?_)
   refine zQ (i+1) ⟨hlt,?_⟩ ?_ ?_ ?_
   ·rw[A,BK,q];simp only[BI,DN,zn7,decide_eq_true h,decide_eq_true E,B1]
   ·show l.length-(i+1)<l.length-i;omega
   ·exact q_h
   ·exact q_h
 obtain rfl:i=l.length:=q_o;rw[A9 (A8 _)] at q;have g1:decide ((l.length:Int)<(l.length:Int))=false:=q_f;repeat' (first|refine s_0 ?_|refine ze 2 ?_;refine q_v (zm (hr:=g1)) ?_|refine q_k 7 ?_;refine q_v (za (hc:=q_c F)) ?_;refine zf ?_)
 exact zaq rfl (zj rfl) El ⟨by simp[zec,q],rfl⟩
theorem zr0(a1 a2:Option Addr)(m J I K:Nat)(q r:List (List UInt8))(w:World)(h1:q.length=m)(h2:r.length=I)(hb:m<1000000)(s1:SlA w a1 (q.map zW))(s2:SlA w a2 (r.map zW)):
  q_G 165 [.slice a1 m J,.slice a2 I K] w (.bool (q==r)):=by
 refine zz Tryz.func165 Tryz.ntmps165 ?_;by_cases hn:¬m=I
 ·have g1:decide ((m:Int)≠(I:Int))=true:=q_d;have e:(q==r)=false:=by
   rw[beq_eq_false_iff_ne];intro e;exact hn (by rw[<-h1,<-h2,e])
  rw[e];repeat' (first|refine s_0 ?_|refine zL [0,2] ?_;refine zf ?_|refine q_k 1 ?_;refine q_v (zV (hr:=g1)) ?_)
  exact q_r
 have g1:decide ((m:Int)≠(I:Int))=false:=q_f;repeat' (first|refine s_t ?_|refine zL [0,3] ?_;refine zf ?_|refine q_k 1 ?_;refine q_v (zV (hr:=g1)) ?_)
 refine zX (γ:=Nat) (λi=>[(0,.slice a1 m J),(1,.slice a2 I K),(12,.int .i64 (m:Int)),(13,.int .i64 (i:Int))]) (λ_=>[]) (λi=>i<=m/\q.take i=r.take i) (λi=>m-i) 0 ⟨AE _,rfl⟩ ?_ ?_ ?_
 ·exact q_h
 ·exact q_h
 rintro i ⟨S,H⟩;by_cases hlt:i<m
 ·obtain⟨O,T,rfl,A⟩:=zdb s1 (i:=i) (by rw[A1];omega);obtain⟨R,U,rfl,E⟩:=zdb s2 (i:=i) (by rw[A1];omega);have F:=A i _ (zdw zW q_o);have G:=E i _ (zdw zW q_o);unfold zW at F G;have g2:decide ((i:Int)<(m:Int))=true:=q_d;have g5:IntKind.i64.wrap ((i:Int)+1)=((i+1:Nat):Int):=q_w;have t1:q.take (i+1)=q.take i++[q[i]]:=zaI q_o;have t2:r.take (i+1)=r.take i++[r[i]]:=zaI q_o;by_cases hx:q[i]=r[i]
  ·have g3:decide (q[i]≠r[i])=false:=decide_eq_false (λh=>h hx);repeat' (first|refine s_t ?_|refine ze 4 ?_;refine q_v (zm (hr:=g2)) ?_|refine q_k 5 ?_|refine zal (id:=6) 8 [[],[],[0,1],[0,1,2],[],[],[4,5],[4,5,6],[0,1,2,3,4,5,6,7]] mixed ?_ ?_;kernel_rfl;refine zO ?_;refine zO ?_;refine q_D (zG (j:=i)) ?_;refine q_D (zp (hv:=F)) ?_;refine zO ?_;refine zO ?_;refine q_D (zG (j:=i)) ?_;refine q_D (zp (hv:=G)) ?_;refine zaG ?_;refine q_v (zdT (hr:=g3)) ?_|refine ze 8 ?_;refine q_x (zN (hr:=g5)) ?_)
   refine zQ (i+1) ⟨hlt,by rw[t1,t2,H,hx]⟩ ?_ ?_ ?_
   ·show m-(i+1)<m-i;omega
   ·exact q_h
   ·exact q_h
  ·have g3:decide (q[i]≠r[i])=true:=decide_eq_true hx;have e:(q==r)=false:=by
    rw[beq_eq_false_iff_ne];intro e;subst e;exact hx rfl
   rw[e];repeat' (first|refine s_t ?_|refine ze 4 ?_;refine q_v (zm (hr:=g2)) ?_|refine zL [5,7] ?_;refine zf ?_|refine zal (id:=6) 8 [[],[],[0,1],[0,1,2],[],[],[4,5],[4,5,6],[0,1,2,3,4,5,6,7]] mixed ?_ ?_;kernel_rfl;refine zO ?_;refine zO ?_;refine q_D (zG (j:=i)) ?_;refine q_D (zp (hv:=F)) ?_;refine zO ?_;refine zO ?_;refine q_D (zG (j:=i)) ?_;refine q_D (zp (hv:=G)) ?_;refine zaG ?_;refine q_v (zdT (hr:=g3)) ?_|fail)
   exact q_r
 obtain rfl:i=m:=q_o;have e:(q==r)=true:=by
  rw[beq_iff_eq];rw[A9 q_o,A9 q_o] at H;exact H
 rw[e];have g2:decide ((i:Int)<(i:Int))=false:=q_f;repeat' (first|refine s_0 ?_|refine ze 4 ?_;refine q_v (zm (hr:=g2)) ?_|refine q_k 9 ?_)
 exact q_r
theorem zit(C1 C2:List Value)(p q:Prin)(w:World)(h1:PrinIn w C1 p)(h2:PrinIn w C2 q)(hb:p.parts.length<1000000):q_G 73 [.agg C1.toArray,.agg C2.toArray] w (.bool (p.same q)):=by
 obtain⟨⟨a1,r,rfl,H,F,s1,J⟩,-⟩:=h1;obtain⟨⟨a2,A,rfl,I,G,s2,K⟩,-⟩:=h2;refine zz Tryz.func73 Tryz.ntmps73 ?_;unfold zW Prin.same;have E:=λm (j:Keep No w m)=>zr0 a1 a2 p.parts.length r q.parts.length A p.parts q.parts m rfl rfl hb ((FY s1).to (Mi:=No) j (λ_ h=> .inr h)).sla ((FY s2).to (Mi:=No) j (λ_ h=> .inr h)).sla;by_cases hr:p.realm=q.realm
 ·have g:decide (p.realm=q.realm)=true:=decide_eq_true hr;have e:(p.realm==q.realm)=true:=beq_iff_eq.2 hr;rw[e,B1];repeat' (first|refine s_0 ?_|refine ze 0 ?_;refine zi ?_;intro _;refine z9 ?_;intro _|refine q_k 1 ?_;refine zl ?_;refine zf ?_;refine zl ?_;refine q_x (zbb (hr:=g)) ?_;refine zl ?_;refine zf ?_;refine zl ?_;refine q_v (za (hc:=zr E)) ?_;refine zf ?_)
  exact q_r
 ·have g:decide (p.realm=q.realm)=false:=decide_eq_false hr;have e:(p.realm==q.realm)=false:=beq_eq_false_iff_ne.2 hr;rw[e,BC];repeat' (first|refine s_0 ?_|refine ze 0 ?_;refine zi ?_;intro _;refine z9 ?_;intro _|refine q_k 1 ?_;refine zl ?_;refine zf ?_;refine zl ?_;refine q_x (zbb (hr:=g)) ?_)
  exact q_r
theorem zoD(a0:Option Addr)(n c:Nat)(l:List (List UInt8))(w:World)(hn:l.length=n)(hb:n<1000000)(j:SlA w a0 (l.map zW))(hc:n<=c)(hnil:a0=none->c=0):
  Sy.Fn Tryz.prog 166 [.slice a0 n c] w No (zbT 9 n (l.map zW)):=by
 refine zz Tryz.func166 Tryz.ntmps166 ?_;cases a0 with
 |none=>
  obtain rfl:=hnil rfl;obtain rfl:n=0:=q_o;obtain rfl:l= []:=Av.1 hn;repeat' (first|refine s_0 ?_|refine zL [0,2] ?_;refine zf ?_|refine q_k 1 ?_;refine zaH ?_)
  exact zjB (zbZ 9 1) (zaq rfl (zj rfl) q_h ⟨_,_,rfl,rfl⟩)
 |some ad=>
  repeat' (first|refine s_0 ?_|refine q_k 0 ?_|refine q_k 1 ?_;refine zaH ?_|refine ze 3 ?_;(refine q_s zaE ?_;rintro _ _ ⟨_,rfl,rfl⟩);refine zf ?_;(refine q_s zbp ?_;rintro _ _ ⟨rfl,_,_,rfl⟩);refine zf ?_)
  exact q_r
theorem zm0(C:List Value)(p:Prin)(w:World)(h:PrinIn w C p)(hb:p.parts.length<1000000):Sy.Fn Tryz.prog 75 [.agg C.toArray] w No (λv R=>∃a c,v= .agg #[.slice a p.parts.length c,zW p.realm]/\R= [.row (.slice a p.parts.length c) 9 1 p.parts.length (p.parts.map zW)]):=by
 obtain⟨⟨a1,A,rfl,F,H,s1,G⟩,-⟩:=h;refine zz Tryz.func75 Tryz.ntmps75 ?_;have q:=λr (E:Keep No w r)=>zoD a1 p.parts.length A p.parts r rfl hb ((FY s1).to (Mi:=No) E (λ_ h=> .inr h)).sla F G;unfold zbT at q;repeat' (first|refine s_0 ?_|refine ze 0 ?_;refine zi ?_;intro _;refine zi ?_;intro _|refine q_k 1 ?_;refine zl ?_;(refine q_s (zn (hc:=zr q)) ?_;rintro _ _ ⟨R,rfl,j,m,rfl,rfl⟩);refine zf ?_;refine zJ ?_|refine ze 2 ?_;refine zl ?_;refine zJ ?_)
 exact zaq rfl (zB (B:=[.slice j p.parts.length m,zW p.realm]) rfl (ty rfl) rfl En Em rfl) q_h ⟨j,m,rfl,rfl⟩
end Go.Proofs.YtdnlngbjpdbffaaGreatDoor
