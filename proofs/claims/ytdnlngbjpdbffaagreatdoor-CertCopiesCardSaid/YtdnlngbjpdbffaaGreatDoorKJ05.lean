/- Lemmas of this proof. -/
import Derived.Test.YtdnlngbjpdbffaaGreatDoorKJ04
set_option linter.all false
namespace Go.Sy
open Go
def zeG(m:Nat)(ops:Array Oper)(i:Nat):Option Nat:=bif Nat.blt i m then none else zcY ops i
theorem zoP{m i:Nat}{ops:Array Oper}(h:m<=i):zeG m ops i=zcY ops i:=by unfold zeG;rw[zbV.2 h];rfl
theorem zoV{m i:Nat}{ops:Array Oper}(h:i<m):zeG m ops i=none:=by unfold zeG;rw[zaA.2 h];rfl
def zk4(ops:Array Oper)(m n N:Nat)(C:List (List Nat)):Bool:=
 Nat.ble n ops.size &&
 (List.range ops.size).all λi=>match ops[i]? with
  |none=>true
  |some o=>
   (pre o).all (λj=>Nat.blt j i)&&(match o.dst with|none=>true|some d=>Nat.blt d N) &&
   (cl C i).all (λj=>Nat.blt j i&&((pre o).contains j || (pre o).any λk=>(cl C k).contains j)) &&
   (bif Nat.blt i m then true else bif Nat.blt i n then (List.range n).all (λj=>Nat.beq i j || match zeG m ops j with
    |none=>true
    |some d=>!(o.dst==some d)&&(!((o.looksAt ops).contains d) || (bif Nat.blt j i then (cl C i).contains j else (cl C j).contains i)))
   else (List.range n).all (cl C i).contains)
variable {P:Program}{ro:Option Nat}{N:Nat}{w0:World}{M:Nat->Prop}{ds:List Deferred}
def frA(m:Nat)(ops:Array Oper)(it:Nat->zbt)(fr:Fr)(ρ:Env):Nat->Fr
 |0=>fr
 |j+1=>ext (zeG m ops j) (zci (it j) j ρ) (frA m ops it fr ρ j)
theorem zpd{m:Nat}{ops:Array Oper}{it:Nat->zbt}{fr:Fr}{ρ:Env} :∀j,j<=m->frA m ops it fr ρ j=fr
 |0,_=>rfl
 |j+1,h=>by simp only[frA];rw[zoV q_o,zpd j q_o];rfl
theorem zpa{m:Nat}{it:Nat->zbt}(hb:∀k,k<m->it k= .inl λ_=>undef):∀j,j<=m->rsT it j= []
 |0,_=>rfl
 |j+1,h=>by simp only[rsT];rw[hb j q_o];exact zpa hb j q_o
theorem ziN{m:Nat}{ops:Array Oper}{it:Nat->zbt}{fr:Fr}{ρ:Env}{t:Nat}{v:Value} :∀j,get (frA m ops it fr ρ j) t=some v->
  (∃k,k<j/\zeG m ops k=some t/\v=zci (it k) k ρ)\/((∀k,k<j->zeG m ops k≠some t)/\get fr t=some v)
 |0,h=> .inr ⟨λk B=>by omega,h⟩
 |j+1,h=>by
  simp only[frA] at h;cases hd:zeG m ops j with
  |none=>
   rw[hd] at h;rcases ziN j h with ⟨k,r,q,w⟩|⟨r,q⟩
   ·exact .inl ⟨k,by omega,q,w⟩
   ·refine .inr ⟨λk B=>?_,q⟩;by_cases e:k=j
    ·subst e;rw[hd];exact λe=>by cases e
    ·exact r k q_o
  |some d=>
   rw[hd] at h;simp only[ext,get] at h;cases hb:Nat.beq d t with
   |true=>
    rw[hb] at h;simp only[cond_true,Bo] at h;have:=BT hb;subst this;exact .inl ⟨j,by omega,hd,h.symm⟩
   |false=>
    rw[hb] at h;simp only[cond_false] at h;have A:=Bw hb;rcases ziN j h with ⟨k,r,q,w⟩|⟨r,q⟩
    ·exact .inl ⟨k,by omega,q,w⟩
    ·refine .inr ⟨λk B=>?_,q⟩;by_cases e:k=j
     ·subst e;rw[hd];exact λe=>A (Ap e)
     ·exact r k q_o
structure DOkA(ops:Array Oper)(m n N:Nat)(C:List (List Nat)):Prop where
 le:n<=ops.size
 acyc:∀(i:Nat) (o:Oper),ops[i]?=some o->∀j∈pre o,j<i
 low:∀(i:Nat) (o:Oper),ops[i]?=some o->∀d,o.dst=some d->d<N
 clo:∀(i:Nat) (o:Oper),ops[i]?=some o->∀j∈cl C i,j<i/\(j∈pre o\/∃k∈pre o,j∈cl C k)
 slot:∀(i:Nat) (o:Oper),ops[i]?=some o->m<=i->i<n->∀j,j<n->j≠i->∀d,zeG m ops j=some d->o.dst≠some d/\(d∈o.looksAt ops->(j<i->j∈cl C i)/\(i<j->i∈cl C j))
 tail:∀(i:Nat) (o:Oper),ops[i]?=some o->m<=i->n<=i->∀j,j<n->j∈cl C i
theorem zm6{ops:Array Oper}{m n:Nat}{C:List (List Nat)}(h:zk4 ops m n N C=true):DOkA ops m n N C:=by
 unfold zk4 at h;rw[AB,AT] at h;obtain⟨h0,K⟩:=h;have q:∀i o,ops[i]?=some o->_:=λi o r=>by
  have J:i<ops.size:=(Aa.1 r).1;have:=K i (B9.2 J);rw[r] at this;simp only[AB] at this;exact this
 refine⟨AO h0,λi o r j t=>?_,λi o r d G=>?_,λi o r j t=>?_,λi o r w H j t I d G=>?_,λi o r w H j t=>?_⟩
 ·have:=(q i o r).1.1.1;rw[AT] at this;exact zaA.1 (this j t)
 ·have:=(q i o r).1.1.2;rw[G] at this;exact zaA.1 this
 ·have:=(q i o r).1.2;rw[AT] at this;have:=this j t;rw[AB,Bl,Dj] at this;refine⟨zaA.1 this.1,this.2.imp q_p λ⟨k,S,O⟩=>⟨k,S,by simpa using O⟩⟩
 ·have:=(q i o r).2;rw[zbV.2 w,cond_false,zaA.2 H,cond_true,AT] at this;have:=this j (B9.2 t);rw[za4.2 (λe=>I e.symm),Bz,G] at this;simp only[AB,Bl,BQ] at this;refine⟨by simpa using this.1,λU=>?_⟩;have B:=this.2.resolve_left (by simp[U]);refine⟨λA=>?_,λR=>?_⟩
  ·rw[zaA.2 A,cond_true] at B;simpa using B
  ·rw[zbV.2 q_o,cond_false] at B;simpa using B
 ·have:=(q i o r).2;rw[zbV.2 w,cond_false,zbV.2 H,cond_false,AT] at this;simpa using this j (B9.2 t)
theorem zno{ops:Array Oper}{m n:Nat}{C:List (List Nat)}(hk:DOkA ops m n N C){p:Nat->Bool}(down:∀k o,p k=true->ops[k]?=some o->∀j∈pre o,p j=true):
  ∀i o,ops[i]?=some o->(∀j∈pre o,p j=true)->∀j∈cl C i,p j=true:=by
 intro i
 induction i using Nat.strongRecOn with
 |_ i I=>
  intro o t A j G;obtain⟨_,h|⟨k,w,B⟩⟩:=hk.clo i o t j G
  ·exact A j h
  ·have r:=hk.acyc i o t k w;have H:i<ops.size:=(Aa.1 t).1;have q:ops[k]?=some ops[k]:=Au q_o;exact I k r _ q (down k _ (A k w) q) j B
variable {ops:Array Oper}{m n:Nat}{C:List (List Nat)}{fr:Fr}{L0:List Res}{it:Nat->zbt}{Q:Exit->Act->World->Prop}{dd:List Deferred}
def SyA(P:Program)(ro:Option Nat)(N:Nat)(w0:World)(M:Nat->Prop)(ds:List Deferred)(ops:Array Oper)(Q:Exit->Act->World->Prop)(q:Nat)(rest:List Oper)(fr:Fr)(L:List Res):Prop:=
 (∀j,rest[j]?=ops[q+j]?)->∀a w (listed:Array Bool),StD N w0 M ds (get fr) L a w->listed.size=ops.size->(∀k,k<ops.size->listed.getD k false=Nat.blt k q)->wpAnyIn (FW ro) 0 P .any ops Q (ops.size-q) listed a w
theorem SyA.rest{q:Nat}{r t:List Oper}{fr':Fr}{L':List Res}(h:SyA P ro N w0 M ds ops Q q r fr' L')(hr:∀j,r[j]?=ops[q+j]?):SyA P ro N w0 M ds ops Q q t fr' L':=λ_=>h hr
theorem zb2{id:Nat}{l:List Oper}(hm:P.follows .mixedOrders=true)(h:SyA P ro N w0 M ds l.toArray Q 0 l fr L0):Sy P ro N w0 M ds (.region id l.toArray true) Q fr L0:=by
 rintro a w ⟨A,t,q⟩;refine wpIn_region_any hm ?_;refine h (λj=>by simp) a _ (Array.replicate l.toArray.size false) ⟨A,t,q.size,q.agr,⟨q.keep.os,q.keep.tape,q.keep.output,q.keep.size,q.keep.block⟩,⟨λr B=>GZ (q.hold.all r B) (λ_ _=>rfl),q.hold.apart,q.hold.mine⟩⟩ q_p λk _=>?_;rw[zbV.2 (AE _)];simp only[Ab,DR];split <;> rfl
theorem zb1{q:Nat}{rest:List Oper}(C:List (List Nat))(j:zkx ops q N C=true)(h:SyL P ro N w0 M ds ops Q rest fr L0):SyA P ro N w0 M ds ops Q q rest fr L0:=
 λA a w listed B r t=>zp1 (zgP j) _ q rest listed a w (by have:=(zgP j).le;omega) (A4 _) r t A (h a w B)
def za1(C E:List (List Nat))(i:Nat):List Nat:=(cl C i).filter λk=>!((cl C i).any λj=>(cl E j).contains k)
def zbX(C E:List (List Nat))(i:Nat):List Nat:=(za1 C E i).filter λk=>!(cl E i).contains k
def ziK(E:List (List Nat))(n:Nat):List Nat:=(List.range n).filter λk=>!((List.range n).any λj=>(cl E j).contains k)
def zbW(C:List (List Nat))(Z:Option Nat)(L0:List Res)(i:Nat):List Res:=match Z with
 |none=>L0
 |some t=>bif Nat.beq i t || (cl C t).contains i then L0 else []
def zcI(C:List (List Nat))(Z:Option Nat)(L0:List Res)(i:Nat):List Res:=match Z with
 |none=>L0
 |some t=>bif (cl C t).contains i then L0 else []
def zgM(Z:Option Nat)(L0:List Res):List Res:=match Z with
 |none=>L0
 |some _=>[]
def ze2(Z:Option Nat)(p:Nat->Bool)(L0:List Res):List Res:=match Z with
 |none=>L0
 |some t=>bif p t then [] else L0
def zfs(C:List (List Nat))(Z:Option Nat)(p:Nat->Bool)(L0:List Res)(i:Nat):List Res:=match Z with
 |none=>[]
 |some t=>bif Nat.beq i t || (cl C t).contains i then [] else bif p t then [] else L0
def zqa(m n:Nat)(C E:List (List Nat))(Z:Option Nat):Bool:=
 ((List.range n).all λi=>(cl E i).all λk=>(cl C i).contains k&&((List.range n).all λj=>Nat.beq i j || (!(cl E j).contains k&&(!(cl C j).contains k || (cl C i).contains j || (cl C j).contains i)))) &&
 (match Z with|none=>true|some t=>Nat.blt t n&&Nat.ble m t)
structure EOk(m n:Nat)(C E:List (List Nat))(Z:Option Nat):Prop where
 sub:∀i k,i<n->k∈cl E i->k∈cl C i
 lone:∀i j k,i<n->j<n->k∈cl E i->i≠j->k∉cl E j/\(k∈cl C j->j∈cl C i\/i∈cl C j)
 base:∀t,Z=some t->t<n/\m<=t
theorem zpW{m n:Nat}{C E:List (List Nat)}{Z:Option Nat}(h:zqa m n C E Z=true):EOk m n C E Z:=by
 unfold zqa at h;rw[AB,AT] at h;obtain⟨B,q⟩:=h;refine⟨λi k r A=>?_,λi j k r H A w=>?_,λt I=>?_⟩
 ·have:=B i (B9.2 r);rw[AT] at this;have:=this k A;rw[AB] at this;simpa using this.1
 ·have:=B i (B9.2 r);rw[AT] at this;have:=this k A;rw[AB,AT] at this;have:=this.2 j (B9.2 H);rw[za4.2 w,Bz,AB,Bl,Bl] at this;refine⟨by simpa using this.1,λG=>?_⟩;rcases this.2 with (h|h)|h
  ·simp[G] at h
  ·exact .inl (by simpa using h)
  ·exact .inr (by simpa using h)
 ·subst I;simp only[AB] at q;exact⟨zaA.1 q.1,AO q.2⟩
def DHE(P:Program)(ro:Option Nat)(N:Nat)(w0:World)(M:Nat->Prop)(ds:List Deferred)(ops:Array Oper)(T:List Oper->Fr->List Res->Prop)(C E:List (List Nat))(Z:Option Nat)(L0:List Res):
  Nat->Nat->List Oper->(Env->Fr)->List (Nat×(Env->Value->List Res->Prop))->Prop
 |0,i,rest,F,rs=>∀ρ,za2 (List.range i) rs ρ->T rest (F ρ) (zah (ziK E i) rs ρ (zgM Z L0))
 |_+1,_,[],_,_=>False
 |k+1,i,o::rest,F,rs=>
  (∃v:Env->Value,Loc (cl C i) (.inl v)/\(∀ρ,za2 (cl C i) rs ρ->GpT P ro N w0 M ds ops o (only (o.looksAt ops) (get (F ρ))) (zah (za1 C E i) rs ρ (zbW C Z L0 i)) (Det (v ρ) (zah (zbX C E i) rs ρ (zcI C Z L0 i))))/\
   DHE P ro N w0 M ds ops T C E Z L0 k (i+1) rest (λρ=>ext o.dst (v ρ) (F ρ)) rs)\/
  (∃R:Env->Value->List Res->Prop,Loc (cl C i) (.inr R)/\(∀ρ,za2 (cl C i) rs ρ->GpT P ro N w0 M ds ops o (only (o.looksAt ops) (get (F ρ))) (zah (za1 C E i) rs ρ (zbW C Z L0 i)) (λv L'=>∃Nw,L'=Nw++zah (zbX C E i) rs ρ (zcI C Z L0 i)/\R ρ v Nw))/\
   DHE P ro N w0 M ds ops T C E Z L0 k (i+1) rest (λρ=>ext o.dst (ρ i).1 (F ρ)) ((i,R)::rs))
def zfQ(m:Nat)(P:Program)(ro:Option Nat)(N:Nat)(w0:World)(M:Nat->Prop)(ds:List Deferred)(ops:Array Oper)(C E:List (List Nat))(Z:Option Nat)(fr:Fr)(L0:List Res)(it:Nat->zbt)(i:Nat)(o:Oper):Prop:=
  Loc (cl C i) (it i)/\∀ρ,za2 (cl C i) (rsT it i) ρ->GpT P ro N w0 M ds ops o (only (o.looksAt ops) (get (frA m ops it fr ρ i))) (zah (za1 C E i) (rsT it i) ρ (zbW C Z L0 i))
    (match it i with
     | .inl v=>Det (v ρ) (zah (zbX C E i) (rsT it i) ρ (zcI C Z L0 i))
     | .inr R=>λv L'=>∃Nw,L'=Nw++zah (zbX C E i) (rsT it i) ρ (zcI C Z L0 i)/\R ρ v Nw)
theorem DHE.items{m:Nat}{ops:Array Oper}{T:List Oper->Fr->List Res->Prop}{C E:List (List Nat)}{Z:Option Nat}{fr:Fr}{L0:List Res} :∀(k i:Nat) (rest:List Oper) (q:Nat->zbt),m<=i->(∀j,rest[j]?=ops[i+j]?)->
  DHE P ro N w0 M ds ops T C E Z L0 k i rest (λρ=>frA m ops q fr ρ i) (rsT q i)->
  ∃it:Nat->zbt,(∀j,j<i->it j=q j)/\(∀j,i<=j->j<i+k->∃o,ops[j]?=some o/\zfQ m P ro N w0 M ds ops C E Z fr L0 it j o)/\
   (∀ρ,za2 (List.range (i+k)) (rsT it (i+k)) ρ->T (rest.drop k) (frA m ops it fr ρ (i+k)) (zah (ziK E (i+k)) (rsT it (i+k)) ρ (zgM Z L0)))
 |0,i,rest,q,_,_,h=>⟨q,λ_ _=>rfl,λj O S=>by omega,by simpa [DHE] using h⟩
 |k+1,i,[],_,_,_,h=>by simp[DHE] at h
 |k+1,i,o::rest,q,hmi,hr,h=>by
  have V:ops[i]?=some o:=by simpa using (hr 0).symm
  have U:zeG m ops i=o.dst:=by rw[zoP hmi];simp[zcY,V]
  have K:∀j,rest[j]?=ops[i+1+j]?:=λj=>by have:=hr (j+1);simpa [Az,CW 1 j] using this
  have key:∀(x:zbt),zfQ m P ro N w0 M ds ops C E Z fr L0 (λj=>if j=i then x else q j) i o->
    DHE P ro N w0 M ds ops T C E Z L0 k (i+1) rest (λρ=>frA m ops (λj=>if j=i then x else q j) fr ρ (i+1)) (rsT (λj=>if j=i then x else q j) (i+1))->
    ∃it:Nat->zbt,(∀j,j<i->it j=q j)/\(∀j,i<=j->j<i+(k+1)->∃o,ops[j]?=some o/\zfQ m P ro N w0 M ds ops C E Z fr L0 it j o)/\
     (∀ρ,za2 (List.range (i+(k+1))) (rsT it (i+(k+1))) ρ->T ((o::rest).drop (k+1)) (frA m ops it fr ρ (i+(k+1))) (zah (ziK E (i+(k+1))) (rsT it (i+(k+1))) ρ (zgM Z L0))):=by
   intro x A r;obtain⟨it,O,S,W⟩:=DHE.items k (i+1) rest _ q_o K r;have same:∀j,j<=i->it j=(λj=>if j=i then x else q j) j:=λj B=>O j q_o;have H:∀ρ j,j<=i+1->frA m ops it fr ρ j=frA m ops (λj=>if j=i then x else q j) fr ρ j:=by
    intro ρ j B
    induction j with
    |zero=>rfl
    |succ j ih=>simp only[frA];rw[ih q_o,same j q_o]
   have I:∀j,j<=i+1->rsT it j=rsT (λj=>if j=i then x else q j) j:=by
    intro j B
    induction j with
    |zero=>rfl
    |succ j ih=>simp only[rsT];rw[ih q_o,same j q_o]
   refine⟨it,λj B=>by rw[same j q_o];simp[Nat.ne_of_lt B],λj X a6=>?_,?_⟩
   ·by_cases e:j=i
    ·subst e;refine⟨o,V,?_⟩;unfold zfQ at A ⊢;rw[same j (A4 _),I j q_o];refine⟨A.1,λρ G=>?_⟩;rw[H ρ j q_o];exact A.2 ρ G
    ·exact S j q_o q_o
   ·have e:i+(k+1)=i+1+k:=q_o;rw[e];simpa using W
  have t:∀(x:zbt) ρ,frA m ops (λj=>if j=i then x else q j) fr ρ i=frA m ops q fr ρ i:=by
   intro x ρ;have:∀j,j<=i->frA m ops (λj=>if j=i then x else q j) fr ρ j=frA m ops q fr ρ j:=by
    intro j B
    induction j with
    |zero=>rfl
    |succ j ih=>simp only[frA];rw[ih q_o,if_neg q_o]
   exact this i (A4 _)
  have w:∀(x:zbt),rsT (λj=>if j=i then x else q j) i=rsT q i:=by
   intro x;have:∀j,j<=i->rsT (λj=>if j=i then x else q j) j=rsT q j:=by
    intro j B
    induction j with
    |zero=>rfl
    |succ j ih=>simp only[rsT];rw[ih q_o,if_neg q_o]
   exact this i (A4 _)
  simp only[DHE] at h;rcases h with ⟨v,J,A,r⟩|⟨R,J,A,r⟩
  ·refine key (.inl v) ?_ ?_
   ·unfold zfQ;simp only[if_true];rw[w];refine⟨J,λρ G=>?_⟩;rw[t];exact A ρ G
   ·simp only[frA,rsT,if_true,zci,U,t,w];exact r
  ·refine key (.inr R) ?_ ?_
   ·unfold zfQ;simp only[if_true];rw[w];refine⟨J,λρ G=>?_⟩;rw[t];exact A ρ G
   ·simp only[frA,rsT,if_true,zci,U,t,w];exact r
def zfP(E:List (List Nat))(p:Nat->Bool)(n k:Nat):Bool:=(List.range n).any λj=>p j&&(cl E j).contains k
theorem zdj{E:List (List Nat)}{p:Nat->Bool}{n k:Nat} :zfP E p n k=false↔ ∀j,j<n->p j=true->k∉cl E j:=by
 unfold zfP;rw[EJ];simp only[B9,AB,Cc,not_and]
structure DInvE(ops:Array Oper)(m n:Nat)(E:List (List Nat))(Z:Option Nat)(Y:List Res)(fr:Fr)(L0:List Res)(it:Nat->zbt)(N:Nat)(w0:World)(M:Nat->Prop)(dd:List Deferred)(listed:Array Bool)(ρ:Env)(a:Act)(w:World):Prop where
 size:listed.size=ops.size
 head:∀k,listed.getD k false=true->k<n
 base:∀k,k<m->listed.getD k false=true
 down:∀(k:Nat) (o:Oper),listed.getD k false=true->ops[k]?=some o->∀j∈pre o,listed.getD j false=true
 tsize:a.tmps.size=N
 defs:a.defers=dd
 s1:∀k d,listed.getD k false=true->zeG m ops k=some d->a.tmps[d]?=some (zci (it k) k ρ)
 s2:∀t v,get fr t=some v->(∀k,listed.getD k false=true->zeG m ops k≠some t)->a.tmps[t]?=some v
 rel:∀k,listed.getD k false=true->zdK (it k) k ρ
 keep:Keep M w0 w
 hold:Holds w0.heap.size M (fm (λk=>listed.getD k false && !zfP E (λk=>listed.getD k false) n k) (λk=>zaM (it k) k ρ) n++(ze2 Z (λk=>listed.getD k false) L0++Y)) w
variable {E:List (List Nat)}{Z:Option Nat}{Y:List Res}
theorem zwr(hk:DOkA ops m n N C)(he:EOk m n C E Z)(d8:∀k,k<m->it k= .inl λ_=>undef)(hg:∀i o,m<=i->i<n->ops[i]?=some o->zfQ m P ro N w0 M ds ops C E Z fr L0 it i o){listed:Array Bool}{ρ:Env}{a:Act}{w:World}
    (inv:DInvE ops m n E Z Y fr L0 it N w0 M dd listed ρ a w){i:Nat}(hi:i∈Region.ready .any ops listed)(a8:i<n){K:Act->World->Prop}
    (hK:∀ρ' a' w',DInvE ops m n E Z Y fr L0 it N w0 M dd (listed.setIfInBounds i true) ρ' a' w'->K a' w'):wpOpIn (FW ro) 0 P ops Q i K a w:=by
  obtain⟨i5,o,ho,c6⟩:=mem_ready.1 hi;have b0:=zbB i5;have W:i<ops.size:=(Aa.1 ho).1;have c9:∀j∈pre o,listed.getD j false=true:=λj hj=>by
    obtain⟨e,he,hb,rfl⟩:=zdh.1 hj;exact c6 e he hb
  have e5:=zno hk (p:=λk=>listed.getD k false) inv.down;have c5:=e5 i o ho c9;have b9:m<=i:=by
    rcases AH i m with h|h
    · have:=inv.base i h;rw[b0] at this;cases this
    · exact h
  have c8:zeG m ops i=o.dst:=by rw[zoP b9];simp[zcY,ho]
  have a6:∀k,listed.getD k false=true->i∉cl C k:=λk G d9=>by
    have b2:=inv.head k G;have b1:ops[k]?=some (ops[k]'(by have:=hk.le;omega)):=Au _;have:listed.getD i false=true:=e5 k _ b1 (inv.down k _ G b1) i d9;rw[b0] at this;cases this
  have b6:i∉cl C i:=λh=>by have:=(hk.clo i o ho i h).1;omega
  have b7:=hg i o b9 a8 ho;have f8:za2 (cl C i) (rsT it i) ρ:=zga i λk U J=>inv.rel k (c5 k (by simpa using J));have h8:=b7.2 ρ f8;have X:List Res:=[]
  -- memory, as the operation sees it
  obtain⟨O,e8⟩:∃O:Nat->Bool,O=λk=>listed.getD k false:=⟨_,rfl⟩;have B:∀k,O k=listed.getD k false:=λk=>by rw[e8]
  obtain⟨S,b5⟩:∃S:Nat->Bool,S=λk=>O k && !zfP E O n k:=⟨_,rfl⟩;have c2:∀k,k∈za1 C E i->S k=true:=λk A=>by
    unfold za1 at A;rw[Bb] at A;obtain⟨h1,h2⟩:=A;have h3:O k=true:=by rw[B];exact c5 k h1
    have h4:zfP E O n k=false:=zdj.2 λj hj V b3=>by
      have h9:j∉cl C i:=λJ=>by
        have:((cl C i).any λj=>(cl E j).contains k)=true:=Dj.2 ⟨j,J,by simpa using b3⟩;rw[this] at h2;cases h2
      have e6:j≠i:=λe=>by rw[e,B,b0] at V;cases V
      rcases(he.lone j i k hj a8 b3 e6).2 h1 with h|h
      · exact a6 j (by rw[B] at V;exact V) h
      · exact h9 h
    rw[b5];simp only[h3,h4];rfl
  have e3:∀k,S k=true->k∈cl C i->k∈za1 C E i:=λk hp J=>by
    rw[b5] at hp;simp only[AB,BQ] at hp;unfold za1;rw[Bb];refine⟨J,?_⟩;rw[BQ,EJ];intro j hj b3;have e6:=(hk.clo i o ho j hj).1;exact zdj.1 hp.2 j q_o (by rw[B];exact c5 j hj) (by simpa using b3)
  have c3:∀k,k∈za1 C E i->k∈cl C i:=λk h=>by unfold za1 at h;exact(Bb.1 h).1
  have c4:ze2 Z O L0=zbW C Z L0 i++zfs C Z O L0 i:=by
    cases Z with
    |none=>simp[ze2,zbW,zfs]
    |some t=>
      simp only[ze2,zbW,zfs];cases hb:Nat.beq i t || (cl C t).contains i with
      |false=>simp
      |true=>
        have:O t=false:=by
          cases W:O t with
          |false=>rfl
          |true=>
            exfalso;rw[B] at W;rw[Bl] at hb;rcases hb with h|h
            · rw[<-BT h] at W;rw[b0] at W;cases W
            · exact a6 t W (by simpa using h)
        rw[this];simp
  have e0:(fm S (λk=>zaM (it k) k ρ) n++(ze2 Z O L0++Y)).Perm (zah (za1 C E i) (rsT it i) ρ (zbW C Z L0 i)++(zfs C Z O L0 i++Y++fm (λk=>S k && !(za1 C E i).contains k) (λk=>zaM (it k) k ρ) n)):=by
    have h1:=zeX (p:=S) (q:=λk=>(za1 C E i).contains k) (r:=λk=>S k && !(za1 C E i).contains k) (f:=λk=>zaM (it k) k ρ) n (λk _=>by
      cases J:(za1 C E i).contains k
      · simp
      · rw[c2 k (by simpa using J)];exact⟨rfl,rfl⟩)
    rw[zki (p:=λk=>(za1 C E i).contains k) (j:=i) (λk d9=>by
      cases J:(za1 C E i).contains k
      · rfl
      · have:=(hk.clo i o ho k (c3 k (by simpa using J))).1;omega) n q_o] at h1
    have h2:=zdF (it:=it) (ts:=za1 C E i) (ρ:=ρ) (L:=zbW C Z L0 i) i;refine(B2 _ h1).trans ?_;refine List.Perm.trans ?_ (B2 _ h2.symm);rw[c4];simp only[AL];refine B1 _ ?_;refine BU.trans ?_;simp only[AL];exact CA _
  have f5:Holds w0.heap.size M (fm S (λk=>zaM (it k) k ρ) n++(ze2 Z O L0++Y)) w:=by rw[b5,e8];exact inv.hold
  have c0:St N w0 M ds (only (o.looksAt ops) (get (frA m ops it fr ρ i))) (zah (za1 C E i) (rsT it i) ρ (zbW C Z L0 i)++(zfs C Z O L0 i++Y++fm (λk=>S k && !(za1 C E i).contains k) (λk=>zaM (it k) k ρ) n)) a w:=by
    refine⟨inv.tsize,λt v hv=>?_,inv.keep,f5.perm e0⟩;unfold only at hv;cases J:(o.looksAt ops).contains t
    · rw[J] at hv;cases hv
    · rw[J,cond_true] at hv
      have f9:t∈o.looksAt ops:=by simpa using J
      rcases ziN i hv with ⟨k,U,H,rfl⟩|⟨c7,h7⟩
      · have hs:=(hk.slot i o ho b9 a8 k q_o q_o t H).2 f9
        exact inv.s1 k t (c5 k (hs.1 U)) H
      · refine inv.s2 t v h7 λk G H=>?_
        have b2:=inv.head k G;have U:k≠i:=λe=>by rw[e,b0] at G;cases G
        have hs:=(hk.slot i o ho b9 a8 k b2 U t H).2 f9;by_cases hlt':k<i
        · exact c7 k hlt' H
        · exact a6 k G (hs.2 q_o)
  -- what follows from its results
  have fin:∀(ρ':Env) (v:Value) (w':World),(∀k,k≠i->ρ' k=ρ k)->zci (it i) i ρ'=v->zdK (it i) i ρ'->Keep M w0 w'->
      Holds w0.heap.size M (zaM (it i) i ρ'++zah (zbX C E i) (rsT it i) ρ (zcI C Z L0 i)++(zfs C Z O L0 i++Y++fm (λk=>S k && !(za1 C E i).contains k) (λk=>zaM (it k) k ρ) n)) w'->K (a.put o.dst v) w':=by
    intro ρ' v w' hρ hv hr b4 hh;have old:∀k,listed.getD k false=true->zci (it k) k ρ'=zci (it k) k ρ/\zaM (it k) k ρ'=zaM (it k) k ρ/\(zdK (it k) k ρ->zdK (it k) k ρ'):=by
      intro k G;have U:k≠i:=λe=>by rw[e,b0] at G;cases G
      have b2:=inv.head k G;have b1:ops[k]?=some (ops[k]'(by have:=hk.le;omega)):=Au _;have I:=(show Loc (cl C k) (it k) by
        rcases AH k m with h|h
        · rw[d8 k h];exact λ_ _ _=>rfl
        · exact(hg k _ h b2 b1).1) ρ' ρ (λj hj=>hρ j (λe=>a6 k G (e ▸ hj)))
      cases hit:it k with
      |inl f=>rw[hit] at I;exact⟨I,rfl,λh=>h⟩
      |inr R=>rw[hit] at I;exact⟨by simp only[zci,hρ k U],by simp only[zaM,hρ k U],λh=>by simp only[zdK,hρ k U] at h ⊢;rw[show R ρ'=R ρ from I];exact h⟩
    have a7:∀k,(listed.setIfInBounds i true).getD k false=true->k=i\/listed.getD k false=true:=λk A=>by
      by_cases e:i=k
      · exact .inl e.symm
      · rw[getD_set_ne false e] at A;exact .inr A
    have a9:(listed.setIfInBounds i true).getD i false=true:=by
      have:i<listed.size:=by rw[inv.size];exact W
      simp[Ab,this]
    refine hK ρ' _ w' ⟨by simpa using inv.size,λk A=>?_,λk i1=>getD_set_true (inv.base k i1),λk o' A b1 j hj=>?_,?_,?_,λk d A H=>?_,λt u hu c7=>?_,λk A=>?_,b4,?_⟩
    · rcases a7 k A with rfl|h
      · exact a8
      · exact inv.head k h
    · rcases a7 k A with rfl|h
      · rw[ho] at b1;cases b1;exact getD_set_true (c9 j hj)
      · exact getD_set_true (inv.down k o' h b1 j hj)
    · cases hd:o.dst <;> simp[Act.put,inv.tsize]
    · cases hd:o.dst <;> simp[Act.put,inv.defs]
    · rcases a7 k A with rfl|h
      · rw[c8] at H
        rw[H];have h5:=hk.low k o ho d H;simp only[Act.put];rw[D9 (by rw[inv.tsize];exact h5),hv]
      · have U:k≠i:=λe=>by rw[e,b0] at h;cases h
        rw[(old k h).1];have e9:=(hk.slot i o ho b9 a8 k (inv.head k h) U d H).1;have:=inv.s1 k d h H;cases hd:o.dst with
        |none=>exact this
        |some d'=>
          rw[hd] at e9;simp only[Act.put];rw[BY (λe=>e9 (by rw[e]))];exact this
    · have h1:=inv.s2 t u hu (λk G=>c7 k (getD_set_true G))
      have h2:=c7 i a9;rw[c8] at h2;cases hd:o.dst with
      |none=>exact h1
      |some d'=>
        rw[hd] at h2;simp only[Act.put];rw[BY (λe=>h2 (by rw[e]))];exact h1
    · rcases a7 k A with rfl|h
      · exact hr
      · exact(old k h).2.2 (inv.rel k h)
    · refine hh.perm ?_
      have b8:∀k,(listed.setIfInBounds i true).getD k false=(Nat.beq k i || O k):=λk=>by
        by_cases e:i=k
        · subst e;rw[a9,zep];rfl
        · rw[getD_set_ne false e,za4.2 (λe'=>e e'.symm:k≠i),B];rfl
      have f6:∀k,k<n->((listed.setIfInBounds i true).getD k false && !zfP E (λk=>(listed.setIfInBounds i true).getD k false) n k)=(Nat.beq k i || (S k && !(cl E i).contains k)):=λk b2=>by
        by_cases e:k=i
        · subst e
          rw[a9,zep,Bool.true_or,Ax,BQ];refine zdj.2 λj hj V b3=>?_;have e7:=he.sub j k hj b3;rcases a7 j V with rfl|h
          · exact b6 e7
          · exact a6 j h e7
        · rw[b8 k,za4.2 e,Bz,Bz,b5]
          simp only;cases G:O k
          · simp
          · rw[Ax,Ax]
            rw[CR,AB,BQ,BQ,BQ,zdj,zdj];constructor
            · intro h
              refine⟨λj hj V=>h j hj (by rw[b8 j,V,EX]),?_⟩;have:=h i a8 a9;simpa using this
            · rintro⟨h1,h2⟩ j hj V
              rcases a7 j V with rfl|h
              · simpa using h2
              · exact h1 j hj (by rw[B];exact h)
      have f7:S i=false:=by rw[b5];simp only[B,b0];rfl
      have h6:(fm (λk=>(listed.setIfInBounds i true).getD k false && !zfP E (λk=>(listed.setIfInBounds i true).getD k false) n k) (λk=>zaM (it k) k ρ') n).Perm (zaM (it i) i ρ'++(fm (λk=>(zbX C E i).contains k) (λk=>zaM (it k) k ρ) i++fm (λk=>S k && !(za1 C E i).contains k) (λk=>zaM (it k) k ρ) n)):=by
        rw[zeH (p':=λk=>Nat.beq k i || (S k && !(cl E i).contains k)) (f':=λk=>zaM (it k) k ρ') n (λk b2=>⟨f6 k b2,λ_=>rfl⟩)];have h1:=zeX (p:=λk=>Nat.beq k i || (S k && !(cl E i).contains k)) (q:=λk=>Nat.beq k i) (r:=λk=>S k && !(cl E i).contains k) (f:=λk=>zaM (it k) k ρ') n (λk _=>by
          by_cases e:k=i
          · subst e;rw[zep,f7];exact⟨rfl,rfl⟩
          · rw[za4.2 e];simp)
        rw[zm8 i n a8] at h1;refine h1.trans (B1 _ ?_);rw[zeH (p':=λk=>S k && !(cl E i).contains k) (f':=λk=>zaM (it k) k ρ) n (λk _=>⟨rfl,λh=>(old k (by
          rw[AB,b5] at h;simp only[AB] at h;rw[B] at h;exact h.1.1)).2.1⟩)]
        have h2:=zeX (p:=λk=>S k && !(cl E i).contains k) (q:=λk=>(zbX C E i).contains k) (r:=λk=>S k && !(za1 C E i).contains k) (f:=λk=>zaM (it k) k ρ) n (λk _=>by
          unfold zbX;cases hv:(za1 C E i).contains k
          · have c1:k∉za1 C E i:=by simpa using hv
            have hl:((za1 C E i).filter λk=>!(cl E i).contains k).contains k=false:=by
              rw[Ci];intro h;rw[Cc,Bb] at h;exact c1 h.1
            rw[hl];cases hp:S k
            · simp
            · have:(cl E i).contains k=false:=by
                cases J:(cl E i).contains k
                · rfl
                · exact absurd (e3 k hp (he.sub i k a8 (by simpa using J))) c1
              rw[this];exact⟨rfl,rfl⟩
          · have c1:k∈za1 C E i:=by simpa using hv
            rw[c2 k c1];cases J:(cl E i).contains k
            · have:((za1 C E i).filter λk=>!(cl E i).contains k).contains k=true:=by
                rw[Cc,Bb];exact⟨c1,by rw[J];rfl⟩
              rw[this];exact⟨rfl,rfl⟩
            · have:((za1 C E i).filter λk=>!(cl E i).contains k).contains k=false:=by
                rw[Ci];intro h;rw[Cc,Bb] at h;rw[J] at h;cases h.2
              rw[this];exact⟨rfl,rfl⟩)
        rw[zki (p:=λk=>(zbX C E i).contains k) (j:=i) (λk d9=>by
          cases J:(zbX C E i).contains k
          · rfl
          · have e4:k∈zbX C E i:=by simpa using J
            unfold zbX at e4;have:=(hk.clo i o ho k (c3 k (Bb.1 e4).1)).1;omega) n q_o] at h2
        exact h2
      have i7:ze2 Z (λk=>(listed.setIfInBounds i true).getD k false) L0=zcI C Z L0 i++zfs C Z O L0 i:=by
        cases Z with
        |none=>simp[ze2,zcI,zfs]
        |some t=>
          simp only[ze2,zcI,zfs];rw[b8 t];by_cases e:i=t
          · subst e
            have:(cl C i).contains i=false:=by
              rw[Ci];intro h;exact b6 (by simpa using h)
            rw[zep,this];simp
          · rw[za4.2 e,za4.2 (λe'=>e e'.symm:t≠i),Bz,Bz]
            cases J:(cl C t).contains i
            · simp
            · have:O t=false:=by
                cases W:O t
                · rfl
                · exfalso;rw[B] at W;exact a6 t W (by simpa using J)
              rw[this];simp
      have h3:=zdF (it:=it) (ts:=zbX C E i) (ρ:=ρ) (L:=zcI C Z L0 i) i;refine List.Perm.trans ?_ (B2 _ h6.symm);rw[i7];simp only[AL];refine B1 _ ?_;refine(B2 _ h3).trans ?_;simp only[AL];refine B1 _ ?_;refine List.Perm.trans ?_ BU;simp only[AL];exact CA _
  have done:∀v L' w',(match it i with
     | .inl v=>Det (v ρ) (zah (zbX C E i) (rsT it i) ρ (zcI C Z L0 i))
     | .inr R=>λv L'=>∃Nw,L'=Nw++zah (zbX C E i) (rsT it i) ρ (zcI C Z L0 i)/\R ρ v Nw) v L'->Keep M w0 w'->
      Holds w0.heap.size M (L'++(zfs C Z O L0 i++Y++fm (λk=>S k && !(za1 C E i).contains k) (λk=>zaM (it k) k ρ) n)) w'->K (a.put o.dst v) w':=by
    intro v L' w' hp b4 hh;have I:=b7.1;have fin:=fin;cases hit:it i with
    |inl f=>
      rw[hit] at hp fin;obtain⟨e1,e2⟩:=hp;subst e1;subst e2;exact fin ρ _ w' (λ_ _=>rfl) rfl trivial b4 hh
    |inr R=>
      rw[hit] at hp fin I;obtain⟨Nw,e,hR⟩:=hp;subst e;refine fin (λk=>if k=i then (v,Nw) else ρ k) v w' (λk A=>by simp[A]) (by simp[zci]) ?_ b4 (by simpa [zaM] using hh);have hl:=I (λk=>if k=i then (v,Nw) else ρ k) ρ (λk A=>by
        have:k≠i:=λe=>b6 (e ▸ A);simp[this])
      simp only at hl;simp only[zdK,if_true];rw[hl];exact hR
  unfold wpOpIn;rw[ho];simp only;rcases h8 with ⟨hw,i8⟩|⟨hw,hu⟩
  · rw[if_pos (zcr c0.agr hw)]
    exact i8 a w _ K Q c0 (λv w' L' hp b4 hh=>done v L' w' hp b4 hh)
  · rw[if_neg (by rw[zcr c0.agr hw];decide)]
    exact⟨λ_ _=>trivial,done undef _ w hu c0.keep c0.hold⟩
theorem zw7{Ds:List Nat}(hk:DOkA ops m n N C)(he:EOk m n C E Z)(b8:m<=n)(H:∀k,k<m->it k= .inl λ_=>undef)(hg:∀i o,m<=i->i<n->ops[i]?=some o->zfQ m P ro N w0 M ds ops C E Z fr L0 it i o)
    (J:∀ρ,za2 (List.range n) (rsT it n) ρ->SyA P ro N w0 M ds ops Q n (ops.toList.drop n) (frA m ops it fr ρ n) (zah (ziK E n) (rsT it n) ρ (zgM Z L0))):
    ∀(q:Nat) (listed:Array Bool) (ρ:Env) (a:Act) (w:World),DInvE ops m n E Z (Ds.map dob) fr L0 it N w0 M (Ds.map col++ds) listed ρ a w->unl (λk=>listed.getD k false) ops.size=q->wpAnyIn (FW ro) 0 P .any ops Q q listed a w:=by
  intro q
  induction q with
  |zero=>
    intro listed ρ a w inv hu;have G:=zjx _ hu;have hn:n=ops.size:=by
      rcases AH n ops.size with h|h
      · have:=inv.head n (G n h);omega
      · have:=hk.le;omega
    exact tailAt inv (λk b7=>G k q_o) 0 q_o
  |succ f ih=>
    intro listed ρ a w inv hu;by_cases hh:∀k,k<n->listed.getD k false=true
    · have b9:unl (λk=>listed.getD k false) ops.size+n=ops.size:=by
        have key:∀m,n<=m->m<=ops.size->unl (λk=>listed.getD k false) m+n=m:=by
          intro m
          induction m with
          | zero => intro V _; obtain rfl : n = 0 := q_o
                    rfl
          |succ m ihm=>
            intro V h2;by_cases e:n=m+1
            · subst e
              have hz:∀j,j<=m+1->unl (λk=>listed.getD k false) j=0:=by
                intro j
                induction j with
                |zero=>intro _;rfl
                |succ j ihj=>intro I;simp only[unl];rw[hh j q_o,ihj q_o];rfl
              rw[hz _ (A4 _)];omega
            · simp only[unl]
              have:listed.getD m false=false:=by
                cases A:listed.getD m false
                · rfl
                · have:=inv.head m A;omega
              rw[this];have:=ihm q_o q_o;simp only[cond_false];omega
        exact key _ hk.le (A4 _)
      exact tailAt inv hh (f+1) q_o
    · refine⟨λR=>?_,λi hi=>?_⟩
      · exfalso
        -- the least head that has not been carried out could be
        apply hh;intro k
        induction k using Nat.strongRecOn with
        |_ k b6=>
          intro r;cases A:listed.getD k false with
          |true=>rfl
          |false=>
            exfalso;have K:k<ops.size:=by have:=hk.le;omega
            have S:ops[k]?=some ops[k]:=Au K;have:k∈Region.ready .any ops listed:=mem_ready.2 ⟨by
              simp only[Ab] at A ⊢;rw[Au (by rw[inv.size];exact K)] at A ⊢;simpa using A,_,S,λe he W=>by
              have hp:=hk.acyc k _ S e.on (zdh.2 ⟨e,he,W,rfl⟩);exact b6 e.on hp q_o⟩
            rw[R] at this;cases this
      · obtain⟨V,o,ho,B⟩:=mem_ready.1 hi
        have b2:=zbB V;have O:i<ops.size:=(Aa.1 ho).1;have a9:i<n:=by
          rcases AH i n with h|h
          · exact h
          · exfalso
            apply hh;intro k r;have a6:=zno hk (p:=λk=>listed.getD k false) inv.down i o ho (λj I=>by
              obtain⟨e,he,A,rfl⟩:=zdh.1 I;exact B e he A)
            exact a6 k (hk.tail i o ho q_o h k r)
        refine zwr hk he H hg inv hi a9 (λρ' a' w' U=>ih _ ρ' a' w' U ?_);have:=zkG (p:=λk=>listed.getD k false) (p':=λk=>(listed.setIfInBounds i true).getD k false) (i:=i) b2 (by
          have:i<listed.size:=by rw[inv.size];exact O
          simp[Ab,this]) (λk b1=>getD_set_ne false (λe=>b1 e.symm)) ops.size O
        omega
where
  tailAt {listed:Array Bool}{ρ:Env}{a:Act}{w:World}(inv:DInvE ops m n E Z (Ds.map dob) fr L0 it N w0 M (Ds.map col++ds) listed ρ a w) (hh:∀k,k<n->listed.getD k false=true) (q:Nat) (hf:q+n=ops.size):wpAnyIn (FW ro) 0 P .any ops Q q listed a w:=by
    have a8:q=ops.size-n:=q_o;subst a8;refine J ρ (zga n λk r _=>inv.rel k (hh k r)) (λj=>by simp) a w listed ⟨Ds,inv.defs,inv.tsize,λt v hv=>?_,inv.keep,inv.hold.perm ?_⟩ inv.size (λk _=>?_)
    · rcases ziN n hv with ⟨k,r,b0,rfl⟩|⟨b5,a7⟩
      · exact inv.s1 k t (hh k r) b0
      · exact inv.s2 t v a7 (λk b3=>b5 k (inv.head k b3))
    · have b4:ze2 Z (λk=>listed.getD k false) L0=zgM Z L0:=by
        cases Z with
        |none=>rfl
        |some t=>simp only[ze2,zgM];rw[hh t (he.base t rfl).1];rfl
      rw[b4,<-AL];refine B2 _ ?_;refine List.Perm.trans ?_ (zdF (it:=it) (ts:=ziK E n) (ρ:=ρ) (L:=zgM Z L0) n).symm;rw[zeH (p:=λk=>listed.getD k false && !zfP E (λk=>listed.getD k false) n k) (p':=λk=>(ziK E n).contains k) n (λk r=>⟨by
        rw[hh k r,Ax,CR,BQ,zdj,Cc];unfold ziK;rw[Bb,BQ,EJ,B9];constructor
        · intro h;exact⟨r,λj I X=>h j (B9.1 I) (hh j (B9.1 I)) (by simpa using X)⟩
        · rintro⟨_,h⟩ j I _ X
          exact h j (B9.2 I) (by simpa using X),λ_=>rfl⟩)]
    · cases A:listed.getD k false with
      |true=>exact(zaA.2 (inv.head k A)).symm
      |false=>
        rcases AH k n with h|h
        · rw[hh k h] at A;cases A
        · exact(zbV.2 h).symm
theorem zbY(k n:Nat)(C E:List (List Nat))(Z:Option Nat){rest:List Oper}(he:m+k=n)(R:zk4 ops m n N C=true)(V:zqa m n C E Z=true)
  (h:DHE P ro N w0 M ds ops (SyA P ro N w0 M ds ops Q n) C E Z L0 k m rest (λ_=>fr) []):SyA P ro N w0 M ds ops Q m rest fr L0:=by
 obtain rfl:k=n-m:=q_o;have a6:m<=n:=q_o;rintro hr a w listed ⟨Ds,U,J⟩ a8 hl;have hk:=zm6 R;have he:=zpW V;have O:∀k,k<m->(λ_=> .inl λ_=>undef:Nat->zbt) k= .inl λ_=>undef:=λ_ _=>rfl;obtain⟨it,h1,K,h3⟩:=DHE.items (m:=m) (P:=P) (ro:=ro) (N:=N) (w0:=w0) (M:=M) (ds:=ds) (ops:=ops) (C:=C) (E:=E) (Z:=Z) (fr:=fr) (L0:=L0) (n-m) m rest (λ_=> .inl λ_=>undef) (A4 _) hr (by
  rw[zpa O m (A4 _)];simpa only[zpd m (A4 _)] using h)
 have e:m+(n-m)=n:=q_o;rw[e] at K h3;have r:∀k,k<m->it k= .inl λ_=>undef:=λk q=>h1 k q;have hg:∀i o,m<=i->i<n->ops[i]?=some o->zfQ m P ro N w0 M ds ops C E Z fr L0 it i o:=λi o B X H=>by
  obtain⟨o',I,W⟩:=K i B X;rw[H] at I;cases I;exact W
 have S:∀j,(rest.drop (n-m))[j]?=ops[n+j]?:=λj=>by rw[Be,hr];congr 1;omega
 have A:∀k,listed.getD k false=true->k<m:=λk q=>by
  rcases AH k ops.size with h|h
  ·rw[hl k h] at q;exact zaA.1 q
  ·simp[Ab,Array.getElem?_eq_none (show listed.size<=k by omega)] at q
 have G:∀k,k<m->listed.getD k false=true:=λk q=>by rw[hl k (by have:=hk.le;omega)];exact zaA.2 q
 refine zw7 (Ds:=Ds) hk he a6 r (λi o B X H=>hg i o B X H) (λρ hρ=>(h3 ρ hρ).rest S) _ _ (λ_=>(undef,[])) a _ ⟨a8,λk q=>by have:=A k q;omega,G,λk o q H j hj=>G j (by have:=hk.acyc k o H j hj;have:=A k q;omega),J.size,U,λk d q hd=>?_,
  λt v hv _=>J.agr t v hv,λk q=>?_,J.keep,?_⟩ ?_
 ·rw[zoV (A k q)] at hd;cases hd
 ·rw[r k (A k q)];trivial
 ·have:∀j,fm (λk=>listed.getD k false && !zfP E (λk=>listed.getD k false) n k) (λk=>zaM (it k) k (λ_=>(undef,[]))) j= []:=by
   intro j
   induction j with
   |zero=>rfl
   |succ j ih=>
    simp only[fm];rw[ih];cases hb:listed.getD j false
    ·rfl
    ·rw[r j (A j hb)];simp[zaM]
  rw[this,B3];have a7:ze2 Z (λk=>listed.getD k false) L0=L0:=by
   cases Z with
   |none=>rfl
   |some t=>
    simp only[ze2];cases hb:listed.getD t false
    ·rfl
    ·have h1:=A t hb;have K:=(he.base t rfl).2;omega
  rw[a7];exact J.hold
 ·have:∀j,j<=ops.size->unl (λk=>listed.getD k false) j=j-m:=by
   intro j
   induction j with
   |zero=>intro _;simp[unl]
   |succ j ih=>
    intro hj;simp only[unl];rw[ih q_o,hl j q_o];rcases AH j m with h|h
    ·rw[zaA.2 h];simp only[cond_true];omega
    ·rw[zbV.2 h];simp only[cond_false];omega
  exact this _ (A4 _)
variable {T:List Oper->Fr->List Res->Prop}{k i d:Nat}{o:Oper}{rest:List Oper}{F:Env->Fr}{rs:List (Nat×(Env->Value->List Res->Prop))}
theorem dcE{u:Value}(q:∀ρ,za2 (cl C i) rs ρ->OpT P ro N w0 M ds o (only (o.looksAt ops) (get (F ρ))) (zah (za1 C E i) rs ρ (zbW C Z L0 i)) (Det u (zah (za1 C E i) rs ρ (zbW C Z L0 i))))(r:∀ρ,zar ops o (only (o.looksAt ops) (get (F ρ)))=some true:=by exact λ_=>rfl)(j:o.dst=some d:=by exact rfl)
  (hv:za1 C E i=zbX C E i:=by exact rfl)(hb:zbW C Z L0 i=zcI C Z L0 i:=by exact rfl)
  (k:DHE P ro N w0 M ds ops T C E Z L0 n (i+1) rest (λρ=>(d,u)::F ρ) rs):DHE P ro N w0 M ds ops T C E Z L0 (n+1) i (o::rest) F rs:=
 .inl ⟨λ_=>u,λ_ _ _=>rfl,λρ t=> .inl ⟨r ρ,by have:=q ρ t;rw[<-hv,<-hb];exact this⟩,by rw[j];exact k⟩
theorem zpS{u:Env->Value}(r:∀ρ,za2 (cl C i) rs ρ->OpT P ro N w0 M ds o (only (o.looksAt ops) (get (F ρ))) (zah (za1 C E i) rs ρ (zbW C Z L0 i)) (Det (u ρ) (zah (zbX C E i) rs ρ (zcI C Z L0 i))))(w:∀ρ,zar ops o (only (o.looksAt ops) (get (F ρ)))=some true)(q:o.dst=some d)
  (t:∀ρ j:Env,(∀k,k∈cl C i->ρ k=j k)->u ρ=u j)(h:DHE P ro N w0 M ds ops T C E Z L0 k (i+1) rest (λρ=>(d,u ρ)::F ρ) rs):DHE P ro N w0 M ds ops T C E Z L0 (k+1) i (o::rest) F rs:=
 .inl ⟨u,t,λρ A=> .inl ⟨w ρ,r ρ A⟩,by rw[q];exact h⟩
theorem zjB(q:∀ρ,zar ops o (only (o.looksAt ops) (get (F ρ)))=some false)(j:o.dst=some d)(hv:za1 C E i=zbX C E i:=by exact rfl)(hb:zbW C Z L0 i=zcI C Z L0 i:=by exact rfl)
  (h:DHE P ro N w0 M ds ops T C E Z L0 k (i+1) rest (λρ=>(d,undef)::F ρ) rs):DHE P ro N w0 M ds ops T C E Z L0 (k+1) i (o::rest) F rs:=
 .inl ⟨λ_=>undef,λ_ _ _=>rfl,λρ _=> .inr ⟨q ρ,rfl,by rw[hv,hb]⟩,by rw[j];exact h⟩
theorem zcW{R:Env->Value->List Res->Prop}(w:∀ρ q:Env,(∀k,k∈cl C i->ρ k=q k)->R ρ=R q)(t:∀ρ,za2 (cl C i) rs ρ->OpT P ro N w0 M ds o (only (o.looksAt ops) (get (F ρ))) (zah (za1 C E i) rs ρ (zbW C Z L0 i)) (λv L'=>∃j,L'=j++zah (zbX C E i) rs ρ (zcI C Z L0 i)/\R ρ v j))(A:∀ρ,zar ops o (only (o.looksAt ops) (get (F ρ)))=some true:=by exact λ_=>rfl)(r:o.dst=some d:=by exact rfl)
  (h:DHE P ro N w0 M ds ops T C E Z L0 k (i+1) rest (λρ=>(d,(ρ i).1)::F ρ) ((i,R)::rs)):DHE P ro N w0 M ds ops T C E Z L0 (k+1) i (o::rest) F rs:=
 .inr ⟨R,w,λρ B=> .inl ⟨A ρ,t ρ B⟩,by rw[r];exact h⟩
theorem zdI(h:∀ρ,za2 (List.range i) rs ρ->T rest (F ρ) (zah (ziK E i) rs ρ (zgM Z L0))):DHE P ro N w0 M ds ops T C E Z L0 0 i rest F rs:=h
variable {L L':List Res}{v:Value}
theorem zaS(k:SyL P ro N w0 M ds ops Q rest ((d,v)::fr) L')(h:OpT P ro N w0 M ds o (get fr) L (Det v L'):=by exact zao)(r:zar ops o (get fr)=some true:=by exact rfl)(q:o.dst=some d:=by exact rfl)(j:Nat.blt d N=true:=by exact rfl):SyL P ro N w0 M ds ops Q (o::rest) fr L:=zcX h r q j k
theorem zt(k:DH P ro N w0 M ds ops Q C L0 n (i+1) rest (λρ=>(d,v)::F ρ) rs)(q:∀ρ,za2 (cl C i) rs ρ->OpT P ro N w0 M ds o (only (o.looksAt ops) (get (F ρ))) (zah (cl C i) rs ρ L0) (Det v (zah (cl C i) rs ρ L0)):=by intro _ _;exact zao)(r:∀ρ,zar ops o (only (o.looksAt ops) (get (F ρ)))=some true:=by exact λ_=>rfl)(j:o.dst=some d:=by exact rfl):DH P ro N w0 M ds ops Q C L0 (n+1) i (o::rest) F rs:=dc q r j k
theorem zB(k:SyL P ro N w0 M ds ops Q rest ((d,v)::fr) L')(h:OpT P ro N w0 M ds o (get fr) L (Det v L'):=by exact zbM)(r:zar ops o (get fr)=some true:=by exact rfl)(q:o.dst=some d:=by exact rfl)(j:Nat.blt d N=true:=by exact rfl):SyL P ro N w0 M ds ops Q (o::rest) fr L:=zcX h r q j k
theorem zcb(k:SyL P ro N w0 M ds ops Q rest ((d,v)::fr) L')(h:OpT P ro N w0 M ds o (get fr) L (Det v L'):=by exact zg3)(r:zar ops o (get fr)=some true:=by exact rfl)(q:o.dst=some d:=by exact rfl)(j:Nat.blt d N=true:=by exact rfl):SyL P ro N w0 M ds ops Q (o::rest) fr L:=zcX h r q j k
theorem zaX(k:SyL P ro N w0 M ds ops Q rest ((d,v)::fr) L')(h:OpT P ro N w0 M ds o (get fr) L (Det v L'):=by exact zau)(r:zar ops o (get fr)=some true:=by exact rfl)(q:o.dst=some d:=by exact rfl)(j:Nat.blt d N=true:=by exact rfl):SyL P ro N w0 M ds ops Q (o::rest) fr L:=zcX h r q j k
theorem zk(k:SyL P ro N w0 M ds ops Q rest ((d,v)::fr) L')(h:OpT P ro N w0 M ds o (get fr) L (Det v L'):=by first|exact zM|exact zn|exact ze|exact z9)(r:zar ops o (get fr)=some true:=by exact rfl)(q:o.dst=some d:=by exact rfl)(j:Nat.blt d N=true:=by exact rfl):SyL P ro N w0 M ds ops Q (o::rest) fr L:=zcX h r q j k
theorem zaT(k:DH P ro N w0 M ds ops Q C L0 n (i+1) rest (λρ=>(d,v)::F ρ) rs)(q:∀ρ,za2 (cl C i) rs ρ->OpT P ro N w0 M ds o (only (o.looksAt ops) (get (F ρ))) (zah (cl C i) rs ρ L0) (Det v (zah (cl C i) rs ρ L0)):=by intro _ _;first|exact zM|exact zn|exact ze|exact z9)(r:∀ρ,zar ops o (only (o.looksAt ops) (get (F ρ)))=some true:=by exact λ_=>rfl)(j:o.dst=some d:=by exact rfl):DH P ro N w0 M ds ops Q C L0 (n+1) i (o::rest) F rs:=dc q r j k
theorem zl6(k:SyL P ro N w0 M ds ops Q rest ((d,v)::fr) L')(h:OpT P ro N w0 M ds o (get fr) L (Det v L'):=by first|exact ziv|exact zik)(r:zar ops o (get fr)=some true:=by exact rfl)(q:o.dst=some d:=by exact rfl)(j:Nat.blt d N=true:=by exact rfl):SyL P ro N w0 M ds ops Q (o::rest) fr L:=zcX h r q j k
theorem zR(k:SyL P ro N w0 M ds ops Q rest ((d,v)::fr) L')(h:OpT P ro N w0 M ds o (get fr) L (Det v L'):=by exact zl)(r:zar ops o (get fr)=some true:=by exact rfl)(q:o.dst=some d:=by exact rfl)(j:Nat.blt d N=true:=by exact rfl):SyL P ro N w0 M ds ops Q (o::rest) fr L:=zcX h r q j k
theorem zaH(k:SyL P ro N w0 M ds ops Q rest ((d,v)::fr) L')(h:OpT P ro N w0 M ds o (get fr) L (Det v L'):=by first|exact zaa|exact op_eqNil|exact op_eqNilF|exact zgE|exact zfx|exact zbf|exact op_eqArr)(r:zar ops o (get fr)=some true:=by exact rfl)(q:o.dst=some d:=by exact rfl)(j:Nat.blt d N=true:=by exact rfl):SyL P ro N w0 M ds ops Q (o::rest) fr L:=zcX h r q j k
theorem zat(k:SyL P ro N w0 M ds ops Q rest ((d,v)::fr) L')(h:OpT P ro N w0 M ds o (get fr) L (Det v L'):=by first|exact zaC|exact op_neNil|exact zrd|exact zdu|exact op_neArr)(r:zar ops o (get fr)=some true:=by exact rfl)(q:o.dst=some d:=by exact rfl)(j:Nat.blt d N=true:=by exact rfl):SyL P ro N w0 M ds ops Q (o::rest) fr L:=zcX h r q j k
theorem zaI(k:SyL P ro N w0 M ds ops Q rest ((d,v)::fr) L')(h:OpT P ro N w0 M ds o (get fr) L (Det v L'):=by first|exact zA|exact op_addStr)(r:zar ops o (get fr)=some true:=by exact rfl)(q:o.dst=some d:=by exact rfl)(j:Nat.blt d N=true:=by exact rfl):SyL P ro N w0 M ds ops Q (o::rest) fr L:=zcX h r q j k
theorem zJ(k:SyL P ro N w0 M ds ops Q rest ((d,v)::fr) L')(h:OpT P ro N w0 M ds o (get fr) L (Det v L'):=by first|exact zmS|exact zqL|exact op_compl)(r:zar ops o (get fr)=some true:=by exact rfl)(q:o.dst=some d:=by exact rfl)(j:Nat.blt d N=true:=by exact rfl):SyL P ro N w0 M ds ops Q (o::rest) fr L:=zcX h r q j k
theorem zfo(k:SyL P ro N w0 M ds ops Q rest ((d,v)::fr) L')(h:OpT P ro N w0 M ds o (get fr) L (Det v L'):=by exact zO)(r:zar ops o (get fr)=some true:=by exact rfl)(q:o.dst=some d:=by exact rfl)(j:Nat.blt d N=true:=by exact rfl):SyL P ro N w0 M ds ops Q (o::rest) fr L:=zcX h r q j k
theorem zD(k:SyL P ro N w0 M ds ops Q rest ((d,v)::fr) L')(h:OpT P ro N w0 M ds o (get fr) L (Det v L'):=by first|exact zcE|exact zdY|exact zL|exact zeB|exact zay|exact zfd)(r:zar ops o (get fr)=some true:=by exact rfl)(q:o.dst=some d:=by exact rfl)(j:Nat.blt d N=true:=by exact rfl):SyL P ro N w0 M ds ops Q (o::rest) fr L:=zcX h r q j k
theorem zT(k:DH P ro N w0 M ds ops Q C L0 n (i+1) rest (λρ=>(d,v)::F ρ) rs)(q:∀ρ,za2 (cl C i) rs ρ->OpT P ro N w0 M ds o (only (o.looksAt ops) (get (F ρ))) (zah (cl C i) rs ρ L0) (Det v (zah (cl C i) rs ρ L0)):=by intro _ _;first|exact zcE|exact zdY|exact zL|exact zeB|exact zay|exact zfd)(r:∀ρ,zar ops o (only (o.looksAt ops) (get (F ρ)))=some true:=by exact λ_=>rfl)(j:o.dst=some d:=by exact rfl):DH P ro N w0 M ds ops Q C L0 (n+1) i (o::rest) F rs:=dc q r j k
theorem zcC(k:SyL P ro N w0 M ds ops Q rest ((d,v)::fr) L')(h:OpT P ro N w0 M ds o (get fr) L (Det v L'):=by first|exact zbN|exact zcZ|exact zff)(r:zar ops o (get fr)=some true:=by exact rfl)(q:o.dst=some d:=by exact rfl)(j:Nat.blt d N=true:=by exact rfl):SyL P ro N w0 M ds ops Q (o::rest) fr L:=zcX h r q j k
theorem zbj(k:SyL P ro N w0 M ds ops Q rest ((d,v)::fr) L')(h:OpT P ro N w0 M ds o (get fr) L (Det v L'):=by first|exact zll|exact zgv|exact zek rfl (ty rfl) (.inl ⟨rfl,rfl⟩) (zc rfl)|exact zek rfl (ty rfl) (.inr ⟨_,_,_,rfl,ty rfl⟩) (zc rfl))(r:zar ops o (get fr)=some true:=by exact rfl)(q:o.dst=some d:=by exact rfl)(j:Nat.blt d N=true:=by exact rfl):SyL P ro N w0 M ds ops Q (o::rest) fr L:=zcX h r q j k
theorem zS(k:SyL P ro N w0 M ds ops Q rest fr L')(h:OpT P ro N w0 M ds o (get fr) L (Det v L'):=by first|exact zC|exact zcn|exact zeo)(q:zar ops o (get fr)=some true:=by exact rfl)(j:o.dst=none:=by exact rfl):SyL P ro N w0 M ds ops Q (o::rest) fr L:=zrn h q j k
theorem zi{T:Nat}{C:List Value}(k:∀b,SyL P ro N w0 M ds ops Q rest ((d,.pointer (some ⟨b,0,none⟩))::fr) (.blk b T C::L))(h:OpT P ro N w0 M ds o (get fr) L (zn0 T C L):=by first|exact zc8|exact zrD|exact zvk)(r:zar ops o (get fr)=some true:=by exact rfl)(q:o.dst=some d:=by exact rfl)(j:Nat.blt d N=true:=by exact rfl):SyL P ro N w0 M ds ops Q (o::rest) fr L:=ya h r q j k
theorem zcB(k:DHE P ro N w0 M ds ops T C E Z L0 n (i+1) rest (λρ=>(d,v)::F ρ) rs)(q:∀ρ,za2 (cl C i) rs ρ->OpT P ro N w0 M ds o (only (o.looksAt ops) (get (F ρ))) (zah (za1 C E i) rs ρ (zbW C Z L0 i)) (Det v (zah (za1 C E i) rs ρ (zbW C Z L0 i))):=by intro _ _;first|exact zcE|exact zdY|exact zL|exact zeB|exact zay|exact zfd)(r:∀ρ,zar ops o (only (o.looksAt ops) (get (F ρ)))=some true:=by exact λ_=>rfl)(j:o.dst=some d:=by exact rfl)(hv:za1 C E i=zbX C E i:=by exact rfl)(hb:zbW C Z L0 i=zcI C Z L0 i:=by exact rfl):DHE P ro N w0 M ds ops T C E Z L0 (n+1) i (o::rest) F rs:=dcE q r j hv hb k
theorem zb{A B:Prop}(k:B)(f:B->A:=by intro h;(first|refine zaS ?_|refine zB ?_|refine zcb ?_|refine zaX ?_|refine zl6 ?_|refine zfo ?_|refine zaf rfl rfl rfl ?_);(repeat (first|refine zaS ?_|refine zB ?_|refine zcb ?_|refine zaX ?_|refine zl6 ?_|refine zfo ?_|refine zaf rfl rfl rfl ?_));exact h):A:=f k
theorem zV{A:Prop}{B:Nat->Prop}(k:∀b,B b)(f:(∀b,B b)->A:=by intro h;refine zi ?_;intro b;(first|refine zaS ?_|refine zB ?_|refine zcb ?_|refine zaX ?_|refine zl6 ?_|refine zfo ?_|refine zaf rfl rfl rfl ?_);(repeat (first|refine zaS ?_|refine zB ?_|refine zcb ?_|refine zaX ?_|refine zl6 ?_|refine zfo ?_|refine zaf rfl rfl rfl ?_));exact h b):A:=f k
theorem q_h{p:Prop}(h:p:=by first|exact F5 F4|exact Fp|exact SubR.go|exact Sub.go):p:=h
theorem q_m{p:Prop}(h:p:=by (repeat (first|exact F1|apply F3));done):p:=h
theorem q_r{p:Prop}(h:p:=by first|exact zaw rfl (zr rfl) F2 ⟨rfl,rfl⟩|exact zaw rfl (zr rfl) (by exact Fp) ⟨_,_,rfl,rfl⟩|exact zaw rfl (zr rfl) (by exact SubR.go) ⟨_,_,rfl,rfl⟩|exact zad rfl (zr rfl) (zr rfl) F2 ⟨rfl,rfl⟩):p:=h
theorem zK{P:Program}{ro:Option Nat}{N:Nat}{w0:World}{M:Nat->Prop}{ds:List Deferred}{Q:Exit->Act->World->Prop}{fr:Fr}{L:List Res}{id:Nat}{l:List Oper}(r:List Nat)(h:SyL P ro N w0 M ds l.toArray Q l fr L)(_:r.contains id=true:=by exact rfl):Sy P ro N w0 M ds (.region id l.toArray false) Q fr L:=zbU h
theorem zg{P:Program}{ro:Option Nat}{N:Nat}{w0:World}{M:Nat->Prop}{ds:List Deferred}{Q:Exit->Act->World->Prop}{fr:Fr}{L:List Res}{l:List Oper}(id:Nat)(h:SyL P ro N w0 M ds l.toArray Q l fr L):Sy P ro N w0 M ds (.region id l.toArray false) Q fr L:=zbU h
theorem zq{w0:World}{M:Nat->Prop}{L:List Res}{F:World->Prop}(h:∀w,Keep M w0 w->F w):∀(w:World) (X:List Res),Keep M w0 w->Holds w0.heap.size M (L++X) w->F w:=λw _ j _=>h w j
theorem q_v{P:Program}{ro:Option Nat}{N:Nat}{w0:World}{M:Nat->Prop}{ds:List Deferred}{Q:Exit->Act->World->Prop}{fr:Fr}{L:List Res}{ops:Array Oper}{rest:List Oper}{o:Oper}{d:Nat}{v:Value}{L':List Res}(h:OpT P ro N w0 M ds o (get fr) L (Det v L'))(k:SyL P ro N w0 M ds ops Q rest ((d,v)::fr) L')(r:zar ops o (get fr)=some true:=by exact rfl)(q:o.dst=some d:=by exact rfl)(j:Nat.blt d N=true:=by exact rfl):SyL P ro N w0 M ds ops Q (o::rest) fr L:=yv h r q j k
theorem q_s{P:Program}{ro:Option Nat}{N:Nat}{w0:World}{M:Nat->Prop}{ds:List Deferred}{Q:Exit->Act->World->Prop}{fr:Fr}{L:List Res}{ops:Array Oper}{rest:List Oper}{o:Oper}{d:Nat}{post:Value->List Res->Prop}(h:OpT P ro N w0 M ds o (get fr) L post)(k:∀v L',post v L'->SyL P ro N w0 M ds ops Q rest ((d,v)::fr) L')(r:zar ops o (get fr)=some true:=by exact rfl)(q:o.dst=some d:=by exact rfl)(j:Nat.blt d N=true:=by exact rfl):SyL P ro N w0 M ds ops Q (o::rest) fr L:=ys h r q j k
theorem q_n{P:Program}{ro:Option Nat}{N:Nat}{w0:World}{M:Nat->Prop}{ds:List Deferred}{Q:Exit->Act->World->Prop}{fr:Fr}{L:List Res}{ops:Array Oper}{rest:List Oper}{o:Oper}{v:Value}{L':List Res}(h:OpT P ro N w0 M ds o (get fr) L (Det v L'))(k:SyL P ro N w0 M ds ops Q rest fr L')(q:zar ops o (get fr)=some true:=by exact rfl)(j:o.dst=none:=by exact rfl):SyL P ro N w0 M ds ops Q (o::rest) fr L:=yn h q j k
theorem q_k{P:Program}{ro:Option Nat}{N:Nat}{w0:World}{M:Nat->Prop}{ds:List Deferred}{Q:Exit->Act->World->Prop}{fr:Fr}{L:List Res}{l:List Oper}{B:Prop}(id:Nat)(k:B)(f:B->SyL P ro N w0 M ds l.toArray Q l fr L:=by exact λk=>zb k):Sy P ro N w0 M ds (.region id l.toArray false) Q fr L:=zbU (f k)
theorem q_x{P:Program}{ro:Option Nat}{N:Nat}{w0:World}{M:Nat->Prop}{ds:List Deferred}{Q:Exit->Act->World->Prop}{fr:Fr}{L:List Res}{ops:Array Oper}{rest:List Oper}{o:Oper}{d:Nat}{v:Value}{L':List Res}{B:Prop}(h:OpT P ro N w0 M ds o (get fr) L (Det v L'))(k:B)(r:zar ops o (get fr)=some true:=by exact rfl)(q:o.dst=some d:=by exact rfl)(j:Nat.blt d N=true:=by exact rfl)(f:B->SyL P ro N w0 M ds ops Q rest ((d,v)::fr) L':=by exact λk=>zb k):SyL P ro N w0 M ds ops Q (o::rest) fr L:=yv h r q j (f k)
theorem q_y{P:Program}{ro:Option Nat}{N:Nat}{w0:World}{M:Nat->Prop}{ds:List Deferred}{Q:Exit->Act->World->Prop}{fr:Fr}{L:List Res}{ops:Array Oper}{rest:List Oper}{o:Oper}{v:Value}{L':List Res}{B:Prop}(h:OpT P ro N w0 M ds o (get fr) L (Det v L'))(k:B)(q:zar ops o (get fr)=some true:=by exact rfl)(j:o.dst=none:=by exact rfl)(f:B->SyL P ro N w0 M ds ops Q rest fr L':=by exact λk=>zb k):SyL P ro N w0 M ds ops Q (o::rest) fr L:=yn h q j (f k)
theorem q_c{w0:World}{M:Nat->Prop}{L:List Res}{F:World->Prop}(h:∀w,F w):∀(w:World) (X:List Res),Keep M w0 w->Holds w0.heap.size M (L++X) w->F w:=λw _ _ _=>h w
theorem q_D{P:Program}{ro:Option Nat}{N:Nat}{w0:World}{M:Nat->Prop}{ds:List Deferred}{ops:Array Oper}{C:List (List Nat)}{L0:List Res}{i n d:Nat}{o:Oper}{rest:List Oper}{F:Env->Fr}{rs:List (Nat×(Env->Value->List Res->Prop))}{u:Value}{Q:Exit->Act->World->Prop}(h:∀ {ρ:Env}{_:za2 (cl C i) rs ρ},OpT P ro N w0 M ds o (only (o.looksAt ops) (get (F ρ))) (zah (cl C i) rs ρ L0) (Det u (zah (cl C i) rs ρ L0)))(k:DH P ro N w0 M ds ops Q C L0 n (i+1) rest (λρ=>(d,u)::F ρ) rs)(q:∀ρ,zar ops o (only (o.looksAt ops) (get (F ρ)))=some true:=by exact λ_=>rfl)(j:o.dst=some d:=by exact rfl):DH P ro N w0 M ds ops Q C L0 (n+1) i (o::rest) F rs:=dc (λρ r=> @h ρ r) q j k
theorem q_E{P:Program}{ro:Option Nat}{N:Nat}{w0:World}{M:Nat->Prop}{ds:List Deferred}{ops:Array Oper}{C:List (List Nat)}{L0:List Res}{i n d:Nat}{o:Oper}{rest:List Oper}{F:Env->Fr}{rs:List (Nat×(Env->Value->List Res->Prop))}{u:Value}{E:List (List Nat)}{Z:Option Nat}{T:List Oper->Fr->List Res->Prop}(h:∀ {ρ:Env}{_:za2 (cl C i) rs ρ},OpT P ro N w0 M ds o (only (o.looksAt ops) (get (F ρ))) (zah (za1 C E i) rs ρ (zbW C Z L0 i)) (Det u (zah (za1 C E i) rs ρ (zbW C Z L0 i))))(k:DHE P ro N w0 M ds ops T C E Z L0 n (i+1) rest (λρ=>(d,u)::F ρ) rs)(q:∀ρ,zar ops o (only (o.looksAt ops) (get (F ρ)))=some true:=by exact λ_=>rfl)(j:o.dst=some d:=by exact rfl)(hv:za1 C E i=zbX C E i:=by exact rfl)(hb:zbW C Z L0 i=zcI C Z L0 i:=by exact rfl):DHE P ro N w0 M ds ops T C E Z L0 (n+1) i (o::rest) F rs:=dcE (λρ r=> @h ρ r) q j hv hb k
end Go.Sy
