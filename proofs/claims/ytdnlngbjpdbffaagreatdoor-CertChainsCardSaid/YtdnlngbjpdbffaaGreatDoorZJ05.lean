/- Lemmas. -/
import Derived.Test.YtdnlngbjpdbffaaGreatDoorZJ04
set_option linter.all false
namespace Go.Sy
open Go
def zfr(m:Nat)(ops:Array Oper)(i:Nat):Option Nat:=bif Nat.blt i m then none else zdy ops i
theorem zqs{m i:Nat}{ops:Array Oper}(h:m<=i):zfr m ops i=zdy ops i:=by unfold zfr;rw[zcf.2 h];rfl
theorem zqR{m i:Nat}{ops:Array Oper}(h:i<m):zfr m ops i=none:=by unfold zfr;rw[zaS.2 h];rfl
def zmn(ops:Array Oper)(m n N:Nat)(C:List (List Nat)):Bool:=
 Nat.ble n ops.size &&
 (List.range ops.size).all λi=>match ops[i]? with
  |none=>true
  |some o=>
   (pre o).all (λj=>Nat.blt j i)&&(match o.dst with|none=>true|some d=>Nat.blt d N) &&
   (cl C i).all (λj=>Nat.blt j i&&((pre o).contains j || (pre o).any λk=>(cl C k).contains j)) &&
   (bif Nat.blt i m then true else bif Nat.blt i n then (List.range n).all (λj=>Nat.beq i j || match zfr m ops j with
    |none=>true
    |some d=>!(o.dst==some d)&&(!((o.looksAt ops).contains d) || (bif Nat.blt j i then (cl C i).contains j else (cl C j).contains i)))
   else (List.range n).all (cl C i).contains)
variable {P:Program}{ro:Option Nat}{N:Nat}{w0:World}{M:Nat->Prop}{ds:List Deferred}
def frA(m:Nat)(ops:Array Oper)(it:Nat->Item)(fr:Fr)(ρ:Env):Nat->Fr
 |0=>fr
 |j+1=>ext (zfr m ops j) (zcH (it j) j ρ) (frA m ops it fr ρ j)
theorem zqF{m:Nat}{ops:Array Oper}{it:Nat->Item}{fr:Fr}{ρ:Env} :∀j,j<=m->frA m ops it fr ρ j=fr
 |0,_=>rfl
 |j+1,h=>by simp only[frA];rw[zqR q_o,zqF j q_o];rfl
theorem zqa{m:Nat}{it:Nat->Item}(hb:∀k,k<m->it k= .inl λ_=>undef):∀j,j<=m->rsT it j= []
 |0,_=>rfl
 |j+1,h=>by simp only[rsT];rw[hb j q_o];exact zqa hb j q_o
theorem zjZ{m:Nat}{ops:Array Oper}{it:Nat->Item}{fr:Fr}{ρ:Env}{t:Nat}{v:Value} :∀j,get (frA m ops it fr ρ j) t=some v->
  (∃k,k<j/\zfr m ops k=some t/\v=zcH (it k) k ρ)\/((∀k,k<j->zfr m ops k≠some t)/\get fr t=some v)
 |0,h=> .inr ⟨λk B=>by omega,h⟩
 |j+1,h=>by
  simp only[frA] at h;cases hd:zfr m ops j with
  |none=>
   rw[hd] at h;rcases zjZ j h with ⟨k,r,q,w⟩|⟨r,q⟩
   ·exact .inl ⟨k,by omega,q,w⟩
   ·refine .inr ⟨λk B=>?_,q⟩;by_cases e:k=j
    ·subst e;rw[hd];exact λe=>by cases e
    ·exact r k q_o
  |some d=>
   rw[hd] at h;simp only[ext,get] at h;cases hb:Nat.beq d t with
   |true=>
    rw[hb] at h;simp only[cond_true,Bm] at h;have:=C6 hb;subst this;exact .inl ⟨j,by omega,hd,h.symm⟩
   |false=>
    rw[hb] at h;simp only[cond_false] at h;have A:=CB hb;rcases zjZ j h with ⟨k,r,q,w⟩|⟨r,q⟩
    ·exact .inl ⟨k,by omega,q,w⟩
    ·refine .inr ⟨λk B=>?_,q⟩;by_cases e:k=j
     ·subst e;rw[hd];exact λe=>A (Am e)
     ·exact r k q_o
structure DOkA(ops:Array Oper)(m n N:Nat)(C:List (List Nat)):Prop where
 le:n<=ops.size
 acyc:∀(i:Nat) (o:Oper),ops[i]?=some o->∀j∈pre o,j<i
 low:∀(i:Nat) (o:Oper),ops[i]?=some o->∀d,o.dst=some d->d<N
 clo:∀(i:Nat) (o:Oper),ops[i]?=some o->∀j∈cl C i,j<i/\(j∈pre o\/∃k∈pre o,j∈cl C k)
 slot:∀(i:Nat) (o:Oper),ops[i]?=some o->m<=i->i<n->∀j,j<n->j≠i->∀d,zfr m ops j=some d->o.dst≠some d/\(d∈o.looksAt ops->(j<i->j∈cl C i)/\(i<j->i∈cl C j))
 tail:∀(i:Nat) (o:Oper),ops[i]?=some o->m<=i->n<=i->∀j,j<n->j∈cl C i
theorem zoc{ops:Array Oper}{m n:Nat}{C:List (List Nat)}(h:zmn ops m n N C=true):DOkA ops m n N C:=by
 unfold zmn at h;rw[A8,AF] at h;obtain⟨h0,O⟩:=h;have q:∀i o,ops[i]?=some o->_:=λi o r=>by
  have K:i<ops.size:=(Af.1 r).1;have:=O i (Az.2 K);rw[r] at this;simp only[A8] at this;exact this
 refine⟨A5 h0,λi o r j w=>?_,λi o r d H=>?_,λi o r j w=>?_,λi o r A I j w J d H=>?_,λi o r A I j w=>?_⟩
 ·have:=(q i o r).1.1.1;rw[AF] at this;exact zaS.1 (this j w)
 ·have:=(q i o r).1.1.2;rw[H] at this;exact zaS.1 this
 ·have:=(q i o r).1.2;rw[AF] at this;have:=this j w;rw[A8,Be,DY] at this;refine⟨zaS.1 this.1,this.2.imp q_p λ⟨k,U,R⟩=>⟨k,U,by simpa using R⟩⟩
 ·have:=(q i o r).2;rw[zcf.2 A,cond_false,zaS.2 I,cond_true,AF] at this;have:=this j (Az.2 w);rw[zaY.2 (λe=>J e.symm),BO,H] at this;simp only[A8,Be,B4] at this;refine⟨by simpa using this.1,λV=>?_⟩;have G:=this.2.resolve_left (by simp[V]);refine⟨λB=>?_,λS=>?_⟩
  ·rw[zaS.2 B,cond_true] at G;simpa using G
  ·rw[zcf.2 q_o,cond_false] at G;simpa using G
 ·have:=(q i o r).2;rw[zcf.2 A,cond_false,zcf.2 I,cond_false,AF] at this;simpa using this j (Az.2 w)
theorem znI{ops:Array Oper}{m n:Nat}{C:List (List Nat)}(hk:DOkA ops m n N C){p:Nat->Bool}(down:∀k o,p k=true->ops[k]?=some o->∀j∈pre o,p j=true):
  ∀i o,ops[i]?=some o->(∀j∈pre o,p j=true)->∀j∈cl C i,p j=true:=by
 intro i
 induction i using Nat.strongRecOn with
 |_ i J=>
  intro o w B j H;obtain⟨_,h|⟨k,A,G⟩⟩:=hk.clo i o w j H
  ·exact B j h
  ·have r:=hk.acyc i o w k A;have I:i<ops.size:=(Af.1 w).1;have q:ops[k]?=some ops[k]:=B7 q_o;exact J k r _ q (down k _ (B k A) q) j G
variable {ops:Array Oper}{m n:Nat}{C:List (List Nat)}{fr:Fr}{L0:List Res}{it:Nat->Item}{Q:Exit->Act->World->Prop}{dd:List Deferred}
def SyA(P:Program)(ro:Option Nat)(N:Nat)(w0:World)(M:Nat->Prop)(ds:List Deferred)(ops:Array Oper)(Q:Exit->Act->World->Prop)(q:Nat)(rest:List Oper)(fr:Fr)(L:List Res):Prop:=
 (∀j,rest[j]?=ops[q+j]?)->∀a w (listed:Array Bool),StD N w0 M ds (get fr) L a w->listed.size=ops.size->(∀k,k<ops.size->listed.getD k false=Nat.blt k q)->wpAnyIn (FW ro) 0 P .any ops Q (ops.size-q) listed a w
theorem SyA.rest{q:Nat}{r r':List Oper}{fr':Fr}{L':List Res}(h:SyA P ro N w0 M ds ops Q q r fr' L')(hr:∀j,r[j]?=ops[q+j]?):SyA P ro N w0 M ds ops Q q r' fr' L':=λ_=>h hr
theorem zc0{id:Nat}{l:List Oper}(hm:P.follows .mixedOrders=true)(h:SyA P ro N w0 M ds l.toArray Q 0 l fr L0):Sy P ro N w0 M ds (.region id l.toArray true) Q fr L0:=by
 rintro a w ⟨B,A,q⟩;refine wpIn_region_any hm ?_;refine h (λj=>by simp) a _ (Array.replicate l.toArray.size false) ⟨B,A,q.size,q.agr,⟨q.keep.os,q.keep.tape,q.keep.output,q.keep.size,q.keep.block⟩,⟨λr G=>FN (q.hold.all r G) (λ_ _=>rfl),q.hold.apart,q.hold.mine⟩⟩ q_p λk _=>?_;rw[zcf.2 (AA _)];simp only[B1,DE];split <;> rfl
theorem zc2{q:Nat}{rest:List Oper}(C:List (List Nat))(j:zlN ops q N C=true)(h:SyL P ro N w0 M ds ops Q rest fr L0):SyA P ro N w0 M ds ops Q q rest fr L0:=
 λB a w listed G r A=>zr7 (zhE j) _ q rest listed a w (by have:=(zhE j).le;omega) (A7 _) r A B (h a w G)
def zbn(C E:List (List Nat))(i:Nat):List Nat:=(cl C i).filter λk=>!((cl C i).any λj=>(cl E j).contains k)
def zck(C E:List (List Nat))(i:Nat):List Nat:=(zbn C E i).filter λk=>!(cl E i).contains k
def zjF(E:List (List Nat))(n:Nat):List Nat:=(List.range n).filter λk=>!((List.range n).any λj=>(cl E j).contains k)
def zcj(C:List (List Nat))(Z:Option Nat)(L0:List Res)(i:Nat):List Res:=match Z with
 |none=>L0
 |some t=>bif Nat.beq i t || (cl C t).contains i then L0 else []
def zdb(C:List (List Nat))(Z:Option Nat)(L0:List Res)(i:Nat):List Res:=match Z with
 |none=>L0
 |some t=>bif (cl C t).contains i then L0 else []
def zhx(Z:Option Nat)(L0:List Res):List Res:=match Z with
 |none=>L0
 |some _=>[]
def zfU(Z:Option Nat)(p:Nat->Bool)(L0:List Res):List Res:=match Z with
 |none=>L0
 |some t=>bif p t then [] else L0
def zgc(C:List (List Nat))(Z:Option Nat)(p:Nat->Bool)(L0:List Res)(i:Nat):List Res:=match Z with
 |none=>[]
 |some t=>bif Nat.beq i t || (cl C t).contains i then [] else bif p t then [] else L0
def zrU(m n:Nat)(C E:List (List Nat))(Z:Option Nat):Bool:=
 ((List.range n).all λi=>(cl E i).all λk=>(cl C i).contains k&&((List.range n).all λj=>Nat.beq i j || (!(cl E j).contains k&&(!(cl C j).contains k || (cl C i).contains j || (cl C j).contains i)))) &&
 (match Z with|none=>true|some t=>Nat.blt t n&&Nat.ble m t)
structure EOk(m n:Nat)(C E:List (List Nat))(Z:Option Nat):Prop where
 sub:∀i k,i<n->k∈cl E i->k∈cl C i
 lone:∀i j k,i<n->j<n->k∈cl E i->i≠j->k∉cl E j/\(k∈cl C j->j∈cl C i\/i∈cl C j)
 base:∀t,Z=some t->t<n/\m<=t
theorem zrx{m n:Nat}{C E:List (List Nat)}{Z:Option Nat}(h:zrU m n C E Z=true):EOk m n C E Z:=by
 unfold zrU at h;rw[A8,AF] at h;obtain⟨B,q⟩:=h;refine⟨λi k r A=>?_,λi j k r H A w=>?_,λt I=>?_⟩
 ·have:=B i (Az.2 r);rw[AF] at this;have:=this k A;rw[A8] at this;simpa using this.1
 ·have:=B i (Az.2 r);rw[AF] at this;have:=this k A;rw[A8,AF] at this;have:=this.2 j (Az.2 H);rw[zaY.2 w,BO,A8,Be,Be] at this;refine⟨by simpa using this.1,λG=>?_⟩;rcases this.2 with (h|h)|h
  ·simp[G] at h
  ·exact .inl (by simpa using h)
  ·exact .inr (by simpa using h)
 ·subst I;simp only[A8] at q;exact⟨zaS.1 q.1,A5 q.2⟩
def DHE(P:Program)(ro:Option Nat)(N:Nat)(w0:World)(M:Nat->Prop)(ds:List Deferred)(ops:Array Oper)(T:List Oper->Fr->List Res->Prop)(C E:List (List Nat))(Z:Option Nat)(L0:List Res):
  Nat->Nat->List Oper->(Env->Fr)->List (Nat×(Env->Value->List Res->Prop))->Prop
 |0,i,rest,F,rs=>∀ρ,zbo (List.range i) rs ρ->T rest (F ρ) (zaq (zjF E i) rs ρ (zhx Z L0))
 |_+1,_,[],_,_=>False
 |k+1,i,o::rest,F,rs=>
  (∃v:Env->Value,Loc (cl C i) (.inl v)/\(∀ρ,zbo (cl C i) rs ρ->GpT P ro N w0 M ds ops o (only (o.looksAt ops) (get (F ρ))) (zaq (zbn C E i) rs ρ (zcj C Z L0 i)) (Det (v ρ) (zaq (zck C E i) rs ρ (zdb C Z L0 i))))/\
   DHE P ro N w0 M ds ops T C E Z L0 k (i+1) rest (λρ=>ext o.dst (v ρ) (F ρ)) rs)\/
  (∃R:Env->Value->List Res->Prop,Loc (cl C i) (.inr R)/\(∀ρ,zbo (cl C i) rs ρ->GpT P ro N w0 M ds ops o (only (o.looksAt ops) (get (F ρ))) (zaq (zbn C E i) rs ρ (zcj C Z L0 i)) (λv L'=>∃Nw,L'=Nw++zaq (zck C E i) rs ρ (zdb C Z L0 i)/\R ρ v Nw))/\
   DHE P ro N w0 M ds ops T C E Z L0 k (i+1) rest (λρ=>ext o.dst (ρ i).1 (F ρ)) ((i,R)::rs))
def zgy(m:Nat)(P:Program)(ro:Option Nat)(N:Nat)(w0:World)(M:Nat->Prop)(ds:List Deferred)(ops:Array Oper)(C E:List (List Nat))(Z:Option Nat)(fr:Fr)(L0:List Res)(it:Nat->Item)(i:Nat)(o:Oper):Prop:=
  Loc (cl C i) (it i)/\∀ρ,zbo (cl C i) (rsT it i) ρ->GpT P ro N w0 M ds ops o (only (o.looksAt ops) (get (frA m ops it fr ρ i))) (zaq (zbn C E i) (rsT it i) ρ (zcj C Z L0 i))
    (match it i with
     | .inl v=>Det (v ρ) (zaq (zck C E i) (rsT it i) ρ (zdb C Z L0 i))
     | .inr R=>λv L'=>∃Nw,L'=Nw++zaq (zck C E i) (rsT it i) ρ (zdb C Z L0 i)/\R ρ v Nw)
theorem DHE.items{m:Nat}{ops:Array Oper}{T:List Oper->Fr->List Res->Prop}{C E:List (List Nat)}{Z:Option Nat}{fr:Fr}{L0:List Res} :∀(k i:Nat) (rest:List Oper) (q:Nat->Item),m<=i->(∀j,rest[j]?=ops[i+j]?)->
  DHE P ro N w0 M ds ops T C E Z L0 k i rest (λρ=>frA m ops q fr ρ i) (rsT q i)->
  ∃it:Nat->Item,(∀j,j<i->it j=q j)/\(∀j,i<=j->j<i+k->∃o,ops[j]?=some o/\zgy m P ro N w0 M ds ops C E Z fr L0 it j o)/\
   (∀ρ,zbo (List.range (i+k)) (rsT it (i+k)) ρ->T (rest.drop k) (frA m ops it fr ρ (i+k)) (zaq (zjF E (i+k)) (rsT it (i+k)) ρ (zhx Z L0)))
 |0,i,rest,q,_,_,h=>⟨q,λ_ _=>rfl,λj S U=>by omega,by simpa [DHE] using h⟩
 |k+1,i,[],_,_,_,h=>by simp[DHE] at h
 |k+1,i,o::rest,q,hmi,hr,h=>by
  have W:ops[i]?=some o:=by simpa using (hr 0).symm
  have V:zfr m ops i=o.dst:=by rw[zqs hmi];simp[zdy,W]
  have O:∀j,rest[j]?=ops[i+1+j]?:=λj=>by have:=hr (j+1);simpa [BK,Cz 1 j] using this
  have key:∀(x:Item),zgy m P ro N w0 M ds ops C E Z fr L0 (λj=>if j=i then x else q j) i o->
    DHE P ro N w0 M ds ops T C E Z L0 k (i+1) rest (λρ=>frA m ops (λj=>if j=i then x else q j) fr ρ (i+1)) (rsT (λj=>if j=i then x else q j) (i+1))->
    ∃it:Nat->Item,(∀j,j<i->it j=q j)/\(∀j,i<=j->j<i+(k+1)->∃o,ops[j]?=some o/\zgy m P ro N w0 M ds ops C E Z fr L0 it j o)/\
     (∀ρ,zbo (List.range (i+(k+1))) (rsT it (i+(k+1))) ρ->T ((o::rest).drop (k+1)) (frA m ops it fr ρ (i+(k+1))) (zaq (zjF E (i+(k+1))) (rsT it (i+(k+1))) ρ (zhx Z L0))):=by
   intro x B r;obtain⟨it,S,U,X⟩:=DHE.items k (i+1) rest _ q_o O r;have same:∀j,j<=i->it j=(λj=>if j=i then x else q j) j:=λj G=>S j q_o;have I:∀ρ j,j<=i+1->frA m ops it fr ρ j=frA m ops (λj=>if j=i then x else q j) fr ρ j:=by
    intro ρ j G
    induction j with
    |zero=>rfl
    |succ j ih=>simp only[frA];rw[ih q_o,same j q_o]
   have J:∀j,j<=i+1->rsT it j=rsT (λj=>if j=i then x else q j) j:=by
    intro j G
    induction j with
    |zero=>rfl
    |succ j ih=>simp only[rsT];rw[ih q_o,same j q_o]
   refine⟨it,λj G=>by rw[same j q_o];simp[Nat.ne_of_lt G],λj a6 a7=>?_,?_⟩
   ·by_cases e:j=i
    ·subst e;refine⟨o,W,?_⟩;unfold zgy at B ⊢;rw[same j (A7 _),J j q_o];refine⟨B.1,λρ H=>?_⟩;rw[I ρ j q_o];exact B.2 ρ H
    ·exact U j q_o q_o
   ·have e:i+(k+1)=i+1+k:=q_o;rw[e];simpa using X
  have w:∀(x:Item) ρ,frA m ops (λj=>if j=i then x else q j) fr ρ i=frA m ops q fr ρ i:=by
   intro x ρ;have:∀j,j<=i->frA m ops (λj=>if j=i then x else q j) fr ρ j=frA m ops q fr ρ j:=by
    intro j G
    induction j with
    |zero=>rfl
    |succ j ih=>simp only[frA];rw[ih q_o,if_neg q_o]
   exact this i (A7 _)
  have A:∀(x:Item),rsT (λj=>if j=i then x else q j) i=rsT q i:=by
   intro x;have:∀j,j<=i->rsT (λj=>if j=i then x else q j) j=rsT q j:=by
    intro j G
    induction j with
    |zero=>rfl
    |succ j ih=>simp only[rsT];rw[ih q_o,if_neg q_o]
   exact this i (A7 _)
  simp only[DHE] at h;rcases h with ⟨v,K,B,r⟩|⟨R,K,B,r⟩
  ·refine key (.inl v) ?_ ?_
   ·unfold zgy;simp only[if_true];rw[A];refine⟨K,λρ H=>?_⟩;rw[w];exact B ρ H
   ·simp only[frA,rsT,if_true,zcH,V,w,A];exact r
  ·refine key (.inr R) ?_ ?_
   ·unfold zgy;simp only[if_true];rw[A];refine⟨K,λρ H=>?_⟩;rw[w];exact B ρ H
   ·simp only[frA,rsT,if_true,zcH,V,w,A];exact r
def zgA(E:List (List Nat))(p:Nat->Bool)(n k:Nat):Bool:=(List.range n).any λj=>p j&&(cl E j).contains k
theorem zd0{E:List (List Nat)}{p:Nat->Bool}{n k:Nat} :zgA E p n k=false↔ ∀j,j<n->p j=true->k∉cl E j:=by
 unfold zgA;rw[DO];simp only[Az,A8,CT,not_and]
structure DInvE(ops:Array Oper)(m n:Nat)(E:List (List Nat))(Z:Option Nat)(Y:List Res)(fr:Fr)(L0:List Res)(it:Nat->Item)(N:Nat)(w0:World)(M:Nat->Prop)(dd:List Deferred)(listed:Array Bool)(ρ:Env)(a:Act)(w:World):Prop where
 size:listed.size=ops.size
 head:∀k,listed.getD k false=true->k<n
 base:∀k,k<m->listed.getD k false=true
 down:∀(k:Nat) (o:Oper),listed.getD k false=true->ops[k]?=some o->∀j∈pre o,listed.getD j false=true
 tsize:a.tmps.size=N
 defs:a.defers=dd
 s1:∀k d,listed.getD k false=true->zfr m ops k=some d->a.tmps[d]?=some (zcH (it k) k ρ)
 s2:∀t v,get fr t=some v->(∀k,listed.getD k false=true->zfr m ops k≠some t)->a.tmps[t]?=some v
 rel:∀k,listed.getD k false=true->zer (it k) k ρ
 keep:Keep M w0 w
 hold:Holds w0.heap.size M (fm (λk=>listed.getD k false && !zgA E (λk=>listed.getD k false) n k) (λk=>za1 (it k) k ρ) n++(zfU Z (λk=>listed.getD k false) L0++Y)) w
variable {E:List (List Nat)}{Z:Option Nat}{Y:List Res}
theorem zzC(hk:DOkA ops m n N C)(he:EOk m n C E Z)(c9:∀k,k<m->it k= .inl λ_=>undef)(hg:∀i o,m<=i->i<n->ops[i]?=some o->zgy m P ro N w0 M ds ops C E Z fr L0 it i o){listed:Array Bool}{ρ:Env}{a:Act}{w:World}
    (inv:DInvE ops m n E Z Y fr L0 it N w0 M dd listed ρ a w){i:Nat}(hi:i∈Region.ready .any ops listed)(a7:i<n){K:Act->World->Prop}
    (hK:∀ρ' a' w',DInvE ops m n E Z Y fr L0 it N w0 M dd (listed.setIfInBounds i true) ρ' a' w'->K a' w'):wpOpIn (FW ro) 0 P ops Q i K a w:=by
  obtain⟨i9,o,ho,c5⟩:=mem_ready.1 hi;have a9:=zbQ i9;have V:i<ops.size:=(Af.1 ho).1;have c8:∀j∈pre o,listed.getD j false=true:=λj hj=>by
    obtain⟨e,he,hb,rfl⟩:=zdX.1 hj;exact c5 e he hb
  have e4:=znI hk (p:=λk=>listed.getD k false) inv.down;have c4:=e4 i o ho c8;have b8:m<=i:=by
    rcases AG i m with h|h
    · have:=inv.base i h;rw[a9] at this;cases this
    · exact h
  have c7:zfr m ops i=o.dst:=by rw[zqs b8];simp[zdy,ho]
  have W:∀k,listed.getD k false=true->i∉cl C k:=λk G d8=>by
    have b1:=inv.head k G;have b0:ops[k]?=some (ops[k]'(by have:=hk.le;omega)):=B7 _;have:listed.getD i false=true:=e4 k _ b0 (inv.down k _ G b0) i d8;rw[a9] at this;cases this
  have b5:i∉cl C i:=λh=>by have:=(hk.clo i o ho i h).1;omega
  have b6:=hg i o b8 a7 ho;have h5:zbo (cl C i) (rsT it i) ρ:=zgP i λk S J=>inv.rel k (c4 k (by simpa using J));have i5:=b6.2 ρ h5;have X:List Res:=[]
  -- memory, as the operation sees it
  obtain⟨O,e7⟩:∃O:Nat->Bool,O=λk=>listed.getD k false:=⟨_,rfl⟩;have B:∀k,O k=listed.getD k false:=λk=>by rw[e7]
  obtain⟨pr,b4⟩:∃pr:Nat->Bool,pr=λk=>O k && !zgA E O n k:=⟨_,rfl⟩;have c1:∀k,k∈zbn C E i->pr k=true:=λk A=>by
    unfold zbn at A;rw[Bh] at A;obtain⟨h1,h2⟩:=A;have h3:O k=true:=by rw[B];exact c4 k h1
    have h4:zgA E O n k=false:=zd0.2 λj hj U b2=>by
      have i7:j∉cl C i:=λJ=>by
        have:((cl C i).any λj=>(cl E j).contains k)=true:=DY.2 ⟨j,J,by simpa using b2⟩;rw[this] at h2;cases h2
      have e5:j≠i:=λe=>by rw[e,B,a9] at U;cases U
      rcases(he.lone j i k hj a7 b2 e5).2 h1 with h|h
      · exact W j (by rw[B] at U;exact U) h
      · exact i7 h
    rw[b4];simp only[h3,h4];rfl
  have e0:∀k,pr k=true->k∈cl C i->k∈zbn C E i:=λk hp J=>by
    rw[b4] at hp;simp only[A8,B4] at hp;unfold zbn;rw[Bh];refine⟨J,?_⟩;rw[B4,DO];intro j hj b2;have e5:=(hk.clo i o ho j hj).1;exact zd0.1 hp.2 j q_o (by rw[B];exact c4 j hj) (by simpa using b2)
  have c2:∀k,k∈zbn C E i->k∈cl C i:=λk h=>by unfold zbn at h;exact(Bh.1 h).1
  have c3:zfU Z O L0=zcj C Z L0 i++zgc C Z O L0 i:=by
    cases Z with
    |none=>simp[zfU,zcj,zgc]
    |some t=>
      simp only[zfU,zcj,zgc];cases hb:Nat.beq i t || (cl C t).contains i with
      |false=>simp
      |true=>
        have:O t=false:=by
          cases V:O t with
          |false=>rfl
          |true=>
            exfalso;rw[B] at V;rw[Be] at hb;rcases hb with h|h
            · rw[<-C6 h] at V;rw[a9] at V;cases V
            · exact W t V (by simpa using h)
        rw[this];simp
  have d9:(fm pr (λk=>za1 (it k) k ρ) n++(zfU Z O L0++Y)).Perm (zaq (zbn C E i) (rsT it i) ρ (zcj C Z L0 i)++(zgc C Z O L0 i++Y++fm (λk=>pr k && !(zbn C E i).contains k) (λk=>za1 (it k) k ρ) n)):=by
    have h1:=zfA (p:=pr) (q:=λk=>(zbn C E i).contains k) (r:=λk=>pr k && !(zbn C E i).contains k) (f:=λk=>za1 (it k) k ρ) n (λk _=>by
      cases J:(zbn C E i).contains k
      · simp
      · rw[c1 k (by simpa using J)];exact⟨rfl,rfl⟩)
    rw[zlj (p:=λk=>(zbn C E i).contains k) (j:=i) (λk d8=>by
      cases J:(zbn C E i).contains k
      · rfl
      · have:=(hk.clo i o ho k (c2 k (by simpa using J))).1;omega) n q_o] at h1
    have h2:=zen (it:=it) (ts:=zbn C E i) (ρ:=ρ) (L:=zcj C Z L0 i) i;refine(Ak _ h1).trans ?_;refine List.Perm.trans ?_ (Ak _ h2.symm);rw[c3];simp only[AI];refine BC _ ?_;refine Aj.trans ?_;simp only[AI];exact Ay _
  have e9:Holds w0.heap.size M (fm pr (λk=>za1 (it k) k ρ) n++(zfU Z O L0++Y)) w:=by rw[b4,e7];exact inv.hold
  have b9:St N w0 M ds (only (o.looksAt ops) (get (frA m ops it fr ρ i))) (zaq (zbn C E i) (rsT it i) ρ (zcj C Z L0 i)++(zgc C Z O L0 i++Y++fm (λk=>pr k && !(zbn C E i).contains k) (λk=>za1 (it k) k ρ) n)) a w:=by
    refine⟨inv.tsize,λt v hv=>?_,inv.keep,e9.perm d9⟩;unfold only at hv;cases J:(o.looksAt ops).contains t
    · rw[J] at hv;cases hv
    · rw[J,cond_true] at hv
      have h6:t∈o.looksAt ops:=by simpa using J
      rcases zjZ i hv with ⟨k,S,H,rfl⟩|⟨c6,h9⟩
      · have hs:=(hk.slot i o ho b8 a7 k q_o q_o t H).2 h6
        exact inv.s1 k t (c4 k (hs.1 S)) H
      · refine inv.s2 t v h9 λk G H=>?_
        have b1:=inv.head k G;have S:k≠i:=λe=>by rw[e,a9] at G;cases G
        have hs:=(hk.slot i o ho b8 a7 k b1 S t H).2 h6;by_cases hlt':k<i
        · exact c6 k hlt' H
        · exact W k G (hs.2 q_o)
  -- what follows from its results
  have fin:∀(ρ':Env) (v:Value) (w':World),(∀k,k≠i->ρ' k=ρ k)->zcH (it i) i ρ'=v->zer (it i) i ρ'->Keep M w0 w'->
      Holds w0.heap.size M (za1 (it i) i ρ'++zaq (zck C E i) (rsT it i) ρ (zdb C Z L0 i)++(zgc C Z O L0 i++Y++fm (λk=>pr k && !(zbn C E i).contains k) (λk=>za1 (it k) k ρ) n)) w'->K (a.put o.dst v) w':=by
    intro ρ' v w' hρ hv hr b3 hh;have old:∀k,listed.getD k false=true->zcH (it k) k ρ'=zcH (it k) k ρ/\za1 (it k) k ρ'=za1 (it k) k ρ/\(zer (it k) k ρ->zer (it k) k ρ'):=by
      intro k G;have S:k≠i:=λe=>by rw[e,a9] at G;cases G
      have b1:=inv.head k G;have b0:ops[k]?=some (ops[k]'(by have:=hk.le;omega)):=B7 _;have I:=(show Loc (cl C k) (it k) by
        rcases AG k m with h|h
        · rw[c9 k h];exact λ_ _ _=>rfl
        · exact(hg k _ h b1 b0).1) ρ' ρ (λj hj=>hρ j (λe=>W k G (e ▸ hj)))
      cases hit:it k with
      |inl f=>rw[hit] at I;exact⟨I,rfl,λh=>h⟩
      |inr R=>rw[hit] at I;exact⟨by simp only[zcH,hρ k S],by simp only[za1,hρ k S],λh=>by simp only[zer,hρ k S] at h ⊢;rw[show R ρ'=R ρ from I];exact h⟩
    have a6:∀k,(listed.setIfInBounds i true).getD k false=true->k=i\/listed.getD k false=true:=λk A=>by
      by_cases e:i=k
      · exact .inl e.symm
      · rw[getD_set_ne false e] at A;exact .inr A
    have a8:(listed.setIfInBounds i true).getD i false=true:=by
      have:i<listed.size:=by rw[inv.size];exact V
      simp[B1,this]
    refine hK ρ' _ w' ⟨by simpa using inv.size,λk A=>?_,λk i8=>getD_set_true (inv.base k i8),λk o' A b0 j hj=>?_,?_,?_,λk d A H=>?_,λt u hu c6=>?_,λk A=>?_,b3,?_⟩
    · rcases a6 k A with rfl|h
      · exact a7
      · exact inv.head k h
    · rcases a6 k A with rfl|h
      · rw[ho] at b0;cases b0;exact getD_set_true (c8 j hj)
      · exact getD_set_true (inv.down k o' h b0 j hj)
    · cases hd:o.dst <;> simp[Act.put,inv.tsize]
    · cases hd:o.dst <;> simp[Act.put,inv.defs]
    · rcases a6 k A with rfl|h
      · rw[c7] at H
        rw[H];have h7:=hk.low k o ho d H;simp only[Act.put];rw[Cq (by rw[inv.tsize];exact h7),hv]
      · have S:k≠i:=λe=>by rw[e,a9] at h;cases h
        rw[(old k h).1];have e8:=(hk.slot i o ho b8 a7 k (inv.head k h) S d H).1;have:=inv.s1 k d h H;cases hd:o.dst with
        |none=>exact this
        |some d'=>
          rw[hd] at e8;simp only[Act.put];rw[Bx (λe=>e8 (by rw[e]))];exact this
    · have h1:=inv.s2 t u hu (λk G=>c6 k (getD_set_true G))
      have h2:=c6 i a8;rw[c7] at h2;cases hd:o.dst with
      |none=>exact h1
      |some d'=>
        rw[hd] at h2;simp only[Act.put];rw[Bx (λe=>h2 (by rw[e]))];exact h1
    · rcases a6 k A with rfl|h
      · exact hr
      · exact(old k h).2.2 (inv.rel k h)
    · refine hh.perm ?_
      have b7:∀k,(listed.setIfInBounds i true).getD k false=(Nat.beq k i || O k):=λk=>by
        by_cases e:i=k
        · subst e;rw[a8,zha];rfl
        · rw[getD_set_ne false e,zaY.2 (λe'=>e e'.symm:k≠i),B];rfl
      have f8:∀k,k<n->((listed.setIfInBounds i true).getD k false && !zgA E (λk=>(listed.setIfInBounds i true).getD k false) n k)=(Nat.beq k i || (pr k && !(cl E i).contains k)):=λk b1=>by
        by_cases e:k=i
        · subst e
          rw[a8,zha,Bool.true_or,B2,B4];refine zd0.2 λj hj U b2=>?_;have e6:=he.sub j k hj b2;rcases a6 j U with rfl|h
          · exact b5 e6
          · exact W j h e6
        · rw[b7 k,zaY.2 e,BO,BO,b4]
          simp only;cases G:O k
          · simp
          · rw[B2,B2]
            rw[CN,A8,B4,B4,B4,zd0,zd0];constructor
            · intro h
              refine⟨λj hj U=>h j hj (by rw[b7 j,U,Dq]),?_⟩;have:=h i a7 a8;simpa using this
            · rintro⟨h1,h2⟩ j hj U
              rcases a6 j U with rfl|h
              · simpa using h2
              · exact h1 j hj (by rw[B];exact h)
      have f9:pr i=false:=by rw[b4];simp only[B,a9];rfl
      have h8:(fm (λk=>(listed.setIfInBounds i true).getD k false && !zgA E (λk=>(listed.setIfInBounds i true).getD k false) n k) (λk=>za1 (it k) k ρ') n).Perm (za1 (it i) i ρ'++(fm (λk=>(zck C E i).contains k) (λk=>za1 (it k) k ρ) i++fm (λk=>pr k && !(zbn C E i).contains k) (λk=>za1 (it k) k ρ) n)):=by
        rw[zfM (p':=λk=>Nat.beq k i || (pr k && !(cl E i).contains k)) (f':=λk=>za1 (it k) k ρ') n (λk b1=>⟨f8 k b1,λ_=>rfl⟩)];have h1:=zfA (p:=λk=>Nat.beq k i || (pr k && !(cl E i).contains k)) (q:=λk=>Nat.beq k i) (r:=λk=>pr k && !(cl E i).contains k) (f:=λk=>za1 (it k) k ρ') n (λk _=>by
          by_cases e:k=i
          · subst e;rw[zha,f9];exact⟨rfl,rfl⟩
          · rw[zaY.2 e];simp)
        rw[zoe i n a7] at h1;refine h1.trans (BC _ ?_);rw[zfM (p':=λk=>pr k && !(cl E i).contains k) (f':=λk=>za1 (it k) k ρ) n (λk _=>⟨rfl,λh=>(old k (by
          rw[A8,b4] at h;simp only[A8] at h;rw[B] at h;exact h.1.1)).2.1⟩)]
        have h2:=zfA (p:=λk=>pr k && !(cl E i).contains k) (q:=λk=>(zck C E i).contains k) (r:=λk=>pr k && !(zbn C E i).contains k) (f:=λk=>za1 (it k) k ρ) n (λk _=>by
          unfold zck;cases hv:(zbn C E i).contains k
          · have c0:k∉zbn C E i:=by simpa using hv
            have hl:((zbn C E i).filter λk=>!(cl E i).contains k).contains k=false:=by
              rw[Co];intro h;rw[CT,Bh] at h;exact c0 h.1
            rw[hl];cases hp:pr k
            · simp
            · have:(cl E i).contains k=false:=by
                cases J:(cl E i).contains k
                · rfl
                · exact absurd (e0 k hp (he.sub i k a7 (by simpa using J))) c0
              rw[this];exact⟨rfl,rfl⟩
          · have c0:k∈zbn C E i:=by simpa using hv
            rw[c1 k c0];cases J:(cl E i).contains k
            · have:((zbn C E i).filter λk=>!(cl E i).contains k).contains k=true:=by
                rw[CT,Bh];exact⟨c0,by rw[J];rfl⟩
              rw[this];exact⟨rfl,rfl⟩
            · have:((zbn C E i).filter λk=>!(cl E i).contains k).contains k=false:=by
                rw[Co];intro h;rw[CT,Bh] at h;rw[J] at h;cases h.2
              rw[this];exact⟨rfl,rfl⟩)
        rw[zlj (p:=λk=>(zck C E i).contains k) (j:=i) (λk d8=>by
          cases J:(zck C E i).contains k
          · rfl
          · have e3:k∈zck C E i:=by simpa using J
            unfold zck at e3;have:=(hk.clo i o ho k (c2 k (Bh.1 e3).1)).1;omega) n q_o] at h2
        exact h2
      have j0:zfU Z (λk=>(listed.setIfInBounds i true).getD k false) L0=zdb C Z L0 i++zgc C Z O L0 i:=by
        cases Z with
        |none=>simp[zfU,zdb,zgc]
        |some t=>
          simp only[zfU,zdb,zgc];rw[b7 t];by_cases e:i=t
          · subst e
            have:(cl C i).contains i=false:=by
              rw[Co];intro h;exact b5 (by simpa using h)
            rw[zha,this];simp
          · rw[zaY.2 e,zaY.2 (λe'=>e e'.symm:t≠i),BO,BO]
            cases J:(cl C t).contains i
            · simp
            · have:O t=false:=by
                cases V:O t
                · rfl
                · exfalso;rw[B] at V;exact W t V (by simpa using J)
              rw[this];simp
      have h3:=zen (it:=it) (ts:=zck C E i) (ρ:=ρ) (L:=zdb C Z L0 i) i;refine List.Perm.trans ?_ (Ak _ h8.symm);rw[j0];simp only[AI];refine BC _ ?_;refine(Ak _ h3).trans ?_;simp only[AI];refine BC _ ?_;refine List.Perm.trans ?_ Aj;simp only[AI];exact Ay _
  have done:∀v L' w',(match it i with
     | .inl v=>Det (v ρ) (zaq (zck C E i) (rsT it i) ρ (zdb C Z L0 i))
     | .inr R=>λv L'=>∃Nw,L'=Nw++zaq (zck C E i) (rsT it i) ρ (zdb C Z L0 i)/\R ρ v Nw) v L'->Keep M w0 w'->
      Holds w0.heap.size M (L'++(zgc C Z O L0 i++Y++fm (λk=>pr k && !(zbn C E i).contains k) (λk=>za1 (it k) k ρ) n)) w'->K (a.put o.dst v) w':=by
    intro v L' w' hp b3 hh;have I:=b6.1;have fin:=fin;cases hit:it i with
    |inl f=>
      rw[hit] at hp fin;obtain⟨e1,e2⟩:=hp;subst e1;subst e2;exact fin ρ _ w' (λ_ _=>rfl) rfl trivial b3 hh
    |inr R=>
      rw[hit] at hp fin I;obtain⟨Nw,e,hR⟩:=hp;subst e;refine fin (λk=>if k=i then (v,Nw) else ρ k) v w' (λk A=>by simp[A]) (by simp[zcH]) ?_ b3 (by simpa [za1] using hh);have hl:=I (λk=>if k=i then (v,Nw) else ρ k) ρ (λk A=>by
        have:k≠i:=λe=>b5 (e ▸ A);simp[this])
      simp only at hl;simp only[zer,if_true];rw[hl];exact hR
  unfold wpOpIn;rw[ho];simp only;rcases i5 with ⟨hw,j1⟩|⟨hw,hu⟩
  · rw[if_pos (zby b9.agr hw)]
    exact j1 a w _ K Q b9 (λv w' L' hp b3 hh=>done v L' w' hp b3 hh)
  · rw[if_neg (by rw[zby b9.agr hw];decide)]
    exact⟨λ_ _=>trivial,done undef _ w hu b9.keep b9.hold⟩
theorem zAc{Ds:List Nat}(hk:DOkA ops m n N C)(he:EOk m n C E Z)(b8:m<=n)(H:∀k,k<m->it k= .inl λ_=>undef)(hg:∀i o,m<=i->i<n->ops[i]?=some o->zgy m P ro N w0 M ds ops C E Z fr L0 it i o)
    (J:∀ρ,zbo (List.range n) (rsT it n) ρ->SyA P ro N w0 M ds ops Q n (ops.toList.drop n) (frA m ops it fr ρ n) (zaq (zjF E n) (rsT it n) ρ (zhx Z L0))):
    ∀(q:Nat) (listed:Array Bool) (ρ:Env) (a:Act) (w:World),DInvE ops m n E Z (Ds.map dob) fr L0 it N w0 M (Ds.map col++ds) listed ρ a w->unl (λk=>listed.getD k false) ops.size=q->wpAnyIn (FW ro) 0 P .any ops Q q listed a w:=by
  intro q
  induction q with
  |zero=>
    intro listed ρ a w inv hu;have G:=zks _ hu;have hn:n=ops.size:=by
      rcases AG n ops.size with h|h
      · have:=inv.head n (G n h);omega
      · have:=hk.le;omega
    exact tailAt inv (λk b7=>G k q_o) 0 q_o
  |succ f ih=>
    intro listed ρ a w inv hu;by_cases hh:∀k,k<n->listed.getD k false=true
    · have b9:unl (λk=>listed.getD k false) ops.size+n=ops.size:=by
        have key:∀m,n<=m->m<=ops.size->unl (λk=>listed.getD k false) m+n=m:=by
          intro m
          induction m with
          | zero => intro V _; obtain rfl : n = 0 := q_o
                    rfl
          |succ m ihm=>
            intro V h2;by_cases e:n=m+1
            · subst e
              have hz:∀j,j<=m+1->unl (λk=>listed.getD k false) j=0:=by
                intro j
                induction j with
                |zero=>intro _;rfl
                |succ j ihj=>intro I;simp only[unl];rw[hh j q_o,ihj q_o];rfl
              rw[hz _ (A7 _)];omega
            · simp only[unl]
              have:listed.getD m false=false:=by
                cases A:listed.getD m false
                · rfl
                · have:=inv.head m A;omega
              rw[this];have:=ihm q_o q_o;simp only[cond_false];omega
        exact key _ hk.le (A7 _)
      exact tailAt inv hh (f+1) q_o
    · refine⟨λR=>?_,λi hi=>?_⟩
      · exfalso
        -- the least head that has not been carried out could be
        apply hh;intro k
        induction k using Nat.strongRecOn with
        |_ k b6=>
          intro r;cases A:listed.getD k false with
          |true=>rfl
          |false=>
            exfalso;have K:k<ops.size:=by have:=hk.le;omega
            have S:ops[k]?=some ops[k]:=B7 K;have:k∈Region.ready .any ops listed:=mem_ready.2 ⟨by
              simp only[B1] at A ⊢;rw[B7 (by rw[inv.size];exact K)] at A ⊢;simpa using A,_,S,λe he W=>by
              have hp:=hk.acyc k _ S e.on (zdX.2 ⟨e,he,W,rfl⟩);exact b6 e.on hp q_o⟩
            rw[R] at this;cases this
      · obtain⟨V,o,ho,B⟩:=mem_ready.1 hi
        have b2:=zbQ V;have O:i<ops.size:=(Af.1 ho).1;have a9:i<n:=by
          rcases AG i n with h|h
          · exact h
          · exfalso
            apply hh;intro k r;have a6:=znI hk (p:=λk=>listed.getD k false) inv.down i o ho (λj I=>by
              obtain⟨e,he,A,rfl⟩:=zdX.1 I;exact B e he A)
            exact a6 k (hk.tail i o ho q_o h k r)
        refine zzC hk he H hg inv hi a9 (λρ' a' w' U=>ih _ ρ' a' w' U ?_);have:=zlX (p:=λk=>listed.getD k false) (p':=λk=>(listed.setIfInBounds i true).getD k false) (i:=i) b2 (by
          have:i<listed.size:=by rw[inv.size];exact O
          simp[B1,this]) (λk b1=>getD_set_ne false (λe=>b1 e.symm)) ops.size O
        omega
where
  tailAt {listed:Array Bool}{ρ:Env}{a:Act}{w:World}(inv:DInvE ops m n E Z (Ds.map dob) fr L0 it N w0 M (Ds.map col++ds) listed ρ a w) (hh:∀k,k<n->listed.getD k false=true) (q:Nat) (hf:q+n=ops.size):wpAnyIn (FW ro) 0 P .any ops Q q listed a w:=by
    have a8:q=ops.size-n:=q_o;subst a8;refine J ρ (zgP n λk r _=>inv.rel k (hh k r)) (λj=>by simp) a w listed ⟨Ds,inv.defs,inv.tsize,λt v hv=>?_,inv.keep,inv.hold.perm ?_⟩ inv.size (λk _=>?_)
    · rcases zjZ n hv with ⟨k,r,b0,rfl⟩|⟨b5,a7⟩
      · exact inv.s1 k t (hh k r) b0
      · exact inv.s2 t v a7 (λk b3=>b5 k (inv.head k b3))
    · have b4:zfU Z (λk=>listed.getD k false) L0=zhx Z L0:=by
        cases Z with
        |none=>rfl
        |some t=>simp only[zfU,zhx];rw[hh t (he.base t rfl).1];rfl
      rw[b4,<-AI];refine Ak _ ?_;refine List.Perm.trans ?_ (zen (it:=it) (ts:=zjF E n) (ρ:=ρ) (L:=zhx Z L0) n).symm;rw[zfM (p:=λk=>listed.getD k false && !zgA E (λk=>listed.getD k false) n k) (p':=λk=>(zjF E n).contains k) n (λk r=>⟨by
        rw[hh k r,B2,CN,B4,zd0,CT];unfold zjF;rw[Bh,B4,DO,Az];constructor
        · intro h;exact⟨r,λj I X=>h j (Az.1 I) (hh j (Az.1 I)) (by simpa using X)⟩
        · rintro⟨_,h⟩ j I _ X
          exact h j (Az.2 I) (by simpa using X),λ_=>rfl⟩)]
    · cases A:listed.getD k false with
      |true=>exact(zaS.2 (inv.head k A)).symm
      |false=>
        rcases AG k n with h|h
        · rw[hh k h] at A;cases A
        · exact(zcf.2 h).symm
theorem zc1(k n:Nat)(C E:List (List Nat))(Z:Option Nat){rest:List Oper}(he:m+k=n)(R:zmn ops m n N C=true)(V:zrU m n C E Z=true)
  (h:DHE P ro N w0 M ds ops (SyA P ro N w0 M ds ops Q n) C E Z L0 k m rest (λ_=>fr) []):SyA P ro N w0 M ds ops Q m rest fr L0:=by
 obtain rfl:k=n-m:=q_o;have a6:m<=n:=q_o;rintro hr a w listed ⟨Ds,U,J⟩ a8 hl;have hk:=zoc R;have he:=zrx V;have O:∀k,k<m->(λ_=> .inl λ_=>undef:Nat->Item) k= .inl λ_=>undef:=λ_ _=>rfl;obtain⟨it,h1,K,h3⟩:=DHE.items (m:=m) (P:=P) (ro:=ro) (N:=N) (w0:=w0) (M:=M) (ds:=ds) (ops:=ops) (C:=C) (E:=E) (Z:=Z) (fr:=fr) (L0:=L0) (n-m) m rest (λ_=> .inl λ_=>undef) (A7 _) hr (by
  rw[zqa O m (A7 _)];simpa only[zqF m (A7 _)] using h)
 have e:m+(n-m)=n:=q_o;rw[e] at K h3;have r:∀k,k<m->it k= .inl λ_=>undef:=λk q=>h1 k q;have hg:∀i o,m<=i->i<n->ops[i]?=some o->zgy m P ro N w0 M ds ops C E Z fr L0 it i o:=λi o B X H=>by
  obtain⟨o',I,W⟩:=K i B X;rw[H] at I;cases I;exact W
 have S:∀j,(rest.drop (n-m))[j]?=ops[n+j]?:=λj=>by rw[Bp,hr];congr 1;omega
 have A:∀k,listed.getD k false=true->k<m:=λk q=>by
  rcases AG k ops.size with h|h
  ·rw[hl k h] at q;exact zaS.1 q
  ·simp[B1,Array.getElem?_eq_none (show listed.size<=k by omega)] at q
 have G:∀k,k<m->listed.getD k false=true:=λk q=>by rw[hl k (by have:=hk.le;omega)];exact zaS.2 q
 refine zAc (Ds:=Ds) hk he a6 r (λi o B X H=>hg i o B X H) (λρ hρ=>(h3 ρ hρ).rest S) _ _ (λ_=>(undef,[])) a _ ⟨a8,λk q=>by have:=A k q;omega,G,λk o q H j hj=>G j (by have:=hk.acyc k o H j hj;have:=A k q;omega),J.size,U,λk d q hd=>?_,
  λt v hv _=>J.agr t v hv,λk q=>?_,J.keep,?_⟩ ?_
 ·rw[zqR (A k q)] at hd;cases hd
 ·rw[r k (A k q)];trivial
 ·have:∀j,fm (λk=>listed.getD k false && !zgA E (λk=>listed.getD k false) n k) (λk=>za1 (it k) k (λ_=>(undef,[]))) j= []:=by
   intro j
   induction j with
   |zero=>rfl
   |succ j ih=>
    simp only[fm];rw[ih];cases hb:listed.getD j false
    ·rfl
    ·rw[r j (A j hb)];simp[za1]
  rw[this,Ag];have a7:zfU Z (λk=>listed.getD k false) L0=L0:=by
   cases Z with
   |none=>rfl
   |some t=>
    simp only[zfU];cases hb:listed.getD t false
    ·rfl
    ·have h1:=A t hb;have K:=(he.base t rfl).2;omega
  rw[a7];exact J.hold
 ·have:∀j,j<=ops.size->unl (λk=>listed.getD k false) j=j-m:=by
   intro j
   induction j with
   |zero=>intro _;simp[unl]
   |succ j ih=>
    intro hj;simp only[unl];rw[ih q_o,hl j q_o];rcases AG j m with h|h
    ·rw[zaS.2 h];simp only[cond_true];omega
    ·rw[zcf.2 h];simp only[cond_false];omega
  exact this _ (A7 _)
variable {T:List Oper->Fr->List Res->Prop}{k i d:Nat}{o:Oper}{rest:List Oper}{F:Env->Fr}{rs:List (Nat×(Env->Value->List Res->Prop))}
theorem dcE{u:Value}(q:∀ρ,zbo (cl C i) rs ρ->OpT P ro N w0 M ds o (only (o.looksAt ops) (get (F ρ))) (zaq (zbn C E i) rs ρ (zcj C Z L0 i)) (Det u (zaq (zbn C E i) rs ρ (zcj C Z L0 i))))(r:∀ρ,zak ops o (only (o.looksAt ops) (get (F ρ)))=some true:=by exact λ_=>rfl)(j:o.dst=some d:=by exact rfl)
  (hv:zbn C E i=zck C E i:=by exact rfl)(hb:zcj C Z L0 i=zdb C Z L0 i:=by exact rfl)
  (k:DHE P ro N w0 M ds ops T C E Z L0 n (i+1) rest (λρ=>(d,u)::F ρ) rs):DHE P ro N w0 M ds ops T C E Z L0 (n+1) i (o::rest) F rs:=
 .inl ⟨λ_=>u,λ_ _ _=>rfl,λρ w=> .inl ⟨r ρ,by have:=q ρ w;rw[<-hv,<-hb];exact this⟩,by rw[j];exact k⟩
theorem zq6{u:Env->Value}(r:∀ρ,zbo (cl C i) rs ρ->OpT P ro N w0 M ds o (only (o.looksAt ops) (get (F ρ))) (zaq (zbn C E i) rs ρ (zcj C Z L0 i)) (Det (u ρ) (zaq (zck C E i) rs ρ (zdb C Z L0 i))))(A:∀ρ,zak ops o (only (o.looksAt ops) (get (F ρ)))=some true)(q:o.dst=some d)
  (w:∀ρ j:Env,(∀k,k∈cl C i->ρ k=j k)->u ρ=u j)(h:DHE P ro N w0 M ds ops T C E Z L0 k (i+1) rest (λρ=>(d,u ρ)::F ρ) rs):DHE P ro N w0 M ds ops T C E Z L0 (k+1) i (o::rest) F rs:=
 .inl ⟨u,w,λρ B=> .inl ⟨A ρ,r ρ B⟩,by rw[q];exact h⟩
theorem zkG(q:∀ρ,zak ops o (only (o.looksAt ops) (get (F ρ)))=some false)(j:o.dst=some d)(hv:zbn C E i=zck C E i:=by exact rfl)(hb:zcj C Z L0 i=zdb C Z L0 i:=by exact rfl)
  (h:DHE P ro N w0 M ds ops T C E Z L0 k (i+1) rest (λρ=>(d,undef)::F ρ) rs):DHE P ro N w0 M ds ops T C E Z L0 (k+1) i (o::rest) F rs:=
 .inl ⟨λ_=>undef,λ_ _ _=>rfl,λρ _=> .inr ⟨q ρ,rfl,by rw[hv,hb]⟩,by rw[j];exact h⟩
theorem zfX{R:Env->Value->List Res->Prop}(A:∀ρ q:Env,(∀k,k∈cl C i->ρ k=q k)->R ρ=R q)(w:∀ρ,zbo (cl C i) rs ρ->OpT P ro N w0 M ds o (only (o.looksAt ops) (get (F ρ))) (zaq (zbn C E i) rs ρ (zcj C Z L0 i)) (λv L'=>∃j,L'=j++zaq (zck C E i) rs ρ (zdb C Z L0 i)/\R ρ v j))(B:∀ρ,zak ops o (only (o.looksAt ops) (get (F ρ)))=some true:=by exact λ_=>rfl)(r:o.dst=some d:=by exact rfl)
  (h:DHE P ro N w0 M ds ops T C E Z L0 k (i+1) rest (λρ=>(d,(ρ i).1)::F ρ) ((i,R)::rs)):DHE P ro N w0 M ds ops T C E Z L0 (k+1) i (o::rest) F rs:=
 .inr ⟨R,A,λρ G=> .inl ⟨B ρ,w ρ G⟩,by rw[r];exact h⟩
theorem zfm(h:∀ρ,zbo (List.range i) rs ρ->T rest (F ρ) (zaq (zjF E i) rs ρ (zhx Z L0))):DHE P ro N w0 M ds ops T C E Z L0 0 i rest F rs:=h
variable {L L':List Res}{v:Value}
theorem zaU(k:SyL P ro N w0 M ds ops Q rest ((d,v)::fr) L')(h:OpT P ro N w0 M ds o (get fr) L (Det v L'):=by exact zV)(r:zak ops o (get fr)=some true:=by exact rfl)(q:o.dst=some d:=by exact rfl)(j:Nat.blt d N=true:=by exact rfl):SyL P ro N w0 M ds ops Q (o::rest) fr L:=zc9 h r q j k
theorem zB(k:DH P ro N w0 M ds ops Q C L0 n (i+1) rest (λρ=>(d,v)::F ρ) rs)(q:∀ρ,zbo (cl C i) rs ρ->OpT P ro N w0 M ds o (only (o.looksAt ops) (get (F ρ))) (zaq (cl C i) rs ρ L0) (Det v (zaq (cl C i) rs ρ L0)):=by intro _ _;exact zV)(r:∀ρ,zak ops o (only (o.looksAt ops) (get (F ρ)))=some true:=by exact λ_=>rfl)(j:o.dst=some d:=by exact rfl):DH P ro N w0 M ds ops Q C L0 (n+1) i (o::rest) F rs:=dc q r j k
theorem zw(k:SyL P ro N w0 M ds ops Q rest ((d,v)::fr) L')(h:OpT P ro N w0 M ds o (get fr) L (Det v L'):=by exact za6)(r:zak ops o (get fr)=some true:=by exact rfl)(q:o.dst=some d:=by exact rfl)(j:Nat.blt d N=true:=by exact rfl):SyL P ro N w0 M ds ops Q (o::rest) fr L:=zc9 h r q j k
theorem zdz(k:SyL P ro N w0 M ds ops Q rest ((d,v)::fr) L')(h:OpT P ro N w0 M ds o (get fr) L (Det v L'):=by exact zcz)(r:zak ops o (get fr)=some true:=by exact rfl)(q:o.dst=some d:=by exact rfl)(j:Nat.blt d N=true:=by exact rfl):SyL P ro N w0 M ds ops Q (o::rest) fr L:=zc9 h r q j k
theorem zZ(k:SyL P ro N w0 M ds ops Q rest ((d,v)::fr) L')(h:OpT P ro N w0 M ds o (get fr) L (Det v L'):=by exact zas)(r:zak ops o (get fr)=some true:=by exact rfl)(q:o.dst=some d:=by exact rfl)(j:Nat.blt d N=true:=by exact rfl):SyL P ro N w0 M ds ops Q (o::rest) fr L:=zc9 h r q j k
theorem zm(k:SyL P ro N w0 M ds ops Q rest ((d,v)::fr) L')(h:OpT P ro N w0 M ds o (get fr) L (Det v L'):=by first|exact zM|exact zo|exact ze|exact zW)(r:zak ops o (get fr)=some true:=by exact rfl)(q:o.dst=some d:=by exact rfl)(j:Nat.blt d N=true:=by exact rfl):SyL P ro N w0 M ds ops Q (o::rest) fr L:=zc9 h r q j k
theorem zdB(k:DH P ro N w0 M ds ops Q C L0 n (i+1) rest (λρ=>(d,v)::F ρ) rs)(q:∀ρ,zbo (cl C i) rs ρ->OpT P ro N w0 M ds o (only (o.looksAt ops) (get (F ρ))) (zaq (cl C i) rs ρ L0) (Det v (zaq (cl C i) rs ρ L0)):=by intro _ _;first|exact zM|exact zo|exact ze|exact zW)(r:∀ρ,zak ops o (only (o.looksAt ops) (get (F ρ)))=some true:=by exact λ_=>rfl)(j:o.dst=some d:=by exact rfl):DH P ro N w0 M ds ops Q C L0 (n+1) i (o::rest) F rs:=dc q r j k
theorem znz(k:SyL P ro N w0 M ds ops Q rest ((d,v)::fr) L')(h:OpT P ro N w0 M ds o (get fr) L (Det v L'):=by first|exact zfk|exact zgi)(r:zak ops o (get fr)=some true:=by exact rfl)(q:o.dst=some d:=by exact rfl)(j:Nat.blt d N=true:=by exact rfl):SyL P ro N w0 M ds ops Q (o::rest) fr L:=zc9 h r q j k
theorem zaf(k:SyL P ro N w0 M ds ops Q rest ((d,v)::fr) L')(h:OpT P ro N w0 M ds o (get fr) L (Det v L'):=by exact zn)(r:zak ops o (get fr)=some true:=by exact rfl)(q:o.dst=some d:=by exact rfl)(j:Nat.blt d N=true:=by exact rfl):SyL P ro N w0 M ds ops Q (o::rest) fr L:=zc9 h r q j k
theorem zaH(k:SyL P ro N w0 M ds ops Q rest ((d,v)::fr) L')(h:OpT P ro N w0 M ds o (get fr) L (Det v L'):=by first|exact zS|exact zov|exact op_eqNilF|exact zm1|exact zjb|exact zbJ|exact op_eqArr)(r:zak ops o (get fr)=some true:=by exact rfl)(q:o.dst=some d:=by exact rfl)(j:Nat.blt d N=true:=by exact rfl):SyL P ro N w0 M ds ops Q (o::rest) fr L:=zc9 h r q j k
theorem zaJ(k:SyL P ro N w0 M ds ops Q rest ((d,v)::fr) L')(h:OpT P ro N w0 M ds o (get fr) L (Det v L'):=by first|exact zad|exact op_neNil|exact op_neB|exact zco|exact op_neArr)(r:zak ops o (get fr)=some true:=by exact rfl)(q:o.dst=some d:=by exact rfl)(j:Nat.blt d N=true:=by exact rfl):SyL P ro N w0 M ds ops Q (o::rest) fr L:=zc9 h r q j k
theorem zba(k:SyL P ro N w0 M ds ops Q rest ((d,v)::fr) L')(h:OpT P ro N w0 M ds o (get fr) L (Det v L'):=by first|exact zD|exact op_addStr)(r:zak ops o (get fr)=some true:=by exact rfl)(q:o.dst=some d:=by exact rfl)(j:Nat.blt d N=true:=by exact rfl):SyL P ro N w0 M ds ops Q (o::rest) fr L:=zc9 h r q j k
theorem zI(k:SyL P ro N w0 M ds ops Q rest ((d,v)::fr) L')(h:OpT P ro N w0 M ds o (get fr) L (Det v L'):=by first|exact zh2|exact zsJ|exact op_compl)(r:zak ops o (get fr)=some true:=by exact rfl)(q:o.dst=some d:=by exact rfl)(j:Nat.blt d N=true:=by exact rfl):SyL P ro N w0 M ds ops Q (o::rest) fr L:=zc9 h r q j k
theorem zgv(k:SyL P ro N w0 M ds ops Q rest ((d,v)::fr) L')(h:OpT P ro N w0 M ds o (get fr) L (Det v L'):=by first|exact zdq|exact op_nilCheckF)(r:zak ops o (get fr)=some true:=by exact rfl)(q:o.dst=some d:=by exact rfl)(j:Nat.blt d N=true:=by exact rfl):SyL P ro N w0 M ds ops Q (o::rest) fr L:=zc9 h r q j k
theorem za7(k:SyL P ro N w0 M ds ops Q rest ((d,v)::fr) L')(h:OpT P ro N w0 M ds o (get fr) L (Det v L'):=by exact zN)(r:zak ops o (get fr)=some true:=by exact rfl)(q:o.dst=some d:=by exact rfl)(j:Nat.blt d N=true:=by exact rfl):SyL P ro N w0 M ds ops Q (o::rest) fr L:=zc9 h r q j k
theorem zQ(k:SyL P ro N w0 M ds ops Q rest ((d,v)::fr) L')(h:OpT P ro N w0 M ds o (get fr) L (Det v L'):=by first|exact zcV|exact zeE|exact zq|exact zfc|exact zal|exact zf2)(r:zak ops o (get fr)=some true:=by exact rfl)(q:o.dst=some d:=by exact rfl)(j:Nat.blt d N=true:=by exact rfl):SyL P ro N w0 M ds ops Q (o::rest) fr L:=zc9 h r q j k
theorem zaB(k:DH P ro N w0 M ds ops Q C L0 n (i+1) rest (λρ=>(d,v)::F ρ) rs)(q:∀ρ,zbo (cl C i) rs ρ->OpT P ro N w0 M ds o (only (o.looksAt ops) (get (F ρ))) (zaq (cl C i) rs ρ L0) (Det v (zaq (cl C i) rs ρ L0)):=by intro _ _;first|exact zcV|exact zeE|exact zq|exact zfc|exact zal|exact zf2)(r:∀ρ,zak ops o (only (o.looksAt ops) (get (F ρ)))=some true:=by exact λ_=>rfl)(j:o.dst=some d:=by exact rfl):DH P ro N w0 M ds ops Q C L0 (n+1) i (o::rest) F rs:=dc q r j k
theorem zbh(k:SyL P ro N w0 M ds ops Q rest ((d,v)::fr) L')(h:OpT P ro N w0 M ds o (get fr) L (Det v L'):=by first|exact op_convSame|exact op_toStrD|exact zam)(r:zak ops o (get fr)=some true:=by exact rfl)(q:o.dst=some d:=by exact rfl)(j:Nat.blt d N=true:=by exact rfl):SyL P ro N w0 M ds ops Q (o::rest) fr L:=zc9 h r q j k
theorem zbR(k:SyL P ro N w0 M ds ops Q rest ((d,v)::fr) L')(h:OpT P ro N w0 M ds o (get fr) L (Det v L'):=by first|exact zce|exact zc4|exact zeA)(r:zak ops o (get fr)=some true:=by exact rfl)(q:o.dst=some d:=by exact rfl)(j:Nat.blt d N=true:=by exact rfl):SyL P ro N w0 M ds ops Q (o::rest) fr L:=zc9 h r q j k
theorem zbt(k:SyL P ro N w0 M ds ops Q rest ((d,v)::fr) L')(h:OpT P ro N w0 M ds o (get fr) L (Det v L'):=by first|exact zmu|exact zg8|exact zeY rfl (ty rfl) (.inl ⟨rfl,rfl⟩) (zc rfl)|exact zeY rfl (ty rfl) (.inr ⟨_,_,_,rfl,ty rfl⟩) (zc rfl))(r:zak ops o (get fr)=some true:=by exact rfl)(q:o.dst=some d:=by exact rfl)(j:Nat.blt d N=true:=by exact rfl):SyL P ro N w0 M ds ops Q (o::rest) fr L:=zc9 h r q j k
theorem zP(k:SyL P ro N w0 M ds ops Q rest fr L')(h:OpT P ro N w0 M ds o (get fr) L (Det v L'):=by first|exact zG|exact zaO|exact zdI)(q:zak ops o (get fr)=some true:=by exact rfl)(j:o.dst=none:=by exact rfl):SyL P ro N w0 M ds ops Q (o::rest) fr L:=zs0 h q j k
theorem zk{T:Nat}{C:List Value}(k:∀b,SyL P ro N w0 M ds ops Q rest ((d,.pointer (some ⟨b,0,none⟩))::fr) (.blk b T C::L))(h:OpT P ro N w0 M ds o (get fr) L (zpt T C L):=by first|exact zeR|exact zsO|exact zwN)(r:zak ops o (get fr)=some true:=by exact rfl)(q:o.dst=some d:=by exact rfl)(j:Nat.blt d N=true:=by exact rfl):SyL P ro N w0 M ds ops Q (o::rest) fr L:=ya h r q j k
theorem zcT(k:DHE P ro N w0 M ds ops T C E Z L0 n (i+1) rest (λρ=>(d,v)::F ρ) rs)(q:∀ρ,zbo (cl C i) rs ρ->OpT P ro N w0 M ds o (only (o.looksAt ops) (get (F ρ))) (zaq (zbn C E i) rs ρ (zcj C Z L0 i)) (Det v (zaq (zbn C E i) rs ρ (zcj C Z L0 i))):=by intro _ _;first|exact zcV|exact zeE|exact zq|exact zfc|exact zal|exact zf2)(r:∀ρ,zak ops o (only (o.looksAt ops) (get (F ρ)))=some true:=by exact λ_=>rfl)(j:o.dst=some d:=by exact rfl)(hv:zbn C E i=zck C E i:=by exact rfl)(hb:zcj C Z L0 i=zdb C Z L0 i:=by exact rfl):DHE P ro N w0 M ds ops T C E Z L0 (n+1) i (o::rest) F rs:=dcE q r j hv hb k
theorem zb{A B:Prop}(k:B)(f:B->A:=by intro h;(first|refine zaU ?_|refine zw ?_|refine zdz ?_|refine zZ ?_|refine znz ?_|refine za7 ?_|refine zgv ?_|refine zaG rfl rfl rfl ?_);(repeat (first|refine zaU ?_|refine zw ?_|refine zdz ?_|refine zZ ?_|refine znz ?_|refine za7 ?_|refine zgv ?_|refine zaG rfl rfl rfl ?_));exact h):A:=f k
theorem z9{A:Prop}{B:Nat->Prop}(k:∀b,B b)(f:(∀b,B b)->A:=by intro h;refine zk ?_;intro b;(first|refine zaU ?_|refine zw ?_|refine zdz ?_|refine zZ ?_|refine znz ?_|refine za7 ?_|refine zgv ?_|refine zaG rfl rfl rfl ?_);(repeat (first|refine zaU ?_|refine zw ?_|refine zdz ?_|refine zZ ?_|refine znz ?_|refine za7 ?_|refine zgv ?_|refine zaG rfl rfl rfl ?_));exact h b):A:=f k
theorem q_h{p:Prop}(h:p:=by first|exact F1 Ey|exact FT|exact SubR.go|exact Sub.go):p:=h
theorem q_m{p:Prop}(h:p:=by (repeat (first|exact Eu|apply Ew));done):p:=h
theorem q_r{p:Prop}(h:p:=by first|exact zar rfl (zh rfl) Ev ⟨rfl,rfl⟩|exact zar rfl (zh rfl) (by exact FT) ⟨_,_,rfl,rfl⟩|exact zar rfl (zh rfl) (by exact SubR.go) ⟨_,_,rfl,rfl⟩|exact zU rfl (zh rfl) (zh rfl) Ev ⟨rfl,rfl⟩):p:=h
theorem zA{P:Program}{ro:Option Nat}{N:Nat}{w0:World}{M:Nat->Prop}{ds:List Deferred}{Q:Exit->Act->World->Prop}{fr:Fr}{L:List Res}{id:Nat}{l:List Oper}(r:List Nat)(h:SyL P ro N w0 M ds l.toArray Q l fr L)(_:r.contains id=true:=by exact rfl):Sy P ro N w0 M ds (.region id l.toArray false) Q fr L:=zdF h
theorem zf{P:Program}{ro:Option Nat}{N:Nat}{w0:World}{M:Nat->Prop}{ds:List Deferred}{Q:Exit->Act->World->Prop}{fr:Fr}{L:List Res}{l:List Oper}(id:Nat)(h:SyL P ro N w0 M ds l.toArray Q l fr L):Sy P ro N w0 M ds (.region id l.toArray false) Q fr L:=zdF h
theorem zr{w0:World}{M:Nat->Prop}{L:List Res}{F:World->Prop}(h:∀w,Keep M w0 w->F w):∀(w:World) (X:List Res),Keep M w0 w->Holds w0.heap.size M (L++X) w->F w:=λw _ j _=>h w j
theorem q_v{P:Program}{ro:Option Nat}{N:Nat}{w0:World}{M:Nat->Prop}{ds:List Deferred}{Q:Exit->Act->World->Prop}{fr:Fr}{L:List Res}{ops:Array Oper}{rest:List Oper}{o:Oper}{d:Nat}{v:Value}{L':List Res}(h:OpT P ro N w0 M ds o (get fr) L (Det v L'))(k:SyL P ro N w0 M ds ops Q rest ((d,v)::fr) L')(r:zak ops o (get fr)=some true:=by exact rfl)(q:o.dst=some d:=by exact rfl)(j:Nat.blt d N=true:=by exact rfl):SyL P ro N w0 M ds ops Q (o::rest) fr L:=yv h r q j k
theorem q_s{P:Program}{ro:Option Nat}{N:Nat}{w0:World}{M:Nat->Prop}{ds:List Deferred}{Q:Exit->Act->World->Prop}{fr:Fr}{L:List Res}{ops:Array Oper}{rest:List Oper}{o:Oper}{d:Nat}{post:Value->List Res->Prop}(h:OpT P ro N w0 M ds o (get fr) L post)(k:∀v L',post v L'->SyL P ro N w0 M ds ops Q rest ((d,v)::fr) L')(r:zak ops o (get fr)=some true:=by exact rfl)(q:o.dst=some d:=by exact rfl)(j:Nat.blt d N=true:=by exact rfl):SyL P ro N w0 M ds ops Q (o::rest) fr L:=ys h r q j k
theorem q_n{P:Program}{ro:Option Nat}{N:Nat}{w0:World}{M:Nat->Prop}{ds:List Deferred}{Q:Exit->Act->World->Prop}{fr:Fr}{L:List Res}{ops:Array Oper}{rest:List Oper}{o:Oper}{v:Value}{L':List Res}(h:OpT P ro N w0 M ds o (get fr) L (Det v L'))(k:SyL P ro N w0 M ds ops Q rest fr L')(q:zak ops o (get fr)=some true:=by exact rfl)(j:o.dst=none:=by exact rfl):SyL P ro N w0 M ds ops Q (o::rest) fr L:=yn h q j k
theorem q_k{P:Program}{ro:Option Nat}{N:Nat}{w0:World}{M:Nat->Prop}{ds:List Deferred}{Q:Exit->Act->World->Prop}{fr:Fr}{L:List Res}{l:List Oper}{B:Prop}(id:Nat)(k:B)(f:B->SyL P ro N w0 M ds l.toArray Q l fr L:=by exact λk=>zb k):Sy P ro N w0 M ds (.region id l.toArray false) Q fr L:=zdF (f k)
theorem q_x{P:Program}{ro:Option Nat}{N:Nat}{w0:World}{M:Nat->Prop}{ds:List Deferred}{Q:Exit->Act->World->Prop}{fr:Fr}{L:List Res}{ops:Array Oper}{rest:List Oper}{o:Oper}{d:Nat}{v:Value}{L':List Res}{B:Prop}(h:OpT P ro N w0 M ds o (get fr) L (Det v L'))(k:B)(r:zak ops o (get fr)=some true:=by exact rfl)(q:o.dst=some d:=by exact rfl)(j:Nat.blt d N=true:=by exact rfl)(f:B->SyL P ro N w0 M ds ops Q rest ((d,v)::fr) L':=by exact λk=>zb k):SyL P ro N w0 M ds ops Q (o::rest) fr L:=yv h r q j (f k)
theorem q_y{P:Program}{ro:Option Nat}{N:Nat}{w0:World}{M:Nat->Prop}{ds:List Deferred}{Q:Exit->Act->World->Prop}{fr:Fr}{L:List Res}{ops:Array Oper}{rest:List Oper}{o:Oper}{v:Value}{L':List Res}{B:Prop}(h:OpT P ro N w0 M ds o (get fr) L (Det v L'))(k:B)(q:zak ops o (get fr)=some true:=by exact rfl)(j:o.dst=none:=by exact rfl)(f:B->SyL P ro N w0 M ds ops Q rest fr L':=by exact λk=>zb k):SyL P ro N w0 M ds ops Q (o::rest) fr L:=yn h q j (f k)
theorem q_c{w0:World}{M:Nat->Prop}{L:List Res}{F:World->Prop}(h:∀w,F w):∀(w:World) (X:List Res),Keep M w0 w->Holds w0.heap.size M (L++X) w->F w:=λw _ _ _=>h w
theorem q_D{P:Program}{ro:Option Nat}{N:Nat}{w0:World}{M:Nat->Prop}{ds:List Deferred}{ops:Array Oper}{C:List (List Nat)}{L0:List Res}{i n d:Nat}{o:Oper}{rest:List Oper}{F:Env->Fr}{rs:List (Nat×(Env->Value->List Res->Prop))}{u:Value}{Q:Exit->Act->World->Prop}(h:∀ {ρ:Env}{_:zbo (cl C i) rs ρ},OpT P ro N w0 M ds o (only (o.looksAt ops) (get (F ρ))) (zaq (cl C i) rs ρ L0) (Det u (zaq (cl C i) rs ρ L0)))(k:DH P ro N w0 M ds ops Q C L0 n (i+1) rest (λρ=>(d,u)::F ρ) rs)(q:∀ρ,zak ops o (only (o.looksAt ops) (get (F ρ)))=some true:=by exact λ_=>rfl)(j:o.dst=some d:=by exact rfl):DH P ro N w0 M ds ops Q C L0 (n+1) i (o::rest) F rs:=dc (λρ r=> @h ρ r) q j k
theorem q_E{P:Program}{ro:Option Nat}{N:Nat}{w0:World}{M:Nat->Prop}{ds:List Deferred}{ops:Array Oper}{C:List (List Nat)}{L0:List Res}{i n d:Nat}{o:Oper}{rest:List Oper}{F:Env->Fr}{rs:List (Nat×(Env->Value->List Res->Prop))}{u:Value}{E:List (List Nat)}{Z:Option Nat}{T:List Oper->Fr->List Res->Prop}(h:∀ {ρ:Env}{_:zbo (cl C i) rs ρ},OpT P ro N w0 M ds o (only (o.looksAt ops) (get (F ρ))) (zaq (zbn C E i) rs ρ (zcj C Z L0 i)) (Det u (zaq (zbn C E i) rs ρ (zcj C Z L0 i))))(k:DHE P ro N w0 M ds ops T C E Z L0 n (i+1) rest (λρ=>(d,u)::F ρ) rs)(q:∀ρ,zak ops o (only (o.looksAt ops) (get (F ρ)))=some true:=by exact λ_=>rfl)(j:o.dst=some d:=by exact rfl)(hv:zbn C E i=zck C E i:=by exact rfl)(hb:zcj C Z L0 i=zdb C Z L0 i:=by exact rfl):DHE P ro N w0 M ds ops T C E Z L0 (n+1) i (o::rest) F rs:=dcE (λρ r=> @h ρ r) q j hv hb k
end Go.Sy
