/- The logic of walks: a region whose order is open, walked in parts; between them, operations that turn what is there. -/
import Derived.Test.YtdnlngbjpdbffaaGreatDoorLJ04
set_option linter.all false
section
namespace Go.Sy
open Go
def dstB (m:Nat) (ops:Array Oper) (i:Nat):Option Nat:=bif Nat.blt i m then none else dstOf ops i
theorem zk5 {m i:Nat}{ops:Array Oper}(h:m<=i):dstB m ops i=dstOf ops i:=by unfold dstB;rw [za5.2 h];rfl
theorem zlo {m i:Nat}{ops:Array Oper}(h:i < m):dstB m ops i=none:=by unfold dstB;rw [zaf.2 h];rfl
def drawOkA (ops:Array Oper) (m n N:Nat) (C:List (List Nat)):Bool:=
 Nat.ble n ops.size &&
 (List.range ops.size).all λi=>match ops[i]? with
  |none=>true
  |some o=>
   (pre o).all (λj=>Nat.blt j i) && (match o.dst with|none=>true|some d=>Nat.blt d N) &&
   (cl C i).all (λj=>Nat.blt j i && ((pre o).contains j || (pre o).any λk=>(cl C k).contains j)) &&
   (bif Nat.blt i m then true else bif Nat.blt i n then (List.range n).all (λj=>Nat.beq i j || match dstB m ops j with
    |none=>true
    |some d=>!(o.dst == some d) && (!((o.looksAt ops).contains d) || (bif Nat.blt j i then (cl C i).contains j else (cl C j).contains i)))
   else (List.range n).all (cl C i).contains)
section
variable {P:Program}{ro:Option Nat}{N:Nat}{w0:World}{M:Nat->Prop}{ds:List Deferred}
def frA (m:Nat) (ops:Array Oper) (it:Nat->Item) (fr:Fr) (ρ:Env):Nat->Fr
 |0=>fr
 |j+1=>ext (dstB m ops j) (itVal (it j) j ρ) (frA m ops it fr ρ j)
theorem zly {m:Nat}{ops:Array Oper}{it:Nat->Item}{fr:Fr}{ρ:Env} : ∀j,j<=m->frA m ops it fr ρ j=fr
 |0,_=>rfl
 |j+1,h=>by simp only [frA];rw [zlo q_o,zly j q_o];rfl
theorem zkO {m:Nat}{it:Nat->Item}(hb: ∀k,k < m->it k= .inl λ_=>undef): ∀j,j<=m->rsT it j= []
 |0,_=>rfl
 |j+1,h=>by simp only [rsT];rw [hb j q_o];exact zkO hb j q_o
theorem zf5 {m:Nat}{ops:Array Oper}{it:Nat->Item}{fr:Fr}{ρ:Env}{t:Nat}{v:Value} : ∀j,get (frA m ops it fr ρ j) t=some v->
  (∃k,k < j/\dstB m ops k=some t/\v=itVal (it k) k ρ)\/((∀k,k < j->dstB m ops k≠some t)/\get fr t=some v)
 |0,h=> .inr ⟨λk hk=>by omega,h⟩
 |j+1,h=>by
  simp only [frA] at h;cases hd:dstB m ops j with
  |none=>
   rw [hd] at h;rcases zf5 j h with ⟨k,h1,h2,h3⟩|⟨h1,h2⟩
   ·exact .inl ⟨k,by omega,h2,h3⟩
   ·refine .inr ⟨λk hk=>?_,h2⟩;by_cases e:k=j
    ·subst e;rw [hd];exact λe=>by cases e
    ·exact h1 k q_o
  |some d=>
   rw [hd] at h;simp only [ext,get] at h;cases hb:Nat.beq d t with
   |true=>
    rw [hb] at h;simp only [cond_true,Option.some.injEq] at h;have:=Nat.eq_of_beq_eq_true hb;subst this;exact .inl ⟨j,by omega,hd,h.symm⟩
   |false=>
    rw [hb] at h;simp only [cond_false] at h;have hne:=Nat.ne_of_beq_eq_false hb;rcases zf5 j h with ⟨k,h1,h2,h3⟩|⟨h1,h2⟩
    ·exact .inl ⟨k,by omega,h2,h3⟩
    ·refine .inr ⟨λk hk=>?_,h2⟩;by_cases e:k=j
     ·subst e;rw [hd];exact λe=>hne (Option.some.inj e)
     ·exact h1 k q_o
structure DOkA (ops:Array Oper) (m n N:Nat) (C:List (List Nat)):Prop where
 le:n<=ops.size
 acyc: ∀(i:Nat) (o:Oper),ops[i]?=some o-> ∀j∈pre o,j < i
 low: ∀(i:Nat) (o:Oper),ops[i]?=some o-> ∀d,o.dst=some d->d < N
 clo: ∀(i:Nat) (o:Oper),ops[i]?=some o-> ∀j∈cl C i,j < i/\(j∈pre o\/ ∃k∈pre o,j∈cl C k)
 slot: ∀(i:Nat) (o:Oper),ops[i]?=some o->m<=i->i < n-> ∀j,j < n->j≠i-> ∀d,dstB m ops j=some d->o.dst≠some d/\(d∈o.looksAt ops->(j < i->j∈cl C i)/\(i < j->i∈cl C j))
 tail: ∀(i:Nat) (o:Oper),ops[i]?=some o->m<=i->n<=i-> ∀j,j < n->j∈cl C i
theorem ziW {ops:Array Oper}{m n:Nat}{C:List (List Nat)}(h:drawOkA ops m n N C=true):DOkA ops m n N C:=by
 unfold drawOkA at h;rw [Bool.and_eq_true,List.all_eq_true] at h;obtain ⟨h0,h1⟩:=h;have get1: ∀i o,ops[i]?=some o->_:=λi o ho=>by
  have hlt:i < ops.size:=(Array.getElem?_eq_some_iff.1 ho).1;have:=h1 i (List.mem_range.2 hlt);rw [ho] at this;simp only [Bool.and_eq_true] at this;exact this
 refine ⟨Nat.le_of_ble_eq_true h0,λi o ho j hj=>?_,λi o ho d hd=>?_,λi o ho j hj=>?_,λi o ho hmi hi j hj hji d hd=>?_,λi o ho hmi hi j hj=>?_⟩
 ·have:=(get1 i o ho).1.1.1;rw [List.all_eq_true] at this;exact zaf.1 (this j hj)
 ·have:=(get1 i o ho).1.1.2;rw [hd] at this;exact zaf.1 this
 ·have:=(get1 i o ho).1.2;rw [List.all_eq_true] at this;have:=this j hj;rw [Bool.and_eq_true,Bool.or_eq_true,List.any_eq_true] at this;refine ⟨zaf.1 this.1,this.2.imp q_p λ⟨k,hk,hc⟩=>⟨k,hk,by simpa using hc⟩⟩
 ·have:=(get1 i o ho).2;rw [za5.2 hmi,cond_false,zaf.2 hi,cond_true,List.all_eq_true] at this;have:=this j (List.mem_range.2 hj);rw [zav.2 (λe=>hji e.symm),Bool.false_or,hd] at this;simp only [Bool.and_eq_true,Bool.or_eq_true,Bool.not_eq_true'] at this;refine ⟨by simpa using this.1,λhl=>?_⟩;have h2:=this.2.resolve_left (by simp [hl]);refine ⟨λhji'=>?_,λhij=>?_⟩
  ·rw [zaf.2 hji',cond_true] at h2;simpa using h2
  ·rw [za5.2 q_o,cond_false] at h2;simpa using h2
 ·have:=(get1 i o ho).2;rw [za5.2 hmi,cond_false,za5.2 hi,cond_false,List.all_eq_true] at this;simpa using this j (List.mem_range.2 hj)
theorem zjM {ops:Array Oper}{m n:Nat}{C:List (List Nat)}(hk:DOkA ops m n N C) {p:Nat->Bool}(down: ∀k o,p k=true->ops[k]?=some o-> ∀j∈pre o,p j=true):
  ∀i o,ops[i]?=some o->(∀j∈pre o,p j=true)-> ∀j∈cl C i,p j=true:=by
 intro i
 induction i using Nat.strongRecOn with
 |_ i ih=>
  intro o ho hp j hj;obtain ⟨_,h|⟨k,h1,h2⟩⟩:=hk.clo i o ho j hj
  ·exact hp j h
  ·have hki:=hk.acyc i o ho k h1;have hlt:i < ops.size:=(Array.getElem?_eq_some_iff.1 ho).1;have hok:ops[k]?=some ops[k]:=Array.getElem?_eq_getElem q_o;exact ih k hki _ hok (down k _ (hp k h1) hok) j h2
section sound
variable {ops:Array Oper}{m n:Nat}{C:List (List Nat)}{fr:Fr}{L0:List Res}{it:Nat->Item}{Q:Exit->Act->World->Prop}{dd:List Deferred}
def SyA (P:Program) (ro:Option Nat) (N:Nat) (w0:World) (M:Nat->Prop) (ds:List Deferred) (ops:Array Oper) (Q:Exit->Act->World->Prop) (q:Nat) (rest:List Oper) (fr:Fr) (L:List Res):Prop:=
 (∀j,rest[j]?=ops[q+j]?)-> ∀a w (listed:Array Bool),StD N w0 M ds (get fr) L a w->listed.size=ops.size->(∀k,k < ops.size->listed.getD k false=Nat.blt k q)->wpAnyIn (FW ro) 0 P .any ops Q (ops.size - q) listed a w
theorem SyA.rest {q:Nat}{r r':List Oper}{fr':Fr}{L':List Res}(h:SyA P ro N w0 M ds ops Q q r fr' L') (hr: ∀j,r[j]?=ops[q+j]?):SyA P ro N w0 M ds ops Q q r' fr' L':=λ_=>h hr
theorem zbj {id:Nat}{l:List Oper}(hm:P.follows .mixedOrders=true) (h:SyA P ro N w0 M ds l.toArray Q 0 l fr L0):Sy P ro N w0 M ds (.region id l.toArray true) Q fr L0:=by
 rintro a w ⟨Ds,hds,hs⟩;refine wpIn_region_any hm ?_;refine h (λj=>by simp) a _ (Array.replicate l.toArray.size false) ⟨Ds,hds,hs.size,hs.agr,⟨hs.keep.os,hs.keep.tape,hs.keep.output,hs.keep.size,hs.keep.block⟩,⟨λr hr=>Res.holds_congr (hs.hold.all r hr) (λ_ _=>rfl),hs.hold.apart,hs.hold.mine⟩⟩ q_p λk _=>?_;rw [za5.2 (Nat.zero_le _)];simp only [Array.getD_eq_getD_getElem?,Array.getElem?_replicate];split <;> rfl
theorem zbk {q:Nat}{rest:List Oper}(C:List (List Nat)) (hck:drawOk ops q N C=true) (h:SyL P ro N w0 M ds ops Q rest fr L0):SyA P ro N w0 M ds ops Q q rest fr L0:=
 λhr a w listed hs hsz hl=>dtail (zek hck) _ q rest listed a w (by have:=(zek hck).le;omega) (Nat.le_refl _) hsz hl hr (h a w hs)
end sound
section use
variable {ops:Array Oper}{T:List Oper->Fr->List Res->Prop}{C:List (List Nat)}{L0:List Res}{k i d n:Nat}{o:Oper}{rest:List Oper}{F:Env->Fr}{rs:List (Nat×(Env->Value->List Res->Prop))}
end use
end
def visE (C E:List (List Nat)) (i:Nat):List Nat:=(cl C i).filter λk=>!((cl C i).any λj=>(cl E j).contains k)
def leftE (C E:List (List Nat)) (i:Nat):List Nat:=(visE C E i).filter λk=>!(cl E i).contains k
def visN (E:List (List Nat)) (n:Nat):List Nat:=(List.range n).filter λk=>!((List.range n).any λj=>(cl E j).contains k)
def baseE (C:List (List Nat)) (Z:Option Nat) (L0:List Res) (i:Nat):List Res:=match Z with
 |none=>L0
 |some t=>bif Nat.beq i t || (cl C t).contains i then L0 else []
def leftB (C:List (List Nat)) (Z:Option Nat) (L0:List Res) (i:Nat):List Res:=match Z with
 |none=>L0
 |some t=>bif (cl C t).contains i then L0 else []
def baseN (Z:Option Nat) (L0:List Res):List Res:=match Z with
 |none=>L0
 |some _=>[]
def nowB (Z:Option Nat) (p:Nat->Bool) (L0:List Res):List Res:=match Z with
 |none=>L0
 |some t=>bif p t then [] else L0
def restB (C:List (List Nat)) (Z:Option Nat) (p:Nat->Bool) (L0:List Res) (i:Nat):List Res:=match Z with
 |none=>[]
 |some t=>bif Nat.beq i t || (cl C t).contains i then [] else bif p t then [] else L0
def eatOk (m n:Nat) (C E:List (List Nat)) (Z:Option Nat):Bool:=
 ((List.range n).all λi=>(cl E i).all λk=>(cl C i).contains k && ((List.range n).all λj=>Nat.beq i j || (!(cl E j).contains k && (!(cl C j).contains k || (cl C i).contains j || (cl C j).contains i)))) &&
 (match Z with|none=>true|some t=>Nat.blt t n && Nat.ble m t)
structure EOk (m n:Nat) (C E:List (List Nat)) (Z:Option Nat):Prop where
 sub: ∀i k,i < n->k∈cl E i->k∈cl C i
 lone: ∀i j k,i < n->j < n->k∈cl E i->i≠j->k ∉ cl E j/\(k∈cl C j->j∈cl C i\/i∈cl C j)
 base: ∀t,Z=some t->t < n/\m<=t
theorem zmh {m n:Nat}{C E:List (List Nat)}{Z:Option Nat}(h:eatOk m n C E Z=true):EOk m n C E Z:=by
 unfold eatOk at h;rw [Bool.and_eq_true,List.all_eq_true] at h;obtain ⟨h1,h2⟩:=h;refine ⟨λi k hi hk=>?_,λi j k hi hj hk hij=>?_,λt ht=>?_⟩
 ·have:=h1 i (List.mem_range.2 hi);rw [List.all_eq_true] at this;have:=this k hk;rw [Bool.and_eq_true] at this;simpa using this.1
 ·have:=h1 i (List.mem_range.2 hi);rw [List.all_eq_true] at this;have:=this k hk;rw [Bool.and_eq_true,List.all_eq_true] at this;have:=this.2 j (List.mem_range.2 hj);rw [zav.2 hij,Bool.false_or,Bool.and_eq_true,Bool.or_eq_true,Bool.or_eq_true] at this;refine ⟨by simpa using this.1,λhc=>?_⟩;rcases this.2 with (h|h)|h
  ·simp [hc] at h
  ·exact .inl (by simpa using h)
  ·exact .inr (by simpa using h)
 ·subst ht;simp only [Bool.and_eq_true] at h2;exact ⟨zaf.1 h2.1,Nat.le_of_ble_eq_true h2.2⟩
section
variable {P:Program}{ro:Option Nat}{N:Nat}{w0:World}{M:Nat->Prop}{ds:List Deferred}
def DHE (P:Program) (ro:Option Nat) (N:Nat) (w0:World) (M:Nat->Prop) (ds:List Deferred) (ops:Array Oper) (T:List Oper->Fr->List Res->Prop) (C E:List (List Nat)) (Z:Option Nat) (L0:List Res):
  Nat->Nat->List Oper->(Env->Fr)->List (Nat×(Env->Value->List Res->Prop))->Prop
 |0,i,rest,F,rs=>∀ρ,relOf (List.range i) rs ρ->T rest (F ρ) (resOf (visN E i) rs ρ (baseN Z L0))
 |_+1,_,[],_,_=>False
 |k+1,i,o::rest,F,rs=>
  (∃v:Env->Value,Loc (cl C i) (.inl v)/\(∀ρ,relOf (cl C i) rs ρ->GpT P ro N w0 M ds ops o (only (o.looksAt ops) (get (F ρ))) (resOf (visE C E i) rs ρ (baseE C Z L0 i)) (Det (v ρ) (resOf (leftE C E i) rs ρ (leftB C Z L0 i))))/\
   DHE P ro N w0 M ds ops T C E Z L0 k (i+1) rest (λρ=>ext o.dst (v ρ) (F ρ)) rs)\/
  (∃R:Env->Value->List Res->Prop,Loc (cl C i) (.inr R)/\(∀ρ,relOf (cl C i) rs ρ->GpT P ro N w0 M ds ops o (only (o.looksAt ops) (get (F ρ))) (resOf (visE C E i) rs ρ (baseE C Z L0 i)) (λv L'=>∃Nw,L'=Nw ++ resOf (leftE C E i) rs ρ (leftB C Z L0 i)/\R ρ v Nw))/\
   DHE P ro N w0 M ds ops T C E Z L0 k (i+1) rest (λρ=>ext o.dst (ρ i).1 (F ρ)) ((i,R)::rs))
def GoodE (m:Nat) (P:Program) (ro:Option Nat) (N:Nat) (w0:World) (M:Nat->Prop) (ds:List Deferred) (ops:Array Oper) (C E:List (List Nat)) (Z:Option Nat) (fr:Fr) (L0:List Res) (it:Nat->Item) (i:Nat) (o:Oper):Prop:=
  Loc (cl C i) (it i)/\ ∀ρ,relOf (cl C i) (rsT it i) ρ->GpT P ro N w0 M ds ops o (only (o.looksAt ops) (get (frA m ops it fr ρ i))) (resOf (visE C E i) (rsT it i) ρ (baseE C Z L0 i))
    (match it i with
     | .inl v=>Det (v ρ) (resOf (leftE C E i) (rsT it i) ρ (leftB C Z L0 i))
     | .inr R=>λv L'=>∃Nw,L'=Nw ++ resOf (leftE C E i) (rsT it i) ρ (leftB C Z L0 i)/\R ρ v Nw)
theorem DHE.items {m:Nat}{ops:Array Oper}{T:List Oper->Fr->List Res->Prop}{C E:List (List Nat)}{Z:Option Nat}{fr:Fr}{L0:List Res} : ∀(k i:Nat) (rest:List Oper) (it0:Nat->Item),m<=i->(∀j,rest[j]?=ops[i+j]?)->
  DHE P ro N w0 M ds ops T C E Z L0 k i rest (λρ=>frA m ops it0 fr ρ i) (rsT it0 i)->
  ∃it:Nat->Item,(∀j,j < i->it j=it0 j)/\(∀j,i<=j->j < i+k-> ∃o,ops[j]?=some o/\GoodE m P ro N w0 M ds ops C E Z fr L0 it j o)/\
   (∀ρ,relOf (List.range (i+k)) (rsT it (i+k)) ρ->T (rest.drop k) (frA m ops it fr ρ (i+k)) (resOf (visN E (i+k)) (rsT it (i+k)) ρ (baseN Z L0)))
 |0,i,rest,it0,_,_,h=>⟨it0,λ_ _=>rfl,λj h1 h2=>by omega,by simpa [DHE] using h⟩
 |k+1,i,[],_,_,_,h=>by simp [DHE] at h
 |k+1,i,o::rest,it0,hmi,hr,h=>by
  have ho:ops[i]?=some o:=by simpa using (hr 0).symm
  have hd:dstB m ops i=o.dst:=by rw [zk5 hmi];simp [dstOf,ho]
  have hr': ∀j,rest[j]?=ops[i+1+j]?:=λj=>by have:=hr (j+1);simpa [Nat.add_assoc,Nat.add_comm 1 j] using this
  have key: ∀(x:Item),GoodE m P ro N w0 M ds ops C E Z fr L0 (λj=>if j=i then x else it0 j) i o->
    DHE P ro N w0 M ds ops T C E Z L0 k (i+1) rest (λρ=>frA m ops (λj=>if j=i then x else it0 j) fr ρ (i+1)) (rsT (λj=>if j=i then x else it0 j) (i+1))->
    ∃it:Nat->Item,(∀j,j < i->it j=it0 j)/\(∀j,i<=j->j < i+(k+1)-> ∃o,ops[j]?=some o/\GoodE m P ro N w0 M ds ops C E Z fr L0 it j o)/\
     (∀ρ,relOf (List.range (i+(k+1))) (rsT it (i+(k+1))) ρ->T ((o::rest).drop (k+1)) (frA m ops it fr ρ (i+(k+1))) (resOf (visN E (i+(k+1))) (rsT it (i+(k+1))) ρ (baseN Z L0))):=by
   intro x hg hdh;obtain ⟨it,h1,h2,h3⟩:=DHE.items k (i+1) rest _ q_o hr' hdh;have same: ∀j,j<=i->it j=(λj=>if j=i then x else it0 j) j:=λj hj=>h1 j q_o;have efr: ∀ρ j,j<=i+1->frA m ops it fr ρ j=frA m ops (λj=>if j=i then x else it0 j) fr ρ j:=by
    intro ρ j hj
    induction j with
    |zero=>rfl
    |succ j ih=>simp only [frA];rw [ih q_o,same j q_o]
   have ers: ∀j,j<=i+1->rsT it j=rsT (λj=>if j=i then x else it0 j) j:=by
    intro j hj
    induction j with
    |zero=>rfl
    |succ j ih=>simp only [rsT];rw [ih q_o,same j q_o]
   refine ⟨it,λj hj=>by rw [same j q_o];simp [Nat.ne_of_lt hj],λj hj1 hj2=>?_,?_⟩
   ·by_cases e:j=i
    ·subst e;refine ⟨o,ho,?_⟩;unfold GoodE at hg ⊢;rw [same j (Nat.le_refl _),ers j q_o];refine ⟨hg.1,λρ hρ=>?_⟩;rw [efr ρ j q_o];exact hg.2 ρ hρ
    ·exact h2 j q_o q_o
   ·have e:i+(k+1)=i+1+k:=q_o;rw [e];simpa using h3
  have frI: ∀(x:Item) ρ,frA m ops (λj=>if j=i then x else it0 j) fr ρ i=frA m ops it0 fr ρ i:=by
   intro x ρ;have: ∀j,j<=i->frA m ops (λj=>if j=i then x else it0 j) fr ρ j=frA m ops it0 fr ρ j:=by
    intro j hj
    induction j with
    |zero=>rfl
    |succ j ih=>simp only [frA];rw [ih q_o,if_neg q_o]
   exact this i (Nat.le_refl _)
  have rsI: ∀(x:Item),rsT (λj=>if j=i then x else it0 j) i=rsT it0 i:=by
   intro x;have: ∀j,j<=i->rsT (λj=>if j=i then x else it0 j) j=rsT it0 j:=by
    intro j hj
    induction j with
    |zero=>rfl
    |succ j ih=>simp only [rsT];rw [ih q_o,if_neg q_o]
   exact this i (Nat.le_refl _)
  simp only [DHE] at h;rcases h with ⟨v,hl,hg,hdh⟩|⟨R,hl,hg,hdh⟩
  ·refine key (.inl v) ?_ ?_
   ·unfold GoodE;simp only [if_true];rw [rsI];refine ⟨hl,λρ hρ=>?_⟩;rw [frI];exact hg ρ hρ
   ·simp only [frA,rsT,if_true,itVal,hd,frI,rsI];exact hdh
  ·refine key (.inr R) ?_ ?_
   ·unfold GoodE;simp only [if_true];rw [rsI];refine ⟨hl,λρ hρ=>?_⟩;rw [frI];exact hg ρ hρ
   ·simp only [frA,rsT,if_true,itVal,hd,frI,rsI];exact hdh
def eaten (E:List (List Nat)) (p:Nat->Bool) (n k:Nat):Bool:=(List.range n).any λj=>p j && (cl E j).contains k
theorem zbY {E:List (List Nat)}{p:Nat->Bool}{n k:Nat} :eaten E p n k=false↔ ∀j,j < n->p j=true->k ∉ cl E j:=by
 unfold eaten;rw [List.any_eq_false];simp only [List.mem_range,Bool.and_eq_true,List.contains_iff_mem,not_and]
structure DInvE (ops:Array Oper) (m n:Nat) (E:List (List Nat)) (Z:Option Nat) (Y:List Res) (fr:Fr) (L0:List Res) (it:Nat->Item) (N:Nat) (w0:World) (M:Nat->Prop) (dd:List Deferred) (listed:Array Bool) (ρ:Env) (a:Act) (w:World):Prop where
 size:listed.size=ops.size
 head: ∀k,listed.getD k false=true->k < n
 base: ∀k,k < m->listed.getD k false=true
 down: ∀(k:Nat) (o:Oper),listed.getD k false=true->ops[k]?=some o-> ∀j∈pre o,listed.getD j false=true
 tsize:a.tmps.size=N
 defs:a.defers=dd
 s1: ∀k d,listed.getD k false=true->dstB m ops k=some d->a.tmps[d]?=some (itVal (it k) k ρ)
 s2: ∀t v,get fr t=some v->(∀k,listed.getD k false=true->dstB m ops k≠some t)->a.tmps[t]?=some v
 rel: ∀k,listed.getD k false=true->itRel (it k) k ρ
 keep:Keep M w0 w
 hold:Holds w0.heap.size M (fm (λk=>listed.getD k false && !eaten E (λk=>listed.getD k false) n k) (λk=>itRes (it k) k ρ) n ++ (nowB Z (λk=>listed.getD k false) L0 ++ Y)) w
section sound
variable {ops:Array Oper}{m n:Nat}{C E:List (List Nat)}{Z:Option Nat}{Y:List Res}{fr:Fr}{L0:List Res}{it:Nat->Item}{Q:Exit->Act->World->Prop}{dd:List Deferred}
theorem dstepE (hk:DOkA ops m n N C) (he:EOk m n C E Z) (hbase: ∀k,k < m->it k= .inl λ_=>undef) (hg: ∀i o,m<=i->i < n->ops[i]?=some o->GoodE m P ro N w0 M ds ops C E Z fr L0 it i o) {listed:Array Bool}{ρ:Env}{a:Act}{w:World}
    (inv:DInvE ops m n E Z Y fr L0 it N w0 M dd listed ρ a w) {i:Nat}(hi:i∈Region.ready .any ops listed) (hin:i < n) {K:Act->World->Prop}
    (hK: ∀ρ' a' w',DInvE ops m n E Z Y fr L0 it N w0 M dd (listed.setIfInBounds i true) ρ' a' w'->K a' w'):wpOpIn (FW ro) 0 P ops Q i K a w:=by
  obtain ⟨hli,o,ho,hedges⟩:=mem_ready.1 hi;have hl0:=zaQ hli;have hlt:i < ops.size:=(Array.getElem?_eq_some_iff.1 ho).1;have hpre: ∀j∈pre o,listed.getD j false=true:=λj hj=>by
    obtain ⟨e,he,hb,rfl⟩:=zbX.1 hj;exact hedges e he hb
  have hdn:=zjM hk (p:=λk=>listed.getD k false) inv.down;have hcl:=hdn i o ho hpre;have hmi:m<=i:=by
    rcases Nat.lt_or_ge i m with h|h
    · have:=inv.base i h;rw [hl0] at this;cases this
    · exact h
  have hdst:dstB m ops i=o.dst:=by rw [zk5 hmi];simp [dstOf,ho]
  have hclk: ∀k,listed.getD k false=true->i ∉ cl C k:=λk hlk hik=>by
    have hkn:=inv.head k hlk;have hok:ops[k]?=some (ops[k]'(by have:=hk.le;omega)):=Array.getElem?_eq_getElem _;have:listed.getD i false=true:=hdn k _ hok (inv.down k _ hlk hok) i hik;rw [hl0] at this;cases this
  have hcli:i ∉ cl C i:=λh=>by have:=(hk.clo i o ho i h).1;omega
  have hgood:=hg i o hmi hin ho;have hrel:relOf (cl C i) (rsT it i) ρ:=zdU i λk hki hc=>inv.rel k (hcl k (by simpa using hc));have hgp:=hgood.2 ρ hrel;have X:List Res:=[]
  -- memory, as the operation sees it
  obtain ⟨ls,hls⟩: ∃ls:Nat->Bool,ls=λk=>listed.getD k false:=⟨_,rfl⟩;have hlse: ∀k,ls k=listed.getD k false:=λk=>by rw [hls]
  obtain ⟨pr,hpr⟩: ∃pr:Nat->Bool,pr=λk=>ls k && !eaten E ls n k:=⟨_,rfl⟩;have hvis1: ∀k,k∈visE C E i->pr k=true:=λk hk'=>by
    unfold visE at hk';rw [List.mem_filter] at hk';obtain ⟨h1,h2⟩:=hk';have h3:ls k=true:=by rw [hlse];exact hcl k h1
    have h4:eaten E ls n k=false:=zbY.2 λj hj hlj hkj=>by
      have hjc:j ∉ cl C i:=λhc=>by
        have:((cl C i).any λj=>(cl E j).contains k)=true:=List.any_eq_true.2 ⟨j,hc,by simpa using hkj⟩;rw [this] at h2;cases h2
      have hji:j≠i:=λe=>by rw [e,hlse,hl0] at hlj;cases hlj
      rcases (he.lone j i k hj hin hkj hji).2 h1 with h|h
      · exact hclk j (by rw [hlse] at hlj;exact hlj) h
      · exact hjc h
    rw [hpr];simp only [h3,h4];rfl
  have hvis2: ∀k,pr k=true->k∈cl C i->k∈visE C E i:=λk hp hc=>by
    rw [hpr] at hp;simp only [Bool.and_eq_true,Bool.not_eq_true'] at hp;unfold visE;rw [List.mem_filter];refine ⟨hc,?_⟩;rw [Bool.not_eq_true',List.any_eq_false];intro j hj hkj;have hji:=(hk.clo i o ho j hj).1;exact zbY.1 hp.2 j q_o (by rw [hlse];exact hcl j hj) (by simpa using hkj)
  have hvisc: ∀k,k∈visE C E i->k∈cl C i:=λk h=>by unfold visE at h;exact (List.mem_filter.1 h).1
  have hbase1:nowB Z ls L0=baseE C Z L0 i ++ restB C Z ls L0 i:=by
    cases Z with
    |none=>simp [nowB,baseE,restB]
    |some t=>
      simp only [nowB,baseE,restB];cases hb:Nat.beq i t || (cl C t).contains i with
      |false=>simp
      |true=>
        have:ls t=false:=by
          cases hlt:ls t with
          |false=>rfl
          |true=>
            exfalso;rw [hlse] at hlt;rw [Bool.or_eq_true] at hb;rcases hb with h|h
            · rw [<-Nat.eq_of_beq_eq_true h] at hlt;rw [hl0] at hlt;cases hlt
            · exact hclk t hlt (by simpa using h)
        rw [this];simp
  have hperm:(fm pr (λk=>itRes (it k) k ρ) n ++ (nowB Z ls L0 ++ Y)).Perm (resOf (visE C E i) (rsT it i) ρ (baseE C Z L0 i) ++ (restB C Z ls L0 i ++ Y ++ fm (λk=>pr k && !(visE C E i).contains k) (λk=>itRes (it k) k ρ) n)):=by
    have h1:=zda (p:=pr) (q:=λk=>(visE C E i).contains k) (r:=λk=>pr k && !(visE C E i).contains k) (f:=λk=>itRes (it k) k ρ) n (λk _=>by
      cases hc:(visE C E i).contains k
      · simp
      · rw [hvis1 k (by simpa using hc)];exact ⟨rfl,rfl⟩)
    rw [zg9 (p:=λk=>(visE C E i).contains k) (j:=i) (λk hik=>by
      cases hc:(visE C E i).contains k
      · rfl
      · have:=(hk.clo i o ho k (hvisc k (by simpa using hc))).1;omega) n q_o] at h1
    have h2:=zcb (it:=it) (ts:=visE C E i) (ρ:=ρ) (L:=baseE C Z L0 i) i;refine (List.Perm.append_right _ h1).trans ?_;refine List.Perm.trans ?_ (List.Perm.append_right _ h2.symm);rw [hbase1];simp only [List.append_assoc];refine List.Perm.append_left _ ?_;refine List.perm_append_comm.trans ?_;simp only [List.append_assoc];exact List.Perm.refl _
  have hnow:Holds w0.heap.size M (fm pr (λk=>itRes (it k) k ρ) n ++ (nowB Z ls L0 ++ Y)) w:=by rw [hpr,hls];exact inv.hold
  have hst:St N w0 M ds (only (o.looksAt ops) (get (frA m ops it fr ρ i))) (resOf (visE C E i) (rsT it i) ρ (baseE C Z L0 i) ++ (restB C Z ls L0 i ++ Y ++ fm (λk=>pr k && !(visE C E i).contains k) (λk=>itRes (it k) k ρ) n)) a w:=by
    refine ⟨inv.tsize,λt v hv=>?_,inv.keep,hnow.perm hperm⟩;unfold only at hv;cases hc:(o.looksAt ops).contains t
    · rw [hc] at hv;cases hv
    · rw [hc,cond_true] at hv
      have htl:t∈o.looksAt ops:=by simpa using hc
      rcases zf5 i hv with ⟨k,hki,hkd,rfl⟩|⟨hno,hfr⟩
      · have hs:=(hk.slot i o ho hmi hin k q_o q_o t hkd).2 htl
        exact inv.s1 k t (hcl k (hs.1 hki)) hkd
      · refine inv.s2 t v hfr λk hlk hkd=>?_
        have hkn:=inv.head k hlk;have hki:k≠i:=λe=>by rw [e,hl0] at hlk;cases hlk
        have hs:=(hk.slot i o ho hmi hin k hkn hki t hkd).2 htl;by_cases hlt':k < i
        · exact hno k hlt' hkd
        · exact hclk k hlk (hs.2 q_o)
  -- what follows from its results
  have fin: ∀(ρ':Env) (v:Value) (w':World),(∀k,k≠i->ρ' k=ρ k)->itVal (it i) i ρ'=v->itRel (it i) i ρ'->Keep M w0 w'->
      Holds w0.heap.size M (itRes (it i) i ρ' ++ resOf (leftE C E i) (rsT it i) ρ (leftB C Z L0 i) ++ (restB C Z ls L0 i ++ Y ++ fm (λk=>pr k && !(visE C E i).contains k) (λk=>itRes (it k) k ρ) n)) w'->K (a.put o.dst v) w':=by
    intro ρ' v w' hρ hv hr hkp hh;have old: ∀k,listed.getD k false=true->itVal (it k) k ρ'=itVal (it k) k ρ/\itRes (it k) k ρ'=itRes (it k) k ρ/\(itRel (it k) k ρ->itRel (it k) k ρ'):=by
      intro k hlk;have hki:k≠i:=λe=>by rw [e,hl0] at hlk;cases hlk
      have hkn:=inv.head k hlk;have hok:ops[k]?=some (ops[k]'(by have:=hk.le;omega)):=Array.getElem?_eq_getElem _;have hloc:=(show Loc (cl C k) (it k) by
        rcases Nat.lt_or_ge k m with h|h
        · rw [hbase k h];exact λ_ _ _=>rfl
        · exact (hg k _ h hkn hok).1) ρ' ρ (λj hj=>hρ j (λe=>hclk k hlk (e ▸ hj)))
      cases hit:it k with
      |inl f=>rw [hit] at hloc;exact ⟨hloc,rfl,λh=>h⟩
      |inr R=>rw [hit] at hloc;exact ⟨by simp only [itVal,hρ k hki],by simp only [itRes,hρ k hki],λh=>by simp only [itRel,hρ k hki] at h ⊢;rw [show R ρ'=R ρ from hloc];exact h⟩
    have hset: ∀k,(listed.setIfInBounds i true).getD k false=true->k=i\/listed.getD k false=true:=λk hk'=>by
      by_cases e:i=k
      · exact .inl e.symm
      · rw [getD_set_ne false e] at hk';exact .inr hk'
    have hseti:(listed.setIfInBounds i true).getD i false=true:=by
      have:i < listed.size:=by rw [inv.size];exact hlt
      simp [Array.getD_eq_getD_getElem?,this]
    refine hK ρ' _ w' ⟨by simpa using inv.size,λk hk'=>?_,λk hkm=>getD_set_true (inv.base k hkm),λk o' hk' hok j hj=>?_,?_,?_,λk d hk' hkd=>?_,λt u hu hno=>?_,λk hk'=>?_,hkp,?_⟩
    · rcases hset k hk' with rfl|h
      · exact hin
      · exact inv.head k h
    · rcases hset k hk' with rfl|h
      · rw [ho] at hok;cases hok;exact getD_set_true (hpre j hj)
      · exact getD_set_true (inv.down k o' h hok j hj)
    · cases hd:o.dst <;> simp [Act.put,inv.tsize]
    · cases hd:o.dst <;> simp [Act.put,inv.defs]
    · rcases hset k hk' with rfl|h
      · rw [hdst] at hkd
        rw [hkd];have hdN:=hk.low k o ho d hkd;simp only [Act.put];rw [Array.getElem?_setIfInBounds_self_of_lt (by rw [inv.tsize];exact hdN),hv]
      · have hki:k≠i:=λe=>by rw [e,hl0] at h;cases h
        rw [(old k h).1];have hne:=(hk.slot i o ho hmi hin k (inv.head k h) hki d hkd).1;have:=inv.s1 k d h hkd;cases hd:o.dst with
        |none=>exact this
        |some d'=>
          rw [hd] at hne;simp only [Act.put];rw [Array.getElem?_setIfInBounds_ne (λe=>hne (by rw [e]))];exact this
    · have h1:=inv.s2 t u hu (λk hlk=>hno k (getD_set_true hlk))
      have h2:=hno i hseti;rw [hdst] at h2;cases hd:o.dst with
      |none=>exact h1
      |some d'=>
        rw [hd] at h2;simp only [Act.put];rw [Array.getElem?_setIfInBounds_ne (λe=>h2 (by rw [e]))];exact h1
    · rcases hset k hk' with rfl|h
      · exact hr
      · exact (old k h).2.2 (inv.rel k h)
    · refine hh.perm ?_
      have hls': ∀k,(listed.setIfInBounds i true).getD k false=(Nat.beq k i || ls k):=λk=>by
        by_cases e:i=k
        · subst e;rw [hseti,zcG];rfl
        · rw [getD_set_ne false e,zav.2 (λe'=>e e'.symm:k≠i),hlse];rfl
      have hpr': ∀k,k < n->((listed.setIfInBounds i true).getD k false && !eaten E (λk=>(listed.setIfInBounds i true).getD k false) n k)=(Nat.beq k i || (pr k && !(cl E i).contains k)):=λk hkn=>by
        by_cases e:k=i
        · subst e
          rw [hseti,zcG,Bool.true_or,Bool.true_and,Bool.not_eq_true'];refine zbY.2 λj hj hlj hkj=>?_;have hjk:=he.sub j k hj hkj;rcases hset j hlj with rfl|h
          · exact hcli hjk
          · exact hclk j h hjk
        · rw [hls' k,zav.2 e,Bool.false_or,Bool.false_or,hpr]
          simp only;cases hlk:ls k
          · simp
          · rw [Bool.true_and,Bool.true_and]
            rw [Bool.eq_iff_iff,Bool.and_eq_true,Bool.not_eq_true',Bool.not_eq_true',Bool.not_eq_true',zbY,zbY];constructor
            · intro h
              refine ⟨λj hj hlj=>h j hj (by rw [hls' j,hlj,Bool.or_true]),?_⟩;have:=h i hin hseti;simpa using this
            · rintro ⟨h1,h2⟩ j hj hlj
              rcases hset j hlj with rfl|h
              · simpa using h2
              · exact h1 j hj (by rw [hlse];exact h)
      have hpri:pr i=false:=by rw [hpr];simp only [hlse,hl0];rfl
      have hfm:(fm (λk=>(listed.setIfInBounds i true).getD k false && !eaten E (λk=>(listed.setIfInBounds i true).getD k false) n k) (λk=>itRes (it k) k ρ') n).Perm (itRes (it i) i ρ' ++ (fm (λk=>(leftE C E i).contains k) (λk=>itRes (it k) k ρ) i ++ fm (λk=>pr k && !(visE C E i).contains k) (λk=>itRes (it k) k ρ) n)):=by
        rw [zc9 (p':=λk=>Nat.beq k i || (pr k && !(cl E i).contains k)) (f':=λk=>itRes (it k) k ρ') n (λk hkn=>⟨hpr' k hkn,λ_=>rfl⟩)];have h1:=zda (p:=λk=>Nat.beq k i || (pr k && !(cl E i).contains k)) (q:=λk=>Nat.beq k i) (r:=λk=>pr k && !(cl E i).contains k) (f:=λk=>itRes (it k) k ρ') n (λk _=>by
          by_cases e:k=i
          · subst e;rw [zcG,hpri];exact ⟨rfl,rfl⟩
          · rw [zav.2 e];simp)
        rw [zjZ i n hin] at h1;refine h1.trans (List.Perm.append_left _ ?_);rw [zc9 (p':=λk=>pr k && !(cl E i).contains k) (f':=λk=>itRes (it k) k ρ) n (λk _=>⟨rfl,λh=>(old k (by
          rw [Bool.and_eq_true,hpr] at h;simp only [Bool.and_eq_true] at h;rw [hlse] at h;exact h.1.1)).2.1⟩)]
        have h2:=zda (p:=λk=>pr k && !(cl E i).contains k) (q:=λk=>(leftE C E i).contains k) (r:=λk=>pr k && !(visE C E i).contains k) (f:=λk=>itRes (it k) k ρ) n (λk _=>by
          unfold leftE;cases hv:(visE C E i).contains k
          · have hv':k ∉ visE C E i:=by simpa using hv
            have hl:((visE C E i).filter λk=>!(cl E i).contains k).contains k=false:=by
              rw [Bool.eq_false_iff];intro h;rw [List.contains_iff_mem,List.mem_filter] at h;exact hv' h.1
            rw [hl];cases hp:pr k
            · simp
            · have:(cl E i).contains k=false:=by
                cases hc:(cl E i).contains k
                · rfl
                · exact absurd (hvis2 k hp (he.sub i k hin (by simpa using hc))) hv'
              rw [this];exact ⟨rfl,rfl⟩
          · have hv':k∈visE C E i:=by simpa using hv
            rw [hvis1 k hv'];cases hc:(cl E i).contains k
            · have:((visE C E i).filter λk=>!(cl E i).contains k).contains k=true:=by
                rw [List.contains_iff_mem,List.mem_filter];exact ⟨hv',by rw [hc];rfl⟩
              rw [this];exact ⟨rfl,rfl⟩
            · have:((visE C E i).filter λk=>!(cl E i).contains k).contains k=false:=by
                rw [Bool.eq_false_iff];intro h;rw [List.contains_iff_mem,List.mem_filter] at h;rw [hc] at h;cases h.2
              rw [this];exact ⟨rfl,rfl⟩)
        rw [zg9 (p:=λk=>(leftE C E i).contains k) (j:=i) (λk hik=>by
          cases hc:(leftE C E i).contains k
          · rfl
          · have hc':k∈leftE C E i:=by simpa using hc
            unfold leftE at hc';have:=(hk.clo i o ho k (hvisc k (List.mem_filter.1 hc').1)).1;omega) n q_o] at h2
        exact h2
      have hnb:nowB Z (λk=>(listed.setIfInBounds i true).getD k false) L0=leftB C Z L0 i ++ restB C Z ls L0 i:=by
        cases Z with
        |none=>simp [nowB,leftB,restB]
        |some t=>
          simp only [nowB,leftB,restB];rw [hls' t];by_cases e:i=t
          · subst e
            have:(cl C i).contains i=false:=by
              rw [Bool.eq_false_iff];intro h;exact hcli (by simpa using h)
            rw [zcG,this];simp
          · rw [zav.2 e,zav.2 (λe'=>e e'.symm:t≠i),Bool.false_or,Bool.false_or]
            cases hc:(cl C t).contains i
            · simp
            · have:ls t=false:=by
                cases hlt:ls t
                · rfl
                · exfalso;rw [hlse] at hlt;exact hclk t hlt (by simpa using hc)
              rw [this];simp
      have h3:=zcb (it:=it) (ts:=leftE C E i) (ρ:=ρ) (L:=leftB C Z L0 i) i;refine List.Perm.trans ?_ (List.Perm.append_right _ hfm.symm);rw [hnb];simp only [List.append_assoc];refine List.Perm.append_left _ ?_;refine (List.Perm.append_right _ h3).trans ?_;simp only [List.append_assoc];refine List.Perm.append_left _ ?_;refine List.Perm.trans ?_ List.perm_append_comm;simp only [List.append_assoc];exact List.Perm.refl _
  have done: ∀v L' w',(match it i with
     | .inl v=>Det (v ρ) (resOf (leftE C E i) (rsT it i) ρ (leftB C Z L0 i))
     | .inr R=>λv L'=>∃Nw,L'=Nw ++ resOf (leftE C E i) (rsT it i) ρ (leftB C Z L0 i)/\R ρ v Nw) v L'->Keep M w0 w'->
      Holds w0.heap.size M (L' ++ (restB C Z ls L0 i ++ Y ++ fm (λk=>pr k && !(visE C E i).contains k) (λk=>itRes (it k) k ρ) n)) w'->K (a.put o.dst v) w':=by
    intro v L' w' hp hkp hh;have hloc:=hgood.1;have fin:=fin;cases hit:it i with
    |inl f=>
      rw [hit] at hp fin;obtain ⟨e1,e2⟩:=hp;subst e1;subst e2;exact fin ρ _ w' (λ_ _=>rfl) rfl trivial hkp hh
    |inr R=>
      rw [hit] at hp fin hloc;obtain ⟨Nw,e,hR⟩:=hp;subst e;refine fin (λk=>if k=i then (v,Nw) else ρ k) v w' (λk hk'=>by simp [hk']) (by simp [itVal]) ?_ hkp (by simpa [itRes] using hh);have hl:=hloc (λk=>if k=i then (v,Nw) else ρ k) ρ (λk hk'=>by
        have:k≠i:=λe=>hcli (e ▸ hk');simp [this])
      simp only at hl;simp only [itRel,if_true];rw [hl];exact hR
  unfold wpOpIn;rw [ho];simp only;rcases hgp with ⟨hw,hop⟩|⟨hw,hu⟩
  · rw [if_pos (zbp hst.agr hw)]
    exact hop a w _ K Q hst (λv w' L' hp hkp hh=>done v L' w' hp hkp hh)
  · rw [if_neg (by rw [zbp hst.agr hw];decide)]
    exact ⟨λ_ _=>trivial,done undef _ w hu hst.keep hst.hold⟩
theorem dallE {Ds:List Nat}(hk:DOkA ops m n N C) (he:EOk m n C E Z) (hmn:m<=n) (hbase: ∀k,k < m->it k= .inl λ_=>undef) (hg: ∀i o,m<=i->i < n->ops[i]?=some o->GoodE m P ro N w0 M ds ops C E Z fr L0 it i o)
    (hfin: ∀ρ,relOf (List.range n) (rsT it n) ρ->SyA P ro N w0 M ds ops Q n (ops.toList.drop n) (frA m ops it fr ρ n) (resOf (visN E n) (rsT it n) ρ (baseN Z L0))):
    ∀(fuel:Nat) (listed:Array Bool) (ρ:Env) (a:Act) (w:World),DInvE ops m n E Z (Ds.map dob) fr L0 it N w0 M (Ds.map col ++ ds) listed ρ a w->unl (λk=>listed.getD k false) ops.size=fuel->wpAnyIn (FW ro) 0 P .any ops Q fuel listed a w:=by
  intro fuel
  induction fuel with
  |zero=>
    intro listed ρ a w inv hu;have hall:=zgK _ hu;have hn:n=ops.size:=by
      rcases Nat.lt_or_ge n ops.size with h|h
      · have:=inv.head n (hall n h);omega
      · have:=hk.le;omega
    exact tailAt inv (λk hk'=>hall k q_o) 0 q_o
  |succ f ih=>
    intro listed ρ a w inv hu;by_cases hh: ∀k,k < n->listed.getD k false=true
    · have hnu:unl (λk=>listed.getD k false) ops.size+n=ops.size:=by
        have key: ∀m,n<=m->m<=ops.size->unl (λk=>listed.getD k false) m+n=m:=by
          intro m
          induction m with
          | zero => intro h1 _; obtain rfl : n = 0 := q_o
                    rfl
          |succ m ihm=>
            intro h1 h2;by_cases e:n=m+1
            · subst e
              have hz: ∀j,j<=m+1->unl (λk=>listed.getD k false) j=0:=by
                intro j
                induction j with
                |zero=>intro _;rfl
                |succ j ihj=>intro hj;simp only [unl];rw [hh j q_o,ihj q_o];rfl
              rw [hz _ (Nat.le_refl _)];omega
            · simp only [unl]
              have:listed.getD m false=false:=by
                cases hb:listed.getD m false
                · rfl
                · have:=inv.head m hb;omega
              rw [this];have:=ihm q_o q_o;simp only [cond_false];omega
        exact key _ hk.le (Nat.le_refl _)
      exact tailAt inv hh (f+1) q_o
    · refine ⟨λhnil=>?_,λi hi=>?_⟩
      · exfalso
        -- the least head that has not been carried out could be
        apply hh;intro k
        induction k using Nat.strongRecOn with
        |_ k ihk=>
          intro hkn;cases hb:listed.getD k false with
          |true=>rfl
          |false=>
            exfalso;have hks:k < ops.size:=by have:=hk.le;omega
            have hok:ops[k]?=some ops[k]:=Array.getElem?_eq_getElem hks;have:k∈Region.ready .any ops listed:=mem_ready.2 ⟨by
              simp only [Array.getD_eq_getD_getElem?] at hb ⊢;rw [Array.getElem?_eq_getElem (by rw [inv.size];exact hks)] at hb ⊢;simpa using hb,_,hok,λe he hbd=>by
              have hp:=hk.acyc k _ hok e.on (zbX.2 ⟨e,he,hbd,rfl⟩);exact ihk e.on hp q_o⟩
            rw [hnil] at this;cases this
      · obtain ⟨h1,o,ho,hedges⟩:=mem_ready.1 hi
        have hl0:=zaQ h1;have hlt:i < ops.size:=(Array.getElem?_eq_some_iff.1 ho).1;have hin:i < n:=by
          rcases Nat.lt_or_ge i n with h|h
          · exact h
          · exfalso
            apply hh;intro k hkn;have hdn:=zjM hk (p:=λk=>listed.getD k false) inv.down i o ho (λj hj=>by
              obtain ⟨e,he,hb,rfl⟩:=zbX.1 hj;exact hedges e he hb)
            exact hdn k (hk.tail i o ho q_o h k hkn)
        refine dstepE hk he hbase hg inv hi hin (λρ' a' w' inv'=>ih _ ρ' a' w' inv' ?_);have:=zhE (p:=λk=>listed.getD k false) (p':=λk=>(listed.setIfInBounds i true).getD k false) (i:=i) hl0 (by
          have:i < listed.size:=by rw [inv.size];exact hlt
          simp [Array.getD_eq_getD_getElem?,this]) (λk hki=>getD_set_ne false (λe=>hki e.symm)) ops.size hlt
        omega
where
  tailAt {listed:Array Bool}{ρ:Env}{a:Act}{w:World}(inv:DInvE ops m n E Z (Ds.map dob) fr L0 it N w0 M (Ds.map col ++ ds) listed ρ a w) (hh: ∀k,k < n->listed.getD k false=true) (fuel:Nat) (hf:fuel+n=ops.size):wpAnyIn (FW ro) 0 P .any ops Q fuel listed a w:=by
    have hfu:fuel=ops.size - n:=q_o;subst hfu;refine hfin ρ (zdU n λk hkn _=>inv.rel k (hh k hkn)) (λj=>by simp) a w listed ⟨Ds,inv.defs,inv.tsize,λt v hv=>?_,inv.keep,inv.hold.perm ?_⟩ inv.size (λk _=>?_)
    · rcases zf5 n hv with ⟨k,hkn,hkd,rfl⟩|⟨hno,hfr⟩
      · exact inv.s1 k t (hh k hkn) hkd
      · exact inv.s2 t v hfr (λk hlk=>hno k (inv.head k hlk))
    · have hnb:nowB Z (λk=>listed.getD k false) L0=baseN Z L0:=by
        cases Z with
        |none=>rfl
        |some t=>simp only [nowB,baseN];rw [hh t (he.base t rfl).1];rfl
      rw [hnb,<-List.append_assoc];refine List.Perm.append_right _ ?_;refine List.Perm.trans ?_ (zcb (it:=it) (ts:=visN E n) (ρ:=ρ) (L:=baseN Z L0) n).symm;rw [zc9 (p:=λk=>listed.getD k false && !eaten E (λk=>listed.getD k false) n k) (p':=λk=>(visN E n).contains k) n (λk hkn=>⟨by
        rw [hh k hkn,Bool.true_and,Bool.eq_iff_iff,Bool.not_eq_true',zbY,List.contains_iff_mem];unfold visN;rw [List.mem_filter,Bool.not_eq_true',List.any_eq_false,List.mem_range];constructor
        · intro h;exact ⟨hkn,λj hj hc=>h j (List.mem_range.1 hj) (hh j (List.mem_range.1 hj)) (by simpa using hc)⟩
        · rintro ⟨_,h⟩ j hj _ hc
          exact h j (List.mem_range.2 hj) (by simpa using hc),λ_=>rfl⟩)]
    · cases hb:listed.getD k false with
      |true=>exact (zaf.2 (inv.head k hb)).symm
      |false=>
        rcases Nat.lt_or_ge k n with h|h
        · rw [hh k h] at hb;cases hb
        · exact (za5.2 h).symm
theorem zbi (k n:Nat) (C E:List (List Nat)) (Z:Option Nat) {rest:List Oper}(he:m+k=n) (hck:drawOkA ops m n N C=true) (hek:eatOk m n C E Z=true)
  (h:DHE P ro N w0 M ds ops (SyA P ro N w0 M ds ops Q n) C E Z L0 k m rest (λ_=>fr) []):SyA P ro N w0 M ds ops Q m rest fr L0:=by
 obtain rfl:k=n - m:=q_o;have hmn:m<=n:=q_o;rintro hr a w listed ⟨Ds,hds,hs⟩ hsz hl;have hk:=ziW hck;have he:=zmh hek;have hb0: ∀k,k < m->(λ_=> .inl λ_=>undef:Nat->Item) k= .inl λ_=>undef:=λ_ _=>rfl;obtain ⟨it,h1,h2,h3⟩:=DHE.items (m:=m) (P:=P) (ro:=ro) (N:=N) (w0:=w0) (M:=M) (ds:=ds) (ops:=ops) (C:=C) (E:=E) (Z:=Z) (fr:=fr) (L0:=L0) (n - m) m rest (λ_=> .inl λ_=>undef) (Nat.le_refl _) hr (by
  rw [zkO hb0 m (Nat.le_refl _)];simpa only [zly m (Nat.le_refl _)] using h)
 have e:m+(n - m)=n:=q_o;rw [e] at h2 h3;have hbase: ∀k,k < m->it k= .inl λ_=>undef:=λk hk'=>h1 k hk';have hg: ∀i o,m<=i->i < n->ops[i]?=some o->GoodE m P ro N w0 M ds ops C E Z fr L0 it i o:=λi o hmi hi ho=>by
  obtain ⟨o',ho',hgo⟩:=h2 i hmi hi;rw [ho] at ho';cases ho';exact hgo
 have hdr: ∀j,(rest.drop (n - m))[j]?=ops[n+j]?:=λj=>by rw [List.getElem?_drop,hr];congr 1;omega
 have hlt: ∀k,listed.getD k false=true->k < m:=λk hk'=>by
  rcases Nat.lt_or_ge k ops.size with h|h
  ·rw [hl k h] at hk';exact zaf.1 hk'
  ·simp [Array.getD_eq_getD_getElem?,Array.getElem?_eq_none (show listed.size<=k by omega)] at hk'
 have hlm: ∀k,k < m->listed.getD k false=true:=λk hk'=>by rw [hl k (by have:=hk.le;omega)];exact zaf.2 hk'
 refine dallE (Ds:=Ds) hk he hmn hbase (λi o hmi hi ho=>hg i o hmi hi ho) (λρ hρ=>(h3 ρ hρ).rest hdr) _ _ (λ_=>(undef,[])) a _ ⟨hsz,λk hk'=>by have:=hlt k hk';omega,hlm,λk o hk' ho j hj=>hlm j (by have:=hk.acyc k o ho j hj;have:=hlt k hk';omega),hs.size,hds,λk d hk' hd=>?_,
  λt v hv _=>hs.agr t v hv,λk hk'=>?_,hs.keep,?_⟩ ?_
 ·rw [zlo (hlt k hk')] at hd;cases hd
 ·rw [hbase k (hlt k hk')];trivial
 ·have: ∀j,fm (λk=>listed.getD k false && !eaten E (λk=>listed.getD k false) n k) (λk=>itRes (it k) k (λ_=>(undef,[]))) j= []:=by
   intro j
   induction j with
   |zero=>rfl
   |succ j ih=>
    simp only [fm];rw [ih];cases hb:listed.getD j false
    ·rfl
    ·rw [hbase j (hlt j hb)];simp [itRes]
  rw [this,List.nil_append];have hnb:nowB Z (λk=>listed.getD k false) L0=L0:=by
   cases Z with
   |none=>rfl
   |some t=>
    simp only [nowB];cases hb:listed.getD t false
    ·rfl
    ·have h1:=hlt t hb;have h2:=(he.base t rfl).2;omega
  rw [hnb];exact hs.hold
 ·have: ∀j,j<=ops.size->unl (λk=>listed.getD k false) j=j - m:=by
   intro j
   induction j with
   |zero=>intro _;simp [unl]
   |succ j ih=>
    intro hj;simp only [unl];rw [ih q_o,hl j q_o];rcases Nat.lt_or_ge j m with h|h
    ·rw [zaf.2 h];simp only [cond_true];omega
    ·rw [za5.2 h];simp only [cond_false];omega
  exact this _ (Nat.le_refl _)
end sound
section use
variable {ops:Array Oper}{T:List Oper->Fr->List Res->Prop}{C E:List (List Nat)}{Z:Option Nat}{L0:List Res}{k i d n:Nat}{o:Oper}{rest:List Oper}{F:Env->Fr}{rs:List (Nat×(Env->Value->List Res->Prop))}
theorem dcE {u:Value}(hg: ∀ρ,relOf (cl C i) rs ρ->OpT P ro N w0 M ds o (only (o.looksAt ops) (get (F ρ))) (resOf (visE C E i) rs ρ (baseE C Z L0 i)) (Det u (resOf (visE C E i) rs ρ (baseE C Z L0 i)))) (hw: ∀ρ,wants ops o (only (o.looksAt ops) (get (F ρ)))=some true:=by exact λ_=>rfl) (hd:o.dst=some d:=by exact rfl)
  (hv:visE C E i=leftE C E i:=by exact rfl) (hb:baseE C Z L0 i=leftB C Z L0 i:=by exact rfl)
  (k:DHE P ro N w0 M ds ops T C E Z L0 n (i+1) rest (λρ=>(d,u)::F ρ) rs):DHE P ro N w0 M ds ops T C E Z L0 (n+1) i (o::rest) F rs:=
 .inl ⟨λ_=>u,λ_ _ _=>rfl,λρ hρ=> .inl ⟨hw ρ,by have:=hg ρ hρ;rw [<-hv,<-hb];exact this⟩,by rw [hd];exact k⟩
theorem zlW {u:Env->Value}(hg: ∀ρ,relOf (cl C i) rs ρ->OpT P ro N w0 M ds o (only (o.looksAt ops) (get (F ρ))) (resOf (visE C E i) rs ρ (baseE C Z L0 i)) (Det (u ρ) (resOf (leftE C E i) rs ρ (leftB C Z L0 i)))) (hw: ∀ρ,wants ops o (only (o.looksAt ops) (get (F ρ)))=some true) (hd:o.dst=some d)
  (hl: ∀ρ ρ':Env,(∀k,k∈cl C i->ρ k=ρ' k)->u ρ=u ρ') (h:DHE P ro N w0 M ds ops T C E Z L0 k (i+1) rest (λρ=>(d,u ρ)::F ρ) rs):DHE P ro N w0 M ds ops T C E Z L0 (k+1) i (o::rest) F rs:=
 .inl ⟨u,hl,λρ hρ=> .inl ⟨hw ρ,hg ρ hρ⟩,by rw [hd];exact h⟩
theorem zgE (hw: ∀ρ,wants ops o (only (o.looksAt ops) (get (F ρ)))=some false) (hd:o.dst=some d) (hv:visE C E i=leftE C E i:=by exact rfl) (hb:baseE C Z L0 i=leftB C Z L0 i:=by exact rfl)
  (h:DHE P ro N w0 M ds ops T C E Z L0 k (i+1) rest (λρ=>(d,undef)::F ρ) rs):DHE P ro N w0 M ds ops T C E Z L0 (k+1) i (o::rest) F rs:=
 .inl ⟨λ_=>undef,λ_ _ _=>rfl,λρ _=> .inr ⟨hw ρ,rfl,by rw [hv,hb]⟩,by rw [hd];exact h⟩
theorem zcp {R:Env->Value->List Res->Prop}(hl: ∀ρ ρ':Env,(∀k,k∈cl C i->ρ k=ρ' k)->R ρ=R ρ') (hg: ∀ρ,relOf (cl C i) rs ρ->OpT P ro N w0 M ds o (only (o.looksAt ops) (get (F ρ))) (resOf (visE C E i) rs ρ (baseE C Z L0 i)) (λv L'=>∃Nw,L'=Nw ++ resOf (leftE C E i) rs ρ (leftB C Z L0 i)/\R ρ v Nw)) (hw: ∀ρ,wants ops o (only (o.looksAt ops) (get (F ρ)))=some true:=by exact λ_=>rfl) (hd:o.dst=some d:=by exact rfl)
  (h:DHE P ro N w0 M ds ops T C E Z L0 k (i+1) rest (λρ=>(d,(ρ i).1)::F ρ) ((i,R)::rs)):DHE P ro N w0 M ds ops T C E Z L0 (k+1) i (o::rest) F rs:=
 .inr ⟨R,hl,λρ hρ=> .inl ⟨hw ρ,hg ρ hρ⟩,by rw [hd];exact h⟩
theorem zco (h: ∀ρ,relOf (List.range i) rs ρ->T rest (F ρ) (resOf (visN E i) rs ρ (baseN Z L0))):DHE P ro N w0 M ds ops T C E Z L0 0 i rest F rs:=h
end use
end
section
variable {P:Program}{ro:Option Nat}{N:Nat}{w0:World}{M:Nat->Prop}{ds:List Deferred}{fr:Fr}{L L':List Res}{Q:Exit->Act->World->Prop}{ops:Array Oper}{rest:List Oper}{o:Oper}{d:Nat}{v:Value}
variable {C:List (List Nat)}{L0:List Res}{i n:Nat}{F:Env->Fr}{rs:List (Nat×(Env->Value->List Res->Prop))}
theorem zaH (k:SyL P ro N w0 M ds ops Q rest ((d,v)::fr) L') (h:OpT P ro N w0 M ds o (get fr) L (Det v L'):=by exact zbK) (hw:wants ops o (get fr)=some true:=by exact rfl) (hd:o.dst=some d:=by exact rfl) (hN:Nat.blt d N=true:=by exact rfl):SyL P ro N w0 M ds ops Q (o::rest) fr L:=zaO h hw hd hN k
theorem zk (k:DH P ro N w0 M ds ops Q C L0 n (i+1) rest (λρ=>(d,v)::F ρ) rs) (hg: ∀ρ,relOf (cl C i) rs ρ->OpT P ro N w0 M ds o (only (o.looksAt ops) (get (F ρ))) (resOf (cl C i) rs ρ L0) (Det v (resOf (cl C i) rs ρ L0)):=by intro _ _;exact zbK) (hw: ∀ρ,wants ops o (only (o.looksAt ops) (get (F ρ)))=some true:=by exact λ_=>rfl) (hd:o.dst=some d:=by exact rfl):DH P ro N w0 M ds ops Q C L0 (n+1) i (o::rest) F rs:=dc hg hw hd k
theorem zx (k:SyL P ro N w0 M ds ops Q rest ((d,v)::fr) L') (h:OpT P ro N w0 M ds o (get fr) L (Det v L'):=by exact za9) (hw:wants ops o (get fr)=some true:=by exact rfl) (hd:o.dst=some d:=by exact rfl) (hN:Nat.blt d N=true:=by exact rfl):SyL P ro N w0 M ds ops Q (o::rest) fr L:=zaO h hw hd hN k
theorem zgO (k:DH P ro N w0 M ds ops Q C L0 n (i+1) rest (λρ=>(d,v)::F ρ) rs) (hg: ∀ρ,relOf (cl C i) rs ρ->OpT P ro N w0 M ds o (only (o.looksAt ops) (get (F ρ))) (resOf (cl C i) rs ρ L0) (Det v (resOf (cl C i) rs ρ L0)):=by intro _ _;exact za9) (hw: ∀ρ,wants ops o (only (o.looksAt ops) (get (F ρ)))=some true:=by exact λ_=>rfl) (hd:o.dst=some d:=by exact rfl):DH P ro N w0 M ds ops Q C L0 (n+1) i (o::rest) F rs:=dc hg hw hd k
theorem za1 (k:SyL P ro N w0 M ds ops Q rest ((d,v)::fr) L') (h:OpT P ro N w0 M ds o (get fr) L (Det v L'):=by exact zkV) (hw:wants ops o (get fr)=some true:=by exact rfl) (hd:o.dst=some d:=by exact rfl) (hN:Nat.blt d N=true:=by exact rfl):SyL P ro N w0 M ds ops Q (o::rest) fr L:=zaO h hw hd hN k
theorem zaP (k:SyL P ro N w0 M ds ops Q rest ((d,v)::fr) L') (h:OpT P ro N w0 M ds o (get fr) L (Det v L'):=by exact zcQ) (hw:wants ops o (get fr)=some true:=by exact rfl) (hd:o.dst=some d:=by exact rfl) (hN:Nat.blt d N=true:=by exact rfl):SyL P ro N w0 M ds ops Q (o::rest) fr L:=zaO h hw hd hN k
theorem zbO (k:DH P ro N w0 M ds ops Q C L0 n (i+1) rest (λρ=>(d,v)::F ρ) rs) (hg: ∀ρ,relOf (cl C i) rs ρ->OpT P ro N w0 M ds o (only (o.looksAt ops) (get (F ρ))) (resOf (cl C i) rs ρ L0) (Det v (resOf (cl C i) rs ρ L0)):=by intro _ _;exact zcQ) (hw: ∀ρ,wants ops o (only (o.looksAt ops) (get (F ρ)))=some true:=by exact λ_=>rfl) (hd:o.dst=some d:=by exact rfl):DH P ro N w0 M ds ops Q C L0 (n+1) i (o::rest) F rs:=dc hg hw hd k
theorem zm (k:SyL P ro N w0 M ds ops Q rest ((d,v)::fr) L') (h:OpT P ro N w0 M ds o (get fr) L (Det v L'):=by first|exact zC|exact zl|exact zf|exact zz) (hw:wants ops o (get fr)=some true:=by exact rfl) (hd:o.dst=some d:=by exact rfl) (hN:Nat.blt d N=true:=by exact rfl):SyL P ro N w0 M ds ops Q (o::rest) fr L:=zaO h hw hd hN k
theorem zal (k:DH P ro N w0 M ds ops Q C L0 n (i+1) rest (λρ=>(d,v)::F ρ) rs) (hg: ∀ρ,relOf (cl C i) rs ρ->OpT P ro N w0 M ds o (only (o.looksAt ops) (get (F ρ))) (resOf (cl C i) rs ρ L0) (Det v (resOf (cl C i) rs ρ L0)):=by intro _ _;first|exact zC|exact zl|exact zf|exact zz) (hw: ∀ρ,wants ops o (only (o.looksAt ops) (get (F ρ)))=some true:=by exact λ_=>rfl) (hd:o.dst=some d:=by exact rfl):DH P ro N w0 M ds ops Q C L0 (n+1) i (o::rest) F rs:=dc hg hw hd k
theorem ziL (k:SyL P ro N w0 M ds ops Q rest ((d,v)::fr) L') (h:OpT P ro N w0 M ds o (get fr) L (Det v L'):=by first|exact zhl|exact zhV) (hw:wants ops o (get fr)=some true:=by exact rfl) (hd:o.dst=some d:=by exact rfl) (hN:Nat.blt d N=true:=by exact rfl):SyL P ro N w0 M ds ops Q (o::rest) fr L:=zaO h hw hd hN k
theorem ziK (k:DH P ro N w0 M ds ops Q C L0 n (i+1) rest (λρ=>(d,v)::F ρ) rs) (hg: ∀ρ,relOf (cl C i) rs ρ->OpT P ro N w0 M ds o (only (o.looksAt ops) (get (F ρ))) (resOf (cl C i) rs ρ L0) (Det v (resOf (cl C i) rs ρ L0)):=by intro _ _;first|exact zhl|exact zhV) (hw: ∀ρ,wants ops o (only (o.looksAt ops) (get (F ρ)))=some true:=by exact λ_=>rfl) (hd:o.dst=some d:=by exact rfl):DH P ro N w0 M ds ops Q C L0 (n+1) i (o::rest) F rs:=dc hg hw hd k
theorem zL (k:SyL P ro N w0 M ds ops Q rest ((d,v)::fr) L') (h:OpT P ro N w0 M ds o (get fr) L (Det v L'):=by exact zn) (hw:wants ops o (get fr)=some true:=by exact rfl) (hd:o.dst=some d:=by exact rfl) (hN:Nat.blt d N=true:=by exact rfl):SyL P ro N w0 M ds ops Q (o::rest) fr L:=zaO h hw hd hN k
theorem ziN (k:DH P ro N w0 M ds ops Q C L0 n (i+1) rest (λρ=>(d,v)::F ρ) rs) (hg: ∀ρ,relOf (cl C i) rs ρ->OpT P ro N w0 M ds o (only (o.looksAt ops) (get (F ρ))) (resOf (cl C i) rs ρ L0) (Det v (resOf (cl C i) rs ρ L0)):=by intro _ _;exact zn) (hw: ∀ρ,wants ops o (only (o.looksAt ops) (get (F ρ)))=some true:=by exact λ_=>rfl) (hd:o.dst=some d:=by exact rfl):DH P ro N w0 M ds ops Q C L0 (n+1) i (o::rest) F rs:=dc hg hw hd k
theorem zak (k:SyL P ro N w0 M ds ops Q rest ((d,v)::fr) L') (h:OpT P ro N w0 M ds o (get fr) L (Det v L'):=by exact zU) (hw:wants ops o (get fr)=some true:=by exact rfl) (hd:o.dst=some d:=by exact rfl) (hN:Nat.blt d N=true:=by exact rfl):SyL P ro N w0 M ds ops Q (o::rest) fr L:=zaO h hw hd hN k
theorem zbB (k:SyL P ro N w0 M ds ops Q rest ((d,v)::fr) L') (h:OpT P ro N w0 M ds o (get fr) L (Det v L'):=by exact zau) (hw:wants ops o (get fr)=some true:=by exact rfl) (hd:o.dst=some d:=by exact rfl) (hN:Nat.blt d N=true:=by exact rfl):SyL P ro N w0 M ds ops Q (o::rest) fr L:=zaO h hw hd hN k
theorem zad (k:SyL P ro N w0 M ds ops Q rest ((d,v)::fr) L') (h:OpT P ro N w0 M ds o (get fr) L (Det v L'):=by exact zab) (hw:wants ops o (get fr)=some true:=by exact rfl) (hd:o.dst=some d:=by exact rfl) (hN:Nat.blt d N=true:=by exact rfl):SyL P ro N w0 M ds ops Q (o::rest) fr L:=zaO h hw hd hN k
theorem zan (k:SyL P ro N w0 M ds ops Q rest ((d,v)::fr) L') (h:OpT P ro N w0 M ds o (get fr) L (Det v L'):=by first|exact zX|exact op_eqNil|exact op_eqNilF|exact zh6|exact zhp|exact za2|exact op_eqArr) (hw:wants ops o (get fr)=some true:=by exact rfl) (hd:o.dst=some d:=by exact rfl) (hN:Nat.blt d N=true:=by exact rfl):SyL P ro N w0 M ds ops Q (o::rest) fr L:=zaO h hw hd hN k
theorem zse (k:DH P ro N w0 M ds ops Q C L0 n (i+1) rest (λρ=>(d,v)::F ρ) rs) (hg: ∀ρ,relOf (cl C i) rs ρ->OpT P ro N w0 M ds o (only (o.looksAt ops) (get (F ρ))) (resOf (cl C i) rs ρ L0) (Det v (resOf (cl C i) rs ρ L0)):=by intro _ _;first|exact zX|exact op_eqNil|exact op_eqNilF|exact zh6|exact zhp|exact za2|exact op_eqArr) (hw: ∀ρ,wants ops o (only (o.looksAt ops) (get (F ρ)))=some true:=by exact λ_=>rfl) (hd:o.dst=some d:=by exact rfl):DH P ro N w0 M ds ops Q C L0 (n+1) i (o::rest) F rs:=dc hg hw hd k
theorem z8 (k:SyL P ro N w0 M ds ops Q rest ((d,v)::fr) L') (h:OpT P ro N w0 M ds o (get fr) L (Det v L'):=by first|exact zag|exact op_neNil|exact op_neB|exact zb1|exact op_neArr) (hw:wants ops o (get fr)=some true:=by exact rfl) (hd:o.dst=some d:=by exact rfl) (hN:Nat.blt d N=true:=by exact rfl):SyL P ro N w0 M ds ops Q (o::rest) fr L:=zaO h hw hd hN k
theorem zaj (k:SyL P ro N w0 M ds ops Q rest ((d,v)::fr) L') (h:OpT P ro N w0 M ds o (get fr) L (Det v L'):=by first|exact zu|exact op_addStr) (hw:wants ops o (get fr)=some true:=by exact rfl) (hd:o.dst=some d:=by exact rfl) (hN:Nat.blt d N=true:=by exact rfl):SyL P ro N w0 M ds ops Q (o::rest) fr L:=zaO h hw hd hN k
theorem zmf (k:DH P ro N w0 M ds ops Q C L0 n (i+1) rest (λρ=>(d,v)::F ρ) rs) (hg: ∀ρ,relOf (cl C i) rs ρ->OpT P ro N w0 M ds o (only (o.looksAt ops) (get (F ρ))) (resOf (cl C i) rs ρ L0) (Det v (resOf (cl C i) rs ρ L0)):=by intro _ _;first|exact zu|exact op_addStr) (hw: ∀ρ,wants ops o (only (o.looksAt ops) (get (F ρ)))=some true:=by exact λ_=>rfl) (hd:o.dst=some d:=by exact rfl):DH P ro N w0 M ds ops Q C L0 (n+1) i (o::rest) F rs:=dc hg hw hd k
theorem zdc (k:SyL P ro N w0 M ds ops Q rest ((d,v)::fr) L') (h:OpT P ro N w0 M ds o (get fr) L (Det v L'):=by exact zD) (hw:wants ops o (get fr)=some true:=by exact rfl) (hd:o.dst=some d:=by exact rfl) (hN:Nat.blt d N=true:=by exact rfl):SyL P ro N w0 M ds ops Q (o::rest) fr L:=zaO h hw hd hN k
theorem zdo (k:SyL P ro N w0 M ds ops Q rest ((d,v)::fr) L') (h:OpT P ro N w0 M ds o (get fr) L (Det v L'):=by exact zah) (hw:wants ops o (get fr)=some true:=by exact rfl) (hd:o.dst=some d:=by exact rfl) (hN:Nat.blt d N=true:=by exact rfl):SyL P ro N w0 M ds ops Q (o::rest) fr L:=zaO h hw hd hN k
theorem zr4 (k:DH P ro N w0 M ds ops Q C L0 n (i+1) rest (λρ=>(d,v)::F ρ) rs) (hg: ∀ρ,relOf (cl C i) rs ρ->OpT P ro N w0 M ds o (only (o.looksAt ops) (get (F ρ))) (resOf (cl C i) rs ρ L0) (Det v (resOf (cl C i) rs ρ L0)):=by intro _ _;exact zah) (hw: ∀ρ,wants ops o (only (o.looksAt ops) (get (F ρ)))=some true:=by exact λ_=>rfl) (hd:o.dst=some d:=by exact rfl):DH P ro N w0 M ds ops Q C L0 (n+1) i (o::rest) F rs:=dc hg hw hd k
theorem zsa (k:SyL P ro N w0 M ds ops Q rest ((d,v)::fr) L') (h:OpT P ro N w0 M ds o (get fr) L (Det v L'):=by exact zaz) (hw:wants ops o (get fr)=some true:=by exact rfl) (hd:o.dst=some d:=by exact rfl) (hN:Nat.blt d N=true:=by exact rfl):SyL P ro N w0 M ds ops Q (o::rest) fr L:=zaO h hw hd hN k
theorem zlS (k:SyL P ro N w0 M ds ops Q rest ((d,v)::fr) L') (h:OpT P ro N w0 M ds o (get fr) L (Det v L'):=by exact zap) (hw:wants ops o (get fr)=some true:=by exact rfl) (hd:o.dst=some d:=by exact rfl) (hN:Nat.blt d N=true:=by exact rfl):SyL P ro N w0 M ds ops Q (o::rest) fr L:=zaO h hw hd hN k
theorem zb8 (k:SyL P ro N w0 M ds ops Q rest ((d,v)::fr) L') (h:OpT P ro N w0 M ds o (get fr) L (Det v L'):=by first|exact zg7|exact ziV|exact op_compl) (hw:wants ops o (get fr)=some true:=by exact rfl) (hd:o.dst=some d:=by exact rfl) (hN:Nat.blt d N=true:=by exact rfl):SyL P ro N w0 M ds ops Q (o::rest) fr L:=zaO h hw hd hN k
theorem zhk (k:DH P ro N w0 M ds ops Q C L0 n (i+1) rest (λρ=>(d,v)::F ρ) rs) (hg: ∀ρ,relOf (cl C i) rs ρ->OpT P ro N w0 M ds o (only (o.looksAt ops) (get (F ρ))) (resOf (cl C i) rs ρ L0) (Det v (resOf (cl C i) rs ρ L0)):=by intro _ _;first|exact zg7|exact ziV|exact op_compl) (hw: ∀ρ,wants ops o (only (o.looksAt ops) (get (F ρ)))=some true:=by exact λ_=>rfl) (hd:o.dst=some d:=by exact rfl):DH P ro N w0 M ds ops Q C L0 (n+1) i (o::rest) F rs:=dc hg hw hd k
theorem zdj (k:SyL P ro N w0 M ds ops Q rest ((d,v)::fr) L') (h:OpT P ro N w0 M ds o (get fr) L (Det v L'):=by exact zS) (hw:wants ops o (get fr)=some true:=by exact rfl) (hd:o.dst=some d:=by exact rfl) (hN:Nat.blt d N=true:=by exact rfl):SyL P ro N w0 M ds ops Q (o::rest) fr L:=zaO h hw hd hN k
theorem zR (k:DH P ro N w0 M ds ops Q C L0 n (i+1) rest (λρ=>(d,v)::F ρ) rs) (hg: ∀ρ,relOf (cl C i) rs ρ->OpT P ro N w0 M ds o (only (o.looksAt ops) (get (F ρ))) (resOf (cl C i) rs ρ L0) (Det v (resOf (cl C i) rs ρ L0)):=by intro _ _;exact zS) (hw: ∀ρ,wants ops o (only (o.looksAt ops) (get (F ρ)))=some true:=by exact λ_=>rfl) (hd:o.dst=some d:=by exact rfl):DH P ro N w0 M ds ops Q C L0 (n+1) i (o::rest) F rs:=dc hg hw hd k
theorem zw (k:SyL P ro N w0 M ds ops Q rest ((d,v)::fr) L') (h:OpT P ro N w0 M ds o (get fr) L (Det v L'):=by first|exact zbw|exact zcn|exact zG|exact zcT|exact zA|exact zdi) (hw:wants ops o (get fr)=some true:=by exact rfl) (hd:o.dst=some d:=by exact rfl) (hN:Nat.blt d N=true:=by exact rfl):SyL P ro N w0 M ds ops Q (o::rest) fr L:=zaO h hw hd hN k
theorem zK (k:DH P ro N w0 M ds ops Q C L0 n (i+1) rest (λρ=>(d,v)::F ρ) rs) (hg: ∀ρ,relOf (cl C i) rs ρ->OpT P ro N w0 M ds o (only (o.looksAt ops) (get (F ρ))) (resOf (cl C i) rs ρ L0) (Det v (resOf (cl C i) rs ρ L0)):=by intro _ _;first|exact zbw|exact zcn|exact zG|exact zcT|exact zA|exact zdi) (hw: ∀ρ,wants ops o (only (o.looksAt ops) (get (F ρ)))=some true:=by exact λ_=>rfl) (hd:o.dst=some d:=by exact rfl):DH P ro N w0 M ds ops Q C L0 (n+1) i (o::rest) F rs:=dc hg hw hd k
theorem zee (k:SyL P ro N w0 M ds ops Q rest ((d,v)::fr) L') (h:OpT P ro N w0 M ds o (get fr) L (Det v L'):=by first|exact op_convSame|exact op_toStrD|exact z5) (hw:wants ops o (get fr)=some true:=by exact rfl) (hd:o.dst=some d:=by exact rfl) (hN:Nat.blt d N=true:=by exact rfl):SyL P ro N w0 M ds ops Q (o::rest) fr L:=zaO h hw hd hN k
theorem zaa (k:SyL P ro N w0 M ds ops Q rest ((d,v)::fr) L') (h:OpT P ro N w0 M ds o (get fr) L (Det v L'):=by exact zgg) (hw:wants ops o (get fr)=some true:=by exact rfl) (hd:o.dst=some d:=by exact rfl) (hN:Nat.blt d N=true:=by exact rfl):SyL P ro N w0 M ds ops Q (o::rest) fr L:=zaO h hw hd hN k
theorem zbv (k:SyL P ro N w0 M ds ops Q rest ((d,v)::fr) L') (h:OpT P ro N w0 M ds o (get fr) L (Det v L'):=by first|exact za0|exact zbJ|exact zdg) (hw:wants ops o (get fr)=some true:=by exact rfl) (hd:o.dst=some d:=by exact rfl) (hN:Nat.blt d N=true:=by exact rfl):SyL P ro N w0 M ds ops Q (o::rest) fr L:=zaO h hw hd hN k
theorem zqx (k:DH P ro N w0 M ds ops Q C L0 n (i+1) rest (λρ=>(d,v)::F ρ) rs) (hg: ∀ρ,relOf (cl C i) rs ρ->OpT P ro N w0 M ds o (only (o.looksAt ops) (get (F ρ))) (resOf (cl C i) rs ρ L0) (Det v (resOf (cl C i) rs ρ L0)):=by intro _ _;first|exact za0|exact zbJ|exact zdg) (hw: ∀ρ,wants ops o (only (o.looksAt ops) (get (F ρ)))=some true:=by exact λ_=>rfl) (hd:o.dst=some d:=by exact rfl):DH P ro N w0 M ds ops Q C L0 (n+1) i (o::rest) F rs:=dc hg hw hd k
theorem zqn (k:SyL P ro N w0 M ds ops Q rest ((d,v)::fr) L') (h:OpT P ro N w0 M ds o (get fr) L (Det v L'):=by first|exact zgs|exact zF) (hw:wants ops o (get fr)=some true:=by exact rfl) (hd:o.dst=some d:=by exact rfl) (hN:Nat.blt d N=true:=by exact rfl):SyL P ro N w0 M ds ops Q (o::rest) fr L:=zaO h hw hd hN k
theorem za4 (k:SyL P ro N w0 M ds ops Q rest ((d,v)::fr) L') (h:OpT P ro N w0 M ds o (get fr) L (Det v L'):=by first|exact zh5|exact zeg|exact zcF rfl (ty rfl) (.inl ⟨rfl,rfl⟩) (zc rfl)|exact zcF rfl (ty rfl) (.inr ⟨_,_,_,rfl,ty rfl⟩) (zc rfl)) (hw:wants ops o (get fr)=some true:=by exact rfl) (hd:o.dst=some d:=by exact rfl) (hN:Nat.blt d N=true:=by exact rfl):SyL P ro N w0 M ds ops Q (o::rest) fr L:=zaO h hw hd hN k
theorem zqS (k:DH P ro N w0 M ds ops Q C L0 n (i+1) rest (λρ=>(d,v)::F ρ) rs) (hg: ∀ρ,relOf (cl C i) rs ρ->OpT P ro N w0 M ds o (only (o.looksAt ops) (get (F ρ))) (resOf (cl C i) rs ρ L0) (Det v (resOf (cl C i) rs ρ L0)):=by intro _ _;first|exact zh5|exact zeg|exact zcF rfl (ty rfl) (.inl ⟨rfl,rfl⟩) (zc rfl)|exact zcF rfl (ty rfl) (.inr ⟨_,_,_,rfl,ty rfl⟩) (zc rfl)) (hw: ∀ρ,wants ops o (only (o.looksAt ops) (get (F ρ)))=some true:=by exact λ_=>rfl) (hd:o.dst=some d:=by exact rfl):DH P ro N w0 M ds ops Q C L0 (n+1) i (o::rest) F rs:=dc hg hw hd k
theorem zI (k:SyL P ro N w0 M ds ops Q rest fr L') (h:OpT P ro N w0 M ds o (get fr) L (Det v L'):=by first|exact zE|exact zcr|exact zcC) (hw:wants ops o (get fr)=some true:=by exact rfl) (hd:o.dst=none:=by exact rfl):SyL P ro N w0 M ds ops Q (o::rest) fr L:=zmL h hw hd k
theorem zj {T:Nat}{C:List Value}(k: ∀b,SyL P ro N w0 M ds ops Q rest ((d,.pointer (some ⟨b,0,none⟩))::fr) (.blk b T C::L)) (h:OpT P ro N w0 M ds o (get fr) L (NewP T C L):=by first|exact zcx|exact znM|exact zqy) (hw:wants ops o (get fr)=some true:=by exact rfl) (hd:o.dst=some d:=by exact rfl) (hN:Nat.blt d N=true:=by exact rfl):SyL P ro N w0 M ds ops Q (o::rest) fr L:=ya h hw hd hN k
end
section
variable {P:Program}{ro:Option Nat}{N:Nat}{w0:World}{M:Nat->Prop}{ds:List Deferred}{ops:Array Oper}{rest:List Oper}{o:Oper}{d:Nat}{v:Value}{T:List Oper->Fr->List Res->Prop}
variable {C E:List (List Nat)}{Z:Option Nat}{L0:List Res}{i n:Nat}{F:Env->Fr}{rs:List (Nat×(Env->Value->List Res->Prop))}
theorem zaq (k:DHE P ro N w0 M ds ops T C E Z L0 n (i+1) rest (λρ=>(d,v)::F ρ) rs) (hg: ∀ρ,relOf (cl C i) rs ρ->OpT P ro N w0 M ds o (only (o.looksAt ops) (get (F ρ))) (resOf (visE C E i) rs ρ (baseE C Z L0 i)) (Det v (resOf (visE C E i) rs ρ (baseE C Z L0 i))):=by intro _ _;exact zbK) (hw: ∀ρ,wants ops o (only (o.looksAt ops) (get (F ρ)))=some true:=by exact λ_=>rfl) (hd:o.dst=some d:=by exact rfl) (hv:visE C E i=leftE C E i:=by exact rfl) (hb:baseE C Z L0 i=leftB C Z L0 i:=by exact rfl):DHE P ro N w0 M ds ops T C E Z L0 (n+1) i (o::rest) F rs:=dcE hg hw hd hv hb k
theorem znT (k:DHE P ro N w0 M ds ops T C E Z L0 n (i+1) rest (λρ=>(d,v)::F ρ) rs) (hg: ∀ρ,relOf (cl C i) rs ρ->OpT P ro N w0 M ds o (only (o.looksAt ops) (get (F ρ))) (resOf (visE C E i) rs ρ (baseE C Z L0 i)) (Det v (resOf (visE C E i) rs ρ (baseE C Z L0 i))):=by intro _ _;exact zkV) (hw: ∀ρ,wants ops o (only (o.looksAt ops) (get (F ρ)))=some true:=by exact λ_=>rfl) (hd:o.dst=some d:=by exact rfl) (hv:visE C E i=leftE C E i:=by exact rfl) (hb:baseE C Z L0 i=leftB C Z L0 i:=by exact rfl):DHE P ro N w0 M ds ops T C E Z L0 (n+1) i (o::rest) F rs:=dcE hg hw hd hv hb k
theorem zaG (k:DHE P ro N w0 M ds ops T C E Z L0 n (i+1) rest (λρ=>(d,v)::F ρ) rs) (hg: ∀ρ,relOf (cl C i) rs ρ->OpT P ro N w0 M ds o (only (o.looksAt ops) (get (F ρ))) (resOf (visE C E i) rs ρ (baseE C Z L0 i)) (Det v (resOf (visE C E i) rs ρ (baseE C Z L0 i))):=by intro _ _;exact zcQ) (hw: ∀ρ,wants ops o (only (o.looksAt ops) (get (F ρ)))=some true:=by exact λ_=>rfl) (hd:o.dst=some d:=by exact rfl) (hv:visE C E i=leftE C E i:=by exact rfl) (hb:baseE C Z L0 i=leftB C Z L0 i:=by exact rfl):DHE P ro N w0 M ds ops T C E Z L0 (n+1) i (o::rest) F rs:=dcE hg hw hd hv hb k
theorem zrY (k:DHE P ro N w0 M ds ops T C E Z L0 n (i+1) rest (λρ=>(d,v)::F ρ) rs) (hg: ∀ρ,relOf (cl C i) rs ρ->OpT P ro N w0 M ds o (only (o.looksAt ops) (get (F ρ))) (resOf (visE C E i) rs ρ (baseE C Z L0 i)) (Det v (resOf (visE C E i) rs ρ (baseE C Z L0 i))):=by intro _ _;first|exact zg7|exact ziV|exact op_compl) (hw: ∀ρ,wants ops o (only (o.looksAt ops) (get (F ρ)))=some true:=by exact λ_=>rfl) (hd:o.dst=some d:=by exact rfl) (hv:visE C E i=leftE C E i:=by exact rfl) (hb:baseE C Z L0 i=leftB C Z L0 i:=by exact rfl):DHE P ro N w0 M ds ops T C E Z L0 (n+1) i (o::rest) F rs:=dcE hg hw hd hv hb k
theorem zbt (k:DHE P ro N w0 M ds ops T C E Z L0 n (i+1) rest (λρ=>(d,v)::F ρ) rs) (hg: ∀ρ,relOf (cl C i) rs ρ->OpT P ro N w0 M ds o (only (o.looksAt ops) (get (F ρ))) (resOf (visE C E i) rs ρ (baseE C Z L0 i)) (Det v (resOf (visE C E i) rs ρ (baseE C Z L0 i))):=by intro _ _;first|exact zbw|exact zcn|exact zG|exact zcT|exact zA|exact zdi) (hw: ∀ρ,wants ops o (only (o.looksAt ops) (get (F ρ)))=some true:=by exact λ_=>rfl) (hd:o.dst=some d:=by exact rfl) (hv:visE C E i=leftE C E i:=by exact rfl) (hb:baseE C Z L0 i=leftB C Z L0 i:=by exact rfl):DHE P ro N w0 M ds ops T C E Z L0 (n+1) i (o::rest) F rs:=dcE hg hw hd hv hb k
theorem zhg (k:DHE P ro N w0 M ds ops T C E Z L0 n (i+1) rest (λρ=>(d,v)::F ρ) rs) (hg: ∀ρ,relOf (cl C i) rs ρ->OpT P ro N w0 M ds o (only (o.looksAt ops) (get (F ρ))) (resOf (visE C E i) rs ρ (baseE C Z L0 i)) (Det v (resOf (visE C E i) rs ρ (baseE C Z L0 i))):=by intro _ _;exact zgg) (hw: ∀ρ,wants ops o (only (o.looksAt ops) (get (F ρ)))=some true:=by exact λ_=>rfl) (hd:o.dst=some d:=by exact rfl) (hv:visE C E i=leftE C E i:=by exact rfl) (hb:baseE C Z L0 i=leftB C Z L0 i:=by exact rfl):DHE P ro N w0 M ds ops T C E Z L0 (n+1) i (o::rest) F rs:=dcE hg hw hd hv hb k
end
theorem za {A B:Prop}(k:B) (f:B->A:=by intro h;(first|refine zaH ?_|refine zx ?_|refine za1 ?_|refine zaP ?_|refine ziL ?_|refine zdj ?_|refine zb8 ?_|refine zam rfl rfl rfl ?_);(repeat (first|refine zaH ?_|refine zx ?_|refine za1 ?_|refine zaP ?_|refine ziL ?_|refine zdj ?_|refine zb8 ?_|refine zam rfl rfl rfl ?_));exact h):A:=f k
theorem zO {A:Prop}{B:Nat->Prop}(k: ∀b,B b) (f:(∀b,B b)->A:=by intro h;refine zj ?_;intro b;(first|refine zaH ?_|refine zx ?_|refine za1 ?_|refine zaP ?_|refine ziL ?_|refine zdj ?_|refine zb8 ?_|refine zam rfl rfl rfl ?_);(repeat (first|refine zaH ?_|refine zx ?_|refine za1 ?_|refine zaP ?_|refine ziL ?_|refine zdj ?_|refine zb8 ?_|refine zam rfl rfl rfl ?_));exact h b):A:=f k
theorem q_h {p:Prop}(h:p:=by first|exact Has.append Has.go|exact SubR.go2|exact SubR.go|exact Sub.go):p:=h
theorem q_m {p:Prop}(h:p:=by (repeat (first|exact Rem.here|apply Rem.there));done):p:=h
theorem q_r {p:Prop}(h:p:=by first|exact ret1 rfl (resTmp rfl) SubR.nil ⟨rfl,rfl⟩|exact ret1 rfl (resTmp rfl) (by exact SubR.go2) ⟨_,_,rfl,rfl⟩|exact ret1 rfl (resTmp rfl) (by exact SubR.go) ⟨_,_,rfl,rfl⟩|exact ret2 rfl (resTmp rfl) (resTmp rfl) SubR.nil ⟨rfl,rfl⟩):p:=h
theorem zB {P:Program}{ro:Option Nat}{N:Nat}{w0:World}{M:Nat->Prop}{ds:List Deferred}{Q:Exit->Act->World->Prop}{fr:Fr}{L:List Res}{id:Nat}{l:List Oper}(r:List Nat) (h:SyL P ro N w0 M ds l.toArray Q l fr L) (_:r.contains id=true:=by exact rfl):Sy P ro N w0 M ds (.region id l.toArray false) Q fr L:=zbc h
theorem zb {P:Program}{ro:Option Nat}{N:Nat}{w0:World}{M:Nat->Prop}{ds:List Deferred}{Q:Exit->Act->World->Prop}{fr:Fr}{L:List Res}{l:List Oper}(id:Nat) (h:SyL P ro N w0 M ds l.toArray Q l fr L):Sy P ro N w0 M ds (.region id l.toArray false) Q fr L:=zbc h
theorem zr {w0:World}{M:Nat->Prop}{L:List Res}{F:World->Prop}(h: ∀w,Keep M w0 w->F w): ∀(w:World) (X:List Res),Keep M w0 w->Holds w0.heap.size M (L ++ X) w->F w:=λw _ hk _=>h w hk
end Go.Sy
end
