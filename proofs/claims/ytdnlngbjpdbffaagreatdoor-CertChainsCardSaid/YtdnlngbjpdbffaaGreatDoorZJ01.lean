/- Lemmas. -/
import Derived.Test.YtdnlngbjpdbffaaGreatDoorZJ00
import Derived.WalkKit
import Derived.OwnWalkIn
import Derived.TacticsInMore
import Derived.OrdersIn
import Derived.Deep.MidRow
import Derived.Great.BuildSlice
import Derived.Laws.Tables
import Derived.Shelf.Abstract
import Derived.RangeFuncLeaves
import Derived.RangeFuncNested
set_option linter.all false
namespace Go.Sy
section
open Go Go.RowKit
abbrev Fr:=List (Nat×Value)
def get:Fr->Nat->Option Value
 | [],_=>none
 |(t,v)::r,s=>bif Nat.beq t s then some v else get r s
def ev(g:Nat->Option Value):Operand->Option Value
 | .tmp t=>g t
 | .const v=>some v
 | .global b=>some (.pointer (some ⟨b,0,none⟩))
 | .func f=>some (.func (.func f) #[] #[])
def evs(g:Nat->Option Value):List Operand->Option (List Value)
 | []=>some []
 |x::l=>match ev g x,evs g l with
  |some v,some vs=>some (v::vs)
  |_,_=>none
def Agrees(g:Nat->Option Value)(a:Act):Prop:=∀t v,g t=some v->a.tmps[t]?=some v
theorem Agrees.eval{g:Nat->Option Value}{a:Act}(h:Agrees g a){x:Operand}{v:Value}(he:ev g x=some v):a.eval x=v:=by
 cases x with
 |tmp t=>
  have:=h t v he
  simp_all[Act.eval]
 |const c=>simpa [ev,Act.eval] using he
 |global b=>simpa [ev,Act.eval] using he
 |func f=>simpa [ev,Act.eval] using he
theorem Agrees.evals{g:Nat->Option Value}{a:Act}(h:Agrees g a):∀ {l:List Operand}{j:List Value},evs g l=some j->l.map a.eval=j
 | [],j,he=>by simpa [evs] using he
 |x::l,j,he=>by
  simp only[evs] at he;split at he
  ·rename_i v w m q;cases he;rw[Au,h.eval m,h.evals q]
  ·cases he
theorem Agrees.put{fr:Fr}{a:Act}(h:Agrees (get fr) a){d:Nat}(m:d<a.tmps.size)(v:Value):Agrees (get ((d,v)::fr)) (a.put (some d) v):=by
 intro t u hu;simp only[get] at hu;simp only[Act.put];cases hb:Nat.beq d t with
 |true=>
  simp_all
 |false=>
  have j:d≠t:=CB hb;rw[hb] at hu;simp at hu;rw[Bx j];exact h t u hu
theorem Agrees.sub{g j:Nat->Option Value}{a:Act}(h:Agrees g a)(m:∀t v,j t=some v->g t=some v):Agrees j a:=λt v q=>h t v (m t v q)
def Sub(fr' fr:Fr):Prop:=∀t v,get fr' t=some v->get fr t=some v
theorem Sub.nil{fr:Fr} :Sub [] fr:=λ_ _ h=>by simp[get] at h
def GZ:=@Sub.nil
theorem Sub.cons{fr fr':Fr}{t:Nat}{v j:Value}(h:get fr t=some j)(e:j=v)(m:Sub fr' fr):Sub ((t,v)::fr') fr:=λs u hu=>by
 subst e;simp only[get] at hu;cases hb:Nat.beq t s with
 |true=>simp_all
 |false=>rw[hb] at hu;simp at hu;exact m s u hu
def Fb:=@Sub.cons
theorem Sub.refl{fr:Fr} :Sub fr fr:=λ_ _ h=>h
theorem Sub.go{a b:Fr}(h:Sub a b:=by repeat' (first|exact Sub.nil|refine Sub.cons rfl ?_ ?_|rfl)):Sub a b:=h
inductive Res where
 |blk (b T:Nat) (C:List Value)
 |row (v:Value) (E size n:Nat) (xs:List Value)
 |obj (b:Nat) (o:Obj)
 |abs (O:Nat->Prop) (H:World->Prop)
def Res.own:Res->Nat->Prop
 | .blk b _ _=>λx=>b=x
 | .row v _ _ _ _=>λx=>v.ownBlock=some x
 | .obj b _=>λx=>b=x
 | .abs O _=>O
def Res.holds(w:World):Res->Prop
 | .blk b T C=>w.heap[b]?=some (.cells C.toArray T (0,0))
 | .row v E s n xs=>w.ownsRow 0 E s v n xs
 | .obj b o=>w.heap[b]?=some o
 | .abs O H=>(∀b,O b->b<w.heap.size)/\∀w':World,(∀b,O b->w'.heap[b]?=w.heap[b]?)->H w'
theorem Res.own_lt{w:World}{r:Res}(h:r.holds w){b:Nat}(hb:r.own b):b<w.heap.size:=by
 match r,h,hb with
 | .blk b' T C,h,hb=>have hb:b'=b:=hb;subst hb;exact(Af.1 h).1
 | .obj b' o,h,hb=>have hb:b'=b:=hb;subst hb;exact(Af.1 h).1
 | .row v E s n xs,h,hb=>exact(World.ownsRow.lt h b hb).2
 | .abs O H,h,hb=>exact h.1 b hb
def FD:=@Res.own_lt
theorem zq9{w w':World}{b:Nat}(h:b<w.heap.size)(e:w'.heap[b]?=w.heap[b]?):b<w'.heap.size:=by grind
theorem Res.holds_congr{w w':World}{r:Res}(h:r.holds w)(hb:∀b,r.own b->w'.heap[b]?=w.heap[b]?):r.holds w':=by
 match r,h,hb with
 | .blk b T C,h,hb=>exact(hb b rfl).trans h
 | .obj b o,h,hb=>exact(hb b rfl).trans h
 | .abs O H,h,hb=>exact⟨λb j=>zq9 (h.1 b j) (hb b j),λA q=>h.2 A λb j=>(q b j).trans (hb b j)⟩
 | .row v E s n xs,h,hb=>
  obtain⟨B,G|⟨g,cap,m,rfl,I,J,K⟩⟩:=h
  ·exact⟨B,.inl G⟩
  ·exact⟨B,.inr ⟨g,cap,m,rfl,I,(hb g rfl).trans J,K⟩⟩
def FN:=@Res.holds_congr
def Apart(r r':Res):Prop:=∀b,r.own b->¬r'.own b
theorem Apart.symm{r r':Res}(h:Apart r r'):Apart r' r:=λb m j=>h b j m
structure Keep(M:Nat->Prop)(w0 w:World):Prop where
 os:w.os=w0.os
 tape:w.tape=w0.tape
 output:w.output=w0.output
 size:w0.heap.size<=w.heap.size
 block:∀k,k<w0.heap.size->¬M k->w.heap[k]?=w0.heap[k]?
abbrev No:Nat->Prop:=λ_=>False
theorem Keep.refl(M:Nat->Prop)(w:World):Keep M w w:=⟨rfl,rfl,rfl,A7 _,λ_ _ _=>rfl⟩
def Fl:=@Keep.refl
theorem Keep.trans{M M':Nat->Prop}{a b c:World}(h:Keep M a b)(k:Keep M' b c)(hm:∀x,M' x->a.heap.size<=x\/M x):Keep M a c:=
 ⟨k.os.trans h.os,k.tape.trans h.tape,k.output.trans h.output,BE h.size k.size,λx m q=>
  (k.block x (AK m h.size) (λj=>(hm x j).elim (λh=>absurd m (Nat.not_lt.2 h)) q)).trans (h.block x m q)⟩
theorem Keep.mono{M M':Nat->Prop}{a b:World}(h:Keep M a b)(hm:∀x,M x->M' x):Keep M' a b:=
 ⟨h.os,h.tape,h.output,h.size,λx m j=>h.block x m (λh=>j (hm x h))⟩
theorem Keep.below{w w':World}(h:Keep No w w'):Below w.heap.size w w':=⟨h.os,h.tape,h.output,h.size,λk j=>h.block k j (λh=>h)⟩
theorem Keep.of_below{M:Nat->Prop}{w w':World}(h:Below w.heap.size w w'):Keep M w w':=⟨h.os,h.tape,h.output,h.size,λk j _=>h.block k j⟩
theorem Keep.alloc(M:Nat->Prop)(w:World)(o:Obj):Keep M w (w.alloc o):=
 ⟨rfl,rfl,rfl,by simp,λk j _=>Below.heap_alloc w o k j⟩
def Fe:=@Keep.alloc
theorem Keep.setCell(w:World)(a:Addr)(v:Value):Keep (· =a.block) w (w.setCell a v):=
 ⟨rfl,rfl,rfl,by simp,λk _ j=>Below.heap_setCell w a v k j⟩
def Fm:=@Keep.setCell
theorem Keep.grown{w w':World}{row:Option Nat}(h:w.grownBy w' row):Keep (λk=>row=some k) w w':=
 ⟨h.os,h.tape,h.output,h.size,λk j m=>h.block k j (λe=>m e.symm)⟩
theorem Keep.cell{M:Nat->Prop}{w w':World}(h:Keep M w w'){a:Addr}{v:Value}(hv:w.cell? a=some v)(hn:¬M a.block):w'.cell? a=some v:=by
 have j:=World.block_lt_of_cell? w a hv;rw[World.cell?_of_block (w:=w) (h.block _ j hn)];exact hv
structure Holds(B:Nat)(M:Nat->Prop)(L:List Res)(w:World):Prop where
 all:∀r∈L,r.holds w
 apart:L.Pairwise Apart
 mine:∀r∈L,∀b,r.own b->B<=b\/M b
theorem Holds.nil{B:Nat}{M:Nat->Prop}{w:World} :Holds B M [] w:=⟨λ_ h=>(Bi h).elim,List.Pairwise.nil,λ_ h=>(Bi h).elim⟩
def FU:=@Holds.nil
theorem Holds.tail{B:Nat}{M:Nat->Prop}{r:Res}{L:List Res}{w:World}(h:Holds B M (r::L) w):Holds B M L w:=
 ⟨λx j=>h.all x (A1 _ j),(Ah.1 h.apart).2,λx j=>h.mine x (A1 _ j)⟩
theorem Holds.cons{B:Nat}{M:Nat->Prop}{r:Res}{L:List Res}{w:World}(h:Holds B M L w)(hr:r.holds w)(ha:∀x∈L,Apart r x)(hm:∀b,r.own b->B<=b\/M b):Holds B M (r::L) w:=
 ⟨λx j=>by
  rcases AV.1 j with rfl|j
  ·exact hr
  ·exact h.all x j,Ah.2 ⟨ha,h.apart⟩,λx j=>by
  rcases AV.1 j with rfl|j
  ·exact hm
  ·exact h.mine x j⟩
theorem Holds.keep{B:Nat}{M M':Nat->Prop}{L:List Res}{w w':World}(h:Holds B M L w)(hk:Keep M' w w')(hn:∀r∈L,∀b,r.own b->¬M' b):Holds B M L w':=
 ⟨λr j=>FN (h.all r j) (λb m=>hk.block b (FD (h.all r j) m) (hn r j b m)),h.apart,h.mine⟩
theorem Holds.perm{B:Nat}{M:Nat->Prop}{L L':List Res}{w:World}(h:Holds B M L w)(hp:L.Perm L'):Holds B M L' w:=
 ⟨λr j=>h.all r (hp.mem_iff.2 j),(hp.pairwise_iff (λh=>Apart.symm h)).1 h.apart,λr j=>h.mine r (hp.mem_iff.2 j)⟩
theorem Holds.sublist{B:Nat}{M:Nat->Prop}{L L':List Res}{w:World}(h:Holds B M L w)(hp:L'.Sublist L):Holds B M L' w:=
 ⟨λr j=>h.all r (hp.subset j),h.apart.sublist hp,λr j=>h.mine r (hp.subset j)⟩
theorem Holds.new{B:Nat}{M:Nat->Prop}{L:List Res}{w:World}(h:Holds B M L w)(q:B<=w.heap.size)(T:Nat)(C:List Value):
  Holds B M (.blk w.heap.size T C::L) (w.alloc (.cells C.toArray T)):=by
 refine(h.keep (Fe No w _) (λ_ _ _ _ h=>h)).cons ?_ ?_ ?_
 ·show(w.heap.push _)[w.heap.size]?=_;simp
 ·intro x A b j m;cases j;have:=FD (h.all x A) m;omega
 ·intro b j;cases j;exact .inl q
def Has(L:List Res)(r:Res):Prop:=r∈L
theorem Has.here{r:Res}{L:List Res} :Has (r::L) r:=A3
def F5:=@Has.here
theorem Has.there{r x:Res}{L:List Res}(h:Has L r):Has (x::L) r:=A1 _ h
def F8:=@Has.there
theorem Has.go{L:List Res}{r:Res}(h:Has L r:=by repeat (first|exact F5|apply F8)):Has L r:=h
def Ey:=@Has.go
theorem Has.mem{L:List Res}{r:Res}(h:Has L r):r∈L:=h
theorem Has.append{L X:List Res}{r:Res}(h:Has L r):Has (L++X) r:=AH _ h
def F1:=@Has.append
def Upd(L:List Res)(r r':Res)(L':List Res):Prop:=∃A B,L=A++r::B/\L'=A++r'::B
theorem Upd.here{r r':Res}{L:List Res} :Upd (r::L) r r' (r'::L):=⟨[],L,rfl,rfl⟩
def FX:=@Upd.here
theorem Upd.there{r r' x:Res}{L L':List Res}(h:Upd L r r' L'):Upd (x::L) r r' (x::L'):=
 let ⟨A,B,e,j⟩:=h;⟨x::A,B,by rw[e];rfl,by rw[j];rfl⟩
def FV:=@Upd.there
theorem Upd.append{L L' X:List Res}{r r':Res}(h:Upd L r r' L'):Upd (L++X) r r' (L'++X):=
 let ⟨A,B,e,j⟩:=h;⟨A,B++X,by rw[e];simp,by rw[j];simp⟩
def Rem(L:List Res)(r:Res)(L':List Res):Prop:=∃A B,L=A++r::B/\L'=A++B
theorem Rem.here{r:Res}{L:List Res} :Rem (r::L) r L:=⟨[],L,rfl,rfl⟩
def Eu:=@Rem.here
theorem Rem.there{r x:Res}{L L':List Res}(h:Rem L r L'):Rem (x::L) r (x::L'):=
 let ⟨A,B,e,j⟩:=h;⟨x::A,B,by rw[e];rfl,by rw[j];rfl⟩
def Ew:=@Rem.there
theorem Rem.append{L L' X:List Res}{r:Res}(h:Rem L r L'):Rem (L++X) r (L'++X):=
 let ⟨A,B,e,j⟩:=h;⟨A,B++X,by rw[e];simp,by rw[j];simp⟩
theorem Rem.perm{L L':List Res}{r:Res}(h:Rem L r L'):L.Perm (r::L'):=by
 obtain⟨A,B,e,j⟩:=h;rw[e,j];exact DW
theorem Upd.rem{L L':List Res}{r r':Res}(h:Upd L r r' L'):∃j,L.Perm (r::j)/\L'.Perm (r'::j):=by
 obtain⟨A,B,e,m⟩:=h;grind [List.perm_middle]
def SubR(R L:List Res):Prop:=∃X,L.Perm (R++X)
theorem SubR.nil{L:List Res} :SubR [] L:=⟨L,Ay _⟩
def Ev:=@SubR.nil
theorem SubR.pick{r r':Res}{R L L':List Res}(h:Rem L r' L')(e:r'=r)(m:SubR R L'):SubR (r::R) L:=by
 obtain⟨X,j⟩:=m;subst e;exact⟨X,h.perm.trans (List.Perm.cons _ j)⟩
def F6:=@SubR.pick
theorem SubR.blk{b T:Nat}{C C':List Value}{R L L':List Res}(h:Rem L (.blk b T C') L')(e:C'=C)(j:SubR R L'):SubR (.blk b T C::R) L:=by
 subst e;exact F6 h rfl j
def F9:=@SubR.blk
theorem SubR.refl{L:List Res} :SubR L L:=⟨[],by simp⟩
def Ez:=@SubR.refl
theorem SubR.perm{R L:List Res}(h:SubR R L):∃X,L.Perm (R++X):=h
theorem Holds.has{B:Nat}{M:Nat->Prop}{L:List Res}{w:World}(h:Holds B M L w){r:Res}(hr:Has L r):r.holds w:=h.all r hr.mem
theorem Holds.subR{B:Nat}{M:Nat->Prop}{L R:List Res}{w:World}(h:Holds B M L w)(m:SubR R L):Holds B M R w:=by
 obtain⟨X,j⟩:=m.perm;exact(h.perm j).sublist (CJ R X)
theorem Holds.upd{B:Nat}{M:Nat->Prop}{L L':List Res}{r r':Res}{w w':World}(h:Holds B M L w)(hu:Upd L r r' L')(E:∀b,r'.own b->r.own b\/(w.heap.size<=b/\B<=b))(hr:r'.holds w')(hk:Keep (λk=>r.own k) w w'):Holds B M L' w':=by
 obtain⟨H,I,J⟩:=hu.rem;have q:=h.perm I;have G:=q.tail;refine Holds.perm (L:=r'::H) ?_ J.symm;refine(G.keep hk (λx A b j m=>?_)).cons hr (λx A b j=>?_) (λb j=>?_)
 ·exact(Ah.1 q.apart).1 x A b m j
 ·rcases E b j with j|⟨j,_⟩
  ·exact(Ah.1 q.apart).1 x A b j
  ·intro m;have:=FD (G.all x A) m;omega
 ·rcases E b j with j|⟨_,j⟩
  ·exact q.mine r A3 b j
  omega
structure St(N:Nat)(w0:World)(M:Nat->Prop)(ds:List Deferred)(g:Nat->Option Value)(L:List Res)(a:Act)(w:World):Prop where
 size:a.tmps.size=N
 agr:Agrees g a
 keep:Keep M w0 w
 hold:Holds w0.heap.size M L w
def FW(ro:Option Nat):Fence:={ Fence.wide with round:=ro }
theorem zAD:FW none=Fence.wide:=rfl
theorem zAC(l:Nat):FW (some l)=Fence.wide.inRound l:=rfl
variable {P:Program}{ro:Option Nat}{N:Nat}{w0:World}{M:Nat->Prop}{ds:List Deferred}
theorem St.weaken{g j:Nat->Option Value}{L L':List Res}{a:Act}{w:World}(h:St N w0 M ds g L a w)(m:∀t v,j t=some v->g t=some v)(hL:SubR L' L):St N w0 M ds j L' a w:=
 ⟨h.size,h.agr.sub m,h.keep,h.hold.subR hL⟩
theorem St.perm{g:Nat->Option Value}{L L':List Res}{a:Act}{w:World}(h:St N w0 M ds g L a w)(hL:L.Perm L'):St N w0 M ds g L' a w:=
 ⟨h.size,h.agr,h.keep,h.hold.perm hL⟩
def col(D:Nat):Deferred:={ target:=.collected D,args:=#[] }
def dob(D:Nat):Res:=.obj D (.deferred (some []))
def StD(N:Nat)(w0:World)(M:Nat->Prop)(ds:List Deferred)(g:Nat->Option Value)(L:List Res)(a:Act)(w:World):Prop:=
 ∃Ds:List Nat,a.defers=Ds.map col++ds/\St N w0 M ds g (L++Ds.map dob) a w
theorem SubR.append{R L X:List Res}(h:SubR R L):SubR (R++X) (L++X):=by
 obtain⟨Y,j⟩:=h;refine⟨Y,(j.append_right X).trans ?_⟩;rw[AI,AI];exact BC R Aj
theorem StD.weaken{g j:Nat->Option Value}{L L':List Res}{a:Act}{w:World}(h:StD N w0 M ds g L a w)(A:∀t v,j t=some v->g t=some v)(hL:SubR L' L):StD N w0 M ds j L' a w:=
 let ⟨m,q,B⟩:=h;⟨m,q,B.weaken A hL.append⟩
theorem StD.agr{g:Nat->Option Value}{L:List Res}{a:Act}{w:World}(h:StD N w0 M ds g L a w):Agrees g a:=let ⟨_,_,j⟩:=h;j.agr
def SyX(N:Nat)(w0:World)(M:Nat->Prop)(ds:List Deferred)(K:Act->World->Prop)(fr:Fr)(L:List Res):Prop:=∀a w,StD N w0 M ds (get fr) L a w->K a w
def Sy(P:Program)(ro:Option Nat)(N:Nat)(w0:World)(M:Nat->Prop)(ds:List Deferred)(c:Code)(Q:Exit->Act->World->Prop)(fr:Fr)(L:List Res):Prop:=
 ∀a w,StD N w0 M ds (get fr) L a w->c.wpIn (FW ro) 0 P Q a w
def SyL(P:Program)(ro:Option Nat)(N:Nat)(w0:World)(M:Nat->Prop)(ds:List Deferred)(ops:Array Oper)(Q:Exit->Act->World->Prop)(rest:List Oper)(fr:Fr)(L:List Res):Prop:=
 ∀a w,StD N w0 M ds (get fr) L a w->wpListIn (FW ro) 0 P ops Q rest a w
variable {Q:Exit->Act->World->Prop}{fr:Fr}{L:List Res}
theorem ze2{c:Operand}{x y:Code}{t:Bool}(hc:ev (get fr) c=some (.bool t))(q:t=true->Sy P ro N w0 M ds x Q fr L)(m:t=false->Sy P ro N w0 M ds y Q fr L):Sy P ro N w0 M ds (.cond c x y) Q fr L:=
 λa w j=>wpIn_cond_split (j.agr.eval hc) (λh=>q h a w j) (λh=>m h a w j)
theorem zeJ{id:Nat}{c:Code}(h:Sy P ro N w0 M ds c (Exit.inBlock id Q) fr L):Sy P ro N w0 M ds (.block id c) Q fr L:=λa w j=>wpIn_block (h a w j)
theorem ze7(h:SyX N w0 M ds (Q .normal) fr L):Sy P ro N w0 M ds .skip Q fr L:=λa w j=>wpIn_skip (h a w j)
theorem zie{l:Nat}(h:SyX N w0 M ds (Q .normal) fr L):Sy P ro N w0 M ds (.label l) Q fr L:=λa w j=>wpIn_label (h a w j)
theorem zhM{id:Nat}(h:SyX N w0 M ds (Q (.exit id)) fr L):Sy P ro N w0 M ds (.exit id) Q fr L:=λa w j=>wpIn_exit (h a w j)
theorem zgH{l:Nat}(h:SyX N w0 M ds (Q (.goto l)) fr L):Sy P ro N w0 M ds (.goto l) Q fr L:=λa w j=>wpIn_goto (h a w j)
theorem zlu(h:SyX N w0 M ds (Q .ret) fr L):Sy P ro N w0 M ds .ret Q fr L:=λa w j=>wpIn_ret (h a w j)
theorem zdF{id:Nat}{l:List Oper}(h:SyL P ro N w0 M ds l.toArray Q l fr L):Sy P ro N w0 M ds (.region id l.toArray false) Q fr L:=
 λa w j=>wpIn_region_lit (h a w j)
theorem zap{ops:Array Oper}(h:SyX N w0 M ds (Q .normal) fr L):SyL P ro N w0 M ds ops Q [] fr L:=λa w j=>h a w j
theorem zao{K:Act->World->Prop}(h:SyX N w0 M ds K fr L):SyX N w0 M ds (Exit.then K Q .normal) fr L:=h
theorem zeF{K:Act->World->Prop}{id:Nat}(h:SyX N w0 M ds (Q (.exit id)) fr L):SyX N w0 M ds (Exit.then K Q (.exit id)) fr L:=h
theorem zdh{K:Act->World->Prop}{id:Nat}(h:SyX N w0 M ds (Q (.goto id)) fr L):SyX N w0 M ds (Exit.then K Q (.goto id)) fr L:=h
theorem zfp{K:Act->World->Prop}(h:SyX N w0 M ds (Q .ret) fr L):SyX N w0 M ds (Exit.then K Q .ret) fr L:=h
theorem zgZ{id:Nat}(h:SyX N w0 M ds (Q .normal) fr L):SyX N w0 M ds (Exit.inBlock id Q .normal) fr L:=h
theorem zgu{id:Nat}(h:SyX N w0 M ds (Q .ret) fr L):SyX N w0 M ds (Exit.inBlock id Q .ret) fr L:=h
theorem zez{id:Nat}(h:SyX N w0 M ds (Q .normal) fr L):SyX N w0 M ds (Exit.inBlock id Q (.exit id)) fr L:=λa w j=>by
 simp only[Exit.inBlock,if_true];exact h a w j
theorem zf8{id j:Nat}(m:Nat.beq j id=false)(h:SyX N w0 M ds (Q (.exit j)) fr L):SyX N w0 M ds (Exit.inBlock id Q (.exit j)) fr L:=λa w q=>by
 simp only[Exit.inBlock,if_neg (CB m)];exact h a w q
def CK(P:Program)(ro:Option Nat)(y:Code)(Q:Exit->Act->World->Prop)(a:Act)(w:World):Prop:=y.wpIn (FW ro) 0 P Q a w
theorem zdf{x y:Code}(h:Sy P ro N w0 M ds x (Exit.then (CK P ro y Q) Q) fr L):Sy P ro N w0 M ds (.seq x y) Q fr L:=λa w j=>wpIn_seq (h a w j)
theorem zh3{y:Code}(h:Sy P ro N w0 M ds y Q fr L):SyX N w0 M ds (CK P ro y Q) fr L:=h
theorem zjY{c:Operand}{x y:Code}(hc:ev (get fr) c=some (.bool true))(h:Sy P ro N w0 M ds x Q fr L):Sy P ro N w0 M ds (.cond c x y) Q fr L:=ze2 hc (λ_=>h) (λh=>by cases h)
theorem zjO{c:Operand}{x y:Code}(hc:ev (get fr) c=some (.bool false))(h:Sy P ro N w0 M ds y Q fr L):Sy P ro N w0 M ds (.cond c x y) Q fr L:=ze2 hc (λh=>by cases h) (λ_=>h)
def zwh(N:Nat)(w0:World)(M:Nat->Prop)(ds:List Deferred){γ:Type}(f:γ->Fr)(R:γ->List Res)(I:γ->Prop)(a:Act)(w:World):Prop:=∃g,I g/\StD N w0 M ds (get (f g)) (R g) a w
theorem zaj{γ:Type}{f:γ->Fr}{R:γ->List Res}{I:γ->Prop}(g:γ)(j:I g)(q:Sub (f g) fr)(m:SubR (R g) L):SyX N w0 M ds (zwh N w0 M ds f R I) fr L:=λ_ _ w=>⟨g,j,w.weaken q m⟩
theorem Sy.weaken{c:Code}{fr':Fr}{L':List Res}(h:Sy P ro N w0 M ds c Q fr' L')(j:Sub fr' fr)(hL:SubR L' L):Sy P ro N w0 M ds c Q fr L:=λa w m=>h a w (m.weaken j hL)
def FJ:=@Sy.weaken
theorem SyX.weaken{K:Act->World->Prop}{fr':Fr}{L':List Res}(h:SyX N w0 M ds K fr' L')(j:Sub fr' fr)(hL:SubR L' L):SyX N w0 M ds K fr L:=λa w m=>h a w (m.weaken j hL)
def zwy(N:Nat)(w0:World)(M:Nat->Prop)(ds:List Deferred){γ:Type}(f:γ->Fr)(R:γ->List Res)(I:γ->Prop)(μ:γ->Nat)(m:Nat)(a:Act)(w:World):Prop:=
 ∃g,I g/\μ g<m/\StD N w0 M ds (get (f g)) (R g) a w
theorem zL{γ:Type}(f:γ->Fr)(R:γ->List Res)(I:γ->Prop)(μ:γ->Nat){c:Code}(g0:γ)(h0:I g0)(hf:Sub (f g0) fr)(hR:SubR (R g0) L)
  (hb:∀g,I g->Sy P ro N w0 M ds c (Exit.then (zwy N w0 M ds f R I μ (μ g)) Q) (f g) (R g)):Sy P ro N w0 M ds (.loop c) Q fr L:=by
 intro a w K;refine wpIn_loop (λa w=>∃g,I g/\StD N w0 M ds (get (f g)) (R g) a w) (λa w=>
  Classical.epsilon (λm=>(∃g,I g/\StD N w0 M ds (get (f g)) (R g) a w/\μ g=m)/\∀g,I g->StD N w0 M ds (get (f g)) (R g) a w->m<=μ g)) ⟨g0,h0,K.weaken hf hR⟩ ?_
 intro a w B;have least:∀a w,(∃g,I g/\StD N w0 M ds (get (f g)) (R g) a w)->∃m,(∃g,I g/\StD N w0 M ds (get (f g)) (R g) a w/\μ g=m)/\∀g,I g->StD N w0 M ds (get (f g)) (R g) a w->m<=μ g:=by
  intro a w ⟨g,H,q⟩;generalize T:μ g=m
  induction m using Nat.strongRecOn generalizing g with
  |_ m ih=>
   grind
 have U:∀a w,(B:∃g,I g/\StD N w0 M ds (get (f g)) (R g) a w)->∀m,((∃g,I g/\StD N w0 M ds (get (f g)) (R g) a w/\μ g=m)/\∀g,I g->StD N w0 M ds (get (f g)) (R g) a w->m<=μ g)->
   Classical.epsilon (λm=>(∃g,I g/\StD N w0 M ds (get (f g)) (R g) a w/\μ g=m)/\∀g,I g->StD N w0 M ds (get (f g)) (R g) a w->m<=μ g)=m:=by
  intro a w B m T;have K:=Classical.epsilon_spec (least a w B);obtain⟨⟨g1,a1,V,c1⟩,d1⟩:=K;obtain⟨⟨g2,a2,W,c2⟩,d2⟩:=T;have S:=d1 g2 a2 W;have Y:=d2 g1 a1 V;omega
 obtain⟨m,⟨g,H,q,rfl⟩,E⟩:=least a w B;refine wpIn_mono (hb g H a w q) ?_;intro e G O A;cases e with
 |normal=>
  obtain⟨X,S,Y,Z⟩:=A;have j:∃g,I g/\StD N w0 M ds (get (f g)) (R g) G O:=⟨X,S,Z⟩;refine⟨j,?_⟩;obtain⟨m',J⟩:=least G O j;rw[U G O j m' J,U a w B (μ g) ⟨⟨g,H,q,rfl⟩,E⟩]
  grind
 |exit id=>exact A
 |goto l=>exact A
 |ret=>exact A
 |panic c=>exact A
 |outgrown=>exact A
theorem zC{γ:Type}{f:γ->Fr}{R:γ->List Res}{I:γ->Prop}{μ:γ->Nat}{m:Nat}(g:γ)(j:I g)(hm:μ g<m)(w:Sub (f g) fr)(q:SubR (R g) L):SyX N w0 M ds (zwy N w0 M ds f R I μ m) fr L:=
 λ_ _ A=>⟨g,j,hm,A.weaken w q⟩
def OpT(P:Program)(ro:Option Nat)(N:Nat)(w0:World)(M:Nat->Prop)(ds:List Deferred)(o:Oper)(g:Nat->Option Value)(L:List Res)(post:Value->List Res->Prop):Prop:=
 ∀a w X (next:Act->World->Prop) (Q:Exit->Act->World->Prop),St N w0 M ds g (L++X) a w->
  (∀v w' L',post v L'->Keep M w0 w'->Holds w0.heap.size M (L'++X) w'->next (a.put o.dst v) w')->o.wpIn (FW ro) 0 P a w next Q
def Det(v:Value)(L:List Res):Value->List Res->Prop:=λv' L'=>v'=v/\L'=L
theorem St.put{w w':World}{a:Act}{L':List Res}{d:Nat}(h:St N w0 M ds (get fr) L a w)(j:d<N)(v:Value)(hk:Keep M w0 w')(hh:Holds w0.heap.size M L' w'):St N w0 M ds (get ((d,v)::fr)) L' (a.put (some d) v) w':=
 ⟨by simp only[Act.put,DD];exact h.size,h.agr.put (by rw[h.size];exact j) v,hk,hh⟩
theorem St.put_none{w w':World}{a:Act}{L':List Res}{v:Value}(h:St N w0 M ds (get fr) L a w)(hk:Keep M w0 w')(hh:Holds w0.heap.size M L' w'):St N w0 M ds (get fr) L' (a.put none v) w':=
 ⟨h.size,h.agr,hk,hh⟩
def zak(ops:Array Oper)(o:Oper)(g:Nat->Option Value):Option Bool:=
 match o.guard with
 |none=>some true
 |some (j,want)=>match (ops[j]?).bind (·.dst) with
  |none=>some false
  |some d=>match g d with
   |some (.bool b)=>some (b==want)
   |some _=>some false
   |none=>none
theorem zby{ops:Array Oper}{o:Oper}{g:Nat->Option Value}{a:Act}(h:Agrees g a){b:Bool}(m:zak ops o g=some b):Region.wanted o (yielded ops a.tmps)=b:=by
 unfold zak at m;unfold Region.wanted;cases hg:o.guard with
 |none=>simp_all
 |some p=>
  obtain⟨j,want⟩:=p;rw[hg] at m;simp only at m ⊢;unfold yielded;cases hd:(ops[j]?).bind (·.dst) with
  |none=>simp_all
  |some d=>
   rw[hd] at m;simp only at m;cases hv:g d with
   |none=>rw[hv] at m;cases m
   |some v=>
    rw[hv] at m;simp only[Ac,h d v hv];cases v <;> simp_all
theorem zed{ops:Array Oper}{rest:List Oper}{o:Oper}{a:Act}{w:World}(j:Region.wanted o (yielded ops a.tmps)=true)(h:o.wpIn (FW ro) 0 P a w (wpListIn (FW ro) 0 P ops Q rest) Q):wpListIn (FW ro) 0 P ops Q (o::rest) a w:=by
 unfold wpListIn;rw[if_pos j];exact h
theorem syl{ops:Array Oper}{rest:List Oper}{o:Oper}{post:Value->List Res->Prop}{d:Nat}(h:OpT P ro N w0 M ds o (get fr) L post)(J:zak ops o (get fr)=some true)(E:o.dst=some d)(B:Nat.blt d N=true)
  (hr:∀v j,post v j->SyL P ro N w0 M ds ops Q rest ((d,v)::fr) j):SyL P ro N w0 M ds ops Q (o::rest) fr L:=by
 rintro a w ⟨A,m,q⟩;refine zed (zby q.agr J) (h a w _ _ _ q λv K j I H G=>?_);rw[E];exact hr v j I _ _ ⟨A,m,q.put (A5 B) v H G⟩
theorem zz7{ops:Array Oper}{rest:List Oper}{o:Oper}{post:Value->List Res->Prop}(h:OpT P ro N w0 M ds o (get fr) L post)(I:zak ops o (get fr)=some true)(B:o.dst=none)
  (hr:∀v j,post v j->SyL P ro N w0 M ds ops Q rest fr j):SyL P ro N w0 M ds ops Q (o::rest) fr L:=by
 rintro a w ⟨A,m,q⟩;refine zed (zby q.agr I) (h a w _ _ _ q λv J j H G E=>?_);rw[B];exact hr v j H _ _ ⟨A,m,q.put_none G E⟩
theorem zc9{ops:Array Oper}{rest:List Oper}{o:Oper}{d:Nat}{v:Value}{L':List Res}(h:OpT P ro N w0 M ds o (get fr) L (Det v L'))(A:zak ops o (get fr)=some true)(w:o.dst=some d)(q:Nat.blt d N=true)
  (hr:SyL P ro N w0 M ds ops Q rest ((d,v)::fr) L'):SyL P ro N w0 M ds ops Q (o::rest) fr L:=
 syl h A w q λ_ _ ⟨j,m⟩=>by subst j;subst m;exact hr
theorem zs0{ops:Array Oper}{rest:List Oper}{o:Oper}{v:Value}{L':List Res}(h:OpT P ro N w0 M ds o (get fr) L (Det v L'))(w:zak ops o (get fr)=some true)(q:o.dst=none)
  (hr:SyL P ro N w0 M ds ops Q rest fr L'):SyL P ro N w0 M ds ops Q (o::rest) fr L:=
 zz7 h w q λ_ _ ⟨j,m⟩=>by subst j;subst m;exact hr
theorem yv{ops:Array Oper}{rest:List Oper}{o:Oper}{d:Nat}{v:Value}{L':List Res}(h:OpT P ro N w0 M ds o (get fr) L (Det v L'))(q:zak ops o (get fr)=some true:=by exact rfl)(m:o.dst=some d:=by exact rfl)(j:Nat.blt d N=true:=by exact rfl)
  (k:SyL P ro N w0 M ds ops Q rest ((d,v)::fr) L'):SyL P ro N w0 M ds ops Q (o::rest) fr L:=zc9 h q m j k
theorem yn{ops:Array Oper}{rest:List Oper}{o:Oper}{v:Value}{L':List Res}(h:OpT P ro N w0 M ds o (get fr) L (Det v L'))(m:zak ops o (get fr)=some true:=by exact rfl)(j:o.dst=none:=by exact rfl)
  (k:SyL P ro N w0 M ds ops Q rest fr L'):SyL P ro N w0 M ds ops Q (o::rest) fr L:=zs0 h m j k
theorem ys{ops:Array Oper}{rest:List Oper}{o:Oper}{post:Value->List Res->Prop}{d:Nat}(h:OpT P ro N w0 M ds o (get fr) L post)(w:zak ops o (get fr)=some true:=by exact rfl)(q:o.dst=some d:=by exact rfl)(m:Nat.blt d N=true:=by exact rfl)
  (k:∀v j,post v j->SyL P ro N w0 M ds ops Q rest ((d,v)::fr) j):SyL P ro N w0 M ds ops Q (o::rest) fr L:=syl h w q m k
theorem zx{ops:Array Oper}{rest:List Oper}{o:Oper}(h:SyL P ro N w0 M ds ops Q (o::rest) fr L):SyL P ro N w0 M ds ops Q (o::rest) fr L:=h
theorem zaG{ops:Array Oper}{rest:List Oper}{o:Oper}{d:Nat}(E:zak ops o (get fr)=some false)(B:o.dst=some d)(A:Nat.blt d N=true)
  (hr:SyL P ro N w0 M ds ops Q rest ((d,undef)::fr) L):SyL P ro N w0 M ds ops Q (o::rest) fr L:=by
 rintro a w ⟨q,m,j⟩;unfold wpListIn;rw[if_neg (by rw[zby j.agr E];decide)];refine⟨λf G=>trivial,?_⟩;rw[B];exact hr _ _ ⟨q,m,j.put (A5 A) _ j.keep j.hold⟩
end
section
open Go
theorem zaS{a b:Nat} :Nat.blt a b=true↔a<b:=by simp
theorem zcf{a b:Nat} :Nat.blt a b=false↔b<=a:=by rw[<-Br,zaS];omega
theorem zaY{a b:Nat} :Nat.beq a b=false↔a≠b:=⟨CB,λh=>by grind [Nat.eq_of_beq_eq_true]⟩
theorem zha(a:Nat):Nat.beq a a=true:=EG a
abbrev Env:=Nat->Value×List Res
abbrev Item:=(Env->Value) ⊕ (Env->Value->List Res->Prop)
def zcH(it:Item)(i:Nat)(ρ:Env):Value:=match it with| .inl v=>v ρ| .inr _=>(ρ i).1
def za1(it:Item)(i:Nat)(ρ:Env):List Res:=match it with| .inl _=>[]| .inr _=>(ρ i).2
def zer(it:Item)(i:Nat)(ρ:Env):Prop:=match it with| .inl _=>True| .inr R=>R ρ (ρ i).1 (ρ i).2
def Loc(ts:List Nat)(it:Item):Prop:=∀ρ ρ':Env,(∀k,k∈ts->ρ k=ρ' k)->match it with| .inl v=>v ρ=v ρ'| .inr R=>R ρ=R ρ'
def only(ts:List Nat)(g:Nat->Option Value)(t:Nat):Option Value:=bif ts.contains t then g t else none
def pre(o:Oper):List Nat:=(o.after.toList.filter (Region.binds .any)).map (·.on)
def cl(C:List (List Nat))(i:Nat):List Nat:=C.getD i []
def zdy(ops:Array Oper)(i:Nat):Option Nat:=(ops[i]?).bind (·.dst)
def zlN(ops:Array Oper)(n N:Nat)(C:List (List Nat)):Bool:=
 Nat.ble n ops.size &&
 (List.range ops.size).all λi=>match ops[i]? with
  |none=>true
  |some o=>
   (pre o).all (λj=>Nat.blt j i)&&(match o.dst with|none=>true|some d=>Nat.blt d N) &&
   (cl C i).all (λj=>Nat.blt j i&&((pre o).contains j || (pre o).any λk=>(cl C k).contains j)) &&
   (bif Nat.blt i n then (List.range n).all (λj=>Nat.beq i j || match zdy ops j with
    |none=>true
    |some d=>!(o.dst==some d)&&(!((o.looksAt ops).contains d) || (bif Nat.blt j i then (cl C i).contains j else (cl C j).contains i)))
   else (List.range i).all (cl C i).contains)
def zbo(ts:List Nat):List (Nat×(Env->Value->List Res->Prop))->Env->Prop
 | [],_=>True
 |p::r,ρ=>bif ts.contains p.1 then p.2 ρ (ρ p.1).1 (ρ p.1).2/\zbo ts r ρ else zbo ts r ρ
def zaq(ts:List Nat):List (Nat×(Env->Value->List Res->Prop))->Env->List Res->List Res
 | [],_,L=>L
 |p::r,ρ,L=>bif ts.contains p.1 then (ρ p.1).2++zaq ts r ρ L else zaq ts r ρ L
def ext(d:Option Nat)(v:Value)(fr:Fr):Fr:=match d with|some t=>(t,v)::fr|none=>fr
variable {P:Program}{ro:Option Nat}{N:Nat}{w0:World}{M:Nat->Prop}{ds:List Deferred}
def GpT(P:Program)(ro:Option Nat)(N:Nat)(w0:World)(M:Nat->Prop)(ds:List Deferred)(ops:Array Oper)(o:Oper)(g:Nat->Option Value)(L:List Res)(post:Value->List Res->Prop):Prop:=
 (zak ops o g=some true/\OpT P ro N w0 M ds o g L post)\/(zak ops o g=some false/\post undef L)
def DH(P:Program)(ro:Option Nat)(N:Nat)(w0:World)(M:Nat->Prop)(ds:List Deferred)(ops:Array Oper)(Q:Exit->Act->World->Prop)(C:List (List Nat))(L0:List Res):
  Nat->Nat->List Oper->(Env->Fr)->List (Nat×(Env->Value->List Res->Prop))->Prop
 |0,i,rest,F,rs=>∀ρ,zbo (List.range i) rs ρ->SyL P ro N w0 M ds ops Q rest (F ρ) (zaq (List.range i) rs ρ L0)
 |_+1,_,[],_,_=>False
 |k+1,i,o::rest,F,rs=>
  (∃v:Env->Value,Loc (cl C i) (.inl v)/\(∀ρ,zbo (cl C i) rs ρ->GpT P ro N w0 M ds ops o (only (o.looksAt ops) (get (F ρ))) (zaq (cl C i) rs ρ L0) (Det (v ρ) (zaq (cl C i) rs ρ L0)))/\
   DH P ro N w0 M ds ops Q C L0 k (i+1) rest (λρ=>ext o.dst (v ρ) (F ρ)) rs)\/
  (∃R:Env->Value->List Res->Prop,Loc (cl C i) (.inr R)/\(∀ρ,zbo (cl C i) rs ρ->GpT P ro N w0 M ds ops o (only (o.looksAt ops) (get (F ρ))) (zaq (cl C i) rs ρ L0) (λv L'=>∃Nw,L'=Nw++zaq (cl C i) rs ρ L0/\R ρ v Nw))/\
   DH P ro N w0 M ds ops Q C L0 k (i+1) rest (λρ=>ext o.dst (ρ i).1 (F ρ)) ((i,R)::rs))
def frT(ops:Array Oper)(it:Nat->Item)(fr:Fr)(ρ:Env):Nat->Fr
 |0=>fr
 |j+1=>ext (zdy ops j) (zcH (it j) j ρ) (frT ops it fr ρ j)
def rsT(it:Nat->Item):Nat->List (Nat×(Env->Value->List Res->Prop))
 |0=>[]
 |j+1=>match it j with| .inl _=>rsT it j| .inr R=>(j,R)::rsT it j
def Good(P:Program)(ro:Option Nat)(N:Nat)(w0:World)(M:Nat->Prop)(ds:List Deferred)(ops:Array Oper)(C:List (List Nat))(fr:Fr)(L0:List Res)(it:Nat->Item)(i:Nat)(o:Oper):Prop:=
  Loc (cl C i) (it i)/\∀ρ,zbo (cl C i) (rsT it i) ρ->GpT P ro N w0 M ds ops o (only (o.looksAt ops) (get (frT ops it fr ρ i))) (zaq (cl C i) (rsT it i) ρ L0)
    (match it i with
     | .inl v=>Det (v ρ) (zaq (cl C i) (rsT it i) ρ L0)
     | .inr R=>λv L'=>∃Nw,L'=Nw++zaq (cl C i) (rsT it i) ρ L0/\R ρ v Nw)
theorem DH.items{ops:Array Oper}{Q:Exit->Act->World->Prop}{C:List (List Nat)}{fr:Fr}{L0:List Res} :∀(k i:Nat) (rest:List Oper) (m:Nat->Item),(∀j,rest[j]?=ops[i+j]?)->
  DH P ro N w0 M ds ops Q C L0 k i rest (λρ=>frT ops m fr ρ i) (rsT m i)->
  ∃it:Nat->Item,(∀j,j<i->it j=m j)/\(∀j,i<=j->j<i+k->∃o,ops[j]?=some o/\Good P ro N w0 M ds ops C fr L0 it j o)/\
   (∀ρ,zbo (List.range (i+k)) (rsT it (i+k)) ρ->SyL P ro N w0 M ds ops Q (rest.drop k) (frT ops it fr ρ (i+k)) (zaq (List.range (i+k)) (rsT it (i+k)) ρ L0))
 |0,i,rest,m,_,h=>⟨m,λ_ _=>rfl,λj G O=>by omega,by simpa [DH] using h⟩
 |k+1,i,[],_,_,h=>by simp[DH] at h
 |k+1,i,o::rest,m,hr,h=>by
  have V:ops[i]?=some o:=by simpa using (hr 0).symm
  have H:zdy ops i=o.dst:=by simp[zdy,V]
  have E:∀j,rest[j]?=ops[i+1+j]?:=λj=>by have:=hr (j+1);grind
  have key:∀(x:Item),Good P ro N w0 M ds ops C fr L0 (λj=>if j=i then x else m j) i o->
    DH P ro N w0 M ds ops Q C L0 k (i+1) rest (λρ=>frT ops (λj=>if j=i then x else m j) fr ρ (i+1)) (rsT (λj=>if j=i then x else m j) (i+1))->
    ∃it:Nat->Item,(∀j,j<i->it j=m j)/\(∀j,i<=j->j<i+(k+1)->∃o,ops[j]?=some o/\Good P ro N w0 M ds ops C fr L0 it j o)/\
     (∀ρ,zbo (List.range (i+(k+1))) (rsT it (i+(k+1))) ρ->SyL P ro N w0 M ds ops Q ((o::rest).drop (k+1)) (frT ops it fr ρ (i+(k+1))) (zaq (List.range (i+(k+1))) (rsT it (i+(k+1))) ρ L0)):=by
   intro x I q;obtain⟨it,G,O,W⟩:=DH.items k (i+1) rest _ E q;have same:∀j,j<=i->it j=(λj=>if j=i then x else m j) j:=λj A=>G j q_o;have J:∀ρ j,j<=i+1->frT ops it fr ρ j=frT ops (λj=>if j=i then x else m j) fr ρ j:=by
    intro ρ j A
    induction j with
    |zero=>rfl
    |succ j ih=>grind [frT]
   have K:∀j,j<=i+1->rsT it j=rsT (λj=>if j=i then x else m j) j:=by
    intro j A
    induction j with
    |zero=>rfl
    |succ j ih=>grind [rsT]
   refine⟨it,λj A=>by grind,λj S T=>?_,?_⟩
   ·grind [Good]
   ·grind
  have w:∀(x:Item) ρ,frT ops (λj=>if j=i then x else m j) fr ρ i=frT ops m fr ρ i:=by
   intro x ρ;have:∀j,j<=i->frT ops (λj=>if j=i then x else m j) fr ρ j=frT ops m fr ρ j:=by
    intro j A
    induction j with
    |zero=>rfl
    |succ j ih=>grind [frT]
   exact this i (A7 _)
  have B:∀(x:Item),rsT (λj=>if j=i then x else m j) i=rsT m i:=by
   intro x;have:∀j,j<=i->rsT (λj=>if j=i then x else m j) j=rsT m j:=by
    intro j A
    induction j with
    |zero=>rfl
    |succ j ih=>grind [rsT]
   exact this i (A7 _)
  simp only[DH] at h;rcases h with ⟨v,U,I,q⟩|⟨R,U,I,q⟩
  ·refine key (.inl v) ?_ ?_
   ·unfold Good
    simp_all
   ·simp only[frT,rsT,if_true,zcH,H,w,B];exact q
  ·refine key (.inr R) ?_ ?_
   ·unfold Good
    simp_all
   ·simp only[frT,rsT,if_true,zcH,H,w,B];exact q
def fm(p:Nat->Bool)(f:Nat->List Res):Nat->List Res
 |0=>[]
 |k+1=>(bif p k then f k else [])++fm p f k
theorem zfA{p q r:Nat->Bool}{f:Nat->List Res} :∀n,(∀k,k<n->p k=(q k || r k)/\(q k&&r k)=false)->(fm p f n).Perm (fm q f n++fm r f n)
 |0,_=>Ay _
 |k+1,h=>by
  obtain⟨A,w⟩:=h k q_o;have m:=zfA (f:=f) k (λj B=>h j q_o);simp only[fm,A];cases hq:q k <;> cases hr:r k <;> simp only[cond_true,cond_false,Bool.or_self,Dq,Cc,Ag,AI]
  ·exact m
  ·refine(BC _ m).trans ?_;rw[<-AI,<-AI];exact Ak _ Aj
  ·exact BC _ m
  ·rw[hq,hr] at w;cases w
theorem zlj{p:Nat->Bool}{f:Nat->List Res}{j:Nat}(h:∀k,j<=k->p k=false):∀n,j<=n->fm p f n=fm p f j
  | 0, hj => by obtain rfl : j = 0 := q_o
                rfl
  |n+1,hj=>by
    by_cases e:j=n+1
    · rw[e]
    · simp only[fm];rw[h n q_o,zlj h n q_o];rfl
theorem zfM{p p':Nat->Bool}{f f':Nat->List Res} :∀n,(∀k,k<n->p k=p' k/\(p k=true->f k=f' k))->fm p f n=fm p' f' n
 |0,_=>rfl
 |n+1,h=>by
  obtain⟨j,m⟩:=h n q_o;simp only[fm];rw[zfM n (λk q=>h k q_o),<-j];cases hp:p n
  ·rfl
  ·rw[m hp]
theorem zlU{p:Nat->Bool}{f:Nat->List Res} :∀n,(∀k,k<n->p k=false)->fm p f n= []
 |0,_=>rfl
 |n+1,h=>by simp only[fm];rw[h n q_o,zlU n (λk j=>h k q_o)];rfl
theorem zoe{f:Nat->List Res}(i:Nat):∀n,i<n->fm (λk=>Nat.beq k i) f n=f i
 |n+1,h=>by
  simp only[fm];by_cases e:n=i
  ·grind [zlU,zaY]
  ·rw[zoe i n q_o,zaY.2 e];rfl
theorem zen{it:Nat->Item}{ts:List Nat}{ρ:Env}{L:List Res} :∀i,(zaq ts (rsT it i) ρ L).Perm (fm (λk=>ts.contains k) (λk=>za1 (it k) k ρ) i++L)
 |0=>Ay _
 |i+1=>by
  have j:=zen (it:=it) (ts:=ts) (ρ:=ρ) (L:=L) i;simp only[rsT,fm];cases hi:it i with
  |inl v=>simp only[za1];cases ts.contains i <;> exact j
  |inr R=>
   simp only[za1,zaq];cases ts.contains i
   ·exact j
   ·simp only[cond_true,AI];exact BC _ j
theorem zgP{it:Nat->Item}{ts:List Nat}{ρ:Env} :∀i,(∀k,k<i->ts.contains k=true->zer (it k) k ρ)->zbo ts (rsT it i) ρ
 |0,_=>trivial
 |i+1,h=>by
  have m:=zgP (it:=it) (ts:=ts) (ρ:=ρ) i (λk q j=>h k q_o j);simp only[rsT];cases hi:it i with
  |inl v=>exact m
  |inr R=>
   simp only[zbo];cases j:ts.contains i
   ·exact m
   ·have:=h i q_o j;rw[hi] at this;exact⟨this,m⟩
theorem zjX{ops:Array Oper}{it:Nat->Item}{fr:Fr}{ρ:Env}{t:Nat}{v:Value} :∀j,get (frT ops it fr ρ j) t=some v->
  (∃k,k<j/\zdy ops k=some t/\v=zcH (it k) k ρ)\/((∀k,k<j->zdy ops k≠some t)/\get fr t=some v)
 |0,h=> .inr ⟨λk B=>by omega,h⟩
 |j+1,h=>by
  simp only[frT] at h;cases hd:zdy ops j with
  |none=>
   rw[hd] at h;rcases zjX j h with ⟨k,q,m,w⟩|⟨q,m⟩
   ·exact .inl ⟨k,by omega,m,w⟩
   ·refine .inr ⟨λk B=>?_,m⟩;by_cases e:k=j
    ·subst e;rw[hd];exact λe=>by cases e
    ·exact q k q_o
  |some d=>
   rw[hd] at h;simp only[ext,get] at h;cases hb:Nat.beq d t with
   |true=>
    rw[hb] at h;simp only[cond_true,Bm] at h;have:=C6 hb;subst this;exact .inl ⟨j,by omega,hd,h.symm⟩
   |false=>
    rw[hb] at h;simp only[cond_false] at h;have A:=CB hb;rcases zjX j h with ⟨k,q,m,w⟩|⟨q,m⟩
    ·exact .inl ⟨k,by omega,m,w⟩
    ·refine .inr ⟨λk B=>?_,m⟩;by_cases e:k=j
     ·subst e;rw[hd];exact λe=>A (Am e)
     ·exact q k q_o
structure DOk(ops:Array Oper)(n N:Nat)(C:List (List Nat)):Prop where
 le:n<=ops.size
 acyc:∀(i:Nat) (o:Oper),ops[i]?=some o->∀j∈pre o,j<i
 low:∀(i:Nat) (o:Oper),ops[i]?=some o->∀d,o.dst=some d->d<N
 clo:∀(i:Nat) (o:Oper),ops[i]?=some o->∀j∈cl C i,j<i/\(j∈pre o\/∃k∈pre o,j∈cl C k)
 slot:∀(i:Nat) (o:Oper),ops[i]?=some o->i<n->∀j,j<n->j≠i->∀d,zdy ops j=some d->o.dst≠some d/\(d∈o.looksAt ops->(j<i->j∈cl C i)/\(i<j->i∈cl C j))
 tail:∀(i:Nat) (o:Oper),ops[i]?=some o->n<=i->∀j,j<i->j∈cl C i
theorem zhE{ops:Array Oper}{n:Nat}{C:List (List Nat)}(h:zlN ops n N C=true):DOk ops n N C:=by
 unfold zlN at h;rw[A8,AF] at h;obtain⟨h0,J⟩:=h;have m:∀i o,ops[i]?=some o->_:=λi o q=>by
  have E:i<ops.size:=(Af.1 q).1;have:=J i (Az.2 E);rw[q] at this;simp only[A8] at this;exact this
 refine⟨A5 h0,λi o q j w=>?_,λi o q d H=>?_,λi o q j w=>?_,λi o q A j w B d H=>?_,λi o q A j w=>?_⟩
 ·simp_all
 ·grind [zaS]
 ·have:=(m i o q).1.2
  simp_all
 ·have:=(m i o q).2;rw[zaS.2 A,cond_true,AF] at this;have:=this j (Az.2 w);rw[zaY.2 (λe=>B e.symm),BO,H] at this;simp only[A8,Be,B4] at this;refine⟨by simpa using this.1,λO=>?_⟩;have G:=this.2.resolve_left (by simp[O]);refine⟨λI=>?_,λK=>?_⟩
  ·simp_all
  ·rw[zcf.2 q_o,cond_false] at G;simpa using G
 ·have:=(m i o q).2;rw[zcf.2 A,cond_false,AF] at this
  simp_all
theorem zdX{o:Oper}{j:Nat} :j∈pre o↔ ∃e∈o.after,Region.binds .any e=true/\e.on=j:=by grind [pre]
theorem zl8{ops:Array Oper}{n:Nat}{C:List (List Nat)}(hk:DOk ops n N C){p:Nat->Bool}(down:∀k o,p k=true->ops[k]?=some o->∀j∈pre o,p j=true):
  ∀i o,ops[i]?=some o->(∀j∈pre o,p j=true)->∀j∈cl C i,p j=true:=by
 intro i
 induction i using Nat.strongRecOn with
 |_ i G=>
  intro o m B j w;obtain⟨_,h|⟨k,q,E⟩⟩:=hk.clo i o m j w
  ·exact B j h
  ·have A:=hk.acyc i o m k q
   grind
def unl(p:Nat->Bool):Nat->Nat
 |0=>0
 |k+1=>(bif p k then 0 else 1)+unl p k
theorem zks{p:Nat->Bool} :∀n,unl p n=0->∀k,k<n->p k=true
 |n+1,h,k,hk=>by
  simp only[unl] at h;by_cases e:k=n
  ·grind
  ·exact zks n q_o k q_o
theorem zn4{p p':Nat->Bool} :∀n,(∀k,k<n->p' k=p k)->unl p' n=unl p n
 |0,_=>rfl
 |n+1,h=>by simp only[unl];rw[h n q_o,zn4 n (λk j=>h k q_o)]
theorem zlX{p p':Nat->Bool}{i:Nat}(q:p i=false)(j:p' i=true)(h:∀k,k≠i->p' k=p k):∀n,i<n->unl p' n+1=unl p n
 |n+1,hn=>by
  simp only[unl];by_cases e:i=n
  ·grind [zn4]
  ·rw[h n (λm=>e m.symm)];have:=zlX q j h n q_o;omega
structure DInv(ops:Array Oper)(n:Nat)(fr:Fr)(L0:List Res)(it:Nat->Item)(N:Nat)(w0:World)(M:Nat->Prop)(dd:List Deferred)(listed:Array Bool)(ρ:Env)(a:Act)(w:World):Prop where
 size:listed.size=ops.size
 head:∀k,listed.getD k false=true->k<n
 down:∀(k:Nat) (o:Oper),listed.getD k false=true->ops[k]?=some o->∀j∈pre o,listed.getD j false=true
 tsize:a.tmps.size=N
 defs:a.defers=dd
 s1:∀k d,listed.getD k false=true->zdy ops k=some d->a.tmps[d]?=some (zcH (it k) k ρ)
 s2:∀t v,get fr t=some v->(∀k,listed.getD k false=true->zdy ops k≠some t)->a.tmps[t]?=some v
 rel:∀k,listed.getD k false=true->zer (it k) k ρ
 keep:Keep M w0 w
 hold:Holds w0.heap.size M (fm (λk=>listed.getD k false) (λk=>za1 (it k) k ρ) n++L0) w
variable {ops:Array Oper}{n:Nat}{C:List (List Nat)}{fr:Fr}{L0:List Res}{it:Nat->Item}{Q:Exit->Act->World->Prop}{dd:List Deferred}
theorem zbQ{listed:Array Bool}{i:Nat}(h:listed.getD i true=false):listed.getD i false=false:=by grind
theorem zAj(hk:DOk ops n N C)(hg:∀i o,i<n->ops[i]?=some o->Good P ro N w0 M ds ops C fr L0 it i o){listed:Array Bool}{ρ:Env}{a:Act}{w:World}
    (inv:DInv ops n fr L0 it N w0 M dd listed ρ a w){i:Nat}(hi:i∈Region.ready .any ops listed)(O:i<n){K:Act->World->Prop}
    (hK:∀J a' G,DInv ops n fr L0 it N w0 M dd (listed.setIfInBounds i true) J a' G->K a' G):wpOpIn (FW ro) 0 P ops Q i K a w:=by
  obtain⟨c0,o,Y,Z⟩:=mem_ready.1 hi;have c4:=zbQ c0;have c1:i<ops.size:=(Af.1 Y).1;have b4:∀j∈pre o,listed.getD j false=true:=λj hj=>by
    obtain⟨e,he,hb,rfl⟩:=zdX.1 hj;exact Z e he hb
  have b2:=zl8 hk (p:=λk=>listed.getD k false) inv.down;have b0:=b2 i o Y b4;have a7:zdy ops i=o.dst:=by simp[zdy,Y]
  have b1:∀k,listed.getD k false=true->i∉cl C k:=λk B b3=>by
    have a6:=inv.head k B;have T:ops[k]?=some (ops[k]'(by have:=hk.le;omega)):=B7 _;have:listed.getD i false=true:=b2 k _ T (inv.down k _ B T) i b3
    simp_all
  have c3:i∉cl C i:=λh=>by simp_all
  have U:=hg i o O Y;have b5:zbo (cl C i) (rsT it i) ρ:=zgP i λk H hc=>inv.rel k (b0 k (by simpa using hc));have b9:=U.2 ρ b5;have X:List Res:=[]
  -- memory, as the operation sees it
  have V:(fm (λk=>listed.getD k false) (λk=>za1 (it k) k ρ) n++L0).Perm (zaq (cl C i) (rsT it i) ρ L0++fm (λk=>listed.getD k false && !(cl C i).contains k) (λk=>za1 (it k) k ρ) n):=by
    have h1:=zfA (p:=λk=>listed.getD k false) (q:=λk=>(cl C i).contains k) (r:=λk=>listed.getD k false && !(cl C i).contains k) (f:=λk=>za1 (it k) k ρ) n (λk _=>by grind);rw[zlj (p:=λk=>(cl C i).contains k) (j:=i) (λk b3=>by
      cases hc:(cl C i).contains k
      · rfl
      · have:=(hk.clo i o Y k (by simpa using hc)).1;omega) n q_o] at h1
    have h2:=zen (it:=it) (ts:=cl C i) (ρ:=ρ) (L:=L0) i;refine(Ak L0 h1).trans ?_;refine List.Perm.trans ?_ (Ak _ h2.symm);rw[AI,AI];exact BC _ Aj
  have W:St N w0 M ds (only (o.looksAt ops) (get (frT ops it fr ρ i))) (zaq (cl C i) (rsT it i) ρ L0++fm (λk=>listed.getD k false && !(cl C i).contains k) (λk=>za1 (it k) k ρ) n) a w:=by
    refine⟨inv.tsize,λt v hv=>?_,inv.keep,inv.hold.perm V⟩;unfold only at hv;cases hc:(o.looksAt ops).contains t
    · rw[hc] at hv;cases hv
    · rw[hc,cond_true] at hv
      have b6:t∈o.looksAt ops:=by simpa using hc
      rcases zjX i hv with ⟨k,H,A,rfl⟩|⟨a8,b8⟩
      · have hs:=(hk.slot i o Y O k q_o q_o t A).2 b6
        exact inv.s1 k t (b0 k (hs.1 H)) A
      · refine inv.s2 t v b8 λk B A=>?_
        have a6:=inv.head k B;have H:k≠i:=λe=>by simp_all
        have hs:=(hk.slot i o Y O k a6 H t A).2 b6
        grind
  -- what follows from its results
  have fin:∀(J:Env) (v:Value) (G:World),(∀k,k≠i->J k=ρ k)->zcH (it i) i J=v->zer (it i) i J->Keep M w0 G->
      Holds w0.heap.size M (za1 (it i) i J++zaq (cl C i) (rsT it i) ρ L0++fm (λk=>listed.getD k false && !(cl C i).contains k) (λk=>za1 (it k) k ρ) n) G->K (a.put o.dst v) G:=by
    intro J v G hρ hv hr S hh;have old:∀k,listed.getD k false=true->zcH (it k) k J=zcH (it k) k ρ/\za1 (it k) k J=za1 (it k) k ρ/\(zer (it k) k ρ->zer (it k) k J):=by
      intro k B;have H:k≠i:=λe=>by simp_all
      have a6:=inv.head k B;have T:ops[k]?=some (ops[k]'(by have:=hk.le;omega)):=B7 _;have E:=(hg k _ a6 T).1 J ρ (λj hj=>hρ j (λe=>b1 k B (e ▸ hj)));cases hit:it k with
      |inl f=>rw[hit] at E;exact⟨E,rfl,λh=>h⟩
      |inr R=>grind [zcH,za1,zer]
    have I:∀k,(listed.setIfInBounds i true).getD k false=true->k=i\/listed.getD k false=true:=λk m=>by
      by_cases e:i=k
      · omega
      simp_all
    have a9:(listed.setIfInBounds i true).getD i false=true:=by
      have:i<listed.size:=by rw[inv.size];exact c1
      simp[B1,this]
    refine hK J _ G ⟨by simpa using inv.size,λk m=>?_,λk o' m T j hj=>?_,?_,?_,λk d m A=>?_,λt u hu a8=>?_,λk m=>?_,S,?_⟩
    · rcases I k m with rfl|h
      · exact O
      · exact inv.head k h
    · rcases I k m with rfl|h
      · grind [getD_set_true]
      · exact getD_set_true (inv.down k o' h T j hj)
    · cases hd:o.dst <;> simp[Act.put,inv.tsize]
    · cases hd:o.dst <;> simp[Act.put,inv.defs]
    · rcases I k m with rfl|h
      · rw[a7] at A
        rw[A];have b7:=hk.low k o Y d A;simp only[Act.put];rw[Cq (by rw[inv.tsize];exact b7),hv]
      · have H:k≠i:=λe=>by simp_all
        rw[(old k h).1];have c5:=(hk.slot i o Y O k (inv.head k h) H d A).1;have:=inv.s1 k d h A;cases hd:o.dst with
        |none=>exact this
        |some d'=>
          grind [Act.put]
    · have h1:=inv.s2 t u hu (λk B=>a8 k (getD_set_true B))
      have h2:=a8 i a9;rw[a7] at h2;cases hd:o.dst with
      |none=>exact h1
      |some d'=>
        grind [Act.put]
    · rcases I k m with rfl|h
      · exact hr
      · exact(old k h).2.2 (inv.rel k h)
    · refine hh.perm ?_
      have h1:=zfA (p:=λk=>(listed.setIfInBounds i true).getD k false) (q:=λk=>Nat.beq k i) (r:=λk=>listed.getD k false) (f:=λk=>za1 (it k) k J) n (λk _=>by
        by_cases e:i=k
        · simp_all
        simp_all <;> omega)
      rw[zoe i n O,zfM (p:=λk=>listed.getD k false) (p':=λk=>listed.getD k false) (f:=λk=>za1 (it k) k J) (f':=λk=>za1 (it k) k ρ) n (λk _=>⟨rfl,λh=>(old k h).2.1⟩)] at h1;refine List.Perm.trans ?_ (Ak L0 h1.symm);rw[AI,AI];exact BC _ V.symm
  have done:∀v L' G,(match it i with
     | .inl v=>Det (v ρ) (zaq (cl C i) (rsT it i) ρ L0)
     | .inr R=>λv L'=>∃Nw,L'=Nw++zaq (cl C i) (rsT it i) ρ L0/\R ρ v Nw) v L'->Keep M w0 G->
      Holds w0.heap.size M (L'++fm (λk=>listed.getD k false && !(cl C i).contains k) (λk=>za1 (it k) k ρ) n) G->K (a.put o.dst v) G:=by
    intro v L' G hp S hh;have E:=U.1;have fin:=fin;cases hit:it i with
    |inl f=>
      rw[hit] at hp fin;obtain⟨e1,e2⟩:=hp;subst e1;subst e2;exact fin ρ _ G (λ_ _=>rfl) rfl trivial S hh
    |inr R=>
      rw[hit] at hp fin E;obtain⟨Nw,e,hR⟩:=hp;subst e;refine fin (λk=>if k=i then (v,Nw) else ρ k) v G (λk m=>by simp[m]) (by simp[zcH]) ?_ S (by simpa [za1] using hh);have hl:=E (λk=>if k=i then (v,Nw) else ρ k) ρ (λk m=>by grind);simp only at hl;simp only[zer,if_true];rw[hl];exact hR
  unfold wpOpIn;rw[Y];simp only;rcases b9 with ⟨hw,c2⟩|⟨hw,hu⟩
  · rw[if_pos (zby W.agr hw)]
    exact c2 a w _ K Q W (λv G L' hp S hh=>done v L' G hp S hh)
  · rw[if_neg (by rw[zby W.agr hw];decide)]
    exact⟨λ_ _=>trivial,done undef _ w hu W.keep W.hold⟩
theorem zr7(hk:DOk ops n N C):∀(A q:Nat) (rest:List Oper) (listed:Array Bool) (a:Act) (w:World),A+q=ops.size->n<=q->listed.size=ops.size->(∀k,k<ops.size->listed.getD k false=Nat.blt k q)->
  (∀j,rest[j]?=ops[q+j]?)->wpListIn (FW ro) 0 P ops Q rest a w->wpAnyIn (FW ro) 0 P .any ops Q A listed a w
 |0,q,rest,listed,a,w,hf,hn,hs,hl,hr,h=>by
  have a7:rest= []:=by
   cases rest with
   |nil=>rfl
   |cons o r=>have:=hr 0;simp_all
  subst a7;refine⟨?_,h⟩;refine DX.2 λi W=>?_;obtain⟨U,o,I,_⟩:=mem_ready.1 W;have G:i<ops.size:=(Af.1 I).1;have:=hl i G;rw[zbQ U] at this;have h3:Nat.blt i q=true:=zaS.2 q_o
  simp_all
 |f+1,q,rest,listed,a,w,hf,hn,hs,hl,hr,h=>by
  have hq:q<ops.size:=q_o;have O:ops[q]?=some ops[q]:=B7 hq;have m:q∈Region.ready .any ops listed:=mem_ready.2 ⟨by simp_all[zcf],_,O,λe S hb=>by
   have hp:=hk.acyc q _ O e.on (zdX.2 ⟨e,S,hb,rfl⟩)
   grind [zaS]⟩
  refine⟨λK=>(by rw[K] at m;cases m),λi W=>?_⟩;obtain⟨U,o,I,T⟩:=mem_ready.1 W;have G:i<ops.size:=(Af.1 I).1;have E:=hl i G;rw[zbQ U] at E;have a9:q<=i:=by
   rcases AG i q with B|B
   ·rw[zaS.2 B] at E;cases E
   ·exact B
  have V:i=q:=by
   rcases AG q i with B|B
   ·exfalso;have hc:=hk.tail i o I q_o q B;have:=zl8 hk (p:=λk=>Nat.blt k q) (λk J a8 Z j X=>by
     have h2:=hk.acyc k J Z j X
     simp_all <;> omega) i o I (λj X=>by
     obtain⟨e,S,hb,rfl⟩:=zdX.1 X
     grind) q hc
    simp_all
   ·omega
  subst V;obtain⟨J,r,rfl⟩:∃J r,rest=J::r:=by
   cases rest with
   |nil=>have:=hr 0;simp at this;omega
   |cons J r=>exact⟨J,r,rfl⟩
  have S:J=o:=by have:=hr 0;simp[I] at this;exact this
  subst S;have a6:∀j,r[j]?=ops[i+1+j]?:=λj=>by have:=hr (j+1);grind
  have H:∀a w,wpListIn (FW ro) 0 P ops Q r a w->wpAnyIn (FW ro) 0 P .any ops Q f (listed.setIfInBounds i true) a w:=λa w B=>
   zr7 hk f (i+1) r _ a w q_o q_o (by simpa using hs) (λk Y=>by
    by_cases e:i=k
    ·simp_all
    ·rw[getD_set_ne false e,hl k Y];rw[CN,zaS,zaS];omega) a6 B
  unfold wpOpIn;rw[I];simp only;unfold wpListIn at h;split
  ·rename_i hw;rw[if_pos hw] at h;exact Oper.wpIn_mono H h
  simp_all
theorem zg7{ts:List Nat}{ρ:Env}{L Y:List Res} :∀rs,zaq ts rs ρ (L++Y)=zaq ts rs ρ L++Y
 | []=>rfl
 |p::r=>by
  simp only[zaq];cases ts.contains p.1
  ·simp[zg7]
  simp[zg7]
theorem GpT.app{o:Oper}{g:Nat->Option Value}{L:List Res}{post:Value->List Res->Prop}(h:GpT P ro N w0 M ds ops o g L post)(Y:List Res):GpT P ro N w0 M ds ops o g (L++Y) (λv j=>∃q,j=q++Y/\post v q):=by
 rcases h with ⟨m,h⟩|⟨m,h⟩
 ·refine .inl ⟨m,λa w X next Q H E=>h a w (Y++X) next Q (by rw[<-AI];exact H) λv I j G B A=>E v I (j++Y) ⟨j,rfl,G⟩ B (by rw[AI];exact A)⟩
 ·exact .inr ⟨m,L,rfl,h⟩
theorem GpT.mono{o:Oper}{g:Nat->Option Value}{L:List Res}{post post':Value->List Res->Prop}(h:GpT P ro N w0 M ds ops o g L post)(hp:∀v j,post v j->post' v j):GpT P ro N w0 M ds ops o g L post':=
 h.imp (λ⟨m,h⟩=>⟨m,λa w X next Q A q=>h a w X next Q A λv E j B=>q v E j (hp v j B)⟩) (λ⟨m,h⟩=>⟨m,hp _ _ h⟩)
theorem Good.app{i:Nat}{o:Oper}(h:Good P ro N w0 M ds ops C fr L0 it i o)(Y:List Res):Good P ro N w0 M ds ops C fr (L0++Y) it i o:=by
 refine⟨h.1,λρ m=>?_⟩;have:=(h.2 ρ m).app Y;rw[zg7];refine this.mono λv q j=>?_;obtain⟨w,rfl,j⟩:=j;cases hi:it i with
 |inl f=>rw[hi] at j;exact⟨j.1,by rw[j.2]⟩
 |inr R=>grind
theorem zAx{Ds:List Nat}(hk:DOk ops n N C)(hg:∀i o,i<n->ops[i]?=some o->Good P ro N w0 M ds ops C fr (L0++Ds.map dob) it i o)
    (H:∀ρ,zbo (List.range n) (rsT it n) ρ->SyL P ro N w0 M ds ops Q (ops.toList.drop n) (frT ops it fr ρ n) (zaq (List.range n) (rsT it n) ρ L0)):
    ∀(q:Nat) (listed:Array Bool) (ρ:Env) (a:Act) (w:World),DInv ops n fr (L0++Ds.map dob) it N w0 M (Ds.map col++ds) listed ρ a w->unl (λk=>listed.getD k false) ops.size=q->wpAnyIn (FW ro) 0 P .any ops Q q listed a w:=by
  intro q
  induction q with
  |zero=>
    intro listed ρ a w inv hu;have G:=zks _ hu;have hn:n=ops.size:=by
      rcases AG n ops.size with h|h
      · have:=inv.head n (G n h);omega
      · have:=hk.le;omega
    exact tailAt inv (λk b0=>G k q_o) 0 q_o
  |succ f ih=>
    intro listed ρ a w inv hu;by_cases hh:∀k,k<n->listed.getD k false=true
    · have b1:unl (λk=>listed.getD k false) ops.size+n=ops.size:=by
        have key:∀m,n<=m->m<=ops.size->unl (λk=>listed.getD k false) m+n=m:=by
          intro m
          induction m with
          | zero => intro S _; obtain rfl : n = 0 := q_o
                    rfl
          |succ m ihm=>
            intro S h2;by_cases e:n=m+1
            · subst e
              have hz:∀j,j<=m+1->unl (λk=>listed.getD k false) j=0:=by
                intro j
                induction j with
                |zero=>intro _;rfl
                |succ j ihj=>grind [unl]
              simp_all
            · simp only[unl]
              have:listed.getD m false=false:=by
                cases B:listed.getD m false
                · rfl
                · have:=inv.head m B;omega
              grind
        exact key _ hk.le (A7 _)
      exact tailAt inv hh (f+1) q_o
    · refine⟨λa9=>?_,λi hi=>?_⟩
      · exfalso
        -- the least head that has not been carried out could be
        apply hh;intro k
        induction k using Nat.strongRecOn with
        |_ k b2=>
          intro A;cases B:listed.getD k false with
          |true=>rfl
          |false=>
            exfalso;have I:k<ops.size:=by have:=hk.le;omega
            have K:ops[k]?=some ops[k]:=B7 I;have:k∈Region.ready .any ops listed:=mem_ready.2 ⟨by
              simp only[B1] at B ⊢;rw[B7 (by rw[inv.size];exact I)] at B ⊢;simpa using B,_,K,λe V T=>by
              have hp:=hk.acyc k _ K e.on (zdX.2 ⟨e,V,T,rfl⟩)
              grind⟩
            simp_all
      · obtain⟨S,o,ho,E⟩:=mem_ready.1 hi
        have a6:=zbQ S;have J:i<ops.size:=(Af.1 ho).1;have X:i<n:=by
          rcases AG i n with h|h
          · exact h
          · exfalso
            apply hh;intro k A;have U:=zl8 hk (p:=λk=>listed.getD k false) inv.down i o ho (λj hj=>by
              obtain⟨e,V,B,rfl⟩:=zdX.1 hj;exact E e V B)
            exact U k (hk.tail i o ho h k q_o)
        refine zAj hk hg inv hi X (λρ' a' w' O=>ih _ ρ' a' w' O ?_);have:=zlX (p:=λk=>listed.getD k false) (p':=λk=>(listed.setIfInBounds i true).getD k false) (i:=i) a6 (by
          have:i<listed.size:=by rw[inv.size];exact J
          simp_all) (λk Z=>getD_set_ne false (λe=>Z e.symm)) ops.size J
        omega
where
  tailAt {listed:Array Bool}{ρ:Env}{a:Act}{w:World}(inv:DInv ops n fr (L0++Ds.map dob) it N w0 M (Ds.map col++ds) listed ρ a w) (hh:∀k,k<n->listed.getD k false=true) (q:Nat) (hf:q+n=ops.size):wpAnyIn (FW ro) 0 P .any ops Q q listed a w:=by
    refine zr7 hk q n (ops.toList.drop n) listed a w hf (A7 _) inv.size (λk _=>?_) (λj=>by simp) ?_
    · cases B:listed.getD k false with
      |true=>exact(zaS.2 (inv.head k B)).symm
      |false=>
        grind [zcf]
    · refine H ρ (zgP n λk A _=>inv.rel k (hh k A)) a w ⟨Ds,inv.defs,inv.tsize,λt v hv=>?_,inv.keep,inv.hold.perm ?_⟩
      · rcases zjX n hv with ⟨k,A,Y,rfl⟩|⟨a8,W⟩
        · exact inv.s1 k t (hh k A) Y
        · exact inv.s2 t v W (λk a7=>a8 k (inv.head k a7))
      · rw[<-zg7]
        refine List.Perm.trans ?_ (zen (it:=it) (ts:=List.range n) (ρ:=ρ) (L:=L0++Ds.map dob) n).symm;rw[zfM (p:=λk=>listed.getD k false) (p':=λk=>(List.range n).contains k) n (λk A=>⟨by simp_all,λ_=>rfl⟩)]
theorem zai{id:Nat}{l:List Oper}(n:Nat)(C:List (List Nat))(hm:P.follows .mixedOrders=true)(G:zlN l.toArray n N C=true)
  (h:DH P ro N w0 M ds l.toArray Q C L0 n 0 l (λ_=>fr) []):Sy P ro N w0 M ds (.region id l.toArray true) Q fr L0:=by
 rintro a w ⟨Ds,H,A⟩;have U:=zhE G;obtain⟨it,_,O,S⟩:=DH.items (P:=P) (ro:=ro) (N:=N) (w0:=w0) (M:=M) (ds:=ds) (ops:=l.toArray) (Q:=Q) (C:=C) (fr:=fr) (L0:=L0) n 0 l (λ_=> .inl λ_=>undef) (λj=>by simp) h;simp only[Aa] at O S;refine wpIn_region_any hm ?_;have T:∀i o,i<n->l.toArray[i]?=some o->Good P ro N w0 M ds l.toArray C fr L0 it i o:=λi o J K=>by
  obtain⟨X,E,I⟩:=O i (AA _) J;rw[K] at E;cases E;exact I
 have B:∀k,(Array.replicate l.toArray.size false).getD k false=false:=λk=>by
  simp only[B1,DE];split <;> rfl
 have no:∀k,(Array.replicate l.toArray.size false).getD k false=true->False:=λk h=>by rw[B] at h;cases h
 refine zAx (Ds:=Ds) U (λi o J K=>(T i o J K).app _) (by simpa using S) _ _ (λ_=>(undef,[])) a _ ⟨by simp,λk q=>(no k q).elim,λk o q=>(no k q).elim,A.size,H,λk d q=>(no k q).elim,
  λt v W _=>A.agr t v W,λk q=>(no k q).elim,⟨A.keep.os,A.keep.tape,A.keep.output,A.keep.size,A.keep.block⟩,?_⟩ ?_
 ·rw[zlU n (λk _=>B k),Ag];exact⟨λr V=>FN (A.hold.all r V) (λ_ _=>rfl),A.hold.apart,A.hold.mine⟩
 ·have:∀m,unl (λk=>(Array.replicate l.toArray.size false).getD k false) m=m:=by
   intro m
   induction m with
   |zero=>rfl
   |succ m ih=>grind [unl]
  exact this _
variable {k i d:Nat}{o:Oper}{rest:List Oper}{F:Env->Fr}{rs:List (Nat×(Env->Value->List Res->Prop))}
theorem zAo{u:Value}(m:∀ρ,zbo (cl C i) rs ρ->OpT P ro N w0 M ds o (only (o.looksAt ops) (get (F ρ))) (zaq (cl C i) rs ρ L0) (Det u (zaq (cl C i) rs ρ L0)))(q:∀ρ,zak ops o (only (o.looksAt ops) (get (F ρ)))=some true)(j:o.dst=some d)
  (h:DH P ro N w0 M ds ops Q C L0 k (i+1) rest (λρ=>(d,u)::F ρ) rs):DH P ro N w0 M ds ops Q C L0 (k+1) i (o::rest) F rs:=
 .inl ⟨λ_=>u,λ_ _ _=>rfl,λρ w=> .inl ⟨q ρ,m ρ w⟩,by rw[j];exact h⟩
theorem dc{u:Value}(m:∀ρ,zbo (cl C i) rs ρ->OpT P ro N w0 M ds o (only (o.looksAt ops) (get (F ρ))) (zaq (cl C i) rs ρ L0) (Det u (zaq (cl C i) rs ρ L0)))(q:∀ρ,zak ops o (only (o.looksAt ops) (get (F ρ)))=some true:=by exact λ_=>rfl)(j:o.dst=some d:=by exact rfl)
  (k:DH P ro N w0 M ds ops Q C L0 n (i+1) rest (λρ=>(d,u)::F ρ) rs):DH P ro N w0 M ds ops Q C L0 (n+1) i (o::rest) F rs:=zAo m q j k
theorem zcW(m:∀ρ,zak ops o (only (o.looksAt ops) (get (F ρ)))=some false)(j:o.dst=some d)
  (h:DH P ro N w0 M ds ops Q C L0 k (i+1) rest (λρ=>(d,undef)::F ρ) rs):DH P ro N w0 M ds ops Q C L0 (k+1) i (o::rest) F rs:=
 .inl ⟨λ_=>undef,λ_ _ _=>rfl,λρ _=> .inr ⟨m ρ,rfl,rfl⟩,by rw[j];exact h⟩
theorem zaF{fr':Fr}(h:SyL P ro N w0 M ds ops Q rest fr' L0):DH P ro N w0 M ds ops Q C L0 0 i rest (λ_=>fr') []:=λ_ _=>h
variable {g:Nat->Option Value}{L:List Res}
theorem zbx(j b:Nat):(j:Int)+((OfNat.ofNat b:Nat):Int)=((j+b:Nat):Int):=rfl
def zqZ:Op->Bool
 | .defer _=>false
 |_=>true
theorem OpT.run{post:Value->List Res->Prop}(hk:zqZ o.op=true)(h:∀a w X,St N w0 M ds g (L++X) a w->∃x v j m,(execOp a.eval o).run P w= .ok x j/\(x= .value v\/(x= .skip/\v=undef))/\post v m/\Keep M w0 j/\Holds w0.heap.size M (m++X) j):OpT P ro N w0 M ds o g L post:=by
 intro a w X next Q I B
 obtain⟨x,v,j,m,H,J,E,q,A⟩:=h a w X I;refine⟨λ_ _=>trivial,?_⟩;rw[Oper.semAt_plain (FW ro) _ _ (λc G=>by rw[G] at hk;cases hk),H];rcases J with rfl|⟨rfl,rfl⟩
 ·exact B v j m E q A
 ·exact B undef j m E q A
def FH:=@OpT.run
theorem OpT.still{v:Value}(hk:zqZ o.op=true)(h:∀a w X,St N w0 M ds g (L++X) a w->(execOp a.eval o).run P w= .ok (.value v) w):OpT P ro N w0 M ds o g L (Det v L):=
 FH hk λa w X j=>⟨_,v,w,L,h a w X j,.inl rfl,⟨rfl,rfl⟩,j.keep,j.hold⟩
def F4:=@OpT.still
theorem OpT.mono{post post':Value->List Res->Prop}(h:OpT P ro N w0 M ds o g L post)(hp:∀v j,post v j->post' v j):OpT P ro N w0 M ds o g L post':=
 λa w X next Q A q=>h a w X next Q A λv B j m=>q v B j (hp v j m)
def FM:=@OpT.mono
theorem zV{x:Operand}{v:Value}(j:o.op= .move x:=by exact rfl)(hx:ev g x=some v:=by exact rfl):OpT P ro N w0 M ds o g L (Det v L):=
 F4 (by rw[j];rfl) λa w X m=>by simp only[execOp,j,m.agr.eval hx];rfl
theorem za6{x:Operand}{v:Value}(j:o.op= .assign x:=by exact rfl)(hx:ev g x=some v:=by exact rfl):OpT P ro N w0 M ds o g L (Det v L):=
 F4 (by rw[j];rfl) λa w X m=>by simp only[execOp,j,m.agr.eval hx];rfl
theorem zcz{c x y:Operand}{b:Bool}{v:Value}(m:o.op= .pick c x y:=by exact rfl)(hc:ev g c=some (.bool b):=by exact rfl)(hv:(bif b then ev g x else ev g y)=some v:=by exact rfl):OpT P ro N w0 M ds o g L (Det v L):=
 F4 (by rw[m];rfl) λa w X j=>by
  cases b
  ·simp only[cond_false] at hv;simp[execOp,m,j.agr.eval hc,j.agr.eval hv,asBool]
  ·simp only[cond_true] at hv;simp[execOp,m,j.agr.eval hc,j.agr.eval hv,asBool]
end
open Go
variable {P:Program}{ro:Option Nat}{N:Nat}{w0:World}{M:Nat->Prop}{ds:List Deferred}{g:Nat->Option Value}{L:List Res}{o:Oper}{t t':TypeId}{x y:Operand}{k:IntKind}{a b c:Int}{r:Bool}
theorem zD(j:o.op= .binOp .add t x y t':=by exact rfl)(hx:ev g x=some (.int k a):=by exact rfl)(q:ev g y=some (.int k b):=by exact rfl)(hr:k.wrap (a+b)=c:=by first|exact IntWalk.i64_in _ q_o|exact IntWalk.u64_in _ q_o|exact IntWalk.u8_in _ q_o|exact IntWalk.u32_in _ q_o|rfl|fail):OpT P ro N w0 M ds o g L (Det (.int k c) L):=
 F4 (by rw[j];rfl) λa w X m=>by simp[execOp,j,m.agr.eval hx,m.agr.eval q,eqGuard,binOp,Op.intArith,hr]
theorem zK(j:o.op= .binOp .sub t x y t':=by exact rfl)(hx:ev g x=some (.int k a):=by exact rfl)(q:ev g y=some (.int k b):=by exact rfl)(hr:k.wrap (a-b)=c:=by first|exact IntWalk.i64_in _ q_o|exact IntWalk.u64_in _ q_o|exact IntWalk.u8_in _ q_o|exact IntWalk.u32_in _ q_o|rfl|fail):OpT P ro N w0 M ds o g L (Det (.int k c) L):=
 F4 (by rw[j];rfl) λa w X m=>by simp[execOp,j,m.agr.eval hx,m.agr.eval q,eqGuard,binOp,Op.intArith,hr]
theorem zaM(j:o.op= .binOp .mul t x y t':=by exact rfl)(hx:ev g x=some (.int k a):=by exact rfl)(q:ev g y=some (.int k b):=by exact rfl)(hr:k.wrap (a*b)=c:=by first|exact IntWalk.i64_in _ q_o|exact IntWalk.u64_in _ q_o|exact IntWalk.u8_in _ q_o|exact IntWalk.u32_in _ q_o|rfl|fail):OpT P ro N w0 M ds o g L (Det (.int k c) L):=
 F4 (by rw[j];rfl) λa w X m=>by simp[execOp,j,m.agr.eval hx,m.agr.eval q,eqGuard,binOp,Op.intArith,hr]
theorem zbz(j:o.op= .binOp .quo t x y t':=by exact rfl)(hx:ev g x=some (.int k a):=by exact rfl)(q:ev g y=some (.int k b):=by exact rfl)(hb:b≠0:=by first|decide|omega)(hr:k.wrap (a.tdiv b)=c:=by first|exact IntWalk.i64_quo _ _ q_o|exact IntWalk.u64_quo _ _ q_o|rfl):OpT P ro N w0 M ds o g L (Det (.int k c) L):=
 F4 (by rw[j];rfl) λa w X m=>by simp[execOp,j,m.agr.eval hx,m.agr.eval q,eqGuard,binOp,Op.intDiv,hr,hb]
theorem zbI(j:o.op= .binOp .rem t x y t':=by exact rfl)(hx:ev g x=some (.int k a):=by exact rfl)(q:ev g y=some (.int k b):=by exact rfl)(hb:b≠0:=by first|decide|omega)(hr:a.tmod b=c:=by first|exact IntWalk.rem_in _ _ q_o|rfl):OpT P ro N w0 M ds o g L (Det (.int k c) L):=
 F4 (by rw[j];rfl) λa w X m=>by simp[execOp,j,m.agr.eval hx,m.agr.eval q,eqGuard,binOp,Op.intDiv,hr,hb]
theorem zn2(j:o.op= .binOp .and t x y t':=by exact rfl)(hx:ev g x=some (.int k a):=by exact rfl)(q:ev g y=some (.int k b):=by exact rfl)(hr:bits .and k a b=c:=by exact rfl):OpT P ro N w0 M ds o g L (Det (.int k c) L):=
 F4 (by rw[j];rfl) λa w X m=>by subst hr;simp[execOp,j,m.agr.eval hx,m.agr.eval q,eqGuard,binOp,Op.intBits,bits]
theorem zj3(j:o.op= .binOp .or t x y t':=by exact rfl)(hx:ev g x=some (.int k a):=by exact rfl)(q:ev g y=some (.int k b):=by exact rfl)(hr:bits .or k a b=c:=by exact rfl):OpT P ro N w0 M ds o g L (Det (.int k c) L):=
 F4 (by rw[j];rfl) λa w X m=>by subst hr;simp[execOp,j,m.agr.eval hx,m.agr.eval q,eqGuard,binOp,Op.intBits,bits]
theorem zsW(j:o.op= .binOp .andNot t x y t':=by exact rfl)(hx:ev g x=some (.int k a):=by exact rfl)(q:ev g y=some (.int k b):=by exact rfl)(hr:bits .andNot k a b=c:=by exact rfl):OpT P ro N w0 M ds o g L (Det (.int k c) L):=
 F4 (by rw[j];rfl) λa w X m=>by subst hr;simp[execOp,j,m.agr.eval hx,m.agr.eval q,eqGuard,binOp,Op.intBits,bits]
theorem zeD{q:IntKind}(j:o.op= .binOp .shl t x y t':=by exact rfl)(hx:ev g x=some (.int k a):=by exact rfl)(A:ev g y=some (.int q b):=by exact rfl)(hr:Op.shift .shl k a q b=pure (.int k c)):OpT P ro N w0 M ds o g L (Det (.int k c) L):=
 F4 (by rw[j];rfl) λa w X m=>by simp[execOp,j,m.agr.eval hx,m.agr.eval A,eqGuard,binOp,hr]
theorem zcl{q:IntKind}(j:o.op= .binOp .shr t x y t':=by exact rfl)(hx:ev g x=some (.int k a):=by exact rfl)(A:ev g y=some (.int q b):=by exact rfl)(hr:Op.shift .shr k a q b=pure (.int k c)):OpT P ro N w0 M ds o g L (Det (.int k c) L):=
 F4 (by rw[j];rfl) λa w X m=>by simp[execOp,j,m.agr.eval hx,m.agr.eval A,eqGuard,binOp,hr]
theorem zn(j:o.op= .binOp .lss t x y t':=by exact rfl)(hx:ev g x=some (.int k a):=by exact rfl)(q:ev g y=some (.int k b):=by exact rfl)(hr:decide (a<b)=r:=by first|exact decide_eq_true q_o|exact decide_eq_false q_o|rfl|fail):OpT P ro N w0 M ds o g L (Det (.bool r) L):=
 F4 (by rw[j];rfl) λa w X m=>by simp[execOp,j,m.agr.eval hx,m.agr.eval q,eqGuard,binOp,Op.intCmp,hr]
theorem zaA(j:o.op= .binOp .leq t x y t':=by exact rfl)(hx:ev g x=some (.int k a):=by exact rfl)(q:ev g y=some (.int k b):=by exact rfl)(hr:decide (a<=b)=r:=by first|exact decide_eq_true q_o|exact decide_eq_false q_o|rfl|fail):OpT P ro N w0 M ds o g L (Det (.bool r) L):=
 F4 (by rw[j];rfl) λa w X m=>by simp[execOp,j,m.agr.eval hx,m.agr.eval q,eqGuard,binOp,Op.intCmp,hr]
theorem zH(j:o.op= .binOp .gtr t x y t':=by exact rfl)(hx:ev g x=some (.int k a):=by exact rfl)(q:ev g y=some (.int k b):=by exact rfl)(hr:decide (b<a)=r:=by first|exact decide_eq_true q_o|exact decide_eq_false q_o|rfl|fail):OpT P ro N w0 M ds o g L (Det (.bool r) L):=
 F4 (by rw[j];rfl) λa w X m=>by simp[execOp,j,m.agr.eval hx,m.agr.eval q,eqGuard,binOp,Op.intCmp,hr]
theorem zO(j:o.op= .binOp .geq t x y t':=by exact rfl)(hx:ev g x=some (.int k a):=by exact rfl)(q:ev g y=some (.int k b):=by exact rfl)(hr:decide (b<=a)=r:=by first|exact decide_eq_true q_o|exact decide_eq_false q_o|rfl|fail):OpT P ro N w0 M ds o g L (Det (.bool r) L):=
 F4 (by rw[j];rfl) λa w X m=>by simp[execOp,j,m.agr.eval hx,m.agr.eval q,eqGuard,binOp,Op.intCmp,hr]
theorem zS(j:o.op= .binOp .eql t x y t':=by exact rfl)(hx:ev g x=some (.int k a):=by exact rfl)(q:ev g y=some (.int k b):=by exact rfl)(hr:decide (a=b)=r:=by first|exact decide_eq_true q_o|exact decide_eq_false q_o|rfl|fail):OpT P ro N w0 M ds o g L (Det (.bool r) L):=
 F4 (by rw[j];rfl) λA w X m=>by
  have:(a==b)=r:=by rw[<-hr];rfl
  simp[execOp,j,m.agr.eval hx,m.agr.eval q,eqGuard,binOp,Op.intCmp,this]
theorem zad(j:o.op= .binOp .neq t x y t':=by exact rfl)(hx:ev g x=some (.int k a):=by exact rfl)(q:ev g y=some (.int k b):=by exact rfl)(hr:decide (a≠b)=r:=by first|exact decide_eq_true q_o|exact decide_eq_false q_o|rfl|fail):OpT P ro N w0 M ds o g L (Det (.bool r) L):=
 F4 (by rw[j];rfl) λA w X m=>by
  have:(a != b)=r:=by rw[<-hr];by_cases h:a=b <;> simp[h]
  simp[execOp,j,m.agr.eval hx,m.agr.eval q,eqGuard,binOp,Op.intCmp,this]
theorem zam{d:TypeDesc}(q:o.op= .convert t t' x:=by exact rfl)(hx:ev g x=some (.int k a):=by exact rfl)(j:P.underlying t=some d:=by exact tyU rfl){m:IntKind}(A:P.underlying t'=some (.int m):=by exact tyI rfl rfl)(hr:m.wrap a=c:=by first|exact IntWalk.i64_in _ q_o|exact IntWalk.u64_in _ q_o|exact IntWalk.u8_in _ q_o|exact IntWalk.u32_in _ q_o|rfl|fail):OpT P ro N w0 M ds o g L (Det (.int m c) L):=
 F4 (by rw[q];rfl) λE w X B=>by
  simp[execOp,q,B.agr.eval hx,convert,run_underlying j,run_underlying A,Conv.intToInt,hr]
theorem zsJ(j:o.op= .unOp .neg t x:=by exact rfl)(hx:ev g x=some (.int k a):=by exact rfl)(hr:k.wrap (0-a)=c:=by first|exact IntWalk.i64_in _ q_o|exact IntWalk.u64_in _ q_o|exact IntWalk.u8_in _ q_o|exact IntWalk.u32_in _ q_o|rfl|fail):OpT P ro N w0 M ds o g L (Det (.int k c) L):=
 F4 (by rw[j];rfl) λa w X m=>by simp only[Int.zero_sub] at hr;simp[execOp,j,m.agr.eval hx,Op.unary,Op.intArith,hr]
theorem zh2(j:o.op= .unOp .not t x:=by exact rfl)(hx:ev g x=some (.bool r):=by exact rfl):OpT P ro N w0 M ds o g L (Det (.bool (!r)) L):=
 F4 (by rw[j];rfl) λa w X m=>by simp[execOp,j,m.agr.eval hx,Op.unary]
def zd2:TypeDesc->TypeDesc
 | .struct _=> .struct #[]
 | .interface _=> .interface #[]
 | .func _ _ _=> .func #[] #[] false
 |d=>d
structure Ty where
 desc:TypeDesc
 size:Nat
 bytes:Nat
 flds:List (Nat×Nat)      -- a field's offset, its number of cells
def zah(P:Program)(t:TypeId):Option Ty:=
 match P.underlying t,P.info? t with
 |some d,some i=>some ⟨zd2 d,i.size,i.bytes,match d with
  | .struct fs=>fs.toList.map λf=>(f.offset,P.cellsOf f.type)
  |_=>[]⟩
 |_,_=>none
def nth{α:Type} :List α->Nat->Option α
 | [],_=>none
 |x::_,0=>some x
 |_::l,n+1=>nth l n
theorem zhU{α:Type} :∀(l:List α) (n:Nat),nth l n=l[n]?
 | [],_=>by simp[nth]
 |_::_,0=>by simp[nth]
 |_::l,n+1=>by simp[nth,zhU l n]
theorem zvV{P:Program}{j:List Ty}(h:(List.range j.length).map (zah P)=j.map some){t:Nat}{y:Ty}(m:nth j t=some y):zah P t=some y:=by
 rw[zhU] at m;have q:t<j.length:=(AR.1 m).1;have:=congrArg (λl=>l[t]?) h
 grind
theorem zX{P:Program}{t:TypeId}{y:Ty}(h:zah P t=some y):∃d i,P.underlying t=some d/\P.info? t=some i/\zd2 d=y.desc/\i.size=y.size/\i.bytes=y.bytes/\
  y.flds=(match d with| .struct fs=>fs.toList.map λf=>(f.offset,P.cellsOf f.type)|_=>[]):=by
 unfold zah at h
 grind
theorem zo8(d:TypeDesc):(zd2 d).isRow=d.isRow:=by cases d <;> rfl
theorem zbp{d:TypeDesc}{e:TypeId}(h:zd2 d= .slice e):d= .slice e:=by cases d <;> simp_all[zd2]
theorem zdk{d:TypeDesc}{n:Nat}{e:TypeId}(h:zd2 d= .array n e):d= .array n e:=by cases d <;> simp_all[zd2]
theorem zkw{d:TypeDesc}{k:IntKind}(h:zd2 d= .int k):d= .int k:=by cases d <;> simp_all[zd2]
theorem zf9{d:TypeDesc}(h:zd2 d= .string):d= .string:=by cases d <;> simp_all[zd2]
theorem zso{d:TypeDesc}(h:zd2 d= .bool):d= .bool:=by cases d <;> simp_all[zd2]
theorem zoW{d:TypeDesc}{e:TypeId}(h:zd2 d= .pointer e):d= .pointer e:=by cases d <;> simp_all[zd2]
theorem zf3{d:TypeDesc}(h:zd2 d= .struct #[]):∃j,d= .struct j:=by cases d <;> simp_all[zd2]
theorem zi4{t:TypeId}{y:Ty}(q:zah P t=some y)(hr:y.desc.isRow=false)(w:World):(isAgg t).run P w= .ok false w:=by
 obtain⟨d,i,j,A,m,_⟩:=zX q;rw[<-m,zo8] at hr;unfold isAgg;rw[Sem.run_bind,run_underlying j w];cases d <;> simp_all
theorem zbV{t:TypeId}{y:Ty}(m:zah P t=some y)(w:World):(sizeOf t).run P w= .ok y.size w:=by
 obtain⟨d,i,A,j,B,q,_⟩:=zX m;simp[sizeOf,typeInfo,j,q]
theorem zgK{t:TypeId}{y:Ty}(j:zah P t=some y)(hr:y.desc.isRow=false)(w:World)(a:Addr){v:Value}(hc:w.cell? a=some v):(Instr.loadAt t (.pointer (some a))).run P w= .ok v w:=by
 simp only[Instr.loadAt,Instr.sureAddr,Sem.run_bind,Sem.run_pure,Result.andThen_ok,loadVar,zi4 j hr];simp[load,Sem.run,hc]
theorem znn{t:TypeId}{y:Ty}(j:zah P t=some y)(hz:y.size=1)(w:World)(a:Addr){v u:Value}(hc:w.cell? a=some u)(A:w.frozen? a=false)(h1:v.oneCell'=true):(Instr.storeAt t (.pointer (some a)) v).run P w= .ok () (w.setCell a v):=by
 have m:v.cells= #[v]:=by cases v <;> first|rfl|(simp[Value.oneCell'] at h1)
 have q:a.add 0=a:=by simp[Addr.add]
 simp only[Instr.storeAt,Instr.sureAddr,Sem.run_bind,Sem.run_pure,Result.andThen_ok,storeVar,m,zbV j,hz];cases v <;> first
  |(simp[Value.oneCell'] at h1;done)
  |simp_all[storeCells,store,Sem.run]
theorem zfI{w:World}{b T:Nat}{C:List Value}(h:(Res.blk b T C).holds w)(o:Nat):w.cell? ⟨b,o,none⟩=C[o]?:=by
 have h:w.heap[b]?=some (.cells C.toArray T (0,0)):=h;simp[World.cell?,h]
theorem zou{w:World}{b T:Nat}{C:List Value}(h:(Res.blk b T C).holds w)(o:Nat):w.frozen? ⟨b,o,none⟩=false:=by
 have h:w.heap[b]?=some (.cells C.toArray T (0,0)):=h;simp[World.frozen?,h]
theorem zqS{w:World}{b T:Nat}{C:List Value}(h:(Res.blk b T C).holds w)(o:Nat)(v:Value):(Res.blk b T (C.set o v)).holds (w.setCell ⟨b,o,none⟩ v):=by
 have h:w.heap[b]?=some (.cells C.toArray T (0,0)):=h;show(w.setCell ⟨b,o,none⟩ v).heap[b]?=_
 grind [World.setCell]
def zaK(C:List Value)(o:Nat)(l:List Value):List Value:=C.take o++l++C.drop (o+l.length)
theorem zfg{b T:Nat} :∀(l:List Value) (C:List Value) (o:Nat) (w:World),(Res.blk b T C).holds w->o+l.length<=C.length->(Res.blk b T (zaK C o l)).holds (w.setCells b o l)
 | [],C,o,w,h,_=>by simpa [zaK,World.setCells] using h
 |x::l,C,o,w,h,hl=>by
  simp only[AQ] at hl;have:=zfg l (C.set o x) (o+1) _ (zqS h o x) (by grind);have e:zaK (C.set o x) (o+1) l=zaK C o (x::l):=by
   unfold zaK;rw[List.take_succ_eq_append_getElem (by grind),List.getElem_set_self,Dk (A7 o),List.drop_set_of_lt q_o];simp[BK,Cz 1]
  rw[e] at this;exact this
theorem Keep.setCells(b:Nat):∀(l:List Value) (o:Nat) (w:World),Keep (· =b) w (w.setCells b o l)
 | [],_,w=>Fl _ w
 |x::l,o,w=>(Fm w ⟨b,o,none⟩ x).trans (Keep.setCells b l (o+1) _) (λ_ h=> .inr h)
def FY:=@Keep.setCells
theorem St.blk{a:Act}{w:World}{X:List Res}(h:St N w0 M ds g (L++X) a w){r:Res}(hr:Has L r):r.holds w:=h.hold.has (Has.append hr)
theorem St.old{a:Act}{w:World}{X:List Res}(h:St N w0 M ds g (L++X) a w){j:Addr}{v:Value}(hv:w0.cell? j=some v)(hn:¬M j.block):w.cell? j=some v:=h.keep.cell hv hn
theorem St.oldRange{a:Act}{w:World}{X:List Res}(h:St N w0 M ds g (L++X) a w){b off:Nat}{cs:List Value}(hv:w0.rangeAt b off cs)(hn:¬M b):w.rangeAt b off cs:=
 λj v m=>h.old (hv j v m) hn
def Seg(C:List Value)(off:Nat)(B:List Value):Prop:=∀j v,B[j]?=some v->C[off+j]?=some v
theorem Seg.all{C:List Value} :Seg C 0 C:=λj v h=>by simp_all
def Ex:=@Seg.all
theorem Seg.mid{A B D:List Value} :Seg (A++B++D) A.length B:=λj v h=>by grind
theorem Seg.at{C B:List Value}{off:Nat}(h:(C.drop off).take B.length=B):Seg C off B:=λj v m=>by grind
def FK:=@Seg.at
theorem zp{w:World}{b T:Nat}{C B:List Value}{off:Nat}(h:(Res.blk b T C).holds w)(q:Seg C off B):w.rangeAt b off B:=λj v m=>by rw[zfI h];exact q j v m
theorem zjn{w:World}{b T:Nat}{C:List Value}{off n:Nat}(h:(Res.blk b T C).holds w)(q:off+n<=C.length):w.there b off n:=λj m=>
 ⟨by rw[zfI h,A2 q_o];rfl,zou h _⟩
def Reads(w0:World)(M:Nat->Prop)(L:List Res)(b off:Nat)(B:List Value):Prop:=∀w X,Keep M w0 w->Holds w0.heap.size M (L++X) w->w.rangeAt b off B
theorem Reads.blk{b off T:Nat}{C B:List Value}(hL:Has L (.blk b T C))(m:Seg C off B):Reads w0 M L b off B:=λ_ _ _ j=>zp (j.has (F1 hL)) m
def Ff:=@Reads.blk
def SlA(w:World)(a:Option Addr)(B:List Value):Prop:=B= []\/∃b off,a=some ⟨b,off,none⟩/\w.rangeAt b off B
def Rd(w0:World)(M:Nat->Prop)(L:List Res)(a:Option Addr)(B:List Value):Prop:=∀w X,Keep M w0 w->Holds w0.heap.size M (L++X) w->SlA w a B
theorem SlA.drop{w:World}{a:Option Addr}{B:List Value}(h:SlA w a B)(k:Nat):SlA w (a.map (·.add k)) (B.drop k):=by
 rcases h with rfl|⟨b,o,rfl,q⟩
 ·exact .inl q_p
 ·refine .inr ⟨b,o+k,by simp[Addr.add_mid],λj v m=>?_⟩;rw[Bp] at m;rw[BK];exact q _ v m
theorem SlA.take{w:World}{a:Option Addr}{B:List Value}(h:SlA w a B)(k:Nat):SlA w a (B.take k):=by
 rcases h with rfl|⟨b,o,rfl,q⟩
 ·exact .inl q_p
 ·refine .inr ⟨b,o,rfl,λj v m=>?_⟩;rw[CI] at m;split at m
  ·exact q j v m
  ·cases m
theorem SlA.keep{M':Nat->Prop}{w w':World}{a:Option Addr}{B:List Value}(h:SlA w a B)(hk:Keep M' w w')(hn:∀m,a=some m->¬M' m.block):SlA w' a B:=by
 rcases h with rfl|⟨b,o,rfl,A⟩
 ·exact .inl rfl
 ·exact .inr ⟨b,o,rfl,λj v q=>hk.cell (A j v q) (hn ⟨b,o,none⟩ rfl)⟩
theorem Rd.nil{a:Option Addr} :Rd w0 M L a []:=λ_ _ _ _=> .inl rfl
def G9:=@Rd.nil
theorem Rd.of{b off:Nat}{B:List Value}(h:Reads w0 M L b off B):Rd w0 M L (some ⟨b,off,none⟩) B:=λw X m j=> .inr ⟨b,off,rfl,h w X m j⟩
theorem Rd.old{a:Option Addr}{B:List Value}(h:SlA w0 a B)(hn:∀j,a=some j->¬M j.block):Rd w0 M L a B:=λ_ _ m _=>h.keep m hn
def FQ:=@Rd.old
theorem Rd.row{E n m c:Nat}{a:Option Addr}{xs:List Value}(hL:Has L (.row (.slice a m c) E 1 n xs)):Rd w0 M L a xs:=λw X _ B=>by
 have q:w.ownsRow 0 E 1 (.slice a m c) n xs:=B.has (F1 hL);obtain⟨I,⟨_,J⟩|⟨b,H,A,G,_,K,O,S,T,U⟩⟩:=q
 ·exact .inl (Av.1 q_o)
 ·cases G;refine .inr ⟨b,0,rfl,λj v V=>?_⟩
  grind [World.cell?]
def GA:=@Rd.row
theorem zM{t:TypeId}{x:Operand}{b off T:Nat}{C:List Value}{v:Value}{y:Ty}(j:o.op= .load t x:=by exact rfl)(hx:ev g x=some (.pointer (some ⟨b,off,none⟩)):=by exact rfl)(q:zah P t=some y:=by exact ty rfl)(hr:y.desc.isRow=false:=by exact rfl)
  (hL:Has L (.blk b T C):=by repeat (first|exact F5|apply F8))(hv:C[off]?=some v:=by first|rfl|assumption):OpT P ro N w0 M ds o g L (Det v L):=
 F4 (by rw[j];rfl) λa w X m=>by
  simp[execOp,j,m.agr.eval hx,zgK q hr w _ ((zfI (m.blk hL) off).trans hv)]
theorem zo{t:TypeId}{x:Operand}{j:Addr}{v:Value}{y:Ty}(m:o.op= .load t x:=by exact rfl)(hx:ev g x=some (.pointer (some j)):=by exact rfl)(A:zah P t=some y:=by exact ty rfl)(hr:y.desc.isRow=false:=by exact rfl)
  (hv:w0.cell? j=some v:=by assumption)(hn:¬M j.block:=by exact λh=>h):OpT P ro N w0 M ds o g L (Det v L):=
 F4 (by rw[m];rfl) λa w X q=>by
  simp[execOp,m,q.agr.eval hx,zgK A hr w _ (q.old hv hn)]
theorem zgo{t:TypeId}{y:Ty}(j:zah P t=some y)(hr:y.desc.isRow=true){w:World}{b off:Nat}{B:List Value}(hz:y.size=B.length)(hc:w.rangeAt b off B):
  (Instr.loadAt t (.pointer (some ⟨b,off,none⟩))).run P w= .ok (.agg B.toArray) w:=by grind [zX,run_loadAt_mid,zo8]
theorem ze{t:TypeId}{x:Operand}{b off T:Nat}{C B:List Value}{y:Ty}(j:o.op= .load t x:=by exact rfl)(hx:ev g x=some (.pointer (some ⟨b,off,none⟩)):=by exact rfl)(q:zah P t=some y:=by exact ty rfl)(hr:y.desc.isRow=true:=by exact rfl)
  (hL:Has L (.blk b T C):=by repeat (first|exact F5|apply F8))(hv:Seg C off B:=by exact Ex)(hz:y.size=B.length:=by first|rfl|simp only[A0,AO,AL,A4];omega|(simp only[A0];first|assumption|omega)|simp;omega|fail):OpT P ro N w0 M ds o g L (Det (.agg B.toArray) L):=
 F4 (by rw[j];rfl) λa w X m=>by
  simp[execOp,j,m.agr.eval hx,zgo q hr hz (zp (m.blk hL) hv)]
theorem zW{t:TypeId}{x:Operand}{b off:Nat}{B:List Value}{y:Ty}(j:o.op= .load t x:=by exact rfl)(hx:ev g x=some (.pointer (some ⟨b,off,none⟩)):=by exact rfl)(q:zah P t=some y:=by exact ty rfl)(hr:y.desc.isRow=true:=by exact rfl)
  (hv:w0.rangeAt b off B:=by assumption)(hz:y.size=B.length:=by first|rfl|simp only[A0,AO,AL,A4];omega|(simp only[A0];first|assumption|omega)|simp;omega|fail)(hn:¬M b:=by exact λh=>h):OpT P ro N w0 M ds o g L (Det (.agg B.toArray) L):=
 F4 (by rw[j];rfl) λa w X m=>by
  simp[execOp,j,m.agr.eval hx,zgo q hr hz (m.oldRange hv hn)]
def SetAt(C:List Value)(n:Nat)(v:Value)(C':List Value):Prop:=n<C.length/\C'=C.set n v
theorem SetAt.here{x v:Value}{C:List Value} :SetAt (x::C) 0 v (v::C):=⟨by simp,rfl⟩
theorem SetAt.any{v:Value}{C:List Value}{n:Nat}(h:n<C.length):SetAt C n v (C.set n v):=⟨h,rfl⟩
theorem zhc{w w':World}{b:Nat}(hk:Keep M w0 w)(j:Keep (· =b) w w')(hm:w0.heap.size<=b\/M b):Keep M w0 w':=hk.trans j (λx m=>by subst m;exact hm)
theorem zaO{t:TypeId}{x z:Operand}{b off T:Nat}{C C':List Value}{v:Value}{y:Ty}{L':List Res}(G:o.op= .store t x z:=by exact rfl)(hx:ev g x=some (.pointer (some ⟨b,off,none⟩)):=by exact rfl)(hz:ev g z=some v:=by exact rfl)(I:zah P t=some y:=by exact ty rfl)(h1:y.size=1:=by exact rfl)(hv:v.oneCell'=true:=by exact rfl)
  (hL:Upd L (.blk b T C) (.blk b T C') L':=by repeat (first|exact FX|apply FV))(hC:SetAt C off v C':=by first|(refine SetAt.any ?_;first|omega|simp only[A0,AO];omega|simp;omega|fail)|(repeat (first|exact SetAt.here|apply SetAt.there);done)|fail):OpT P ro N w0 M ds o g L (Det undef L'):=
 FH (by rw[G];rfl) λa w X j=>by
  obtain⟨E,rfl⟩:=hC;have m:=j.hold.has (r:=.blk b T C) (by
   obtain⟨A,B,e,_⟩:=hL;subst e;simp[Has])
  have H:=j.hold.mine (.blk b T C) (by obtain⟨A,B,e,_⟩:=hL;subst e;simp) b rfl;refine⟨.skip,undef,w.setCell ⟨b,off,none⟩ v,L',?_,.inr ⟨rfl,rfl⟩,⟨rfl,rfl⟩,zhc j.keep (Fm w _ v) H,?_⟩
  ·simp[execOp,G,j.agr.eval hx,j.agr.eval hz,znn I h1 w ⟨b,off,none⟩ ((zfI m off).trans (A2 E)) (zou m off) hv]
  ·exact j.hold.upd hL.append (λJ q=> .inl q) (zqS m off v) ((Fm w _ v).mono (λx hx=>by rw[hx];rfl))
theorem zdI{t:TypeId}{x z:Operand}{b off T:Nat}{C B:List Value}{y:Ty}{L':List Res}(E:o.op= .store t x z:=by exact rfl)(hx:ev g x=some (.pointer (some ⟨b,off,none⟩)):=by exact rfl)(hz:ev g z=some (.agg B.toArray):=by exact rfl)(I:zah P t=some y:=by exact ty rfl)(h1:y.size=B.length:=by first|rfl|simp only[A0,AO,AL,A4];omega|(simp only[A0];first|assumption|omega)|simp;omega|fail)(hv:B.all (·.oneCell')=true:=by first|exact zgB _ (λ_=>rfl) _|rfl|fail)
  (hL:Upd L (.blk b T C) (.blk b T (zaK C off B)) L':=by repeat (first|exact FX|apply FV))(hC:off+B.length<=C.length:=by first|omega|simp only[A0,AO];omega|simp;omega|fail):OpT P ro N w0 M ds o g L (Det undef L'):=
 FH (by rw[E];rfl) λa w X j=>by
  have q:=j.hold.has (r:=.blk b T C) (by
   obtain⟨A,B,e,_⟩:=hL;subst e;simp[Has])
  have G:=j.hold.mine (.blk b T C) (by obtain⟨A,B,e,_⟩:=hL;subst e;simp) b rfl;obtain⟨d,i,O,S,H,J,_⟩:=zX I;refine⟨.skip,undef,w.setCells b off B,L',?_,.inr ⟨rfl,rfl⟩,⟨rfl,rfl⟩,zhc j.keep (FY b B off w) G,?_⟩
  ·have:=run_storeAt_mid (P:=P) w b off t B.toArray (by simpa using zjn q hC) (by simp_all) (by simpa using hv);simp only[execOp,E,j.agr.eval hx,j.agr.eval hz,Sem.run_bind,this,Result.andThen_ok];rfl
  ·exact j.hold.upd hL.append (λK m=> .inl m) (zfg B C off w q hC) ((FY b B off w).mono (λx hx=>by rw[hx];rfl))
theorem zir{C B:List Value}(h:C.length=B.length):zaK C 0 B=B:=by
 simp[zaK,<-h]
theorem zG{t:TypeId}{x z:Operand}{b T:Nat}{C B:List Value}{y:Ty}{L':List Res}(j:o.op= .store t x z:=by exact rfl)(hx:ev g x=some (.pointer (some ⟨b,0,none⟩)):=by exact rfl)(hz:ev g z=some (.agg B.toArray):=by exact rfl)(m:zah P t=some y:=by exact ty rfl)(h1:y.size=B.length:=by first|rfl|simp only[A0,AO,AL,A4];omega|(simp only[A0];first|assumption|omega)|simp;omega|fail)(hv:B.all (·.oneCell')=true:=by first|exact zgB _ (λ_=>rfl) _|rfl|fail)
  (hL:Upd L (.blk b T C) (.blk b T B) L':=by repeat (first|exact FX|apply FV))(hC:C.length=B.length:=by first|rfl|simp only[A0,AO,AL,A4];omega|(simp only[A0];first|assumption|omega)|simp;omega|fail):OpT P ro N w0 M ds o g L (Det undef L'):=
 zdI j hx hz m h1 hv (by rw[zir hC];exact hL) q_o
def zpt(T:Nat)(C:List Value)(L:List Res)(v:Value)(L':List Res):Prop:=∃b,v= .pointer (some ⟨b,0,none⟩)/\L'= .blk b T C::L
def zbd(P:Program)(t:TypeId):Option (List Value):=((P.info? t).bind (·.zero)).map (·.cells.toList)
def znE:List (Nat×List Value)->Nat->Option (List Value)
 | [],_=>none
 |(k,C)::l,t=>bif Nat.beq k t then some C else znE l t
theorem zpg{P:Program} :∀(l:List (Nat×List Value)),l.map (λp=>zbd P p.1)=l.map (λp=>some p.2)->∀ {t:Nat}{C:List Value},znE l t=some C->zbd P t=some C
 | [],_,_,_,h=>by cases h
 |(k,D)::l,hl,t,C,h=>by
  simp only[Au,Dh] at hl;simp only[znE] at h;cases hb:Nat.beq k t with
  |true=>simp_all
  |false=>rw[hb] at h;exact zpg l hl.2 h
theorem zvA{t:TypeId}{C:List Value}(h:zbd P t=some C)(w:World):∃z,(zeroValue t).run P w= .ok z w/\z.cells=C.toArray:=by
 unfold zbd at h;cases hi:P.info? t with
 |none=>rw[hi] at h;cases h
 |some i=>
  rw[hi] at h;simp only[Ac,Ab] at h;obtain⟨z,j,rfl⟩:=h
  simp_all[zeroValue,typeInfo]
theorem zbT{a:Act}{w:World}{X:List Res}(j:St N w0 M ds g (L++X) a w)(T:Nat)(C:List Value):Keep M w0 (w.alloc (.cells C.toArray T))/\Holds w0.heap.size M ((.blk w.heap.size T C::L)++X) (w.alloc (.cells C.toArray T)):=
 ⟨j.keep.trans (Fe No w _) (λ_ h=>h.elim),j.hold.new j.keep.size T C⟩
theorem zeR{t:TypeId}{C:List Value}(q:o.op= .alloc t:=by exact rfl)(hz:zbd P t=some C:=by exact zc rfl):OpT P ro N w0 M ds o g L (zpt t C L):=
 FH (by rw[q];rfl) λa w X A=>by
  obtain⟨z,E,B⟩:=zvA hz w;obtain⟨j,m⟩:=zbT A t C;refine⟨_,_,w.alloc (.cells C.toArray t),_,?_,.inl rfl,⟨w.heap.size,rfl,rfl⟩,j,m⟩
  simp_all[execOp,Instr.alloc,newVar,newRow]
theorem zsO{t:TypeId}{x:Operand}{v:Value}(j:o.op= .box t x:=by exact rfl)(hx:ev g x=some v:=by exact rfl)(hv:v.oneCell'=true:=by exact rfl):OpT P ro N w0 M ds o g L (zpt t [v] L):=
 FH (by rw[j];rfl) λa w X m=>by
  obtain⟨q,A⟩:=zbT m t [v];have B:v.cells= #[v]:=by cases v <;> first|rfl|(simp[Value.oneCell'] at hv)
  refine⟨_,_,w.alloc (.cells [v].toArray t),_,?_,.inl rfl,⟨w.heap.size,rfl,rfl⟩,q,A⟩;simp[execOp,j,m.agr.eval hx,Instr.box,newVar,newRow,B]
theorem zwN{t:TypeId}{x:Operand}{B:List Value}(j:o.op= .box t x:=by exact rfl)(hx:ev g x=some (.agg B.toArray):=by exact rfl):OpT P ro N w0 M ds o g L (zpt t B L):=
 FH (by rw[j];rfl) λa w X m=>by
  obtain⟨q,A⟩:=zbT m t B;refine⟨_,_,w.alloc (.cells B.toArray t),_,?_,.inl rfl,⟨w.heap.size,rfl,rfl⟩,q,A⟩;simp[execOp,j,m.agr.eval hx,Instr.box,newVar,newRow,Value.cells]
theorem ya{ops:Array Oper}{Q:Exit->Act->World->Prop}{rest:List Oper}{fr:Fr}{o:Oper}{d T:Nat}{C:List Value}(h:OpT P ro N w0 M ds o (get fr) L (zpt T C L))(A:zak ops o (get fr)=some true:=by exact rfl)(w:o.dst=some d:=by exact rfl)(q:Nat.blt d N=true:=by exact rfl)
  (k:∀b,SyL P ro N w0 M ds ops Q rest ((d,.pointer (some ⟨b,0,none⟩))::fr) (.blk b T C::L)):SyL P ro N w0 M ds ops Q (o::rest) fr L:=
 syl h A w q λ_ _ ⟨b,j,m⟩=>by subst j;subst m;exact k b
theorem zdq{x:Operand}{j:Addr}(m:o.op= .nilCheck x:=by exact rfl)(hx:ev g x=some (.pointer (some j)):=by exact rfl):OpT P ro N w0 M ds o g L (Det (.pointer (some j)) L):=
 F4 (by rw[m];rfl) λa w X q=>by simp[execOp,m,q.agr.eval hx]
theorem zN{s f b off d n:Nat}{x:Operand}{y:Ty}(H:o.op= .fieldAddr s x f:=by exact rfl)(hx:ev g x=some (.pointer (some ⟨b,off,none⟩)):=by exact rfl)(K:zah P s=some y:=by exact ty rfl)(O:y.desc= .struct #[]:=by exact rfl)(G:nth y.flds f=some (d,n):=by exact rfl)(hn:Nat.beq n 0=false:=by exact rfl):
  OpT P ro N w0 M ds o g L (Det (.pointer (some ⟨b,off+d,none⟩)) L):=
 F4 (by rw[H];rfl) λa w X J=>by
  obtain⟨dd,i,I,U,A,_,_,q⟩:=zX K;rw[O] at A;obtain⟨T,rfl⟩:=zf3 A;simp only at q;rw[q,zhU,AW,Ab] at G;obtain⟨B,m,e⟩:=G;rw[Cl] at m;cases e;have S:(sizeOf B.type).run P w= .ok (P.cellsOf B.type) w:=by
   unfold Program.cellsOf at hn ⊢;cases hq:P.info? B.type with
   |none=>rw[hq] at hn;cases hn
   |some j=>simp[sizeOf,typeInfo,hq]
  have E:P.cellsOf B.type≠0:=CB hn;simp[execOp,H,J.agr.eval hx,Instr.fieldAt,run_underlying I,m,Instr.sureAddr,fieldPlace,S,E,Addr.add_mid]
theorem zal{t e b off n c j:Nat}{x z:Operand}{k:IntKind}{i:Int}{y ye:Ty}(q:o.op= .indexAddr t x z:=by exact rfl)(hx:ev g x=some (.slice (some ⟨b,off,none⟩) n c):=by exact rfl)(hz:ev g z=some (.int k i):=by exact rfl)
  (H:zah P t=some y:=by exact ty rfl)(I:y.desc= .slice e:=by exact rfl)(he:zah P e=some ye:=by exact ty rfl)(E:i=(j:Int):=by first|rfl|exact idx_mul _ _|exact idx_mul1 _ _ _|exact zbx _ _|exact(AT q_o).symm|fail)(hj:j<n:=by first|omega|simp only[A0,AO];omega|simp;omega|fail):OpT P ro N w0 M ds o g L (Det (.pointer (some ⟨b,off+j*ye.size,none⟩)) L):=
 F4 (by rw[q];rfl) λa w X A=>by
  obtain⟨d,K,B,G,m,_⟩:=zX H;rw[I] at m;have:=zbp m;subst this;subst E;have J:(0:Int)<=(j:Int)/\(j:Int)<(n:Int):=q_o;simp[execOp,q,A.agr.eval hx,A.agr.eval hz,Instr.indexAt,run_underlying B,asIntOf,hj,zbV he,Addr.add_mid]
theorem zq{t e b off n c j:Nat}{x z:Operand}{k:IntKind}{i:Int}{y ye:Ty}(q:o.op= .indexAddr t x z:=by exact rfl)(hx:ev g x=some (.slice (some ⟨b,off,none⟩) n c):=by exact rfl)(hz:ev g z=some (.int k i):=by exact rfl)
  (w:zah P t=some y:=by exact ty rfl)(A:y.desc= .slice e:=by exact rfl)(he:zah P e=some ye:=by exact ty rfl)(h1:ye.size=1:=by exact rfl)(m:i=(j:Int):=by first|rfl|exact idx_mul _ _|exact idx_mul1 _ _ _|exact zbx _ _|exact(AT q_o).symm|fail)(hj:j<n:=by first|omega|simp only[A0,AO];omega|simp;omega|fail):OpT P ro N w0 M ds o g L (Det (.pointer (some ⟨b,off+j,none⟩)) L):=by
 have:=zal (P:=P) (ro:=ro) (N:=N) (w0:=w0) (M:=M) (ds:=ds) (L:=L) q hx hz w A he m hj;rw[h1,Al] at this;exact this
theorem zf2{t e b off n j:Nat}{x z:Operand}{k:IntKind}{i:Int}{y ye:Ty}(q:o.op= .indexAddr t x z:=by exact rfl)(hx:ev g x=some (.pointer (some ⟨b,off,none⟩)):=by exact rfl)(hz:ev g z=some (.int k i):=by exact rfl)
  (H:zah P t=some y:=by exact ty rfl)(I:y.desc= .array n e:=by exact rfl)(he:zah P e=some ye:=by exact ty rfl)(E:i=(j:Int):=by first|rfl|exact idx_mul _ _|exact idx_mul1 _ _ _|exact zbx _ _|exact(AT q_o).symm|fail)(hj:j<n:=by first|omega|simp only[A0,AO];omega|simp;omega|fail):OpT P ro N w0 M ds o g L (Det (.pointer (some ⟨b,off+j*ye.size,none⟩)) L):=
 F4 (by rw[q];rfl) λa w X A=>by
  obtain⟨d,J,B,G,m,_⟩:=zX H;rw[I] at m;have:=zdk m;subst this;subst E;simp[execOp,q,A.agr.eval hx,A.agr.eval hz,Instr.indexAt,Instr.sureAddr,run_underlying B,asIntOf,hj,zbV he,Addr.add_mid]
theorem zfc{t e b off n j:Nat}{x z:Operand}{k:IntKind}{i:Int}{y ye:Ty}(q:o.op= .indexAddr t x z:=by exact rfl)(hx:ev g x=some (.pointer (some ⟨b,off,none⟩)):=by exact rfl)(hz:ev g z=some (.int k i):=by exact rfl)
  (w:zah P t=some y:=by exact ty rfl)(A:y.desc= .array n e:=by exact rfl)(he:zah P e=some ye:=by exact ty rfl)(h1:ye.size=1:=by exact rfl)(m:i=(j:Int):=by first|rfl|exact idx_mul _ _|exact idx_mul1 _ _ _|exact zbx _ _|exact(AT q_o).symm|fail)(hj:j<n:=by first|omega|simp only[A0,AO];omega|simp;omega|fail):OpT P ro N w0 M ds o g L (Det (.pointer (some ⟨b,off+j,none⟩)) L):=by
 have:=zf2 (P:=P) (ro:=ro) (N:=N) (w0:=w0) (M:=M) (ds:=ds) (L:=L) q hx hz w A he m hj;rw[h1,Al] at this;exact this
theorem zcV{t e b n c j:Nat}{x z:Operand}{k:IntKind}{i:Int}{y ye:Ty}(q:o.op= .indexAddr t x z:=by exact rfl)(hx:ev g x=some (.slice (some ⟨b,0,none⟩) n c):=by exact rfl)(hz:ev g z=some (.int k i):=by exact rfl)
  (w:zah P t=some y:=by exact ty rfl)(A:y.desc= .slice e:=by exact rfl)(he:zah P e=some ye:=by exact ty rfl)(h1:ye.size=1:=by exact rfl)(m:i=(j:Int):=by first|rfl|exact idx_mul _ _|exact idx_mul1 _ _ _|exact zbx _ _|exact(AT q_o).symm|fail)(hj:j<n:=by first|omega|simp only[A0,AO];omega|simp;omega|fail):OpT P ro N w0 M ds o g L (Det (.pointer (some ⟨b,j,none⟩)) L):=by
 have:=zq (P:=P) (ro:=ro) (N:=N) (w0:=w0) (M:=M) (ds:=ds) (L:=L) q hx hz w A he h1 m hj;rw[Aa] at this;exact this
theorem zeE{t e b n j:Nat}{x z:Operand}{k:IntKind}{i:Int}{y ye:Ty}(q:o.op= .indexAddr t x z:=by exact rfl)(hx:ev g x=some (.pointer (some ⟨b,0,none⟩)):=by exact rfl)(hz:ev g z=some (.int k i):=by exact rfl)
  (w:zah P t=some y:=by exact ty rfl)(A:y.desc= .array n e:=by exact rfl)(he:zah P e=some ye:=by exact ty rfl)(h1:ye.size=1:=by exact rfl)(m:i=(j:Int):=by first|rfl|exact idx_mul _ _|exact idx_mul1 _ _ _|exact zbx _ _|exact(AT q_o).symm|fail)(hj:j<n:=by first|omega|simp only[A0,AO];omega|simp;omega|fail):OpT P ro N w0 M ds o g L (Det (.pointer (some ⟨b,j,none⟩)) L):=by
 have:=zfc (P:=P) (ro:=ro) (N:=N) (w0:=w0) (M:=M) (ds:=ds) (L:=L) q hx hz w A he h1 m hj;rw[Aa] at this;exact this
theorem zkQ{t e n j:Nat}{x z:Operand}{k:IntKind}{i:Int}{y ye:Ty}{C:List Value}{v:Value}(q:o.op= .index t x z:=by exact rfl)(hx:ev g x=some (.agg C.toArray):=by exact rfl)(hz:ev g z=some (.int k i):=by exact rfl)
  (H:zah P t=some y:=by exact ty rfl)(I:y.desc= .array n e:=by exact rfl)(he:zah P e=some ye:=by exact ty rfl)(h1:ye.size=1:=by exact rfl)(hr:ye.desc.isRow=false:=by exact rfl)(E:i=(j:Int):=by first|rfl|exact idx_mul _ _|exact idx_mul1 _ _ _|exact zbx _ _|exact(AT q_o).symm|fail)(hj:j<n:=by first|omega|simp only[A0,AO];omega|simp;omega|fail)(hv:C[j]?=some v:=by first|rfl|assumption):OpT P ro N w0 M ds o g L (Det v L):=
 F4 (by rw[q];rfl) λa w X A=>by
  obtain⟨d,J,B,G,m,_⟩:=zX H;rw[I] at m;have:=zdk m;subst this;subst E;simp[execOp,q,A.agr.eval hx,A.agr.eval hz,Instr.index,run_underlying B,asIntOf,hj,zbV he,h1,part,zi4 he hr,hv]
theorem zR{t j:Nat}{x z:Operand}{k:IntKind}{i:Int}{y:Ty}{s:ByteArray}{u:UInt8}(A:o.op= .index t x z:=by exact rfl)(hx:ev g x=some (.string s):=by exact rfl)(hz:ev g z=some (.int k i):=by exact rfl)
  (I:zah P t=some y:=by exact ty rfl)(J:y.desc= .string:=by exact rfl)(G:i=(j:Int):=by first|rfl|exact idx_mul _ _|exact idx_mul1 _ _ _|exact zbx _ _|exact(AT q_o).symm|fail)(hv:s.data[j]?=some u:=by first|rfl|assumption):OpT P ro N w0 M ds o g L (Det (.int .u8 u.toNat) L):=
 F4 (by rw[A];rfl) λa w X B=>by
  obtain⟨d,K,E,H,m,_⟩:=zX I;rw[J] at m;have:=zf9 m;subst this;subst G;have q:j<s.size:=(Af.1 hv).1;have:s[j]?=some u:=by
   rw[getElem?_pos s j q];congr 1;exact(Af.1 hv).2
  simp[execOp,A,B.agr.eval hx,B.agr.eval hz,Instr.index,run_underlying E,asIntOf,this]
def bnd(g:Nat->Option Value)(x:Option Operand)(d j:Nat):Prop:=match x with
 |none=>j=d
 |some x=>∃(k:IntKind),ev g x=some (.int k (j:Int))
theorem zan{x:Operand}{d j:Nat}{k:IntKind}{i:Int}(h:ev g x=some (.int k i))(m:i=(j:Int)):bnd g (some x) d j:=⟨k,by rw[h,m]⟩
theorem zbN{d:Nat} :bnd g none d d:=rfl
theorem zix{a:Act}(q:Agrees g a){lo B mx:Option Operand}{isS:Bool}{n c l h m:Nat}(j:bnd g lo 0 l)(hh:bnd g B n h)(hm:bnd g mx c m)(h1:l<=h)(h2:h<=m)(H:m<=c)(J:B.isSome=true\/mx=none)(w:World):
  (Instr.sliceBounds isS n c (lo.map a.eval) (B.map a.eval) (mx.map a.eval)).run P w= .ok (l,h,m) w:=by
 have A:∀(k:IntKind) (i y:Nat) (code:BoundsCode),i<=y->(Instr.sliceBound (.int k (i:Int)) y code).run P w= .ok i w:=λk i y code I=>by grind [run_sliceBound]
 unfold Instr.sliceBounds;cases mx with
 |none=>
  have hm:m=c:=hm;subst hm;cases B with
  |none=>
   have hh:h=n:=hh;subst hh;cases lo with
   |none=>have j:l=0:=j;subst j;simp
   |some x=>obtain⟨k,E⟩:=j;simp[q.eval E,A _ _ _ _ h1]
  |some z=>
   obtain⟨k,G⟩:=hh;cases lo with
   |none=>have j:l=0:=j;subst j;simp[q.eval G,A _ _ _ _ h2]
   |some x=>obtain⟨K,E⟩:=j;simp[q.eval E,q.eval G,A _ _ _ _ h1,A _ _ _ _ h2]
 |some u=>
  obtain⟨O,hu⟩:=hm;cases B with
  |none=>simp_all
  |some z=>
   obtain⟨k,G⟩:=hh;cases lo with
   |none=>have j:l=0:=j;subst j;simp[q.eval G,q.eval hu,A _ _ _ _ h2,A _ _ _ _ H]
   |some x=>obtain⟨K,E⟩:=j;simp[q.eval E,q.eval G,q.eval hu,A _ _ _ _ h1,A _ _ _ _ h2,A _ _ _ _ H]
def zbB(a:Option Addr)(l m s:Nat):Option Addr:=if m=l then a else a.map (·.add (l*s))
theorem zmv(a:Option Addr)(m s:Nat):zbB a 0 m s=a:=by simp[zbB,Addr.add]
theorem zjV{b off l m s:Nat}(h:l<m):zbB (some ⟨b,off,none⟩) l m s=some ⟨b,off+l*s,none⟩:=by
 unfold zbB;rw[if_neg q_o];simp[Addr.add_mid]
theorem zvB{t e n c l h m:Nat}{x:Operand}{lo q mx:Option Operand}{a0:Option Addr}{y ye:Ty}(B:o.op= .slice t x lo q mx:=by exact rfl)(hx:ev g x=some (.slice a0 n c):=by exact rfl)(K:zah P t=some y:=by exact ty rfl)(O:y.desc= .slice e:=by exact rfl)(he:zah P e=some ye:=by exact ty rfl)
  (J:bnd g lo 0 l:=by first|exact zbN|exact zan rfl rfl|exact zan rfl (zbx _ _)|exact zan rfl (AT q_o).symm|fail)(hh:bnd g q n h:=by first|exact zbN|exact zan rfl rfl|exact zan rfl (zbx _ _)|exact zan rfl (AT q_o).symm|fail)(hm:bnd g mx c m:=by first|exact zbN|exact zan rfl rfl|exact zan rfl (zbx _ _)|exact zan rfl (AT q_o).symm|fail)(h1:l<=h:=by first|omega|simp only[A0,AO];omega|simp;omega|fail)(h2:h<=m:=by first|omega|simp only[A0,AO];omega|simp;omega|fail)(G:m<=c:=by first|omega|simp only[A0,AO];omega|simp;omega|fail)(A:q.isSome=true\/mx=none:=by first|exact .inl rfl|exact .inr rfl):OpT P ro N w0 M ds o g L (Det (.slice (zbB a0 l m ye.size) (h-l) (m-l)) L):=
 F4 (by rw[B];rfl) λa w X E=>by
  obtain⟨d,S,H,I,j,_⟩:=zX K;rw[O] at j;have:=zbp j;subst this;simp[execOp,B,E.agr.eval hx,Instr.sliceAt,Instr.slice,run_underlying H,zix E.agr J hh hm h1 h2 G A,zbV he,zbB]
theorem zp0{t e n l h m b off:Nat}{x:Operand}{lo q mx:Option Operand}{y ye:Ty}(B:o.op= .slice t x lo q mx:=by exact rfl)(hx:ev g x=some (.pointer (some ⟨b,off,none⟩)):=by exact rfl)(O:zah P t=some y:=by exact ty rfl)(S:y.desc= .array n e:=by exact rfl)(he:zah P e=some ye:=by exact ty rfl)
  (K:bnd g lo 0 l:=by first|exact zbN|exact zan rfl rfl|exact zan rfl (zbx _ _)|exact zan rfl (AT q_o).symm|fail)(hh:bnd g q n h:=by first|exact zbN|exact zan rfl rfl|exact zan rfl (zbx _ _)|exact zan rfl (AT q_o).symm|fail)(hm:bnd g mx n m:=by first|exact zbN|exact zan rfl rfl|exact zan rfl (zbx _ _)|exact zan rfl (AT q_o).symm|fail)(h1:l<=h:=by first|omega|simp only[A0,AO];omega|simp;omega|fail)(h2:h<=m:=by first|omega|simp only[A0,AO];omega|simp;omega|fail)(H:m<=n:=by first|omega|simp only[A0,AO];omega|simp;omega|fail)(A:q.isSome=true\/mx=none:=by first|exact .inl rfl|exact .inr rfl):OpT P ro N w0 M ds o g L (Det (.slice (zbB (some ⟨b,off,none⟩) l m ye.size) (h-l) (m-l)) L):=
 F4 (by rw[B];rfl) λa w X E=>by
  obtain⟨d,T,I,J,j,_⟩:=zX O;rw[S] at j;have:=zdk j;subst this;have G:(some (if m=l then (⟨b,off,none⟩:Addr) else (⟨b,off,none⟩:Addr).add (l*ye.size)))=zbB (some ⟨b,off,none⟩) l m ye.size:=by unfold zbB;split <;> rfl
  simp[execOp,B,E.agr.eval hx,Instr.sliceAt,Instr.sureAddr,run_underlying I,zix E.agr K hh hm h1 h2 H A,zbV he,<-G]
theorem zeA{t l h:Nat}{x:Operand}{lo m:Option Operand}{s:ByteArray}{y:Ty}(q:o.op= .slice t x lo m none:=by exact rfl)(hx:ev g x=some (.string s):=by exact rfl)(H:zah P t=some y:=by exact ty rfl)(I:y.desc= .string:=by exact rfl)
  (G:bnd g lo 0 l:=by first|exact zbN|exact zan rfl rfl|exact zan rfl (zbx _ _)|exact zan rfl (AT q_o).symm|fail)(hh:bnd g m s.size h:=by first|exact zbN|exact zan rfl rfl|exact zan rfl (zbx _ _)|exact zan rfl (AT q_o).symm|fail)(h1:l<=h:=by first|omega|simp only[A0,AO];omega|simp;omega|fail)(h2:h<=s.size:=by first|omega|simp only[A0,AO];omega|simp;omega|fail):OpT P ro N w0 M ds o g L (Det (.string (s.extract l h)) L):=
 F4 (by rw[q];rfl) λa w X A=>by
  obtain⟨d,J,B,E,j,_⟩:=zX H;rw[I] at j;have:=zf9 j;subst this;have:=zix (P:=P) (isS:=false) A.agr G hh (mx:=none) (c:=s.size) zbN h1 h2 (A7 _) (.inr rfl) w;simp only[Option.map_none] at this;simp[execOp,q,A.agr.eval hx,Instr.sliceAt,Instr.slice,run_underlying B,this]
theorem zfk{t e n c:Nat}{x:Operand}{a0:Option Addr}{y:Ty}(m:o.op= .call { callee:=.builtin .len,args:=#[x],argTypes:=#[t] } :=by exact rfl)(hx:ev g x=some (.slice a0 n c):=by exact rfl)(E:zah P t=some y:=by exact ty rfl)(G:y.desc= .slice e:=by exact rfl):OpT P ro N w0 M ds o g L (Det (.int .i64 n) L):=
 F4 (by rw[m];rfl) λa w X B=>by
  obtain⟨d,H,q,A,j,_⟩:=zX E;rw[G] at j;have:=zbp j;subst this;simp[execOp,m,resolve,invoke,builtin,B.agr.eval hx,Builtin.len_,run_underlying q,goInt]
theorem zgi{t:Nat}{x:Operand}{s:ByteArray}{y:Ty}(m:o.op= .call { callee:=.builtin .len,args:=#[x],argTypes:=#[t] } :=by exact rfl)(hx:ev g x=some (.string s):=by exact rfl)(E:zah P t=some y:=by exact ty rfl)(G:y.desc= .string:=by exact rfl):OpT P ro N w0 M ds o g L (Det (.int .i64 s.size) L):=
 F4 (by rw[m];rfl) λa w X B=>by
  obtain⟨d,H,q,A,j,_⟩:=zX E;rw[G] at j;have:=zf9 j;subst this;simp[execOp,m,resolve,invoke,builtin,B.agr.eval hx,Builtin.len_,run_underlying q,goInt]
theorem zas{t:Operand}{k:Nat}{vs:Array Value}{v:Value}(j:o.op= .extract t k:=by exact rfl)(hx:ev g t=some (.tuple vs):=by exact rfl)(hv:vs[k]?=some v:=by exact rfl):OpT P ro N w0 M ds o g L (Det v L):=
 F4 (by rw[j];rfl) λa w X m=>by simp[execOp,j,m.agr.eval hx,Instr.extract,hv]
theorem zab{fn:Fn}{f c:Array Operand}{vs j:List Value}(A:o.op= .makeFunc fn f c:=by exact rfl)(q:evs g f.toList=some vs:=by exact rfl)(hc:evs g c.toList=some j:=by exact rfl):OpT P ro N w0 M ds o g L (Det (.func fn vs.toArray j.toArray) L):=
 F4 (by rw[A];rfl) λa w X m=>by
  have B:f.map a.eval=vs.toArray:=B9.1 (by rw[Bj,m.agr.evals q]);have E:c.map a.eval=j.toArray:=B9.1 (by rw[Bj,m.agr.evals hc])
  simp_all[execOp,Instr.makeFunc]
def Fn(P:Program)(f:FuncId)(args:List Value)(w:World)(M:Nat->Prop)(post:Value->List Res->Prop):Prop:=
 Calls P f args.toArray w λe w'=>∃v R,e= .returned v/\post v R/\Keep M w w'/\Holds w.heap.size M R w'
theorem Fn.mono{f:FuncId}{args:List Value}{w:World}{M':Nat->Prop}{post post':Value->List Res->Prop}(h:Fn P f args w M' post)(hp:∀v R,post v R->post' v R):Fn P f args w M' post':=
 Calls.mono h λ_ _ ⟨v,R,e,q,m,j⟩=>⟨v,R,e,hp v R q,m,j⟩
def OwnOf(C:List Res):Nat->Prop:=λb=>∃r∈C,r.own b
def RemL(L C L1:List Res):Prop:=L.Perm (C++L1)
theorem RemL.nil:RemL L [] L:=Ay _
def F2:=@RemL.nil
theorem RemL.cons{r r':Res}{C L1 j:List Res}(h:Rem L r' L1)(e:r'=r)(h2:RemL L1 C j):RemL L (r::C) j:=by
 subst e;exact h.perm.trans (List.Perm.cons _ h2)
def F0:=@RemL.cons
theorem zeq{fo:Operand}{args:Array Operand}{a6:Array TypeId}{f:Nat}{vs:List Value}{cap:List Value}{C L1:List Res}{M':Nat->Prop}{post:Value->List Res->Prop}
  (ho:o.op= .call { callee:=.value fo,args:=args,argTypes:=a6 } :=by exact rfl)(hf:ev g fo=some (.func (.func f) #[] cap.toArray):=by exact rfl)(ha:evs g args.toList=some vs:=by exact rfl)
  (he:∀args w,(callFunc f args).run P w= .ok (.enter f args) w:=by exact en rfl)(hC:RemL L C L1)(hM:∀b,M' b->OwnOf C b)
  (hc:∀w X,Keep M w0 w->Holds w0.heap.size M (L++X) w->Fn P f (vs++cap) w M' post):OpT P ro N w0 M ds o g L (λv L'=>∃R,L'=R++L1/\post v R):=by
 intro a w X next Q K hn
 refine⟨λ_ _=>trivial,?_⟩;rw[Oper.semAt_plain (FW ro) _ _ (λc hc=>by rw[ho] at hc;cases hc)];have B:args.map a.eval=vs.toArray:=B9.1 (by rw[Bj,K.agr.evals ha]);have O:(execOp a.eval o).run P w= .ok (.enter f (vs++cap).toArray) w:=by
  simp only[execOp,ho,resolve,K.agr.eval hf,Deferred.ofValue,B,Sem.run_bind,Sem.run_pure,Result.andThen_ok,invoke];rw[show(#[]++vs.toArray++cap.toArray:Array Value)=(vs++cap).toArray by simp];exact he _ w
 rw[O];refine⟨λh=>(by cases h),?_⟩;have G:=hc w X K.keep K.hold;have Y:CallsIn (FW ro) (0-1) P f (vs++cap).toArray w (λe S=>∃v R,e= .returned v/\post v R/\Keep M' w S/\Holds w.heap.size M' R S):=(callsIn_wide (n:=0-1)).2 G;refine CallsIn.mono Y ?_;rintro e S ⟨v,R,rfl,hp,hk,T⟩;have H:(L++X).Perm (C++(L1++X)):=by rw[<-AI];exact Ak X hC
 have hold:=K.hold.perm H;have m:Holds w0.heap.size M (L1++X) w:=hold.sublist (CX C (L1++X));have j:∀b,M' b->w0.heap.size<=b\/M b:=λb q=>by
  obtain⟨r,A,J⟩:=hM b q;exact hold.mine r (AH _ A) b J
 have W:∀r∈L1++X,∀b,r.own b->¬M' b:=λr A b q E=>by
  obtain⟨r',I,J⟩:=hM b E;exact(Bo.1 hold.apart).2.2 r' I r A b J q
 have Z:Keep M w0 S:=K.keep.trans hk (λb q=>j b q);refine hn v S (R++L1) ⟨R,rfl,hp⟩ Z ?_;have V:=m.keep hk W;rw[AI];refine⟨λr A=>?_,?_,λr A b q=>?_⟩
 ·rcases Ap.1 A with h|h
  ·exact T.all r h
  ·exact V.all r h
 ·refine Bo.2 ⟨T.apart,V.apart,λr A r' I b q E=>?_⟩;rcases T.mine r A b q with h|h
  ·have:=FD (m.all r' I) E;omega
  grind
 ·rcases Ap.1 A with h|h
  ·rcases T.mine r h b q with U|U
   ·exact .inl (BE K.keep.size U)
   ·exact j b U
  ·exact V.mine r h b q
theorem zi{m:Operand}{args:Array Operand}{j:Array TypeId}{f:Nat}{vs:List Value}{cap:List Value}{post:Value->List Res->Prop}
  (B:o.op= .call { callee:=.value m,args:=args,argTypes:=j } :=by exact rfl)(A:ev g m=some (.func (.func f) #[] cap.toArray):=by exact rfl)(ha:evs g args.toList=some vs:=by exact rfl)
  (he:∀args w,(callFunc f args).run P w= .ok (.enter f args) w:=by exact en rfl)
  (hc:∀w X,Keep M w0 w->Holds w0.heap.size M (L++X) w->Fn P f (vs++cap) w No post):OpT P ro N w0 M ds o g L (λv q=>∃R,q=R++L/\post v R):=
 zeq B A ha he F2 (λ_ h=>h.elim) hc
def ziD(v:Value):Value->List Res->Prop:=λv' R=>v'=v/\R= []
theorem za{m:Operand}{args:Array Operand}{j:Array TypeId}{f:Nat}{vs:List Value}{cap:List Value}{v:Value}
  (B:o.op= .call { callee:=.value m,args:=args,argTypes:=j } :=by exact rfl)(A:ev g m=some (.func (.func f) #[] cap.toArray):=by exact rfl)(ha:evs g args.toList=some vs:=by exact rfl)
  (he:∀args w,(callFunc f args).run P w= .ok (.enter f args) w:=by exact en rfl)
  (hc:∀w X,Keep M w0 w->Holds w0.heap.size M (L++X) w->Fn P f (vs++cap) w No (ziD v)):OpT P ro N w0 M ds o g L (Det v L):=
 (zi B A ha he hc).mono λH G ⟨R,e,E,q⟩=>by subst E;subst q;exact⟨rfl,e⟩
def FnR(w:World)(M:Nat->Prop)(post:Value->List Res->Prop)(e:Ending)(w':World):Prop:=∃v R,e= .returned v/\post v R/\Keep M w w'/\Holds w.heap.size M R w'
def zd6:Nat->List Value->Fr
 |_,[]=>[]
 |i,v::l=>(i,v)::zd6 (i+1) l
theorem zhg:∀(l:List Value) (i t:Nat) (v:Value),get (zd6 i l) t=some v->i<=t/\l[t-i]?=some v
 | [],i,t,v,h=>by cases h
 |x::l,i,t,v,h=>by
  simp only[zd6,get] at h;cases hb:Nat.beq i t with
  |true=>simp_all
  |false=>
   rw[hb] at h;have:=zhg l (i+1) t v h
   grind
theorem zaX{f:Nat}{fn:Func}{c:Code}{args:List Value}{w:World}{M':Nat->Prop}{post:Value->List Res->Prop}{L0:List Res}(j:P.funcs[f]?=some fn)(hb:fn.body=some c)(hn:fn.ntmps=N)(m:args.length<=N)
  (hL:Holds w.heap.size M' L0 w)(h:Sy P none N w M' [] c (bodyPostM Fence.wide 0 P fn (FnR w M' post)) (zd6 0 args) L0):Fn P f args w M' post:=by
 refine(callsIn_wide (n:=0)).1 (callsIn_of_wp_marks j hb trivial ?_ rfl);refine h _ w ⟨[],rfl,by simp;omega,λt v q=>?_,Fl _ _,by simpa using hL⟩;have:=zhg args 0 t v q
 grind
def zjH(tmps:Array Value)(r:ResultVar):Sem Value:=match r with
 | .tmp t=>pure (tmps.getD t undef)
 | .cell p t=>do loadVar t (<-asAddr (tmps.getD p undef))
theorem zfR(fn:Func)(tmps:Array Value):results fn tmps=(do
  let j <-fn.results.mapM (zjH tmps)
  pure (if h:j.size=1 then j[0] else .tuple j)):=rfl
def zdx(P:Program)(N:Nat)(w0:World)(M:Nat->Prop)(ds:List Deferred)(fr:Fr)(L:List Res)(r:ResultVar)(v:Value):Prop:=
 ∀a w,St N w0 M ds (get fr) L a w->(zjH a.tmps r).run P w= .ok v w
variable {fr:Fr}
theorem zh{t:Nat}{v:Value}(h:get fr t=some v):zdx P N w0 M ds fr L (.tmp t) v:=λa w j=>by
 have:=j.agr t v h
 simp_all[zjH]
theorem zdD{p t b T:Nat}{v:Value}{C:List Value}{off:Nat}{y:Ty}(hp:get fr p=some (.pointer (some ⟨b,off,none⟩)))(q:zah P t=some y)(hr:y.desc.isRow=false)(hL:Has L (.blk b T C))(hv:C[off]?=some v):zdx P N w0 M ds fr L (.cell p t) v:=λa w j=>by
 have A:=j.agr p _ hp;have m:=j.hold.has hL;have:=zgK q hr w ⟨b,off,none⟩ ((zfI m off).trans hv);simp only[Instr.loadAt,Instr.sureAddr,Sem.run_bind,Sem.run_pure,Result.andThen_ok] at this
 simp_all[zjH,asAddr]
theorem zE{p t b T:Nat}{C B:List Value}{off:Nat}{y:Ty}(hp:get fr p=some (.pointer (some ⟨b,off,none⟩)))(q:zah P t=some y)(hr:y.desc.isRow=true)(hL:Has L (.blk b T C))(hv:Seg C off B)(hz:y.size=B.length):zdx P N w0 M ds fr L (.cell p t) (.agg B.toArray):=λa w j=>by
 have A:=j.agr p _ hp;have m:=j.hold.has hL;have:=zgo q hr hz (zp m hv);simp only[Instr.loadAt,Instr.sureAddr,Sem.run_bind,Sem.run_pure,Result.andThen_ok] at this
 simp_all[zjH,asAddr]
theorem Keep.putObj{w:World}{b:Nat}{o:Obj} :Keep (· =b) w (w.putObj b o):=⟨rfl,rfl,rfl,by simp,λ_ _ j=>World.putObj_heap_other j⟩
def FE:=@Keep.putObj
theorem zjB{fn:Func}{g:Nat->Option Value}{R:Ending->World->Prop} :∀(m:List Nat) (a:Act) (w:World),St N w0 M [] g (L++m.map dob) a w->
  (∀q,St N w0 M [] g L a q->∃v,(results fn a.tmps).run P q= .ok v q/\R (.returned v) q)->LeavesInM Fence.wide 0 P fn a.tmps R (m.map col) .returning w
 | [],a,w,hs,h=>h w (by simpa using hs)
 |D::m,a,w,hs,h=>by
  have j:=hs.perm (L':=dob D::(L++m.map dob)) (by simpa using List.perm_middle);have B:w.heap[D]?=some (.deferred (some [])):=j.hold.all _ A3;refine⟨by simp,.inl ⟨D,_,rfl,run_takeDeferred B,zjB m a _ ⟨j.size,j.agr,?_,?_⟩ h⟩⟩
  ·exact j.keep.trans FE (λx H=>by subst H;exact j.hold.mine _ A3 x rfl)
  ·exact j.hold.tail.keep FE (λr G b E A=>by subst A;exact(Ah.1 j.hold.apart).1 r G b rfl E)
theorem zjq{fn:Func}{post:Value->List Res->Prop}{v:Value}{R:List Res}(m:∀a w,St N w0 M [] (get fr) L a w->(results fn a.tmps).run P w= .ok v w)(B:SubR R L)(hp:post v R)(e:Exit)(he:e= .ret\/e= .normal):
  SyX N w0 M [] (bodyPostM Fence.wide 0 P fn (FnR w0 M post) e) fr L:=by
 rintro a w ⟨A,q,E⟩;rw[AJ] at q;have key:LeavesInM Fence.wide 0 P fn a.tmps (FnR w0 M post) a.defers .returning w:=by
  rw[q];exact zjB A a w E λG j=>⟨v,m a G j,v,R,rfl,hp,j.keep,j.hold.subR B⟩
 rcases he with rfl|rfl
 ·exact key
 ·exact key
theorem results0{fn:Func}(h:fn.results= #[])(a:Act)(w:World):(results fn a.tmps).run P w= .ok (.tuple #[]) w:=by simp[results,h]
theorem results1{fn:Func}{r:ResultVar}{v:Value}(h:fn.results= #[r])(h1:zdx P N w0 M ds fr L r v)(a:Act)(w:World)(m:St N w0 M ds (get fr) L a w):(results fn a.tmps).run P w= .ok v w:=by
 have j:=h1 a w m;rw[zfR,h];simp[j]
theorem results2{fn:Func}{m q:ResultVar}{A B:Value}(h:fn.results= #[m,q])(h1:zdx P N w0 M ds fr L m A)(h2:zdx P N w0 M ds fr L q B)(a:Act)(w:World)(j:St N w0 M ds (get fr) L a w):(results fn a.tmps).run P w= .ok (.tuple #[A,B]) w:=by
 have E:=h1 a w j;have G:=h2 a w j;rw[zfR,h];simp[E,G]
theorem results3{fn:Func}{m q A:ResultVar}{B E v3:Value}(h:fn.results= #[m,q,A])(h1:zdx P N w0 M ds fr L m B)(h2:zdx P N w0 M ds fr L q E)(G:zdx P N w0 M ds fr L A v3)(a:Act)(w:World)(j:St N w0 M ds (get fr) L a w):(results fn a.tmps).run P w= .ok (.tuple #[B,E,v3]) w:=by
 have H:=h1 a w j;have I:=h2 a w j;have J:=G a w j
 simp_all[zfR]
variable {post:Value->List Res->Prop}{R:List Res}{fn:Func}
theorem zmr(h:fn.results= #[])(j:SubR R L)(hp:post (.tuple #[]) R):SyX N w0 M [] (bodyPostM Fence.wide 0 P fn (FnR w0 M post) .ret) fr L:=zjq (λa w _=>results0 h a w) j hp _ (.inl rfl)
theorem zft(h:fn.results= #[])(j:SubR R L)(hp:post (.tuple #[]) R):SyX N w0 M [] (bodyPostM Fence.wide 0 P fn (FnR w0 M post) .normal) fr L:=zjq (λa w _=>results0 h a w) j hp _ (.inr rfl)
theorem zar{r:ResultVar}{v:Value}(h:fn.results= #[r])(h1:zdx P N w0 M [] fr L r v)(j:SubR R L)(hp:post v R):SyX N w0 M [] (bodyPostM Fence.wide 0 P fn (FnR w0 M post) .ret) fr L:=zjq (results1 h h1) j hp _ (.inl rfl)
theorem zU{j m:ResultVar}{q w:Value}(h:fn.results= #[j,m])(h1:zdx P N w0 M [] fr L j q)(h2:zdx P N w0 M [] fr L m w)(A:SubR R L)(hp:post (.tuple #[q,w]) R):SyX N w0 M [] (bodyPostM Fence.wide 0 P fn (FnR w0 M post) .ret) fr L:=zjq (results2 h h1 h2) A hp _ (.inl rfl)
theorem zdd{j m q:ResultVar}{w A v3:Value}(h:fn.results= #[j,m,q])(h1:zdx P N w0 M [] fr L j w)(h2:zdx P N w0 M [] fr L m A)(B:zdx P N w0 M [] fr L q v3)(E:SubR R L)(hp:post (.tuple #[w,A,v3]) R):SyX N w0 M [] (bodyPostM Fence.wide 0 P fn (FnR w0 M post) .ret) fr L:=zjq (results3 h h1 h2 B) E hp _ (.inl rfl)
theorem s_t{A B:Prop}(k:B)(f:B->A:=by intro h;(first|refine zdf ?_|refine zap ?_|refine zjY rfl ?_|refine zjO rfl ?_|refine zeJ ?_|refine ze7 ?_|refine zlu ?_|refine zhM ?_|refine zie ?_|refine zao ?_|refine zh3 ?_|refine zfp ?_|refine zeF ?_|refine zgZ ?_|refine zgu ?_|refine zez ?_|refine zf8 rfl ?_);(repeat (first|refine zdf ?_|refine zap ?_|refine zjY rfl ?_|refine zjO rfl ?_|refine zeJ ?_|refine ze7 ?_|refine zlu ?_|refine zhM ?_|refine zie ?_|refine zao ?_|refine zh3 ?_|refine zfp ?_|refine zeF ?_|refine zgZ ?_|refine zgu ?_|refine zez ?_|refine zf8 rfl ?_));exact h):A:=f k
theorem s_0{A B:Prop}(k:B)(f:B->A:=by intro h;(first|refine zdf ?_|refine zap ?_|refine zjY rfl ?_|refine zjO rfl ?_|refine ze7 ?_|refine zlu ?_|refine zhM ?_|refine zie ?_|refine zao ?_|refine zh3 ?_|refine zfp ?_|refine zeF ?_|refine zgZ ?_|refine zgu ?_|refine zez ?_|refine zf8 rfl ?_);(repeat (first|refine zdf ?_|refine zap ?_|refine zjY rfl ?_|refine zjO rfl ?_|refine ze7 ?_|refine zlu ?_|refine zhM ?_|refine zie ?_|refine zao ?_|refine zh3 ?_|refine zfp ?_|refine zeF ?_|refine zgZ ?_|refine zgu ?_|refine zez ?_|refine zf8 rfl ?_));exact h):A:=f k
theorem zt{P:Program}{N f:Nat}{fn:Func}{c:Code}{args:List Value}{w:World}{M:Nat->Prop}{post:Value->List Res->Prop}(j:P.funcs[f]?=some fn)(hn:fn.ntmps=N)(h:Sy P none N w M [] c (bodyPostM Fence.wide 0 P fn (FnR w M post)) (zd6 0 args) [])(hb:fn.body=some c:=by exact rfl)(hz:args.length<=N:=by simp):Fn P f args w M post:=zaX j hb hn hz FU h
end Go.Sy
