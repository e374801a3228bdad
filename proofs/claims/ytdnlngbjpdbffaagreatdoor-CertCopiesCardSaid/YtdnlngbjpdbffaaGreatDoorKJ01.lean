/- Lemmas of this proof. -/
import Derived.Test.YtdnlngbjpdbffaaGreatDoorKJ00
import Derived.WalkKit
import Derived.OwnWalkIn
import Derived.TacticsInMore
import Derived.OrdersIn
import Derived.Deep.MidRow
import Derived.Great.BuildSlice
import Derived.Laws.Tables
import Derived.Shelf.Abstract
import Derived.RangeFuncLeaves
import Derived.RangeFuncNested
set_option linter.all false
namespace Go.Sy
section
open Go Go.RowKit
abbrev Fr:=List (Nat×Value)
def get:Fr->Nat->Option Value
 | [],_=>none
 |(t,v)::r,s=>bif Nat.beq t s then some v else get r s
def ev(g:Nat->Option Value):Operand->Option Value
 | .tmp t=>g t
 | .const v=>some v
 | .global b=>some (.pointer (some ⟨b,0,none⟩))
 | .func f=>some (.func (.func f) #[] #[])
def evs(g:Nat->Option Value):List Operand->Option (List Value)
 | []=>some []
 |x::l=>match ev g x,evs g l with
  |some v,some vs=>some (v::vs)
  |_,_=>none
def Agrees(g:Nat->Option Value)(a:Act):Prop:=∀t v,g t=some v->a.tmps[t]?=some v
theorem Agrees.eval{g:Nat->Option Value}{a:Act}(h:Agrees g a){x:Operand}{v:Value}(he:ev g x=some v):a.eval x=v:=by
 cases x with
 |tmp t=>
  have:=h t v he;simp only[Act.eval,Ab,this,CH]
 |const c=>simpa [ev,Act.eval] using he
 |global b=>simpa [ev,Act.eval] using he
 |func f=>simpa [ev,Act.eval] using he
theorem Agrees.evals{g:Nat->Option Value}{a:Act}(h:Agrees g a):∀ {l:List Operand}{j:List Value},evs g l=some j->l.map a.eval=j
 | [],j,he=>by simpa [evs] using he
 |x::l,j,he=>by
  simp only[evs] at he;split at he
  ·rename_i v w m q;cases he;rw[Ay,h.eval m,h.evals q]
  ·cases he
theorem Agrees.put{fr:Fr}{a:Act}(h:Agrees (get fr) a){d:Nat}(m:d<a.tmps.size)(v:Value):Agrees (get ((d,v)::fr)) (a.put (some d) v):=by
 intro t u hu;simp only[get] at hu;simp only[Act.put];cases hb:Nat.beq d t with
 |true=>
  have j:d=t:=BT hb;rw[hb] at hu;simp at hu;subst j;subst hu;simp[m]
 |false=>
  have j:d≠t:=Bw hb;rw[hb] at hu;simp at hu;rw[BY j];exact h t u hu
theorem Agrees.sub{g j:Nat->Option Value}{a:Act}(h:Agrees g a)(m:∀t v,j t=some v->g t=some v):Agrees j a:=λt v q=>h t v (m t v q)
def Sub(fr' fr:Fr):Prop:=∀t v,get fr' t=some v->get fr t=some v
theorem Sub.nil{fr:Fr} :Sub [] fr:=λ_ _ h=>by simp[get] at h
def FQ:=@Sub.nil
theorem Sub.cons{fr fr':Fr}{t:Nat}{v j:Value}(h:get fr t=some j)(e:j=v)(m:Sub fr' fr):Sub ((t,v)::fr') fr:=λs u hu=>by
 subst e;simp only[get] at hu;cases hb:Nat.beq t s with
 |true=>rw[hb] at hu;simp at hu;subst hu;rw[<-BT hb];exact h
 |false=>rw[hb] at hu;simp at hu;exact m s u hu
def FX:=@Sub.cons
theorem Sub.refl{fr:Fr} :Sub fr fr:=λ_ _ h=>h
theorem Sub.go{a b:Fr}(h:Sub a b:=by repeat' (first|exact Sub.nil|refine Sub.cons rfl ?_ ?_|rfl)):Sub a b:=h
inductive Res where
 |blk (b T:Nat) (C:List Value)
 |row (v:Value) (E size n:Nat) (xs:List Value)
 |obj (b:Nat) (o:Obj)
 |abs (O:Nat->Prop) (H:World->Prop)
def FD:=@Res.blk
def Res.own:Res->Nat->Prop
 | .blk b _ _=>λx=>b=x
 | .row v _ _ _ _=>λx=>v.ownBlock=some x
 | .obj b _=>λx=>b=x
 | .abs O _=>O
def Res.holds(w:World):Res->Prop
 | .blk b T C=>w.heap[b]?=some (.cells C.toArray T (0,0))
 | .row v E s n xs=>w.ownsRow 0 E s v n xs
 | .obj b o=>w.heap[b]?=some o
 | .abs O H=>(∀b,O b->b<w.heap.size)/\∀w':World,(∀b,O b->w'.heap[b]?=w.heap[b]?)->H w'
theorem Res.own_lt{w:World}{r:Res}(h:r.holds w){b:Nat}(hb:r.own b):b<w.heap.size:=by
 match r,h,hb with
 | .blk b' T C,h,hb=>have hb:b'=b:=hb;subst hb;exact(Aa.1 h).1
 | .obj b' o,h,hb=>have hb:b'=b:=hb;subst hb;exact(Aa.1 h).1
 | .row v E s n xs,h,hb=>exact(World.ownsRow.lt h b hb).2
 | .abs O H,h,hb=>exact h.1 b hb
def FN:=@Res.own_lt
theorem zpR{w w':World}{b:Nat}(h:b<w.heap.size)(e:w'.heap[b]?=w.heap[b]?):b<w'.heap.size:=by
 rw[Au h] at e;exact(Aa.1 e).1
theorem Res.holds_congr{w w':World}{r:Res}(h:r.holds w)(hb:∀b,r.own b->w'.heap[b]?=w.heap[b]?):r.holds w':=by
 match r,h,hb with
 | .blk b T C,h,hb=>exact(hb b rfl).trans h
 | .obj b o,h,hb=>exact(hb b rfl).trans h
 | .abs O H,h,hb=>exact⟨λb j=>zpR (h.1 b j) (hb b j),λA q=>h.2 A λb j=>(q b j).trans (hb b j)⟩
 | .row v E s n xs,h,hb=>
  obtain⟨B,G|⟨g,cap,m,rfl,I,J,K⟩⟩:=h
  ·exact⟨B,.inl G⟩
  ·exact⟨B,.inr ⟨g,cap,m,rfl,I,(hb g rfl).trans J,K⟩⟩
def GZ:=@Res.holds_congr
def Apart(r r':Res):Prop:=∀b,r.own b->¬r'.own b
theorem Apart.symm{r m:Res}(h:Apart r m):Apart m r:=λb q j=>h b j q
structure Keep(M:Nat->Prop)(w0 w:World):Prop where
 os:w.os=w0.os
 tape:w.tape=w0.tape
 output:w.output=w0.output
 size:w0.heap.size<=w.heap.size
 block:∀k,k<w0.heap.size->¬M k->w.heap[k]?=w0.heap[k]?
abbrev No:Nat->Prop:=λ_=>False
theorem Keep.refl(M:Nat->Prop)(w:World):Keep M w w:=⟨rfl,rfl,rfl,A4 _,λ_ _ _=>rfl⟩
def G8:=@Keep.refl
theorem Keep.trans{M M':Nat->Prop}{a b c:World}(h:Keep M a b)(k:Keep M' b c)(hm:∀x,M' x->a.heap.size<=x\/M x):Keep M a c:=
 ⟨k.os.trans h.os,k.tape.trans h.tape,k.output.trans h.output,BG h.size k.size,λx m q=>
  (k.block x (AG m h.size) (λj=>(hm x j).elim (λh=>absurd m (Nat.not_lt.2 h)) q)).trans (h.block x m q)⟩
theorem Keep.mono{M M':Nat->Prop}{a b:World}(h:Keep M a b)(hm:∀x,M x->M' x):Keep M' a b:=
 ⟨h.os,h.tape,h.output,h.size,λx m j=>h.block x m (λh=>j (hm x h))⟩
theorem Keep.below{w w':World}(h:Keep No w w'):Below w.heap.size w w':=⟨h.os,h.tape,h.output,h.size,λk j=>h.block k j (λh=>h)⟩
theorem Keep.of_below{M:Nat->Prop}{w w':World}(h:Below w.heap.size w w'):Keep M w w':=⟨h.os,h.tape,h.output,h.size,λk j _=>h.block k j⟩
theorem Keep.alloc(M:Nat->Prop)(w:World)(o:Obj):Keep M w (w.alloc o):=
 ⟨rfl,rfl,rfl,by simp,λk j _=>Below.heap_alloc w o k j⟩
def Fe:=@Keep.alloc
theorem Keep.setCell(w:World)(a:Addr)(v:Value):Keep (· =a.block) w (w.setCell a v):=
 ⟨rfl,rfl,rfl,by simp,λk _ j=>Below.heap_setCell w a v k j⟩
def Fq:=@Keep.setCell
theorem Keep.grown{w w':World}{row:Option Nat}(h:w.grownBy w' row):Keep (λk=>row=some k) w w':=
 ⟨h.os,h.tape,h.output,h.size,λk j m=>h.block k j (λe=>m e.symm)⟩
theorem Keep.cell{M:Nat->Prop}{w w':World}(h:Keep M w w'){a:Addr}{v:Value}(hv:w.cell? a=some v)(hn:¬M a.block):w'.cell? a=some v:=by
 have j:=World.block_lt_of_cell? w a hv;rw[World.cell?_of_block (w:=w) (h.block _ j hn)];exact hv
structure Holds(B:Nat)(M:Nat->Prop)(L:List Res)(w:World):Prop where
 all:∀r∈L,r.holds w
 apart:L.Pairwise Apart
 mine:∀r∈L,∀b,r.own b->B<=b\/M b
theorem Holds.nil{B:Nat}{M:Nat->Prop}{w:World} :Holds B M [] w:=⟨λ_ h=>(Bm h).elim,List.Pairwise.nil,λ_ h=>(Bm h).elim⟩
theorem Holds.tail{B:Nat}{M:Nat->Prop}{r:Res}{L:List Res}{w:World}(h:Holds B M (r::L) w):Holds B M L w:=
 ⟨λx j=>h.all x (A9 _ j),(Am.1 h.apart).2,λx j=>h.mine x (A9 _ j)⟩
theorem Holds.cons{B:Nat}{M:Nat->Prop}{r:Res}{L:List Res}{w:World}(h:Holds B M L w)(hr:r.holds w)(ha:∀x∈L,Apart r x)(hm:∀b,r.own b->B<=b\/M b):Holds B M (r::L) w:=
 ⟨λx j=>by
  rcases Ag.1 j with rfl|j
  ·exact hr
  ·exact h.all x j,Am.2 ⟨ha,h.apart⟩,λx j=>by
  rcases Ag.1 j with rfl|j
  ·exact hm
  ·exact h.mine x j⟩
theorem Holds.keep{B:Nat}{M M':Nat->Prop}{L:List Res}{w w':World}(h:Holds B M L w)(hk:Keep M' w w')(hn:∀r∈L,∀b,r.own b->¬M' b):Holds B M L w':=
 ⟨λr j=>GZ (h.all r j) (λb m=>hk.block b (FN (h.all r j) m) (hn r j b m)),h.apart,h.mine⟩
theorem Holds.perm{B:Nat}{M:Nat->Prop}{L L':List Res}{w:World}(h:Holds B M L w)(j:L.Perm L'):Holds B M L' w:=
 ⟨λr m=>h.all r (j.mem_iff.2 m),(j.pairwise_iff (λh=>Apart.symm h)).1 h.apart,λr m=>h.mine r (j.mem_iff.2 m)⟩
theorem Holds.sublist{B:Nat}{M:Nat->Prop}{L L':List Res}{w:World}(h:Holds B M L w)(j:L'.Sublist L):Holds B M L' w:=
 ⟨λr m=>h.all r (j.subset m),h.apart.sublist j,λr m=>h.mine r (j.subset m)⟩
theorem Holds.new{B:Nat}{M:Nat->Prop}{L:List Res}{w:World}(h:Holds B M L w)(q:B<=w.heap.size)(T:Nat)(C:List Value):
  Holds B M (.blk w.heap.size T C::L) (w.alloc (.cells C.toArray T)):=by
 refine(h.keep (Fe No w _) (λ_ _ _ _ h=>h)).cons ?_ ?_ ?_
 ·show(w.heap.push _)[w.heap.size]?=_;simp
 ·intro x A b j m;cases j;have:=FN (h.all x A) m;omega
 ·intro b j;cases j;exact .inl q
def Has(L:List Res)(r:Res):Prop:=r∈L
theorem Has.here{r:Res}{L:List Res} :Has (r::L) r:=A5
def F6:=@Has.here
theorem Has.there{r x:Res}{L:List Res}(h:Has L r):Has (x::L) r:=A9 _ h
def FB:=@Has.there
theorem Has.go{L:List Res}{r:Res}(h:Has L r:=by repeat (first|exact F6|apply FB)):Has L r:=h
def F4:=@Has.go
theorem Has.mem{L:List Res}{r:Res}(h:Has L r):r∈L:=h
theorem Has.append{L X:List Res}{r:Res}(h:Has L r):Has (L++X) r:=AX _ h
def F5:=@Has.append
def Upd(L:List Res)(r r':Res)(L':List Res):Prop:=∃A B,L=A++r::B/\L'=A++r'::B
theorem Upd.here{r j:Res}{L:List Res} :Upd (r::L) r j (j::L):=⟨[],L,rfl,rfl⟩
def FU:=@Upd.here
theorem Upd.there{r j x:Res}{L L':List Res}(h:Upd L r j L'):Upd (x::L) r j (x::L'):=
 let ⟨A,B,e,m⟩:=h;⟨x::A,B,by rw[e];rfl,by rw[m];rfl⟩
def FY:=@Upd.there
theorem Upd.append{L L' X:List Res}{r j:Res}(h:Upd L r j L'):Upd (L++X) r j (L'++X):=
 let ⟨A,B,e,m⟩:=h;⟨A,B++X,by rw[e];simp,by rw[m];simp⟩
def Rem(L:List Res)(r:Res)(L':List Res):Prop:=∃A B,L=A++r::B/\L'=A++B
theorem Rem.here{r:Res}{L:List Res} :Rem (r::L) r L:=⟨[],L,rfl,rfl⟩
def F1:=@Rem.here
theorem Rem.there{r x:Res}{L L':List Res}(h:Rem L r L'):Rem (x::L) r (x::L'):=
 let ⟨A,B,e,j⟩:=h;⟨x::A,B,by rw[e];rfl,by rw[j];rfl⟩
def F3:=@Rem.there
theorem Rem.append{L L' X:List Res}{r:Res}(h:Rem L r L'):Rem (L++X) r (L'++X):=
 let ⟨A,B,e,j⟩:=h;⟨A,B++X,by rw[e];simp,by rw[j];simp⟩
theorem Rem.perm{L L':List Res}{r:Res}(h:Rem L r L'):L.Perm (r::L'):=by
 obtain⟨A,B,e,j⟩:=h;rw[e,j];exact CY
theorem Upd.rem{L L':List Res}{r m:Res}(h:Upd L r m L'):∃j,L.Perm (r::j)/\L'.Perm (m::j):=by
 obtain⟨A,B,e,q⟩:=h;exact⟨A++B,by rw[e];exact CY,by rw[q];exact CY⟩
def SubR(R L:List Res):Prop:=∃X,L.Perm (R++X)
theorem SubR.nil{L:List Res} :SubR [] L:=⟨L,CA _⟩
def F2:=@SubR.nil
theorem SubR.pick{r j:Res}{R L L':List Res}(h:Rem L j L')(e:j=r)(q:SubR R L'):SubR (r::R) L:=by
 obtain⟨X,m⟩:=q;subst e;exact⟨X,h.perm.trans (List.Perm.cons _ m)⟩
def FA:=@SubR.pick
theorem SubR.blk{b T:Nat}{C C':List Value}{R L L':List Res}(h:Rem L (.blk b T C') L')(e:C'=C)(j:SubR R L'):SubR (.blk b T C::R) L:=by
 subst e;exact FA h rfl j
def FC:=@SubR.blk
theorem SubR.refl{L:List Res} :SubR L L:=⟨[],by simp⟩
def F8:=@SubR.refl
theorem SubR.perm{R L:List Res}(h:SubR R L):∃X,L.Perm (R++X):=h
theorem Holds.has{B:Nat}{M:Nat->Prop}{L:List Res}{w:World}(h:Holds B M L w){r:Res}(hr:Has L r):r.holds w:=h.all r hr.mem
theorem Holds.subR{B:Nat}{M:Nat->Prop}{L R:List Res}{w:World}(h:Holds B M L w)(m:SubR R L):Holds B M R w:=by
 obtain⟨X,j⟩:=m.perm;exact(h.perm j).sublist (Cl R X)
theorem Holds.upd{B:Nat}{M:Nat->Prop}{L L':List Res}{r E:Res}{w w':World}(h:Holds B M L w)(hu:Upd L r E L')(G:∀b,E.own b->r.own b\/(w.heap.size<=b/\B<=b))(hr:E.holds w')(hk:Keep (λk=>r.own k) w w'):Holds B M L' w':=by
 obtain⟨I,J,K⟩:=hu.rem;have q:=h.perm J;have H:=q.tail;refine Holds.perm (L:=E::I) ?_ K.symm;refine(H.keep hk (λx A b j m=>?_)).cons hr (λx A b j=>?_) (λb j=>?_)
 ·exact(Am.1 q.apart).1 x A b m j
 ·rcases G b j with j|⟨j,_⟩
  ·exact(Am.1 q.apart).1 x A b j
  ·intro m;have:=FN (H.all x A) m;omega
 ·rcases G b j with j|⟨_,j⟩
  ·exact q.mine r A5 b j
  ·exact .inl j
structure St(N:Nat)(w0:World)(M:Nat->Prop)(ds:List Deferred)(g:Nat->Option Value)(L:List Res)(a:Act)(w:World):Prop where
 size:a.tmps.size=N
 agr:Agrees g a
 keep:Keep M w0 w
 hold:Holds w0.heap.size M L w
def FW(ro:Option Nat):Fence:={ Fence.wide with round:=ro }
theorem zxu:FW none=Fence.wide:=rfl
theorem zxt(l:Nat):FW (some l)=Fence.wide.inRound l:=rfl
variable {P:Program}{ro:Option Nat}{N:Nat}{w0:World}{M:Nat->Prop}{ds:List Deferred}
theorem St.weaken{g j:Nat->Option Value}{L L':List Res}{a:Act}{w:World}(h:St N w0 M ds g L a w)(m:∀t v,j t=some v->g t=some v)(hL:SubR L' L):St N w0 M ds j L' a w:=
 ⟨h.size,h.agr.sub m,h.keep,h.hold.subR hL⟩
theorem St.perm{g:Nat->Option Value}{L L':List Res}{a:Act}{w:World}(h:St N w0 M ds g L a w)(hL:L.Perm L'):St N w0 M ds g L' a w:=
 ⟨h.size,h.agr,h.keep,h.hold.perm hL⟩
def col(D:Nat):Deferred:={ target:=.collected D,args:=#[] }
def dob(D:Nat):Res:=.obj D (.deferred (some []))
def StD(N:Nat)(w0:World)(M:Nat->Prop)(ds:List Deferred)(g:Nat->Option Value)(L:List Res)(a:Act)(w:World):Prop:=
 ∃Ds:List Nat,a.defers=Ds.map col++ds/\St N w0 M ds g (L++Ds.map dob) a w
theorem SubR.append{R L X:List Res}(h:SubR R L):SubR (R++X) (L++X):=by
 obtain⟨Y,j⟩:=h;refine⟨Y,(j.append_right X).trans ?_⟩;rw[AL,AL];exact B1 R BU
theorem StD.weaken{g j:Nat->Option Value}{L L':List Res}{a:Act}{w:World}(h:StD N w0 M ds g L a w)(A:∀t v,j t=some v->g t=some v)(hL:SubR L' L):StD N w0 M ds j L' a w:=
 let ⟨m,q,B⟩:=h;⟨m,q,B.weaken A hL.append⟩
theorem StD.agr{g:Nat->Option Value}{L:List Res}{a:Act}{w:World}(h:StD N w0 M ds g L a w):Agrees g a:=let ⟨_,_,j⟩:=h;j.agr
def SyX(N:Nat)(w0:World)(M:Nat->Prop)(ds:List Deferred)(K:Act->World->Prop)(fr:Fr)(L:List Res):Prop:=∀a w,StD N w0 M ds (get fr) L a w->K a w
def Sy(P:Program)(ro:Option Nat)(N:Nat)(w0:World)(M:Nat->Prop)(ds:List Deferred)(c:Code)(Q:Exit->Act->World->Prop)(fr:Fr)(L:List Res):Prop:=
 ∀a w,StD N w0 M ds (get fr) L a w->c.wpIn (FW ro) 0 P Q a w
def SyL(P:Program)(ro:Option Nat)(N:Nat)(w0:World)(M:Nat->Prop)(ds:List Deferred)(ops:Array Oper)(Q:Exit->Act->World->Prop)(rest:List Oper)(fr:Fr)(L:List Res):Prop:=
 ∀a w,StD N w0 M ds (get fr) L a w->wpListIn (FW ro) 0 P ops Q rest a w
variable {Q:Exit->Act->World->Prop}{fr:Fr}{L:List Res}
theorem zej{c:Operand}{x y:Code}{t:Bool}(hc:ev (get fr) c=some (.bool t))(q:t=true->Sy P ro N w0 M ds x Q fr L)(m:t=false->Sy P ro N w0 M ds y Q fr L):Sy P ro N w0 M ds (.cond c x y) Q fr L:=
 λa w j=>wpIn_cond_split (j.agr.eval hc) (λh=>q h a w j) (λh=>m h a w j)
theorem zd4{id:Nat}{c:Code}(h:Sy P ro N w0 M ds c (Exit.inBlock id Q) fr L):Sy P ro N w0 M ds (.block id c) Q fr L:=λa w j=>wpIn_block (h a w j)
theorem zee(h:SyX N w0 M ds (Q .normal) fr L):Sy P ro N w0 M ds .skip Q fr L:=λa w j=>wpIn_skip (h a w j)
theorem zhC{l:Nat}(h:SyX N w0 M ds (Q .normal) fr L):Sy P ro N w0 M ds (.label l) Q fr L:=λa w j=>wpIn_label (h a w j)
theorem zhd{id:Nat}(h:SyX N w0 M ds (Q (.exit id)) fr L):Sy P ro N w0 M ds (.exit id) Q fr L:=λa w j=>wpIn_exit (h a w j)
theorem zfU{l:Nat}(h:SyX N w0 M ds (Q (.goto l)) fr L):Sy P ro N w0 M ds (.goto l) Q fr L:=λa w j=>wpIn_goto (h a w j)
theorem zkn(h:SyX N w0 M ds (Q .ret) fr L):Sy P ro N w0 M ds .ret Q fr L:=λa w j=>wpIn_ret (h a w j)
theorem zbU{id:Nat}{l:List Oper}(h:SyL P ro N w0 M ds l.toArray Q l fr L):Sy P ro N w0 M ds (.region id l.toArray false) Q fr L:=
 λa w j=>wpIn_region_lit (h a w j)
theorem zav{ops:Array Oper}(h:SyX N w0 M ds (Q .normal) fr L):SyL P ro N w0 M ds ops Q [] fr L:=λa w j=>h a w j
theorem zai{K:Act->World->Prop}(h:SyX N w0 M ds K fr L):SyX N w0 M ds (Exit.then K Q .normal) fr L:=h
theorem zdZ{K:Act->World->Prop}{id:Nat}(h:SyX N w0 M ds (Q (.exit id)) fr L):SyX N w0 M ds (Exit.then K Q (.exit id)) fr L:=h
theorem zcL{K:Act->World->Prop}{id:Nat}(h:SyX N w0 M ds (Q (.goto id)) fr L):SyX N w0 M ds (Exit.then K Q (.goto id)) fr L:=h
theorem zet{K:Act->World->Prop}(h:SyX N w0 M ds (Q .ret) fr L):SyX N w0 M ds (Exit.then K Q .ret) fr L:=h
theorem ziq{id:Nat}(h:SyX N w0 M ds (Q .normal) fr L):SyX N w0 M ds (Exit.inBlock id Q .normal) fr L:=h
theorem zfK{id:Nat}(h:SyX N w0 M ds (Q .ret) fr L):SyX N w0 M ds (Exit.inBlock id Q .ret) fr L:=h
theorem zdW{id:Nat}(h:SyX N w0 M ds (Q .normal) fr L):SyX N w0 M ds (Exit.inBlock id Q (.exit id)) fr L:=λa w j=>by
 simp only[Exit.inBlock,if_true];exact h a w j
theorem zfg{id j:Nat}(m:Nat.beq j id=false)(h:SyX N w0 M ds (Q (.exit j)) fr L):SyX N w0 M ds (Exit.inBlock id Q (.exit j)) fr L:=λa w q=>by
 simp only[Exit.inBlock,if_neg (Bw m)];exact h a w q
def CK(P:Program)(ro:Option Nat)(y:Code)(Q:Exit->Act->World->Prop)(a:Act)(w:World):Prop:=y.wpIn (FW ro) 0 P Q a w
theorem zb0{x y:Code}(h:Sy P ro N w0 M ds x (Exit.then (CK P ro y Q) Q) fr L):Sy P ro N w0 M ds (.seq x y) Q fr L:=λa w j=>wpIn_seq (h a w j)
theorem zg9{y:Code}(h:Sy P ro N w0 M ds y Q fr L):SyX N w0 M ds (CK P ro y Q) fr L:=h
theorem zi0{c:Operand}{x y:Code}(hc:ev (get fr) c=some (.bool true))(h:Sy P ro N w0 M ds x Q fr L):Sy P ro N w0 M ds (.cond c x y) Q fr L:=zej hc (λ_=>h) (λh=>by cases h)
theorem ziO{c:Operand}{x y:Code}(hc:ev (get fr) c=some (.bool false))(h:Sy P ro N w0 M ds y Q fr L):Sy P ro N w0 M ds (.cond c x y) Q fr L:=zej hc (λh=>by cases h) (λ_=>h)
def zk5(N:Nat)(w0:World)(M:Nat->Prop)(ds:List Deferred){γ:Type}(f:γ->Fr)(R:γ->List Res)(I:γ->Prop)(a:Act)(w:World):Prop:=∃g,I g/\StD N w0 M ds (get (f g)) (R g) a w
theorem zZ{γ:Type}{f:γ->Fr}{R:γ->List Res}{I:γ->Prop}(g:γ)(j:I g)(q:Sub (f g) fr)(m:SubR (R g) L):SyX N w0 M ds (zk5 N w0 M ds f R I) fr L:=λ_ _ w=>⟨g,j,w.weaken q m⟩
theorem Sy.weaken{c:Code}{fr':Fr}{L':List Res}(h:Sy P ro N w0 M ds c Q fr' L')(j:Sub fr' fr)(hL:SubR L' L):Sy P ro N w0 M ds c Q fr L:=λa w m=>h a w (m.weaken j hL)
def FJ:=@Sy.weaken
theorem SyX.weaken{K:Act->World->Prop}{fr':Fr}{L':List Res}(h:SyX N w0 M ds K fr' L')(j:Sub fr' fr)(hL:SubR L' L):SyX N w0 M ds K fr L:=λa w m=>h a w (m.weaken j hL)
def zt4(N:Nat)(w0:World)(M:Nat->Prop)(ds:List Deferred){γ:Type}(f:γ->Fr)(R:γ->List Res)(I:γ->Prop)(μ:γ->Nat)(m:Nat)(a:Act)(w:World):Prop:=
 ∃g,I g/\μ g<m/\StD N w0 M ds (get (f g)) (R g) a w
theorem zE{γ:Type}(f:γ->Fr)(R:γ->List Res)(I:γ->Prop)(μ:γ->Nat){c:Code}(g0:γ)(h0:I g0)(hf:Sub (f g0) fr)(hR:SubR (R g0) L)
  (hb:∀g,I g->Sy P ro N w0 M ds c (Exit.then (zt4 N w0 M ds f R I μ (μ g)) Q) (f g) (R g)):Sy P ro N w0 M ds (.loop c) Q fr L:=by
 intro a w V;refine wpIn_loop (λa w=>∃g,I g/\StD N w0 M ds (get (f g)) (R g) a w) (λa w=>
  Classical.epsilon (λm=>(∃g,I g/\StD N w0 M ds (get (f g)) (R g) a w/\μ g=m)/\∀g,I g->StD N w0 M ds (get (f g)) (R g) a w->m<=μ g)) ⟨g0,h0,V.weaken hf hR⟩ ?_
 intro a w H;have least:∀a w,(∃g,I g/\StD N w0 M ds (get (f g)) (R g) a w)->∃m,(∃g,I g/\StD N w0 M ds (get (f g)) (R g) a w/\μ g=m)/\∀g,I g->StD N w0 M ds (get (f g)) (R g) a w->m<=μ g:=by
  intro a w ⟨g,S,q⟩;generalize U:μ g=m
  induction m using Nat.strongRecOn generalizing g with
  |_ m ih=>
   by_cases hl:∃j,I j/\StD N w0 M ds (get (f j)) (R j) a w/\μ j<m
   ·obtain⟨j,A,E,O⟩:=hl;exact ih (μ j) O j A E rfl
   ·exact⟨m,⟨g,S,q,U⟩,λj A E=>Nat.le_of_not_lt λh=>hl ⟨j,A,E,h⟩⟩
 have X:∀a w,(H:∃g,I g/\StD N w0 M ds (get (f g)) (R g) a w)->∀m,((∃g,I g/\StD N w0 M ds (get (f g)) (R g) a w/\μ g=m)/\∀g,I g->StD N w0 M ds (get (f g)) (R g) a w->m<=μ g)->
   Classical.epsilon (λm=>(∃g,I g/\StD N w0 M ds (get (f g)) (R g) a w/\μ g=m)/\∀g,I g->StD N w0 M ds (get (f g)) (R g) a w->m<=μ g)=m:=by
  intro a w H m U;have V:=Classical.epsilon_spec (least a w H);obtain⟨⟨g1,a1,Y,c1⟩,d1⟩:=V;obtain⟨⟨g2,a2,Z,c2⟩,d2⟩:=U;have A:=d1 g2 a2 Z;have E:=d2 g1 a1 Y;omega
 obtain⟨m,⟨g,S,q,rfl⟩,K⟩:=least a w H;refine wpIn_mono (hb g S a w q) ?_;intro e T W G;cases e with
 |normal=>
  obtain⟨j,A,E,O⟩:=G;have B:∃g,I g/\StD N w0 M ds (get (f g)) (R g) T W:=⟨j,A,O⟩;refine⟨B,?_⟩;obtain⟨m',J⟩:=least T W B;rw[X T W B m' J,X a w H (μ g) ⟨⟨g,S,q,rfl⟩,K⟩];exact Av (J.2 j A O) E
 |exit id=>exact G
 |goto l=>exact G
 |ret=>exact G
 |panic c=>exact G
 |outgrown=>exact G
theorem zy{γ:Type}{f:γ->Fr}{R:γ->List Res}{I:γ->Prop}{μ:γ->Nat}{m:Nat}(g:γ)(j:I g)(hm:μ g<m)(w:Sub (f g) fr)(q:SubR (R g) L):SyX N w0 M ds (zt4 N w0 M ds f R I μ m) fr L:=
 λ_ _ A=>⟨g,j,hm,A.weaken w q⟩
def OpT(P:Program)(ro:Option Nat)(N:Nat)(w0:World)(M:Nat->Prop)(ds:List Deferred)(o:Oper)(g:Nat->Option Value)(L:List Res)(post:Value->List Res->Prop):Prop:=
 ∀a w X (next:Act->World->Prop) (Q:Exit->Act->World->Prop),St N w0 M ds g (L++X) a w->
  (∀v w' L',post v L'->Keep M w0 w'->Holds w0.heap.size M (L'++X) w'->next (a.put o.dst v) w')->o.wpIn (FW ro) 0 P a w next Q
def Det(v:Value)(L:List Res):Value->List Res->Prop:=λv' L'=>v'=v/\L'=L
theorem St.put{w w':World}{a:Act}{L':List Res}{d:Nat}(h:St N w0 M ds (get fr) L a w)(j:d<N)(v:Value)(hk:Keep M w0 w')(hh:Holds w0.heap.size M L' w'):St N w0 M ds (get ((d,v)::fr)) L' (a.put (some d) v) w':=
 ⟨by simp only[Act.put,DQ];exact h.size,h.agr.put (by rw[h.size];exact j) v,hk,hh⟩
theorem St.put_none{w w':World}{a:Act}{L':List Res}{v:Value}(h:St N w0 M ds (get fr) L a w)(hk:Keep M w0 w')(hh:Holds w0.heap.size M L' w'):St N w0 M ds (get fr) L' (a.put none v) w':=
 ⟨h.size,h.agr,hk,hh⟩
def zar(ops:Array Oper)(o:Oper)(g:Nat->Option Value):Option Bool:=
 match o.guard with
 |none=>some true
 |some (j,want)=>match (ops[j]?).bind (·.dst) with
  |none=>some false
  |some d=>match g d with
   |some (.bool b)=>some (b==want)
   |some _=>some false
   |none=>none
theorem zcr{ops:Array Oper}{o:Oper}{g:Nat->Option Value}{a:Act}(h:Agrees g a){b:Bool}(m:zar ops o g=some b):Region.wanted o (yielded ops a.tmps)=b:=by
 unfold zar at m;unfold Region.wanted;cases hg:o.guard with
 |none=>rw[hg] at m;simpa using m
 |some p=>
  obtain⟨j,want⟩:=p;rw[hg] at m;simp only at m ⊢;unfold yielded;cases hd:(ops[j]?).bind (·.dst) with
  |none=>rw[hd] at m;simp only[Bo] at m;subst m;simp
  |some d=>
   rw[hd] at m;simp only at m;cases hv:g d with
   |none=>rw[hv] at m;cases m
   |some v=>
    rw[hv] at m;simp only[BB,h d v hv];cases v <;> simp_all
theorem zhY{ops:Array Oper}{rest:List Oper}{o:Oper}{a:Act}{w:World}(j:Region.wanted o (yielded ops a.tmps)=true)(h:o.wpIn (FW ro) 0 P a w (wpListIn (FW ro) 0 P ops Q rest) Q):wpListIn (FW ro) 0 P ops Q (o::rest) a w:=by
 unfold wpListIn;rw[if_pos j];exact h
theorem syl{ops:Array Oper}{rest:List Oper}{o:Oper}{post:Value->List Res->Prop}{d:Nat}(h:OpT P ro N w0 M ds o (get fr) L post)(J:zar ops o (get fr)=some true)(E:o.dst=some d)(B:Nat.blt d N=true)
  (hr:∀v j,post v j->SyL P ro N w0 M ds ops Q rest ((d,v)::fr) j):SyL P ro N w0 M ds ops Q (o::rest) fr L:=by
 rintro a w ⟨A,m,q⟩;refine zhY (zcr q.agr J) (h a w _ _ _ q λv K j I H G=>?_);rw[E];exact hr v j I _ _ ⟨A,m,q.put (AO B) v H G⟩
theorem zwT{ops:Array Oper}{rest:List Oper}{o:Oper}{post:Value->List Res->Prop}(h:OpT P ro N w0 M ds o (get fr) L post)(I:zar ops o (get fr)=some true)(B:o.dst=none)
  (hr:∀v j,post v j->SyL P ro N w0 M ds ops Q rest fr j):SyL P ro N w0 M ds ops Q (o::rest) fr L:=by
 rintro a w ⟨A,m,q⟩;refine zhY (zcr q.agr I) (h a w _ _ _ q λv J j H G E=>?_);rw[B];exact hr v j H _ _ ⟨A,m,q.put_none G E⟩
theorem zcX{ops:Array Oper}{rest:List Oper}{o:Oper}{d:Nat}{v:Value}{L':List Res}(h:OpT P ro N w0 M ds o (get fr) L (Det v L'))(A:zar ops o (get fr)=some true)(w:o.dst=some d)(q:Nat.blt d N=true)
  (hr:SyL P ro N w0 M ds ops Q rest ((d,v)::fr) L'):SyL P ro N w0 M ds ops Q (o::rest) fr L:=
 syl h A w q λ_ _ ⟨j,m⟩=>by subst j;subst m;exact hr
theorem zrn{ops:Array Oper}{rest:List Oper}{o:Oper}{v:Value}{L':List Res}(h:OpT P ro N w0 M ds o (get fr) L (Det v L'))(w:zar ops o (get fr)=some true)(q:o.dst=none)
  (hr:SyL P ro N w0 M ds ops Q rest fr L'):SyL P ro N w0 M ds ops Q (o::rest) fr L:=
 zwT h w q λ_ _ ⟨j,m⟩=>by subst j;subst m;exact hr
theorem yv{ops:Array Oper}{rest:List Oper}{o:Oper}{d:Nat}{v:Value}{L':List Res}(h:OpT P ro N w0 M ds o (get fr) L (Det v L'))(q:zar ops o (get fr)=some true:=by exact rfl)(m:o.dst=some d:=by exact rfl)(j:Nat.blt d N=true:=by exact rfl)
  (k:SyL P ro N w0 M ds ops Q rest ((d,v)::fr) L'):SyL P ro N w0 M ds ops Q (o::rest) fr L:=zcX h q m j k
theorem yn{ops:Array Oper}{rest:List Oper}{o:Oper}{v:Value}{L':List Res}(h:OpT P ro N w0 M ds o (get fr) L (Det v L'))(m:zar ops o (get fr)=some true:=by exact rfl)(j:o.dst=none:=by exact rfl)
  (k:SyL P ro N w0 M ds ops Q rest fr L'):SyL P ro N w0 M ds ops Q (o::rest) fr L:=zrn h m j k
theorem ys{ops:Array Oper}{rest:List Oper}{o:Oper}{post:Value->List Res->Prop}{d:Nat}(h:OpT P ro N w0 M ds o (get fr) L post)(w:zar ops o (get fr)=some true:=by exact rfl)(q:o.dst=some d:=by exact rfl)(m:Nat.blt d N=true:=by exact rfl)
  (k:∀v j,post v j->SyL P ro N w0 M ds ops Q rest ((d,v)::fr) j):SyL P ro N w0 M ds ops Q (o::rest) fr L:=syl h w q m k
theorem zW{ops:Array Oper}{rest:List Oper}{o:Oper}(h:SyL P ro N w0 M ds ops Q (o::rest) fr L):SyL P ro N w0 M ds ops Q (o::rest) fr L:=h
theorem zaf{ops:Array Oper}{rest:List Oper}{o:Oper}{d:Nat}(E:zar ops o (get fr)=some false)(B:o.dst=some d)(A:Nat.blt d N=true)
  (hr:SyL P ro N w0 M ds ops Q rest ((d,undef)::fr) L):SyL P ro N w0 M ds ops Q (o::rest) fr L:=by
 rintro a w ⟨q,m,j⟩;unfold wpListIn;rw[if_neg (by rw[zcr j.agr E];decide)];refine⟨λf G=>trivial,?_⟩;rw[B];exact hr _ _ ⟨q,m,j.put (AO A) _ j.keep j.hold⟩
end
section
open Go
theorem zaA{a b:Nat} :Nat.blt a b=true↔a<b:=by unfold Nat.blt;rw[Nat.ble_eq];exact Iff.rfl
theorem zbV{a b:Nat} :Nat.blt a b=false↔b<=a:=by rw[<-CI,zaA];exact Nat.not_lt
theorem za4{a b:Nat} :Nat.beq a b=false↔a≠b:=⟨Bw,λh=>by
 cases hb:Nat.beq a b
 ·rfl
 ·exact(h (BT hb)).elim⟩
theorem zep(a:Nat):Nat.beq a a=true:=Ex a
abbrev Env:=Nat->Value×List Res
abbrev zbt:=(Env->Value) ⊕ (Env->Value->List Res->Prop)
def zci(it:zbt)(i:Nat)(ρ:Env):Value:=match it with| .inl v=>v ρ| .inr _=>(ρ i).1
def zaM(it:zbt)(i:Nat)(ρ:Env):List Res:=match it with| .inl _=>[]| .inr _=>(ρ i).2
def zdK(it:zbt)(i:Nat)(ρ:Env):Prop:=match it with| .inl _=>True| .inr R=>R ρ (ρ i).1 (ρ i).2
def Loc(ts:List Nat)(it:zbt):Prop:=∀ρ ρ':Env,(∀k,k∈ts->ρ k=ρ' k)->match it with| .inl v=>v ρ=v ρ'| .inr R=>R ρ=R ρ'
def only(ts:List Nat)(g:Nat->Option Value)(t:Nat):Option Value:=bif ts.contains t then g t else none
def pre(o:Oper):List Nat:=(o.after.toList.filter (Region.binds .any)).map (·.on)
def cl(C:List (List Nat))(i:Nat):List Nat:=C.getD i []
def zcY(ops:Array Oper)(i:Nat):Option Nat:=(ops[i]?).bind (·.dst)
def zkx(ops:Array Oper)(n N:Nat)(C:List (List Nat)):Bool:=
 Nat.ble n ops.size &&
 (List.range ops.size).all λi=>match ops[i]? with
  |none=>true
  |some o=>
   (pre o).all (λj=>Nat.blt j i)&&(match o.dst with|none=>true|some d=>Nat.blt d N) &&
   (cl C i).all (λj=>Nat.blt j i&&((pre o).contains j || (pre o).any λk=>(cl C k).contains j)) &&
   (bif Nat.blt i n then (List.range n).all (λj=>Nat.beq i j || match zcY ops j with
    |none=>true
    |some d=>!(o.dst==some d)&&(!((o.looksAt ops).contains d) || (bif Nat.blt j i then (cl C i).contains j else (cl C j).contains i)))
   else (List.range i).all (cl C i).contains)
def za2(ts:List Nat):List (Nat×(Env->Value->List Res->Prop))->Env->Prop
 | [],_=>True
 |p::r,ρ=>bif ts.contains p.1 then p.2 ρ (ρ p.1).1 (ρ p.1).2/\za2 ts r ρ else za2 ts r ρ
def zah(ts:List Nat):List (Nat×(Env->Value->List Res->Prop))->Env->List Res->List Res
 | [],_,L=>L
 |p::r,ρ,L=>bif ts.contains p.1 then (ρ p.1).2++zah ts r ρ L else zah ts r ρ L
def ext(d:Option Nat)(v:Value)(fr:Fr):Fr:=match d with|some t=>(t,v)::fr|none=>fr
variable {P:Program}{ro:Option Nat}{N:Nat}{w0:World}{M:Nat->Prop}{ds:List Deferred}
def GpT(P:Program)(ro:Option Nat)(N:Nat)(w0:World)(M:Nat->Prop)(ds:List Deferred)(ops:Array Oper)(o:Oper)(g:Nat->Option Value)(L:List Res)(post:Value->List Res->Prop):Prop:=
 (zar ops o g=some true/\OpT P ro N w0 M ds o g L post)\/(zar ops o g=some false/\post undef L)
def DH(P:Program)(ro:Option Nat)(N:Nat)(w0:World)(M:Nat->Prop)(ds:List Deferred)(ops:Array Oper)(Q:Exit->Act->World->Prop)(C:List (List Nat))(L0:List Res):
  Nat->Nat->List Oper->(Env->Fr)->List (Nat×(Env->Value->List Res->Prop))->Prop
 |0,i,rest,F,rs=>∀ρ,za2 (List.range i) rs ρ->SyL P ro N w0 M ds ops Q rest (F ρ) (zah (List.range i) rs ρ L0)
 |_+1,_,[],_,_=>False
 |k+1,i,o::rest,F,rs=>
  (∃v:Env->Value,Loc (cl C i) (.inl v)/\(∀ρ,za2 (cl C i) rs ρ->GpT P ro N w0 M ds ops o (only (o.looksAt ops) (get (F ρ))) (zah (cl C i) rs ρ L0) (Det (v ρ) (zah (cl C i) rs ρ L0)))/\
   DH P ro N w0 M ds ops Q C L0 k (i+1) rest (λρ=>ext o.dst (v ρ) (F ρ)) rs)\/
  (∃R:Env->Value->List Res->Prop,Loc (cl C i) (.inr R)/\(∀ρ,za2 (cl C i) rs ρ->GpT P ro N w0 M ds ops o (only (o.looksAt ops) (get (F ρ))) (zah (cl C i) rs ρ L0) (λv L'=>∃Nw,L'=Nw++zah (cl C i) rs ρ L0/\R ρ v Nw))/\
   DH P ro N w0 M ds ops Q C L0 k (i+1) rest (λρ=>ext o.dst (ρ i).1 (F ρ)) ((i,R)::rs))
def frT(ops:Array Oper)(it:Nat->zbt)(fr:Fr)(ρ:Env):Nat->Fr
 |0=>fr
 |j+1=>ext (zcY ops j) (zci (it j) j ρ) (frT ops it fr ρ j)
def rsT(it:Nat->zbt):Nat->List (Nat×(Env->Value->List Res->Prop))
 |0=>[]
 |j+1=>match it j with| .inl _=>rsT it j| .inr R=>(j,R)::rsT it j
def Good(P:Program)(ro:Option Nat)(N:Nat)(w0:World)(M:Nat->Prop)(ds:List Deferred)(ops:Array Oper)(C:List (List Nat))(fr:Fr)(L0:List Res)(it:Nat->zbt)(i:Nat)(o:Oper):Prop:=
  Loc (cl C i) (it i)/\∀ρ,za2 (cl C i) (rsT it i) ρ->GpT P ro N w0 M ds ops o (only (o.looksAt ops) (get (frT ops it fr ρ i))) (zah (cl C i) (rsT it i) ρ L0)
    (match it i with
     | .inl v=>Det (v ρ) (zah (cl C i) (rsT it i) ρ L0)
     | .inr R=>λv L'=>∃Nw,L'=Nw++zah (cl C i) (rsT it i) ρ L0/\R ρ v Nw)
theorem DH.items{ops:Array Oper}{Q:Exit->Act->World->Prop}{C:List (List Nat)}{fr:Fr}{L0:List Res} :∀(k i:Nat) (rest:List Oper) (m:Nat->zbt),(∀j,rest[j]?=ops[i+j]?)->
  DH P ro N w0 M ds ops Q C L0 k i rest (λρ=>frT ops m fr ρ i) (rsT m i)->
  ∃it:Nat->zbt,(∀j,j<i->it j=m j)/\(∀j,i<=j->j<i+k->∃o,ops[j]?=some o/\Good P ro N w0 M ds ops C fr L0 it j o)/\
   (∀ρ,za2 (List.range (i+k)) (rsT it (i+k)) ρ->SyL P ro N w0 M ds ops Q (rest.drop k) (frT ops it fr ρ (i+k)) (zah (List.range (i+k)) (rsT it (i+k)) ρ L0))
 |0,i,rest,m,_,h=>⟨m,λ_ _=>rfl,λj O S=>by omega,by simpa [DH] using h⟩
 |k+1,i,[],_,_,h=>by simp[DH] at h
 |k+1,i,o::rest,m,hr,h=>by
  have U:ops[i]?=some o:=by simpa using (hr 0).symm
  have T:zcY ops i=o.dst:=by simp[zcY,U]
  have K:∀j,rest[j]?=ops[i+1+j]?:=λj=>by have:=hr (j+1);simpa [Az,CW 1 j] using this
  have key:∀(x:zbt),Good P ro N w0 M ds ops C fr L0 (λj=>if j=i then x else m j) i o->
    DH P ro N w0 M ds ops Q C L0 k (i+1) rest (λρ=>frT ops (λj=>if j=i then x else m j) fr ρ (i+1)) (rsT (λj=>if j=i then x else m j) (i+1))->
    ∃it:Nat->zbt,(∀j,j<i->it j=m j)/\(∀j,i<=j->j<i+(k+1)->∃o,ops[j]?=some o/\Good P ro N w0 M ds ops C fr L0 it j o)/\
     (∀ρ,za2 (List.range (i+(k+1))) (rsT it (i+(k+1))) ρ->SyL P ro N w0 M ds ops Q ((o::rest).drop (k+1)) (frT ops it fr ρ (i+(k+1))) (zah (List.range (i+(k+1))) (rsT it (i+(k+1))) ρ L0)):=by
   intro x B q;obtain⟨it,O,S,V⟩:=DH.items k (i+1) rest _ K q;have same:∀j,j<=i->it j=(λj=>if j=i then x else m j) j:=λj E=>O j q_o;have H:∀ρ j,j<=i+1->frT ops it fr ρ j=frT ops (λj=>if j=i then x else m j) fr ρ j:=by
    intro ρ j E
    induction j with
    |zero=>rfl
    |succ j ih=>simp only[frT];rw[ih q_o,same j q_o]
   have I:∀j,j<=i+1->rsT it j=rsT (λj=>if j=i then x else m j) j:=by
    intro j E
    induction j with
    |zero=>rfl
    |succ j ih=>simp only[rsT];rw[ih q_o,same j q_o]
   refine⟨it,λj E=>by rw[same j q_o];simp[Nat.ne_of_lt E],λj W X=>?_,?_⟩
   ·by_cases e:j=i
    ·subst e;refine⟨o,U,?_⟩;unfold Good at B ⊢;rw[same j (A4 _),I j q_o];refine⟨B.1,λρ G=>?_⟩;rw[H ρ j q_o];exact B.2 ρ G
    ·exact S j q_o q_o
   ·have e:i+(k+1)=i+1+k:=q_o;rw[e];simpa using V
  have w:∀(x:zbt) ρ,frT ops (λj=>if j=i then x else m j) fr ρ i=frT ops m fr ρ i:=by
   intro x ρ;have:∀j,j<=i->frT ops (λj=>if j=i then x else m j) fr ρ j=frT ops m fr ρ j:=by
    intro j E
    induction j with
    |zero=>rfl
    |succ j ih=>simp only[frT];rw[ih q_o,if_neg q_o]
   exact this i (A4 _)
  have A:∀(x:zbt),rsT (λj=>if j=i then x else m j) i=rsT m i:=by
   intro x;have:∀j,j<=i->rsT (λj=>if j=i then x else m j) j=rsT m j:=by
    intro j E
    induction j with
    |zero=>rfl
    |succ j ih=>simp only[rsT];rw[ih q_o,if_neg q_o]
   exact this i (A4 _)
  simp only[DH] at h;rcases h with ⟨v,J,B,q⟩|⟨R,J,B,q⟩
  ·refine key (.inl v) ?_ ?_
   ·unfold Good;simp only[if_true];rw[A];refine⟨J,λρ G=>?_⟩;rw[w];exact B ρ G
   ·simp only[frT,rsT,if_true,zci,T,w,A];exact q
  ·refine key (.inr R) ?_ ?_
   ·unfold Good;simp only[if_true];rw[A];refine⟨J,λρ G=>?_⟩;rw[w];exact B ρ G
   ·simp only[frT,rsT,if_true,zci,T,w,A];exact q
def fm(p:Nat->Bool)(f:Nat->List Res):Nat->List Res
 |0=>[]
 |k+1=>(bif p k then f k else [])++fm p f k
theorem zeX{p q r:Nat->Bool}{f:Nat->List Res} :∀n,(∀k,k<n->p k=(q k || r k)/\(q k&&r k)=false)->(fm p f n).Perm (fm q f n++fm r f n)
 |0,_=>CA _
 |k+1,h=>by
  obtain⟨A,w⟩:=h k q_o;have m:=zeX (f:=f) k (λj B=>h j q_o);simp only[fm,A];cases hq:q k <;> cases hr:r k <;> simp only[cond_true,cond_false,Bool.or_self,EX,Do,B3,AL]
  ·exact m
  ·refine(B1 _ m).trans ?_;rw[<-AL,<-AL];exact B2 _ BU
  ·exact B1 _ m
  ·rw[hq,hr] at w;cases w
theorem zki{p:Nat->Bool}{f:Nat->List Res}{j:Nat}(h:∀k,j<=k->p k=false):∀n,j<=n->fm p f n=fm p f j
  | 0, hj => by obtain rfl : j = 0 := q_o
                rfl
  |n+1,hj=>by
    by_cases e:j=n+1
    · rw[e]
    · simp only[fm];rw[h n q_o,zki h n q_o];rfl
theorem zeH{p p':Nat->Bool}{f f':Nat->List Res} :∀n,(∀k,k<n->p k=p' k/\(p k=true->f k=f' k))->fm p f n=fm p' f' n
 |0,_=>rfl
 |n+1,h=>by
  obtain⟨j,m⟩:=h n q_o;simp only[fm];rw[zeH n (λk q=>h k q_o),<-j];cases hp:p n
  ·rfl
  ·rw[m hp]
theorem zkH{p:Nat->Bool}{f:Nat->List Res} :∀n,(∀k,k<n->p k=false)->fm p f n= []
 |0,_=>rfl
 |n+1,h=>by simp only[fm];rw[h n q_o,zkH n (λk j=>h k q_o)];rfl
theorem zm8{f:Nat->List Res}(i:Nat):∀n,i<n->fm (λk=>Nat.beq k i) f n=f i
 |n+1,h=>by
  simp only[fm];by_cases e:n=i
  ·subst e;rw[zkH n (λk j=>za4.2 q_o),zep];simp
  ·rw[zm8 i n q_o,za4.2 e];rfl
theorem zdF{it:Nat->zbt}{ts:List Nat}{ρ:Env}{L:List Res} :∀i,(zah ts (rsT it i) ρ L).Perm (fm (λk=>ts.contains k) (λk=>zaM (it k) k ρ) i++L)
 |0=>CA _
 |i+1=>by
  have j:=zdF (it:=it) (ts:=ts) (ρ:=ρ) (L:=L) i;simp only[rsT,fm];cases hi:it i with
  |inl v=>simp only[zaM];cases ts.contains i <;> exact j
  |inr R=>
   simp only[zaM,zah];cases ts.contains i
   ·exact j
   ·simp only[cond_true,AL];exact B1 _ j
theorem zga{it:Nat->zbt}{ts:List Nat}{ρ:Env} :∀i,(∀k,k<i->ts.contains k=true->zdK (it k) k ρ)->za2 ts (rsT it i) ρ
 |0,_=>trivial
 |i+1,h=>by
  have m:=zga (it:=it) (ts:=ts) (ρ:=ρ) i (λk q j=>h k q_o j);simp only[rsT];cases hi:it i with
  |inl v=>exact m
  |inr R=>
   simp only[za2];cases j:ts.contains i
   ·exact m
   ·have:=h i q_o j;rw[hi] at this;exact⟨this,m⟩
theorem ziP{ops:Array Oper}{it:Nat->zbt}{fr:Fr}{ρ:Env}{t:Nat}{v:Value} :∀j,get (frT ops it fr ρ j) t=some v->
  (∃k,k<j/\zcY ops k=some t/\v=zci (it k) k ρ)\/((∀k,k<j->zcY ops k≠some t)/\get fr t=some v)
 |0,h=> .inr ⟨λk B=>by omega,h⟩
 |j+1,h=>by
  simp only[frT] at h;cases hd:zcY ops j with
  |none=>
   rw[hd] at h;rcases ziP j h with ⟨k,q,m,w⟩|⟨q,m⟩
   ·exact .inl ⟨k,by omega,m,w⟩
   ·refine .inr ⟨λk B=>?_,m⟩;by_cases e:k=j
    ·subst e;rw[hd];exact λe=>by cases e
    ·exact q k q_o
  |some d=>
   rw[hd] at h;simp only[ext,get] at h;cases hb:Nat.beq d t with
   |true=>
    rw[hb] at h;simp only[cond_true,Bo] at h;have:=BT hb;subst this;exact .inl ⟨j,by omega,hd,h.symm⟩
   |false=>
    rw[hb] at h;simp only[cond_false] at h;have A:=Bw hb;rcases ziP j h with ⟨k,q,m,w⟩|⟨q,m⟩
    ·exact .inl ⟨k,by omega,m,w⟩
    ·refine .inr ⟨λk B=>?_,m⟩;by_cases e:k=j
     ·subst e;rw[hd];exact λe=>A (Ap e)
     ·exact q k q_o
structure DOk(ops:Array Oper)(n N:Nat)(C:List (List Nat)):Prop where
 le:n<=ops.size
 acyc:∀(i:Nat) (o:Oper),ops[i]?=some o->∀j∈pre o,j<i
 low:∀(i:Nat) (o:Oper),ops[i]?=some o->∀d,o.dst=some d->d<N
 clo:∀(i:Nat) (o:Oper),ops[i]?=some o->∀j∈cl C i,j<i/\(j∈pre o\/∃k∈pre o,j∈cl C k)
 slot:∀(i:Nat) (o:Oper),ops[i]?=some o->i<n->∀j,j<n->j≠i->∀d,zcY ops j=some d->o.dst≠some d/\(d∈o.looksAt ops->(j<i->j∈cl C i)/\(i<j->i∈cl C j))
 tail:∀(i:Nat) (o:Oper),ops[i]?=some o->n<=i->∀j,j<i->j∈cl C i
theorem zgP{ops:Array Oper}{n:Nat}{C:List (List Nat)}(h:zkx ops n N C=true):DOk ops n N C:=by
 unfold zkx at h;rw[AB,AT] at h;obtain⟨h0,J⟩:=h;have m:∀i o,ops[i]?=some o->_:=λi o q=>by
  have I:i<ops.size:=(Aa.1 q).1;have:=J i (B9.2 I);rw[q] at this;simp only[AB] at this;exact this
 refine⟨AO h0,λi o q j w=>?_,λi o q d E=>?_,λi o q j w=>?_,λi o q G j w H d E=>?_,λi o q G j w=>?_⟩
 ·have:=(m i o q).1.1.1;rw[AT] at this;exact zaA.1 (this j w)
 ·have:=(m i o q).1.1.2;rw[E] at this;exact zaA.1 this
 ·have:=(m i o q).1.2;rw[AT] at this;have:=this j w;rw[AB,Bl,Dj] at this;refine⟨zaA.1 this.1,this.2.imp q_p λ⟨k,S,K⟩=>⟨k,S,by simpa using K⟩⟩
 ·have:=(m i o q).2;rw[zaA.2 G,cond_true,AT] at this;have:=this j (B9.2 w);rw[za4.2 (λe=>H e.symm),Bz,E] at this;simp only[AB,Bl,BQ] at this;refine⟨by simpa using this.1,λT=>?_⟩;have B:=this.2.resolve_left (by simp[T]);refine⟨λA=>?_,λO=>?_⟩
  ·rw[zaA.2 A,cond_true] at B;simpa using B
  ·rw[zbV.2 q_o,cond_false] at B;simpa using B
 ·have:=(m i o q).2;rw[zbV.2 G,cond_false,AT] at this;simpa using this j (B9.2 w)
theorem zdh{o:Oper}{j:Nat} :j∈pre o↔ ∃e∈o.after,Region.binds .any e=true/\e.on=j:=by
 unfold pre;simp only[C0,Bb,Array.mem_toList_iff];exact⟨λ⟨e,⟨m,q⟩,w⟩=>⟨e,m,q,w⟩,λ⟨e,m,q,w⟩=>⟨e,⟨m,q⟩,w⟩⟩
theorem zkN{ops:Array Oper}{n:Nat}{C:List (List Nat)}(hk:DOk ops n N C){p:Nat->Bool}(down:∀k o,p k=true->ops[k]?=some o->∀j∈pre o,p j=true):
  ∀i o,ops[i]?=some o->(∀j∈pre o,p j=true)->∀j∈cl C i,p j=true:=by
 intro i
 induction i using Nat.strongRecOn with
 |_ i I=>
  intro o w B j G;obtain⟨_,h|⟨k,A,E⟩⟩:=hk.clo i o w j G
  ·exact B j h
  ·have q:=hk.acyc i o w k A;have H:i<ops.size:=(Aa.1 w).1;have m:ops[k]?=some ops[k]:=Au q_o;exact I k q _ m (down k _ (B k A) m) j E
def unl(p:Nat->Bool):Nat->Nat
 |0=>0
 |k+1=>(bif p k then 0 else 1)+unl p k
theorem zjx{p:Nat->Bool} :∀n,unl p n=0->∀k,k<n->p k=true
 |n+1,h,k,hk=>by
  simp only[unl] at h;by_cases e:k=n
  ·subst e;cases hp:p k
   ·rw[hp] at h;simp at h
   ·rfl
  ·exact zjx n q_o k q_o
theorem zmu{p p':Nat->Bool} :∀n,(∀k,k<n->p' k=p k)->unl p' n=unl p n
 |0,_=>rfl
 |n+1,h=>by simp only[unl];rw[h n q_o,zmu n (λk j=>h k q_o)]
theorem zkG{p p':Nat->Bool}{i:Nat}(m:p i=false)(j:p' i=true)(h:∀k,k≠i->p' k=p k):∀n,i<n->unl p' n+1=unl p n
 |n+1,hn=>by
  simp only[unl];by_cases e:i=n
  ·subst e;rw[m,j,zmu i (λk w=>h k q_o)];simp;omega
  ·rw[h n (λq=>e q.symm)];have:=zkG m j h n q_o;omega
structure DInv(ops:Array Oper)(n:Nat)(fr:Fr)(L0:List Res)(it:Nat->zbt)(N:Nat)(w0:World)(M:Nat->Prop)(dd:List Deferred)(listed:Array Bool)(ρ:Env)(a:Act)(w:World):Prop where
 size:listed.size=ops.size
 head:∀k,listed.getD k false=true->k<n
 down:∀(k:Nat) (o:Oper),listed.getD k false=true->ops[k]?=some o->∀j∈pre o,listed.getD j false=true
 tsize:a.tmps.size=N
 defs:a.defers=dd
 s1:∀k d,listed.getD k false=true->zcY ops k=some d->a.tmps[d]?=some (zci (it k) k ρ)
 s2:∀t v,get fr t=some v->(∀k,listed.getD k false=true->zcY ops k≠some t)->a.tmps[t]?=some v
 rel:∀k,listed.getD k false=true->zdK (it k) k ρ
 keep:Keep M w0 w
 hold:Holds w0.heap.size M (fm (λk=>listed.getD k false) (λk=>zaM (it k) k ρ) n++L0) w
variable {ops:Array Oper}{n:Nat}{C:List (List Nat)}{fr:Fr}{L0:List Res}{it:Nat->zbt}{Q:Exit->Act->World->Prop}{dd:List Deferred}
theorem zbB{listed:Array Bool}{i:Nat}(h:listed.getD i true=false):listed.getD i false=false:=by
 simp only[Ab] at h ⊢;cases hl:listed[i]? with
 |none=>rw[hl] at h;simp at h
 |some b=>rw[hl] at h;simpa using h
theorem zwX(hk:DOk ops n N C)(hg:∀i o,i<n->ops[i]?=some o->Good P ro N w0 M ds ops C fr L0 it i o){listed:Array Bool}{ρ:Env}{a:Act}{w:World}
    (inv:DInv ops n fr L0 it N w0 M dd listed ρ a w){i:Nat}(hi:i∈Region.ready .any ops listed)(S:i<n){K:Act->World->Prop}
    (hK:∀J a' I,DInv ops n fr L0 it N w0 M dd (listed.setIfInBounds i true) J a' I->K a' I):wpOpIn (FW ro) 0 P ops Q i K a w:=by
  obtain⟨c3,o,U,a7⟩:=mem_ready.1 hi;have W:=zbB c3;have c4:i<ops.size:=(Aa.1 U).1;have b2:∀j∈pre o,listed.getD j false=true:=λj hj=>by
    obtain⟨e,he,hb,rfl⟩:=zdh.1 hj;exact a7 e he hb
  have b5:=zkN hk (p:=λk=>listed.getD k false) inv.down;have b3:=b5 i o U b2;have b1:zcY ops i=o.dst:=by simp[zcY,U]
  have b0:∀k,listed.getD k false=true->i∉cl C k:=λk A b6=>by
    have a8:=inv.head k A;have H:ops[k]?=some (ops[k]'(by have:=hk.le;omega)):=Au _;have:listed.getD i false=true:=b5 k _ H (inv.down k _ A H) i b6;rw[W] at this;cases this
  have b4:i∉cl C i:=λh=>by have:=(hk.clo i o U i h).1;omega
  have V:=hg i o S U;have b8:za2 (cl C i) (rsT it i) ρ:=zga i λk G hc=>inv.rel k (b3 k (by simpa using hc));have c2:=V.2 ρ b8;have X:List Res:=[]
  -- memory, as the operation sees it
  have Y:(fm (λk=>listed.getD k false) (λk=>zaM (it k) k ρ) n++L0).Perm (zah (cl C i) (rsT it i) ρ L0++fm (λk=>listed.getD k false && !(cl C i).contains k) (λk=>zaM (it k) k ρ) n):=by
    have h1:=zeX (p:=λk=>listed.getD k false) (q:=λk=>(cl C i).contains k) (r:=λk=>listed.getD k false && !(cl C i).contains k) (f:=λk=>zaM (it k) k ρ) n (λk _=>by
      cases hc:(cl C i).contains k
      · simp
      · have:listed.getD k false=true:=b3 k (by simpa using hc)
        rw[this];exact⟨rfl,rfl⟩)
    rw[zki (p:=λk=>(cl C i).contains k) (j:=i) (λk b6=>by
      cases hc:(cl C i).contains k
      · rfl
      · have:=(hk.clo i o U k (by simpa using hc)).1;omega) n q_o] at h1
    have h2:=zdF (it:=it) (ts:=cl C i) (ρ:=ρ) (L:=L0) i;refine(B2 L0 h1).trans ?_;refine List.Perm.trans ?_ (B2 _ h2.symm);rw[AL,AL];exact B1 _ BU
  have a6:St N w0 M ds (only (o.looksAt ops) (get (frT ops it fr ρ i))) (zah (cl C i) (rsT it i) ρ L0++fm (λk=>listed.getD k false && !(cl C i).contains k) (λk=>zaM (it k) k ρ) n) a w:=by
    refine⟨inv.tsize,λt v hv=>?_,inv.keep,inv.hold.perm Y⟩;unfold only at hv;cases hc:(o.looksAt ops).contains t
    · rw[hc] at hv;cases hv
    · rw[hc,cond_true] at hv
      have b9:t∈o.looksAt ops:=by simpa using hc
      rcases ziP i hv with ⟨k,G,B,rfl⟩|⟨a9,c1⟩
      · have hs:=(hk.slot i o U S k q_o q_o t B).2 b9
        exact inv.s1 k t (b3 k (hs.1 G)) B
      · refine inv.s2 t v c1 λk A B=>?_
        have a8:=inv.head k A;have G:k≠i:=λe=>by rw[e,W] at A;cases A
        have hs:=(hk.slot i o U S k a8 G t B).2 b9;by_cases hlt':k<i
        · exact a9 k hlt' B
        · exact b0 k A (hs.2 q_o)
  -- what follows from its results
  have fin:∀(J:Env) (v:Value) (I:World),(∀k,k≠i->J k=ρ k)->zci (it i) i J=v->zdK (it i) i J->Keep M w0 I->
      Holds w0.heap.size M (zaM (it i) i J++zah (cl C i) (rsT it i) ρ L0++fm (λk=>listed.getD k false && !(cl C i).contains k) (λk=>zaM (it k) k ρ) n) I->K (a.put o.dst v) I:=by
    intro J v I hρ hv hr T hh;have old:∀k,listed.getD k false=true->zci (it k) k J=zci (it k) k ρ/\zaM (it k) k J=zaM (it k) k ρ/\(zdK (it k) k ρ->zdK (it k) k J):=by
      intro k A;have G:k≠i:=λe=>by rw[e,W] at A;cases A
      have a8:=inv.head k A;have H:ops[k]?=some (ops[k]'(by have:=hk.le;omega)):=Au _;have E:=(hg k _ a8 H).1 J ρ (λj hj=>hρ j (λe=>b0 k A (e ▸ hj)));cases hit:it k with
      |inl f=>rw[hit] at E;exact⟨E,rfl,λh=>h⟩
      |inr R=>rw[hit] at E;exact⟨by simp only[zci,hρ k G],by simp only[zaM,hρ k G],λh=>by simp only[zdK,hρ k G] at h ⊢;rw[show R J=R ρ from E];exact h⟩
    have O:∀k,(listed.setIfInBounds i true).getD k false=true->k=i\/listed.getD k false=true:=λk m=>by
      by_cases e:i=k
      · exact .inl e.symm
      · rw[getD_set_ne false e] at m;exact .inr m
    have Z:(listed.setIfInBounds i true).getD i false=true:=by
      have:i<listed.size:=by rw[inv.size];exact c4
      simp[Ab,this]
    refine hK J _ I ⟨by simpa using inv.size,λk m=>?_,λk o' m H j hj=>?_,?_,?_,λk d m B=>?_,λt u hu a9=>?_,λk m=>?_,T,?_⟩
    · rcases O k m with rfl|h
      · exact S
      · exact inv.head k h
    · rcases O k m with rfl|h
      · rw[U] at H;cases H;exact getD_set_true (b2 j hj)
      · exact getD_set_true (inv.down k o' h H j hj)
    · cases hd:o.dst <;> simp[Act.put,inv.tsize]
    · cases hd:o.dst <;> simp[Act.put,inv.defs]
    · rcases O k m with rfl|h
      · rw[b1] at B
        rw[B];have c0:=hk.low k o U d B;simp only[Act.put];rw[D9 (by rw[inv.tsize];exact c0),hv]
      · have G:k≠i:=λe=>by rw[e,W] at h;cases h
        rw[(old k h).1];have b7:=(hk.slot i o U S k (inv.head k h) G d B).1;have:=inv.s1 k d h B;cases hd:o.dst with
        |none=>exact this
        |some d'=>
          rw[hd] at b7;simp only[Act.put];rw[BY (λe=>b7 (by rw[e]))];exact this
    · have h1:=inv.s2 t u hu (λk A=>a9 k (getD_set_true A))
      have h2:=a9 i Z;rw[b1] at h2;cases hd:o.dst with
      |none=>exact h1
      |some d'=>
        rw[hd] at h2;simp only[Act.put];rw[BY (λe=>h2 (by rw[e]))];exact h1
    · rcases O k m with rfl|h
      · exact hr
      · exact(old k h).2.2 (inv.rel k h)
    · refine hh.perm ?_
      have h1:=zeX (p:=λk=>(listed.setIfInBounds i true).getD k false) (q:=λk=>Nat.beq k i) (r:=λk=>listed.getD k false) (f:=λk=>zaM (it k) k J) n (λk _=>by
        by_cases e:i=k
        · subst e;rw[Z,W,zep];simp
        · rw[getD_set_ne false e];simp[za4.2 (λe'=>e e'.symm:k≠i)])
      rw[zm8 i n S,zeH (p:=λk=>listed.getD k false) (p':=λk=>listed.getD k false) (f:=λk=>zaM (it k) k J) (f':=λk=>zaM (it k) k ρ) n (λk _=>⟨rfl,λh=>(old k h).2.1⟩)] at h1;refine List.Perm.trans ?_ (B2 L0 h1.symm);rw[AL,AL];exact B1 _ Y.symm
  have done:∀v L' I,(match it i with
     | .inl v=>Det (v ρ) (zah (cl C i) (rsT it i) ρ L0)
     | .inr R=>λv L'=>∃Nw,L'=Nw++zah (cl C i) (rsT it i) ρ L0/\R ρ v Nw) v L'->Keep M w0 I->
      Holds w0.heap.size M (L'++fm (λk=>listed.getD k false && !(cl C i).contains k) (λk=>zaM (it k) k ρ) n) I->K (a.put o.dst v) I:=by
    intro v L' I hp T hh;have E:=V.1;have fin:=fin;cases hit:it i with
    |inl f=>
      rw[hit] at hp fin;obtain⟨e1,e2⟩:=hp;subst e1;subst e2;exact fin ρ _ I (λ_ _=>rfl) rfl trivial T hh
    |inr R=>
      rw[hit] at hp fin E;obtain⟨Nw,e,hR⟩:=hp;subst e;refine fin (λk=>if k=i then (v,Nw) else ρ k) v I (λk m=>by simp[m]) (by simp[zci]) ?_ T (by simpa [zaM] using hh);have hl:=E (λk=>if k=i then (v,Nw) else ρ k) ρ (λk m=>by
        have:k≠i:=λe=>b4 (e ▸ m);simp[this])
      simp only at hl;simp only[zdK,if_true];rw[hl];exact hR
  unfold wpOpIn;rw[U];simp only;rcases c2 with ⟨hw,c5⟩|⟨hw,hu⟩
  · rw[if_pos (zcr a6.agr hw)]
    exact c5 a w _ K Q a6 (λv I L' hp T hh=>done v L' I hp T hh)
  · rw[if_neg (by rw[zcr a6.agr hw];decide)]
    exact⟨λ_ _=>trivial,done undef _ w hu a6.keep a6.hold⟩
theorem zp1(hk:DOk ops n N C):∀(E q:Nat) (rest:List Oper) (listed:Array Bool) (a:Act) (w:World),E+q=ops.size->n<=q->listed.size=ops.size->(∀k,k<ops.size->listed.getD k false=Nat.blt k q)->
  (∀j,rest[j]?=ops[q+j]?)->wpListIn (FW ro) 0 P ops Q rest a w->wpAnyIn (FW ro) 0 P .any ops Q E listed a w
 |0,q,rest,listed,a,w,hf,hn,hs,hl,hr,h=>by
  have b0:rest= []:=by
   cases rest with
   |nil=>rfl
   |cons o r=>have:=hr 0;simp at this;have:=(Aa.1 this.symm).1;omega
  subst b0;refine⟨?_,h⟩;refine Dk.2 λi Z=>?_;obtain⟨W,o,H,_⟩:=mem_ready.1 Z;have J:i<ops.size:=(Aa.1 H).1;have:=hl i J;rw[zbB W] at this;have U:Nat.blt i q=true:=zaA.2 q_o;rw[U] at this;cases this
 |f+1,q,rest,listed,a,w,hf,hn,hs,hl,hr,h=>by
  have hq:q<ops.size:=q_o;have T:ops[q]?=some ops[q]:=Au hq;have m:q∈Region.ready .any ops listed:=mem_ready.2 ⟨by
   have:=hl q hq;rw[zbV.2 (A4 q)] at this;simp only[Ab] at this ⊢;rw[Au q_o] at this ⊢;simpa using this,_,T,λe O X=>by
   have hp:=hk.acyc q _ T e.on (zdh.2 ⟨e,O,X,rfl⟩);rw[hl _ q_o];exact zaA.2 hp⟩
  refine⟨λS=>(by rw[S] at m;cases m),λi Z=>?_⟩;obtain⟨W,o,H,B⟩:=mem_ready.1 Z;have J:i<ops.size:=(Aa.1 H).1;have I:=hl i J;rw[zbB W] at I;have b1:q<=i:=by
   rcases AH i q with G|G
   ·rw[zaA.2 G] at I;cases I
   ·exact G
  have Y:i=q:=by
   rcases AH q i with G|G
   ·exfalso;have hc:=hk.tail i o H q_o q G;have:=zkN hk (p:=λk=>Nat.blt k q) (λk K a6 a8 j V=>by
     have h2:=hk.acyc k K a8 j V;have:=zaA.1 a6;exact zaA.2 q_o) i o H (λj V=>by
     obtain⟨e,O,X,rfl⟩:=zdh.1 V;have U:=B e O X;have h4:=hk.acyc i o H e.on V;rw[hl _ q_o] at U;exact U) q hc
    have:=zaA.1 this;omega
   ·omega
  subst Y;obtain⟨K,r,rfl⟩:∃K r,rest=K::r:=by
   cases rest with
   |nil=>have:=hr 0;simp at this;omega
   |cons K r=>exact⟨K,r,rfl⟩
  have O:K=o:=by have:=hr 0;simp[H] at this;exact this
  subst O;have a9:∀j,r[j]?=ops[i+1+j]?:=λj=>by have:=hr (j+1);simpa [Az,CW 1 j] using this
  have A:∀a w,wpListIn (FW ro) 0 P ops Q r a w->wpAnyIn (FW ro) 0 P .any ops Q f (listed.setIfInBounds i true) a w:=λa w G=>
   zp1 hk f (i+1) r _ a w q_o q_o (by simpa using hs) (λk a7=>by
    by_cases e:i=k
    ·subst e;have:i<listed.size:=q_o;rw[zaA.2 (EP i)];simp[Ab,this]
    ·rw[getD_set_ne false e,hl k a7];rw[CR,zaA,zaA];omega) a9 G
  unfold wpOpIn;rw[H];simp only;unfold wpListIn at h;split
  ·rename_i hw;rw[if_pos hw] at h;exact Oper.wpIn_mono A h
  ·rename_i hw;rw[if_neg hw] at h;exact⟨h.1,A _ _ h.2⟩
theorem zgs{ts:List Nat}{ρ:Env}{L Y:List Res} :∀rs,zah ts rs ρ (L++Y)=zah ts rs ρ L++Y
 | []=>rfl
 |p::r=>by
  simp only[zah];cases ts.contains p.1
  ·simp only[cond_false];exact zgs r
  ·simp only[cond_true];rw[zgs r,AL]
theorem GpT.app{o:Oper}{g:Nat->Option Value}{L:List Res}{post:Value->List Res->Prop}(h:GpT P ro N w0 M ds ops o g L post)(Y:List Res):GpT P ro N w0 M ds ops o g (L++Y) (λv j=>∃q,j=q++Y/\post v q):=by
 rcases h with ⟨m,h⟩|⟨m,h⟩
 ·refine .inl ⟨m,λa w X next Q H E=>h a w (Y++X) next Q (by rw[<-AL];exact H) λv I j G B A=>E v I (j++Y) ⟨j,rfl,G⟩ B (by rw[AL];exact A)⟩
 ·exact .inr ⟨m,L,rfl,h⟩
theorem GpT.mono{o:Oper}{g:Nat->Option Value}{L:List Res}{post j:Value->List Res->Prop}(h:GpT P ro N w0 M ds ops o g L post)(A:∀v m,post v m->j v m):GpT P ro N w0 M ds ops o g L j:=
 h.imp (λ⟨q,h⟩=>⟨q,λa w X next Q E B=>h a w X next Q E λv H m G=>B v H m (A v m G)⟩) (λ⟨q,h⟩=>⟨q,A _ _ h⟩)
theorem Good.app{i:Nat}{o:Oper}(h:Good P ro N w0 M ds ops C fr L0 it i o)(Y:List Res):Good P ro N w0 M ds ops C fr (L0++Y) it i o:=by
 refine⟨h.1,λρ w=>?_⟩;have:=(h.2 ρ w).app Y;rw[zgs];refine this.mono λv A j=>?_;obtain⟨B,rfl,j⟩:=j;cases hi:it i with
 |inl f=>rw[hi] at j;exact⟨j.1,by rw[j.2]⟩
 |inr R=>rw[hi] at j;obtain⟨m,e,q⟩:=j;exact⟨m,by rw[e,AL],q⟩
theorem zxn{Ds:List Nat}(hk:DOk ops n N C)(hg:∀i o,i<n->ops[i]?=some o->Good P ro N w0 M ds ops C fr (L0++Ds.map dob) it i o)
    (H:∀ρ,za2 (List.range n) (rsT it n) ρ->SyL P ro N w0 M ds ops Q (ops.toList.drop n) (frT ops it fr ρ n) (zah (List.range n) (rsT it n) ρ L0)):
    ∀(q:Nat) (listed:Array Bool) (ρ:Env) (a:Act) (w:World),DInv ops n fr (L0++Ds.map dob) it N w0 M (Ds.map col++ds) listed ρ a w->unl (λk=>listed.getD k false) ops.size=q->wpAnyIn (FW ro) 0 P .any ops Q q listed a w:=by
  intro q
  induction q with
  |zero=>
    intro listed ρ a w inv hu;have G:=zjx _ hu;have hn:n=ops.size:=by
      rcases AH n ops.size with h|h
      · have:=inv.head n (G n h);omega
      · have:=hk.le;omega
    exact tailAt inv (λk b1=>G k q_o) 0 q_o
  |succ f ih=>
    intro listed ρ a w inv hu;by_cases hh:∀k,k<n->listed.getD k false=true
    · have b2:unl (λk=>listed.getD k false) ops.size+n=ops.size:=by
        have key:∀m,n<=m->m<=ops.size->unl (λk=>listed.getD k false) m+n=m:=by
          intro m
          induction m with
          | zero => intro T _; obtain rfl : n = 0 := q_o
                    rfl
          |succ m ihm=>
            intro T h2;by_cases e:n=m+1
            · subst e
              have hz:∀j,j<=m+1->unl (λk=>listed.getD k false) j=0:=by
                intro j
                induction j with
                |zero=>intro _;rfl
                |succ j ihj=>intro hj;simp only[unl];rw[hh j q_o,ihj q_o];rfl
              rw[hz _ (A4 _)];omega
            · simp only[unl]
              have:listed.getD m false=false:=by
                cases B:listed.getD m false
                · rfl
                · have:=inv.head m B;omega
              rw[this];have:=ihm q_o q_o;simp only[cond_false];omega
        exact key _ hk.le (A4 _)
      exact tailAt inv hh (f+1) q_o
    · refine⟨λK=>?_,λi hi=>?_⟩
      · exfalso
        -- the least head that has not been carried out could be
        apply hh;intro k
        induction k using Nat.strongRecOn with
        |_ k b0=>
          intro A;cases B:listed.getD k false with
          |true=>rfl
          |false=>
            exfalso;have I:k<ops.size:=by have:=hk.le;omega
            have O:ops[k]?=some ops[k]:=Au I;have:k∈Region.ready .any ops listed:=mem_ready.2 ⟨by
              simp only[Ab] at B ⊢;rw[Au (by rw[inv.size];exact I)] at B ⊢;simpa using B,_,O,λe W U=>by
              have hp:=hk.acyc k _ O e.on (zdh.2 ⟨e,W,U,rfl⟩);exact b0 e.on hp q_o⟩
            rw[K] at this;cases this
      · obtain⟨T,o,ho,E⟩:=mem_ready.1 hi
        have a7:=zbB T;have J:i<ops.size:=(Aa.1 ho).1;have Y:i<n:=by
          rcases AH i n with h|h
          · exact h
          · exfalso
            apply hh;intro k A;have V:=zkN hk (p:=λk=>listed.getD k false) inv.down i o ho (λj hj=>by
              obtain⟨e,W,B,rfl⟩:=zdh.1 hj;exact E e W B)
            exact V k (hk.tail i o ho h k q_o)
        refine zwX hk hg inv hi Y (λρ' a' w' S=>ih _ ρ' a' w' S ?_);have:=zkG (p:=λk=>listed.getD k false) (p':=λk=>(listed.setIfInBounds i true).getD k false) (i:=i) a7 (by
          have:i<listed.size:=by rw[inv.size];exact J
          simp[Ab,this]) (λk a6=>getD_set_ne false (λe=>a6 e.symm)) ops.size J
        omega
where
  tailAt {listed:Array Bool}{ρ:Env}{a:Act}{w:World}(inv:DInv ops n fr (L0++Ds.map dob) it N w0 M (Ds.map col++ds) listed ρ a w) (hh:∀k,k<n->listed.getD k false=true) (q:Nat) (hf:q+n=ops.size):wpAnyIn (FW ro) 0 P .any ops Q q listed a w:=by
    refine zp1 hk q n (ops.toList.drop n) listed a w hf (A4 _) inv.size (λk _=>?_) (λj=>by simp) ?_
    · cases B:listed.getD k false with
      |true=>exact(zaA.2 (inv.head k B)).symm
      |false=>
        rcases AH k n with h|h
        · rw[hh k h] at B;cases B
        · exact(zbV.2 h).symm
    · refine H ρ (zga n λk A _=>inv.rel k (hh k A)) a w ⟨Ds,inv.defs,inv.tsize,λt v hv=>?_,inv.keep,inv.hold.perm ?_⟩
      · rcases ziP n hv with ⟨k,A,Z,rfl⟩|⟨a9,X⟩
        · exact inv.s1 k t (hh k A) Z
        · exact inv.s2 t v X (λk a8=>a9 k (inv.head k a8))
      · rw[<-zgs]
        refine List.Perm.trans ?_ (zdF (it:=it) (ts:=List.range n) (ρ:=ρ) (L:=L0++Ds.map dob) n).symm;rw[zeH (p:=λk=>listed.getD k false) (p':=λk=>(List.range n).contains k) n (λk A=>⟨by rw[hh k A];symm;simpa using A,λ_=>rfl⟩)]
theorem z5{id:Nat}{l:List Oper}(n:Nat)(C:List (List Nat))(hm:P.follows .mixedOrders=true)(G:zkx l.toArray n N C=true)
  (h:DH P ro N w0 M ds l.toArray Q C L0 n 0 l (λ_=>fr) []):Sy P ro N w0 M ds (.region id l.toArray true) Q fr L0:=by
 rintro a w ⟨Ds,H,B⟩;have U:=zgP G;obtain⟨it,_,O,S⟩:=DH.items (P:=P) (ro:=ro) (N:=N) (w0:=w0) (M:=M) (ds:=ds) (ops:=l.toArray) (Q:=Q) (C:=C) (fr:=fr) (L0:=L0) n 0 l (λ_=> .inl λ_=>undef) (λj=>by simp) h;simp only[AR] at O S;refine wpIn_region_any hm ?_;have T:∀i o,i<n->l.toArray[i]?=some o->Good P ro N w0 M ds l.toArray C fr L0 it i o:=λi o J K=>by
  obtain⟨X,E,I⟩:=O i (AE _) J;rw[K] at E;cases E;exact I
 have A:∀k,(Array.replicate l.toArray.size false).getD k false=false:=λk=>by
  simp only[Ab,DR];split <;> rfl
 have no:∀k,(Array.replicate l.toArray.size false).getD k false=true->False:=λk h=>by rw[A] at h;cases h
 refine zxn (Ds:=Ds) U (λi o J K=>(T i o J K).app _) (by simpa using S) _ _ (λ_=>(undef,[])) a _ ⟨by simp,λk q=>(no k q).elim,λk o q=>(no k q).elim,B.size,H,λk d q=>(no k q).elim,
  λt v W _=>B.agr t v W,λk q=>(no k q).elim,⟨B.keep.os,B.keep.tape,B.keep.output,B.keep.size,B.keep.block⟩,?_⟩ ?_
 ·rw[zkH n (λk _=>A k),B3];exact⟨λr V=>GZ (B.hold.all r V) (λ_ _=>rfl),B.hold.apart,B.hold.mine⟩
 ·have:∀m,unl (λk=>(Array.replicate l.toArray.size false).getD k false) m=m:=by
   intro m
   induction m with
   |zero=>rfl
   |succ m ih=>simp only[unl];rw[A,ih];simp;omega
  exact this _
variable {k i d:Nat}{o:Oper}{rest:List Oper}{F:Env->Fr}{rs:List (Nat×(Env->Value->List Res->Prop))}
theorem zxb{u:Value}(m:∀ρ,za2 (cl C i) rs ρ->OpT P ro N w0 M ds o (only (o.looksAt ops) (get (F ρ))) (zah (cl C i) rs ρ L0) (Det u (zah (cl C i) rs ρ L0)))(q:∀ρ,zar ops o (only (o.looksAt ops) (get (F ρ)))=some true)(j:o.dst=some d)
  (h:DH P ro N w0 M ds ops Q C L0 k (i+1) rest (λρ=>(d,u)::F ρ) rs):DH P ro N w0 M ds ops Q C L0 (k+1) i (o::rest) F rs:=
 .inl ⟨λ_=>u,λ_ _ _=>rfl,λρ w=> .inl ⟨q ρ,m ρ w⟩,by rw[j];exact h⟩
theorem dc{u:Value}(m:∀ρ,za2 (cl C i) rs ρ->OpT P ro N w0 M ds o (only (o.looksAt ops) (get (F ρ))) (zah (cl C i) rs ρ L0) (Det u (zah (cl C i) rs ρ L0)))(q:∀ρ,zar ops o (only (o.looksAt ops) (get (F ρ)))=some true:=by exact λ_=>rfl)(j:o.dst=some d:=by exact rfl)
  (k:DH P ro N w0 M ds ops Q C L0 n (i+1) rest (λρ=>(d,u)::F ρ) rs):DH P ro N w0 M ds ops Q C L0 (n+1) i (o::rest) F rs:=zxb m q j k
theorem zdG(m:∀ρ,zar ops o (only (o.looksAt ops) (get (F ρ)))=some false)(j:o.dst=some d)
  (h:DH P ro N w0 M ds ops Q C L0 k (i+1) rest (λρ=>(d,undef)::F ρ) rs):DH P ro N w0 M ds ops Q C L0 (k+1) i (o::rest) F rs:=
 .inl ⟨λ_=>undef,λ_ _ _=>rfl,λρ _=> .inr ⟨m ρ,rfl,rfl⟩,by rw[j];exact h⟩
theorem zam{fr':Fr}(h:SyL P ro N w0 M ds ops Q rest fr' L0):DH P ro N w0 M ds ops Q C L0 0 i rest (λ_=>fr') []:=λ_ _=>h
variable {g:Nat->Option Value}{L:List Res}
theorem zbe(j b:Nat):(j:Int)+((OfNat.ofNat b:Nat):Int)=((j+b:Nat):Int):=rfl
def zpp:Op->Bool
 | .defer _=>false
 |_=>true
theorem OpT.run{post:Value->List Res->Prop}(hk:zpp o.op=true)(h:∀a w X,St N w0 M ds g (L++X) a w->∃x v j m,(execOp a.eval o).run P w= .ok x j/\(x= .value v\/(x= .skip/\v=undef))/\post v m/\Keep M w0 j/\Holds w0.heap.size M (m++X) j):OpT P ro N w0 M ds o g L post:=by
 intro a w X next Q I B
 obtain⟨x,v,j,m,H,J,E,q,A⟩:=h a w X I;refine⟨λ_ _=>trivial,?_⟩;rw[Oper.semAt_plain (FW ro) _ _ (λc G=>by rw[G] at hk;cases hk),H];rcases J with rfl|⟨rfl,rfl⟩
 ·exact B v j m E q A
 ·exact B undef j m E q A
def FK:=@OpT.run
theorem OpT.still{v:Value}(hk:zpp o.op=true)(h:∀a w X,St N w0 M ds g (L++X) a w->(execOp a.eval o).run P w= .ok (.value v) w):OpT P ro N w0 M ds o g L (Det v L):=
 FK hk λa w X j=>⟨_,v,w,L,h a w X j,.inl rfl,⟨rfl,rfl⟩,j.keep,j.hold⟩
def F7:=@OpT.still
theorem OpT.mono{post j:Value->List Res->Prop}(h:OpT P ro N w0 M ds o g L post)(B:∀v m,post v m->j v m):OpT P ro N w0 M ds o g L j:=
 λa w X next Q E A=>h a w X next Q E λv G m q=>A v G m (B v m q)
def FF:=@OpT.mono
theorem zao{x:Operand}{v:Value}(j:o.op= .move x:=by exact rfl)(hx:ev g x=some v:=by exact rfl):OpT P ro N w0 M ds o g L (Det v L):=
 F7 (by rw[j];rfl) λa w X m=>by simp only[execOp,j,m.agr.eval hx];rfl
theorem zbM{x:Operand}{v:Value}(j:o.op= .assign x:=by exact rfl)(hx:ev g x=some v:=by exact rfl):OpT P ro N w0 M ds o g L (Det v L):=
 F7 (by rw[j];rfl) λa w X m=>by simp only[execOp,j,m.agr.eval hx];rfl
theorem zg3{c x y:Operand}{b:Bool}{v:Value}(m:o.op= .pick c x y:=by exact rfl)(hc:ev g c=some (.bool b):=by exact rfl)(hv:(bif b then ev g x else ev g y)=some v:=by exact rfl):OpT P ro N w0 M ds o g L (Det v L):=
 F7 (by rw[m];rfl) λa w X j=>by
  cases b
  ·simp only[cond_false] at hv;simp[execOp,m,j.agr.eval hc,j.agr.eval hv,asBool]
  ·simp only[cond_true] at hv;simp[execOp,m,j.agr.eval hc,j.agr.eval hv,asBool]
end
open Go
variable {P:Program}{ro:Option Nat}{N:Nat}{w0:World}{M:Nat->Prop}{ds:List Deferred}{g:Nat->Option Value}{L:List Res}{o:Oper}{t t':TypeId}{x y:Operand}{k:IntKind}{a b c:Int}{r:Bool}
theorem zA(j:o.op= .binOp .add t x y t':=by exact rfl)(hx:ev g x=some (.int k a):=by exact rfl)(q:ev g y=some (.int k b):=by exact rfl)(hr:k.wrap (a+b)=c:=by first|exact IntWalk.i64_in _ q_o|exact IntWalk.u64_in _ q_o|exact IntWalk.u8_in _ q_o|exact IntWalk.u32_in _ q_o|rfl|fail):OpT P ro N w0 M ds o g L (Det (.int k c) L):=
 F7 (by rw[j];rfl) λa w X m=>by simp[execOp,j,m.agr.eval hx,m.agr.eval q,eqGuard,binOp,Op.intArith,hr]
theorem zH(j:o.op= .binOp .sub t x y t':=by exact rfl)(hx:ev g x=some (.int k a):=by exact rfl)(q:ev g y=some (.int k b):=by exact rfl)(hr:k.wrap (a-b)=c:=by first|exact IntWalk.i64_in _ q_o|exact IntWalk.u64_in _ q_o|exact IntWalk.u8_in _ q_o|exact IntWalk.u32_in _ q_o|rfl|fail):OpT P ro N w0 M ds o g L (Det (.int k c) L):=
 F7 (by rw[j];rfl) λa w X m=>by simp[execOp,j,m.agr.eval hx,m.agr.eval q,eqGuard,binOp,Op.intArith,hr]
theorem zas(j:o.op= .binOp .mul t x y t':=by exact rfl)(hx:ev g x=some (.int k a):=by exact rfl)(q:ev g y=some (.int k b):=by exact rfl)(hr:k.wrap (a*b)=c:=by first|exact IntWalk.i64_in _ q_o|exact IntWalk.u64_in _ q_o|exact IntWalk.u8_in _ q_o|exact IntWalk.u32_in _ q_o|rfl|fail):OpT P ro N w0 M ds o g L (Det (.int k c) L):=
 F7 (by rw[j];rfl) λa w X m=>by simp[execOp,j,m.agr.eval hx,m.agr.eval q,eqGuard,binOp,Op.intArith,hr]
theorem zbb(j:o.op= .binOp .quo t x y t':=by exact rfl)(hx:ev g x=some (.int k a):=by exact rfl)(q:ev g y=some (.int k b):=by exact rfl)(hb:b≠0:=by first|decide|omega)(hr:k.wrap (a.tdiv b)=c:=by first|exact IntWalk.i64_quo _ _ q_o|exact IntWalk.u64_quo _ _ q_o|rfl):OpT P ro N w0 M ds o g L (Det (.int k c) L):=
 F7 (by rw[j];rfl) λa w X m=>by simp[execOp,j,m.agr.eval hx,m.agr.eval q,eqGuard,binOp,Op.intDiv,hr,hb]
theorem zaN(j:o.op= .binOp .rem t x y t':=by exact rfl)(hx:ev g x=some (.int k a):=by exact rfl)(q:ev g y=some (.int k b):=by exact rfl)(hb:b≠0:=by first|decide|omega)(hr:a.tmod b=c:=by first|exact IntWalk.rem_in _ _ q_o|rfl):OpT P ro N w0 M ds o g L (Det (.int k c) L):=
 F7 (by rw[j];rfl) λa w X m=>by simp[execOp,j,m.agr.eval hx,m.agr.eval q,eqGuard,binOp,Op.intDiv,hr,hb]
theorem zfE(j:o.op= .binOp .and t x y t':=by exact rfl)(hx:ev g x=some (.int k a):=by exact rfl)(q:ev g y=some (.int k b):=by exact rfl)(hr:bits .and k a b=c:=by exact rfl):OpT P ro N w0 M ds o g L (Det (.int k c) L):=
 F7 (by rw[j];rfl) λa w X m=>by subst hr;simp[execOp,j,m.agr.eval hx,m.agr.eval q,eqGuard,binOp,Op.intBits,bits]
theorem zt2(j:o.op= .binOp .or t x y t':=by exact rfl)(hx:ev g x=some (.int k a):=by exact rfl)(q:ev g y=some (.int k b):=by exact rfl)(hr:bits .or k a b=c:=by exact rfl):OpT P ro N w0 M ds o g L (Det (.int k c) L):=
 F7 (by rw[j];rfl) λa w X m=>by subst hr;simp[execOp,j,m.agr.eval hx,m.agr.eval q,eqGuard,binOp,Op.intBits,bits]
theorem zdt(j:o.op= .binOp .xor t x y t':=by exact rfl)(hx:ev g x=some (.int k a):=by exact rfl)(q:ev g y=some (.int k b):=by exact rfl)(hr:bits .xor k a b=c:=by exact rfl):OpT P ro N w0 M ds o g L (Det (.int k c) L):=
 F7 (by rw[j];rfl) λa w X m=>by subst hr;simp[execOp,j,m.agr.eval hx,m.agr.eval q,eqGuard,binOp,Op.intBits,bits]
theorem zrp(j:o.op= .binOp .andNot t x y t':=by exact rfl)(hx:ev g x=some (.int k a):=by exact rfl)(q:ev g y=some (.int k b):=by exact rfl)(hr:bits .andNot k a b=c:=by exact rfl):OpT P ro N w0 M ds o g L (Det (.int k c) L):=
 F7 (by rw[j];rfl) λa w X m=>by subst hr;simp[execOp,j,m.agr.eval hx,m.agr.eval q,eqGuard,binOp,Op.intBits,bits]
theorem zgb{q:IntKind}(j:o.op= .binOp .shl t x y t':=by exact rfl)(hx:ev g x=some (.int k a):=by exact rfl)(A:ev g y=some (.int q b):=by exact rfl)(hr:Op.shift .shl k a q b=pure (.int k c)):OpT P ro N w0 M ds o g L (Det (.int k c) L):=
 F7 (by rw[j];rfl) λa w X m=>by simp[execOp,j,m.agr.eval hx,m.agr.eval A,eqGuard,binOp,hr]
theorem zbp{q:IntKind}(j:o.op= .binOp .shr t x y t':=by exact rfl)(hx:ev g x=some (.int k a):=by exact rfl)(A:ev g y=some (.int q b):=by exact rfl)(hr:Op.shift .shr k a q b=pure (.int k c)):OpT P ro N w0 M ds o g L (Det (.int k c) L):=
 F7 (by rw[j];rfl) λa w X m=>by simp[execOp,j,m.agr.eval hx,m.agr.eval A,eqGuard,binOp,hr]
theorem zl(j:o.op= .binOp .lss t x y t':=by exact rfl)(hx:ev g x=some (.int k a):=by exact rfl)(q:ev g y=some (.int k b):=by exact rfl)(hr:decide (a<b)=r:=by first|exact decide_eq_true q_o|exact decide_eq_false q_o|rfl|fail):OpT P ro N w0 M ds o g L (Det (.bool r) L):=
 F7 (by rw[j];rfl) λa w X m=>by simp[execOp,j,m.agr.eval hx,m.agr.eval q,eqGuard,binOp,Op.intCmp,hr]
theorem zax(j:o.op= .binOp .leq t x y t':=by exact rfl)(hx:ev g x=some (.int k a):=by exact rfl)(q:ev g y=some (.int k b):=by exact rfl)(hr:decide (a<=b)=r:=by first|exact decide_eq_true q_o|exact decide_eq_false q_o|rfl|fail):OpT P ro N w0 M ds o g L (Det (.bool r) L):=
 F7 (by rw[j];rfl) λa w X m=>by simp[execOp,j,m.agr.eval hx,m.agr.eval q,eqGuard,binOp,Op.intCmp,hr]
theorem zF(j:o.op= .binOp .gtr t x y t':=by exact rfl)(hx:ev g x=some (.int k a):=by exact rfl)(q:ev g y=some (.int k b):=by exact rfl)(hr:decide (b<a)=r:=by first|exact decide_eq_true q_o|exact decide_eq_false q_o|rfl|fail):OpT P ro N w0 M ds o g L (Det (.bool r) L):=
 F7 (by rw[j];rfl) λa w X m=>by simp[execOp,j,m.agr.eval hx,m.agr.eval q,eqGuard,binOp,Op.intCmp,hr]
theorem zP(j:o.op= .binOp .geq t x y t':=by exact rfl)(hx:ev g x=some (.int k a):=by exact rfl)(q:ev g y=some (.int k b):=by exact rfl)(hr:decide (b<=a)=r:=by first|exact decide_eq_true q_o|exact decide_eq_false q_o|rfl|fail):OpT P ro N w0 M ds o g L (Det (.bool r) L):=
 F7 (by rw[j];rfl) λa w X m=>by simp[execOp,j,m.agr.eval hx,m.agr.eval q,eqGuard,binOp,Op.intCmp,hr]
theorem zaa(j:o.op= .binOp .eql t x y t':=by exact rfl)(hx:ev g x=some (.int k a):=by exact rfl)(q:ev g y=some (.int k b):=by exact rfl)(hr:decide (a=b)=r:=by first|exact decide_eq_true q_o|exact decide_eq_false q_o|rfl|fail):OpT P ro N w0 M ds o g L (Det (.bool r) L):=
 F7 (by rw[j];rfl) λA w X m=>by
  have:(a==b)=r:=by rw[<-hr];rfl
  simp[execOp,j,m.agr.eval hx,m.agr.eval q,eqGuard,binOp,Op.intCmp,this]
theorem zaC(j:o.op= .binOp .neq t x y t':=by exact rfl)(hx:ev g x=some (.int k a):=by exact rfl)(q:ev g y=some (.int k b):=by exact rfl)(hr:decide (a≠b)=r:=by first|exact decide_eq_true q_o|exact decide_eq_false q_o|rfl|fail):OpT P ro N w0 M ds o g L (Det (.bool r) L):=
 F7 (by rw[j];rfl) λA w X m=>by
  have:(a != b)=r:=by rw[<-hr];by_cases h:a=b <;> simp[h]
  simp[execOp,j,m.agr.eval hx,m.agr.eval q,eqGuard,binOp,Op.intCmp,this]
theorem zal{d:TypeDesc}(q:o.op= .convert t t' x:=by exact rfl)(hx:ev g x=some (.int k a):=by exact rfl)(j:P.underlying t=some d:=by exact tyU rfl){m:IntKind}(A:P.underlying t'=some (.int m):=by exact tyI rfl rfl)(hr:m.wrap a=c:=by first|exact IntWalk.i64_in _ q_o|exact IntWalk.u64_in _ q_o|exact IntWalk.u8_in _ q_o|exact IntWalk.u32_in _ q_o|rfl|fail):OpT P ro N w0 M ds o g L (Det (.int m c) L):=
 F7 (by rw[q];rfl) λE w X B=>by
  simp[execOp,q,B.agr.eval hx,convert,run_underlying j,run_underlying A,Conv.intToInt,hr]
theorem zqL(j:o.op= .unOp .neg t x:=by exact rfl)(hx:ev g x=some (.int k a):=by exact rfl)(hr:k.wrap (0-a)=c:=by first|exact IntWalk.i64_in _ q_o|exact IntWalk.u64_in _ q_o|exact IntWalk.u8_in _ q_o|exact IntWalk.u32_in _ q_o|rfl|fail):OpT P ro N w0 M ds o g L (Det (.int k c) L):=
 F7 (by rw[j];rfl) λa w X m=>by simp only[Int.zero_sub] at hr;simp[execOp,j,m.agr.eval hx,Op.unary,Op.intArith,hr]
theorem zmS(j:o.op= .unOp .not t x:=by exact rfl)(hx:ev g x=some (.bool r):=by exact rfl):OpT P ro N w0 M ds o g L (Det (.bool (!r)) L):=
 F7 (by rw[j];rfl) λa w X m=>by simp[execOp,j,m.agr.eval hx,Op.unary]
def zdN:TypeDesc->TypeDesc
 | .struct _=> .struct #[]
 | .interface _=> .interface #[]
 | .func _ _ _=> .func #[] #[] false
 |d=>d
structure Ty where
 desc:TypeDesc
 size:Nat
 bytes:Nat
 flds:List (Nat×Nat)      -- a field's offset, its number of cells
def zac(P:Program)(t:TypeId):Option Ty:=
 match P.underlying t,P.info? t with
 |some d,some i=>some ⟨zdN d,i.size,i.bytes,match d with
  | .struct fs=>fs.toList.map λf=>(f.offset,P.cellsOf f.type)
  |_=>[]⟩
 |_,_=>none
def nth{α:Type} :List α->Nat->Option α
 | [],_=>none
 |x::_,0=>some x
 |_::l,n+1=>nth l n
theorem zg5{α:Type} :∀(l:List α) (n:Nat),nth l n=l[n]?
 | [],_=>by simp[nth]
 |_::_,0=>by simp[nth]
 |_::l,n+1=>by simp[nth,zg5 l n]
theorem zsY{P:Program}{j:List Ty}(h:(List.range j.length).map (zac P)=j.map some){t:Nat}{y:Ty}(q:nth j t=some y):zac P t=some y:=by
 rw[zg5] at q;have m:t<j.length:=(AQ.1 q).1;have:=congrArg (λl=>l[t]?) h;simp only[AY,E4 m,C3,q,Bo] at this;exact this
theorem zU{P:Program}{t:TypeId}{y:Ty}(h:zac P t=some y):∃d i,P.underlying t=some d/\P.info? t=some i/\zdN d=y.desc/\i.size=y.size/\i.bytes=y.bytes/\
  y.flds=(match d with| .struct fs=>fs.toList.map λf=>(f.offset,P.cellsOf f.type)|_=>[]):=by
 unfold zac at h;split at h
 ·rename_i d i j m;cases h;exact⟨d,i,j,m,rfl,rfl,rfl,rfl⟩
 ·cases h
theorem zmM(d:TypeDesc):(zdN d).isRow=d.isRow:=by cases d <;> rfl
theorem za6{d:TypeDesc}{e:TypeId}(h:zdN d= .slice e):d= .slice e:=by cases d <;> simp_all[zdN]
theorem zcN{d:TypeDesc}{n:Nat}{e:TypeId}(h:zdN d= .array n e):d= .array n e:=by cases d <;> simp_all[zdN]
theorem zjO{d:TypeDesc}{k:IntKind}(h:zdN d= .int k):d= .int k:=by cases d <;> simp_all[zdN]
theorem zfh{d:TypeDesc}(h:zdN d= .string):d= .string:=by cases d <;> simp_all[zdN]
theorem zlK{d:TypeDesc}(h:zdN d= .bool):d= .bool:=by cases d <;> simp_all[zdN]
theorem zfk{d:TypeDesc}(h:zdN d= .struct #[]):∃j,d= .struct j:=by cases d <;> simp_all[zdN]
theorem zii{t:TypeId}{y:Ty}(q:zac P t=some y)(hr:y.desc.isRow=false)(w:World):(isAgg t).run P w= .ok false w:=by
 obtain⟨d,i,j,A,m,_⟩:=zU q;rw[<-m,zmM] at hr;unfold isAgg;rw[Sem.run_bind,run_underlying j w];cases d <;> simp_all
theorem zbI{t:TypeId}{y:Ty}(m:zac P t=some y)(w:World):(sizeOf t).run P w= .ok y.size w:=by
 obtain⟨d,i,A,j,B,q,_⟩:=zU m;simp[sizeOf,typeInfo,j,q]
theorem zgg{t:TypeId}{y:Ty}(j:zac P t=some y)(hr:y.desc.isRow=false)(w:World)(a:Addr){v:Value}(hc:w.cell? a=some v):(Instr.loadAt t (.pointer (some a))).run P w= .ok v w:=by
 simp only[Instr.loadAt,Instr.sureAddr,Sem.run_bind,Sem.run_pure,Result.andThen_ok,loadVar,zii j hr];simp[load,Sem.run,hc]
theorem zlU{t:TypeId}{y:Ty}(q:zac P t=some y)(hz:y.size=1)(w:World)(a:Addr){v u:Value}(hc:w.cell? a=some u)(m:w.frozen? a=false)(h1:v.oneCell'=true):(Instr.storeAt t (.pointer (some a)) v).run P w= .ok () (w.setCell a v):=by
 have A:v.cells= #[v]:=by cases v <;> first|rfl|(simp[Value.oneCell'] at h1)
 have j:a.add 0=a:=by simp[Addr.add]
 simp only[Instr.storeAt,Instr.sureAddr,Sem.run_bind,Sem.run_pure,Result.andThen_ok,storeVar,A,zbI q,hz];cases v <;> first
  |(simp[Value.oneCell'] at h1;done)
  |simp[storeCells,store,Sem.run,j,hc,m]
theorem zeR{w:World}{b T:Nat}{C:List Value}(h:(FD b T C).holds w)(o:Nat):w.cell? ⟨b,o,none⟩=C[o]?:=by
 have h:w.heap[b]?=some (.cells C.toArray T (0,0)):=h;simp[World.cell?,h]
theorem zmY{w:World}{b T:Nat}{C:List Value}(h:(FD b T C).holds w)(o:Nat):w.frozen? ⟨b,o,none⟩=false:=by
 have h:w.heap[b]?=some (.cells C.toArray T (0,0)):=h;simp[World.frozen?,h]
theorem zoO{w:World}{b T:Nat}{C:List Value}(h:(FD b T C).holds w)(o:Nat)(v:Value):(FD b T (C.set o v)).holds (w.setCell ⟨b,o,none⟩ v):=by
 have h:w.heap[b]?=some (.cells C.toArray T (0,0)):=h;show(w.setCell ⟨b,o,none⟩ v).heap[b]?=_;simp[World.setCell,Cv,h]
def zaz(C:List Value)(o:Nat)(l:List Value):List Value:=C.take o++l++C.drop (o+l.length)
theorem zex{b T:Nat} :∀(l:List Value) (C:List Value) (o:Nat) (w:World),(FD b T C).holds w->o+l.length<=C.length->(FD b T (zaz C o l)).holds (w.setCells b o l)
 | [],C,o,w,h,_=>by simpa [zaz,World.setCells] using h
 |x::l,C,o,w,h,hl=>by
  simp only[Ac] at hl;have:=zex l (C.set o x) (o+1) _ (zoO h o x) (by rw[AI];omega);have e:zaz (C.set o x) (o+1) l=zaz C o (x::l):=by
   unfold zaz;rw[Aj (by rw[AI];omega),List.getElem_set_self,DL (A4 o),List.drop_set_of_lt q_o];simp[Az,CW 1]
  rw[e] at this;exact this
theorem Keep.setCells(b:Nat):∀(l:List Value) (o:Nat) (w:World),Keep (· =b) w (w.setCells b o l)
 | [],_,w=>G8 _ w
 |x::l,o,w=>(Fq w ⟨b,o,none⟩ x).trans (Keep.setCells b l (o+1) _) (λ_ h=> .inr h)
def Fa:=@Keep.setCells
theorem St.blk{a:Act}{w:World}{X:List Res}(h:St N w0 M ds g (L++X) a w){r:Res}(hr:Has L r):r.holds w:=h.hold.has (Has.append hr)
theorem St.old{a:Act}{w:World}{X:List Res}(h:St N w0 M ds g (L++X) a w){j:Addr}{v:Value}(hv:w0.cell? j=some v)(hn:¬M j.block):w.cell? j=some v:=h.keep.cell hv hn
theorem St.oldRange{a:Act}{w:World}{X:List Res}(h:St N w0 M ds g (L++X) a w){b off:Nat}{cs:List Value}(hv:w0.rangeAt b off cs)(hn:¬M b):w.rangeAt b off cs:=
 λj v m=>h.old (hv j v m) hn
def Seg(C:List Value)(off:Nat)(B:List Value):Prop:=∀j v,B[j]?=some v->C[off+j]?=some v
theorem Seg.all{C:List Value} :Seg C 0 C:=λj v h=>by rw[AR];exact h
def F0:=@Seg.all
theorem Seg.mid{A B D:List Value} :Seg (A++B++D) A.length B:=λj v h=>by
 have m:j<B.length:=(AQ.1 h).1;rw[AL,BA q_o,Aq q_o,Bp];exact h
theorem Seg.at{C B:List Value}{off:Nat}(h:(C.drop off).take B.length=B):Seg C off B:=λj v m=>by
 have q:j<B.length:=(AQ.1 m).1;rw[<-h,List.getElem?_take_of_lt q,Be] at m;exact m
def FG:=@Seg.at
theorem zp{w:World}{b T:Nat}{C B:List Value}{off:Nat}(h:(FD b T C).holds w)(q:Seg C off B):w.rangeAt b off B:=λj v m=>by rw[zeR h];exact q j v m
theorem zie{w:World}{b T:Nat}{C:List Value}{off n:Nat}(h:(FD b T C).holds w)(q:off+n<=C.length):w.there b off n:=λj m=>
 ⟨by rw[zeR h,A1 q_o];rfl,zmY h _⟩
def Reads(w0:World)(M:Nat->Prop)(L:List Res)(b off:Nat)(B:List Value):Prop:=∀w X,Keep M w0 w->Holds w0.heap.size M (L++X) w->w.rangeAt b off B
theorem Reads.blk{b off T:Nat}{C B:List Value}(hL:Has L (.blk b T C))(m:Seg C off B):Reads w0 M L b off B:=λ_ _ _ j=>zp (j.has (F5 hL)) m
def Fb:=@Reads.blk
def SlA(w:World)(a:Option Addr)(B:List Value):Prop:=B= []\/∃b off,a=some ⟨b,off,none⟩/\w.rangeAt b off B
def Rd(w0:World)(M:Nat->Prop)(L:List Res)(a:Option Addr)(B:List Value):Prop:=∀w X,Keep M w0 w->Holds w0.heap.size M (L++X) w->SlA w a B
theorem SlA.drop{w:World}{a:Option Addr}{B:List Value}(h:SlA w a B)(k:Nat):SlA w (a.map (·.add k)) (B.drop k):=by
 rcases h with rfl|⟨b,o,rfl,q⟩
 ·exact .inl q_p
 ·refine .inr ⟨b,o+k,by simp[Addr.add_mid],λj v m=>?_⟩;rw[Be] at m;rw[Az];exact q _ v m
theorem SlA.take{w:World}{a:Option Addr}{B:List Value}(h:SlA w a B)(k:Nat):SlA w a (B.take k):=by
 rcases h with rfl|⟨b,o,rfl,q⟩
 ·exact .inl q_p
 ·refine .inr ⟨b,o,rfl,λj v m=>?_⟩;rw[Bt] at m;split at m
  ·exact q j v m
  ·cases m
theorem SlA.keep{M':Nat->Prop}{w w':World}{a:Option Addr}{B:List Value}(h:SlA w a B)(hk:Keep M' w w')(hn:∀m,a=some m->¬M' m.block):SlA w' a B:=by
 rcases h with rfl|⟨b,o,rfl,A⟩
 ·exact .inl rfl
 ·exact .inr ⟨b,o,rfl,λj v q=>hk.cell (A j v q) (hn ⟨b,o,none⟩ rfl)⟩
theorem Rd.nil{a:Option Addr} :Rd w0 M L a []:=λ_ _ _ _=> .inl rfl
def G9:=@Rd.nil
theorem Rd.of{b off:Nat}{B:List Value}(h:Reads w0 M L b off B):Rd w0 M L (some ⟨b,off,none⟩) B:=λw X m j=> .inr ⟨b,off,rfl,h w X m j⟩
theorem Rd.old{a:Option Addr}{B:List Value}(h:SlA w0 a B)(hn:∀j,a=some j->¬M j.block):Rd w0 M L a B:=λ_ _ m _=>h.keep m hn
def FZ:=@Rd.old
theorem Rd.row{E n m c:Nat}{a:Option Addr}{xs:List Value}(hL:Has L (.row (.slice a m c) E 1 n xs)):Rd w0 M L a xs:=λw X _ I=>by
 have q:w.ownsRow 0 E 1 (.slice a m c) n xs:=I.has (F5 hL);obtain⟨O,⟨_,S⟩|⟨b,K,B,J,_,G,T,U,V,H⟩⟩:=q
 ·exact .inl (BF.1 q_o)
 ·cases J;refine .inr ⟨b,0,rfl,λj v A=>?_⟩;rw[<-H,Bt] at A;split at A
  ·simp only[World.cell?,G,AR];simpa using A
  ·cases A
theorem zM{t:TypeId}{x:Operand}{b off T:Nat}{C:List Value}{v:Value}{y:Ty}(j:o.op= .load t x:=by exact rfl)(hx:ev g x=some (.pointer (some ⟨b,off,none⟩)):=by exact rfl)(q:zac P t=some y:=by exact ty rfl)(hr:y.desc.isRow=false:=by exact rfl)
  (hL:Has L (.blk b T C):=by repeat (first|exact F6|apply FB))(hv:C[off]?=some v:=by first|rfl|assumption):OpT P ro N w0 M ds o g L (Det v L):=
 F7 (by rw[j];rfl) λa w X m=>by
  simp[execOp,j,m.agr.eval hx,zgg q hr w _ ((zeR (m.blk hL) off).trans hv)]
theorem zn{t:TypeId}{x:Operand}{j:Addr}{v:Value}{y:Ty}(m:o.op= .load t x:=by exact rfl)(hx:ev g x=some (.pointer (some j)):=by exact rfl)(A:zac P t=some y:=by exact ty rfl)(hr:y.desc.isRow=false:=by exact rfl)
  (hv:w0.cell? j=some v:=by assumption)(hn:¬M j.block:=by exact λh=>h):OpT P ro N w0 M ds o g L (Det v L):=
 F7 (by rw[m];rfl) λa w X q=>by
  simp[execOp,m,q.agr.eval hx,zgg A hr w _ (q.old hv hn)]
theorem zfF{t:TypeId}{y:Ty}(E:zac P t=some y)(hr:y.desc.isRow=true){w:World}{b off:Nat}{B:List Value}(hz:y.size=B.length)(hc:w.rangeAt b off B):
  (Instr.loadAt t (.pointer (some ⟨b,off,none⟩))).run P w= .ok (.agg B.toArray) w:=by
 obtain⟨d,i,m,q,A,j,_⟩:=zU E;exact run_loadAt_mid w b off t B d hc m (by rw[<-zmM,A];exact hr) (by rw[q,C3,j,hz])
theorem ze{t:TypeId}{x:Operand}{b off T:Nat}{C B:List Value}{y:Ty}(j:o.op= .load t x:=by exact rfl)(hx:ev g x=some (.pointer (some ⟨b,off,none⟩)):=by exact rfl)(q:zac P t=some y:=by exact ty rfl)(hr:y.desc.isRow=true:=by exact rfl)
  (hL:Has L (.blk b T C):=by repeat (first|exact F6|apply FB))(hv:Seg C off B:=by exact F0)(hz:y.size=B.length:=by first|rfl|simp only[A0,AI,AK,A2];omega|(simp only[A0];first|assumption|omega)|simp;omega|fail):OpT P ro N w0 M ds o g L (Det (.agg B.toArray) L):=
 F7 (by rw[j];rfl) λa w X m=>by
  simp[execOp,j,m.agr.eval hx,zfF q hr hz (zp (m.blk hL) hv)]
theorem z9{t:TypeId}{x:Operand}{b off:Nat}{B:List Value}{y:Ty}(j:o.op= .load t x:=by exact rfl)(hx:ev g x=some (.pointer (some ⟨b,off,none⟩)):=by exact rfl)(q:zac P t=some y:=by exact ty rfl)(hr:y.desc.isRow=true:=by exact rfl)
  (hv:w0.rangeAt b off B:=by assumption)(hz:y.size=B.length:=by first|rfl|simp only[A0,AI,AK,A2];omega|(simp only[A0];first|assumption|omega)|simp;omega|fail)(hn:¬M b:=by exact λh=>h):OpT P ro N w0 M ds o g L (Det (.agg B.toArray) L):=
 F7 (by rw[j];rfl) λa w X m=>by
  simp[execOp,j,m.agr.eval hx,zfF q hr hz (m.oldRange hv hn)]
def SetAt(C:List Value)(n:Nat)(v:Value)(C':List Value):Prop:=n<C.length/\C'=C.set n v
theorem SetAt.here{x v:Value}{C:List Value} :SetAt (x::C) 0 v (v::C):=⟨by simp,rfl⟩
theorem SetAt.any{v:Value}{C:List Value}{n:Nat}(h:n<C.length):SetAt C n v (C.set n v):=⟨h,rfl⟩
theorem zgA{w w':World}{b:Nat}(hk:Keep M w0 w)(j:Keep (· =b) w w')(hm:w0.heap.size<=b\/M b):Keep M w0 w':=hk.trans j (λx m=>by subst m;exact hm)
theorem zcn{t:TypeId}{x z:Operand}{b off T:Nat}{C C':List Value}{v:Value}{y:Ty}{L':List Res}(G:o.op= .store t x z:=by exact rfl)(hx:ev g x=some (.pointer (some ⟨b,off,none⟩)):=by exact rfl)(hz:ev g z=some v:=by exact rfl)(I:zac P t=some y:=by exact ty rfl)(h1:y.size=1:=by exact rfl)(hv:v.oneCell'=true:=by exact rfl)
  (hL:Upd L (.blk b T C) (.blk b T C') L':=by repeat (first|exact FU|apply FY))(hC:SetAt C off v C':=by first|(refine SetAt.any ?_;first|omega|simp only[A0,AI];omega|simp;omega|fail)|(repeat (first|exact SetAt.here|apply SetAt.there);done)|fail):OpT P ro N w0 M ds o g L (Det undef L'):=
 FK (by rw[G];rfl) λa w X j=>by
  obtain⟨E,rfl⟩:=hC;have m:=j.hold.has (r:=.blk b T C) (by
   obtain⟨A,B,e,_⟩:=hL;subst e;simp[Has])
  have H:=j.hold.mine (.blk b T C) (by obtain⟨A,B,e,_⟩:=hL;subst e;simp) b rfl;refine⟨.skip,undef,w.setCell ⟨b,off,none⟩ v,L',?_,.inr ⟨rfl,rfl⟩,⟨rfl,rfl⟩,zgA j.keep (Fq w _ v) H,?_⟩
  ·simp[execOp,G,j.agr.eval hx,j.agr.eval hz,zlU I h1 w ⟨b,off,none⟩ ((zeR m off).trans (A1 E)) (zmY m off) hv]
  ·exact j.hold.upd hL.append (λJ q=> .inl q) (zoO m off v) ((Fq w _ v).mono (λx hx=>by rw[hx];rfl))
theorem zeo{t:TypeId}{x z:Operand}{b off T:Nat}{C B:List Value}{y:Ty}{L':List Res}(G:o.op= .store t x z:=by exact rfl)(hx:ev g x=some (.pointer (some ⟨b,off,none⟩)):=by exact rfl)(hz:ev g z=some (.agg B.toArray):=by exact rfl)(K:zac P t=some y:=by exact ty rfl)(h1:y.size=B.length:=by first|rfl|simp only[A0,AI,AK,A2];omega|(simp only[A0];first|assumption|omega)|simp;omega|fail)(hv:B.all (·.oneCell')=true:=by first|exact zfX _ (λ_=>rfl) _|rfl|fail)
  (hL:Upd L (.blk b T C) (.blk b T (zaz C off B)) L':=by repeat (first|exact FU|apply FY))(hC:off+B.length<=C.length:=by first|omega|simp only[A0,AI];omega|simp;omega|fail):OpT P ro N w0 M ds o g L (Det undef L'):=
 FK (by rw[G];rfl) λa w X j=>by
  have E:=j.hold.has (r:=.blk b T C) (by
   obtain⟨A,B,e,_⟩:=hL;subst e;simp[Has])
  have I:=j.hold.mine (.blk b T C) (by obtain⟨A,B,e,_⟩:=hL;subst e;simp) b rfl;obtain⟨d,i,S,H,J,q,_⟩:=zU K;refine⟨.skip,undef,w.setCells b off B,L',?_,.inr ⟨rfl,rfl⟩,⟨rfl,rfl⟩,zgA j.keep (Fa b B off w) I,?_⟩
  ·have:=run_storeAt_mid (P:=P) w b off t B.toArray (by simpa using zie E hC) (by rw[H,C3,q,h1];simp) (by simpa using hv);simp only[execOp,G,j.agr.eval hx,j.agr.eval hz,Sem.run_bind,this,Result.andThen_ok];rfl
  ·exact j.hold.upd hL.append (λO m=> .inl m) (zex B C off w E hC) ((Fa b B off w).mono (λx hx=>by rw[hx];rfl))
theorem zhI{C B:List Value}(h:C.length=B.length):zaz C 0 B=B:=by
 simp[zaz,<-h]
theorem zC{t:TypeId}{x z:Operand}{b T:Nat}{C B:List Value}{y:Ty}{L':List Res}(j:o.op= .store t x z:=by exact rfl)(hx:ev g x=some (.pointer (some ⟨b,0,none⟩)):=by exact rfl)(hz:ev g z=some (.agg B.toArray):=by exact rfl)(m:zac P t=some y:=by exact ty rfl)(h1:y.size=B.length:=by first|rfl|simp only[A0,AI,AK,A2];omega|(simp only[A0];first|assumption|omega)|simp;omega|fail)(hv:B.all (·.oneCell')=true:=by first|exact zfX _ (λ_=>rfl) _|rfl|fail)
  (hL:Upd L (.blk b T C) (.blk b T B) L':=by repeat (first|exact FU|apply FY))(hC:C.length=B.length:=by first|rfl|simp only[A0,AI,AK,A2];omega|(simp only[A0];first|assumption|omega)|simp;omega|fail):OpT P ro N w0 M ds o g L (Det undef L'):=
 zeo j hx hz m h1 hv (by rw[zhI hC];exact hL) q_o
def zn0(T:Nat)(C:List Value)(L:List Res)(v:Value)(L':List Res):Prop:=∃b,v= .pointer (some ⟨b,0,none⟩)/\L'= .blk b T C::L
def zaV(P:Program)(t:TypeId):Option (List Value):=((P.info? t).bind (·.zero)).map (·.cells.toList)
def zl9:List (Nat×List Value)->Nat->Option (List Value)
 | [],_=>none
 |(k,C)::l,t=>bif Nat.beq k t then some C else zl9 l t
theorem zm2{P:Program} :∀(l:List (Nat×List Value)),l.map (λp=>zaV P p.1)=l.map (λp=>some p.2)->∀ {t:Nat}{C:List Value},zl9 l t=some C->zaV P t=some C
 | [],_,_,_,h=>by cases h
 |(k,D)::l,hl,t,C,h=>by
  simp only[Ay,DS] at hl;simp only[zl9] at h;cases hb:Nat.beq k t with
  |true=>rw[hb] at h;rw[<-BT hb,hl.1];simpa using h
  |false=>rw[hb] at h;exact zm2 l hl.2 h
theorem zr8{t:TypeId}{C:List Value}(h:zaV P t=some C)(w:World):∃z,(zeroValue t).run P w= .ok z w/\z.cells=C.toArray:=by
 unfold zaV at h;cases hi:P.info? t with
 |none=>rw[hi] at h;cases h
 |some i=>
  rw[hi] at h;simp only[BB,Ai] at h;obtain⟨z,j,rfl⟩:=h;exact⟨z,by simp[zeroValue,typeInfo,hi,j],by simp⟩
theorem zbG{a:Act}{w:World}{X:List Res}(j:St N w0 M ds g (L++X) a w)(T:Nat)(C:List Value):Keep M w0 (w.alloc (.cells C.toArray T))/\Holds w0.heap.size M ((.blk w.heap.size T C::L)++X) (w.alloc (.cells C.toArray T)):=
 ⟨j.keep.trans (Fe No w _) (λ_ h=>h.elim),j.hold.new j.keep.size T C⟩
theorem zc8{t:TypeId}{C:List Value}(j:o.op= .alloc t:=by exact rfl)(hz:zaV P t=some C:=by exact zc rfl):OpT P ro N w0 M ds o g L (zn0 t C L):=
 FK (by rw[j];rfl) λa w X E=>by
  obtain⟨z,B,A⟩:=zr8 hz w;obtain⟨m,q⟩:=zbG E t C;refine⟨_,_,w.alloc (.cells C.toArray t),_,?_,.inl rfl,⟨w.heap.size,rfl,rfl⟩,m,q⟩;simp[execOp,j,Instr.alloc,Sem.run_bind,B,newVar,newRow,A]
theorem zrD{t:TypeId}{x:Operand}{v:Value}(j:o.op= .box t x:=by exact rfl)(hx:ev g x=some v:=by exact rfl)(hv:v.oneCell'=true:=by exact rfl):OpT P ro N w0 M ds o g L (zn0 t [v] L):=
 FK (by rw[j];rfl) λa w X m=>by
  obtain⟨q,A⟩:=zbG m t [v];have B:v.cells= #[v]:=by cases v <;> first|rfl|(simp[Value.oneCell'] at hv)
  refine⟨_,_,w.alloc (.cells [v].toArray t),_,?_,.inl rfl,⟨w.heap.size,rfl,rfl⟩,q,A⟩;simp[execOp,j,m.agr.eval hx,Instr.box,newVar,newRow,B]
theorem zvk{t:TypeId}{x:Operand}{B:List Value}(j:o.op= .box t x:=by exact rfl)(hx:ev g x=some (.agg B.toArray):=by exact rfl):OpT P ro N w0 M ds o g L (zn0 t B L):=
 FK (by rw[j];rfl) λa w X m=>by
  obtain⟨q,A⟩:=zbG m t B;refine⟨_,_,w.alloc (.cells B.toArray t),_,?_,.inl rfl,⟨w.heap.size,rfl,rfl⟩,q,A⟩;simp[execOp,j,m.agr.eval hx,Instr.box,newVar,newRow,Value.cells]
theorem ya{ops:Array Oper}{Q:Exit->Act->World->Prop}{rest:List Oper}{fr:Fr}{o:Oper}{d T:Nat}{C:List Value}(h:OpT P ro N w0 M ds o (get fr) L (zn0 T C L))(A:zar ops o (get fr)=some true:=by exact rfl)(w:o.dst=some d:=by exact rfl)(q:Nat.blt d N=true:=by exact rfl)
  (k:∀b,SyL P ro N w0 M ds ops Q rest ((d,.pointer (some ⟨b,0,none⟩))::fr) (.blk b T C::L)):SyL P ro N w0 M ds ops Q (o::rest) fr L:=
 syl h A w q λ_ _ ⟨b,j,m⟩=>by subst j;subst m;exact k b
theorem zO{s f b off d n:Nat}{x:Operand}{y:Ty}(H:o.op= .fieldAddr s x f:=by exact rfl)(hx:ev g x=some (.pointer (some ⟨b,off,none⟩)):=by exact rfl)(K:zac P s=some y:=by exact ty rfl)(O:y.desc= .struct #[]:=by exact rfl)(G:nth y.flds f=some (d,n):=by exact rfl)(hn:Nat.beq n 0=false:=by exact rfl):
  OpT P ro N w0 M ds o g L (Det (.pointer (some ⟨b,off+d,none⟩)) L):=
 F7 (by rw[H];rfl) λa w X J=>by
  obtain⟨dd,i,I,U,A,_,_,q⟩:=zU K;rw[O] at A;obtain⟨T,rfl⟩:=zfk A;simp only at q;rw[q,zg5,AY,Ai] at G;obtain⟨B,m,e⟩:=G;rw[Cw] at m;cases e;have S:(sizeOf B.type).run P w= .ok (P.cellsOf B.type) w:=by
   unfold Program.cellsOf at hn ⊢;cases hq:P.info? B.type with
   |none=>rw[hq] at hn;cases hn
   |some j=>simp[sizeOf,typeInfo,hq]
  have E:P.cellsOf B.type≠0:=Bw hn;simp[execOp,H,J.agr.eval hx,Instr.fieldAt,run_underlying I,m,Instr.sureAddr,fieldPlace,S,E,Addr.add_mid]
theorem zay{t e b off n c j:Nat}{x z:Operand}{k:IntKind}{i:Int}{y ye:Ty}(q:o.op= .indexAddr t x z:=by exact rfl)(hx:ev g x=some (.slice (some ⟨b,off,none⟩) n c):=by exact rfl)(hz:ev g z=some (.int k i):=by exact rfl)
  (H:zac P t=some y:=by exact ty rfl)(I:y.desc= .slice e:=by exact rfl)(he:zac P e=some ye:=by exact ty rfl)(E:i=(j:Int):=by first|rfl|exact idx_mul _ _|exact idx_mul1 _ _ _|exact zbe _ _|exact(Ae q_o).symm|fail)(hj:j<n:=by first|omega|simp only[A0,AI];omega|simp;omega|fail):OpT P ro N w0 M ds o g L (Det (.pointer (some ⟨b,off+j*ye.size,none⟩)) L):=
 F7 (by rw[q];rfl) λa w X A=>by
  obtain⟨d,K,B,G,m,_⟩:=zU H;rw[I] at m;have:=za6 m;subst this;subst E;have J:(0:Int)<=(j:Int)/\(j:Int)<(n:Int):=q_o;simp[execOp,q,A.agr.eval hx,A.agr.eval hz,Instr.indexAt,run_underlying B,asIntOf,hj,zbI he,Addr.add_mid]
theorem zL{t e b off n c j:Nat}{x z:Operand}{k:IntKind}{i:Int}{y ye:Ty}(q:o.op= .indexAddr t x z:=by exact rfl)(hx:ev g x=some (.slice (some ⟨b,off,none⟩) n c):=by exact rfl)(hz:ev g z=some (.int k i):=by exact rfl)
  (w:zac P t=some y:=by exact ty rfl)(A:y.desc= .slice e:=by exact rfl)(he:zac P e=some ye:=by exact ty rfl)(h1:ye.size=1:=by exact rfl)(m:i=(j:Int):=by first|rfl|exact idx_mul _ _|exact idx_mul1 _ _ _|exact zbe _ _|exact(Ae q_o).symm|fail)(hj:j<n:=by first|omega|simp only[A0,AI];omega|simp;omega|fail):OpT P ro N w0 M ds o g L (Det (.pointer (some ⟨b,off+j,none⟩)) L):=by
 have:=zay (P:=P) (ro:=ro) (N:=N) (w0:=w0) (M:=M) (ds:=ds) (L:=L) q hx hz w A he m hj;rw[h1,Af] at this;exact this
theorem zfd{t e b off n j:Nat}{x z:Operand}{k:IntKind}{i:Int}{y ye:Ty}(q:o.op= .indexAddr t x z:=by exact rfl)(hx:ev g x=some (.pointer (some ⟨b,off,none⟩)):=by exact rfl)(hz:ev g z=some (.int k i):=by exact rfl)
  (H:zac P t=some y:=by exact ty rfl)(I:y.desc= .array n e:=by exact rfl)(he:zac P e=some ye:=by exact ty rfl)(E:i=(j:Int):=by first|rfl|exact idx_mul _ _|exact idx_mul1 _ _ _|exact zbe _ _|exact(Ae q_o).symm|fail)(hj:j<n:=by first|omega|simp only[A0,AI];omega|simp;omega|fail):OpT P ro N w0 M ds o g L (Det (.pointer (some ⟨b,off+j*ye.size,none⟩)) L):=
 F7 (by rw[q];rfl) λa w X A=>by
  obtain⟨d,J,B,G,m,_⟩:=zU H;rw[I] at m;have:=zcN m;subst this;subst E;simp[execOp,q,A.agr.eval hx,A.agr.eval hz,Instr.indexAt,Instr.sureAddr,run_underlying B,asIntOf,hj,zbI he,Addr.add_mid]
theorem zeB{t e b off n j:Nat}{x z:Operand}{k:IntKind}{i:Int}{y ye:Ty}(q:o.op= .indexAddr t x z:=by exact rfl)(hx:ev g x=some (.pointer (some ⟨b,off,none⟩)):=by exact rfl)(hz:ev g z=some (.int k i):=by exact rfl)
  (w:zac P t=some y:=by exact ty rfl)(A:y.desc= .array n e:=by exact rfl)(he:zac P e=some ye:=by exact ty rfl)(h1:ye.size=1:=by exact rfl)(m:i=(j:Int):=by first|rfl|exact idx_mul _ _|exact idx_mul1 _ _ _|exact zbe _ _|exact(Ae q_o).symm|fail)(hj:j<n:=by first|omega|simp only[A0,AI];omega|simp;omega|fail):OpT P ro N w0 M ds o g L (Det (.pointer (some ⟨b,off+j,none⟩)) L):=by
 have:=zfd (P:=P) (ro:=ro) (N:=N) (w0:=w0) (M:=M) (ds:=ds) (L:=L) q hx hz w A he m hj;rw[h1,Af] at this;exact this
theorem zcE{t e b n c j:Nat}{x z:Operand}{k:IntKind}{i:Int}{y ye:Ty}(q:o.op= .indexAddr t x z:=by exact rfl)(hx:ev g x=some (.slice (some ⟨b,0,none⟩) n c):=by exact rfl)(hz:ev g z=some (.int k i):=by exact rfl)
  (w:zac P t=some y:=by exact ty rfl)(A:y.desc= .slice e:=by exact rfl)(he:zac P e=some ye:=by exact ty rfl)(h1:ye.size=1:=by exact rfl)(m:i=(j:Int):=by first|rfl|exact idx_mul _ _|exact idx_mul1 _ _ _|exact zbe _ _|exact(Ae q_o).symm|fail)(hj:j<n:=by first|omega|simp only[A0,AI];omega|simp;omega|fail):OpT P ro N w0 M ds o g L (Det (.pointer (some ⟨b,j,none⟩)) L):=by
 have:=zL (P:=P) (ro:=ro) (N:=N) (w0:=w0) (M:=M) (ds:=ds) (L:=L) q hx hz w A he h1 m hj;rw[AR] at this;exact this
theorem zdY{t e b n j:Nat}{x z:Operand}{k:IntKind}{i:Int}{y ye:Ty}(q:o.op= .indexAddr t x z:=by exact rfl)(hx:ev g x=some (.pointer (some ⟨b,0,none⟩)):=by exact rfl)(hz:ev g z=some (.int k i):=by exact rfl)
  (w:zac P t=some y:=by exact ty rfl)(A:y.desc= .array n e:=by exact rfl)(he:zac P e=some ye:=by exact ty rfl)(h1:ye.size=1:=by exact rfl)(m:i=(j:Int):=by first|rfl|exact idx_mul _ _|exact idx_mul1 _ _ _|exact zbe _ _|exact(Ae q_o).symm|fail)(hj:j<n:=by first|omega|simp only[A0,AI];omega|simp;omega|fail):OpT P ro N w0 M ds o g L (Det (.pointer (some ⟨b,j,none⟩)) L):=by
 have:=zeB (P:=P) (ro:=ro) (N:=N) (w0:=w0) (M:=M) (ds:=ds) (L:=L) q hx hz w A he h1 m hj;rw[AR] at this;exact this
theorem zjy{t e n j:Nat}{x z:Operand}{k:IntKind}{i:Int}{y ye:Ty}{C:List Value}{v:Value}(q:o.op= .index t x z:=by exact rfl)(hx:ev g x=some (.agg C.toArray):=by exact rfl)(hz:ev g z=some (.int k i):=by exact rfl)
  (H:zac P t=some y:=by exact ty rfl)(I:y.desc= .array n e:=by exact rfl)(he:zac P e=some ye:=by exact ty rfl)(h1:ye.size=1:=by exact rfl)(hr:ye.desc.isRow=false:=by exact rfl)(E:i=(j:Int):=by first|rfl|exact idx_mul _ _|exact idx_mul1 _ _ _|exact zbe _ _|exact(Ae q_o).symm|fail)(hj:j<n:=by first|omega|simp only[A0,AI];omega|simp;omega|fail)(hv:C[j]?=some v:=by first|rfl|assumption):OpT P ro N w0 M ds o g L (Det v L):=
 F7 (by rw[q];rfl) λa w X A=>by
  obtain⟨d,J,B,G,m,_⟩:=zU H;rw[I] at m;have:=zcN m;subst this;subst E;simp[execOp,q,A.agr.eval hx,A.agr.eval hz,Instr.index,run_underlying B,asIntOf,hj,zbI he,h1,part,zii he hr,hv]
theorem zN{t j:Nat}{x z:Operand}{k:IntKind}{i:Int}{y:Ty}{s:ByteArray}{u:UInt8}(A:o.op= .index t x z:=by exact rfl)(hx:ev g x=some (.string s):=by exact rfl)(hz:ev g z=some (.int k i):=by exact rfl)
  (I:zac P t=some y:=by exact ty rfl)(J:y.desc= .string:=by exact rfl)(G:i=(j:Int):=by first|rfl|exact idx_mul _ _|exact idx_mul1 _ _ _|exact zbe _ _|exact(Ae q_o).symm|fail)(hv:s.data[j]?=some u:=by first|rfl|assumption):OpT P ro N w0 M ds o g L (Det (.int .u8 u.toNat) L):=
 F7 (by rw[A];rfl) λa w X B=>by
  obtain⟨d,K,E,H,m,_⟩:=zU I;rw[J] at m;have:=zfh m;subst this;subst G;have q:j<s.size:=(Aa.1 hv).1;have:s[j]?=some u:=by
   rw[getElem?_pos s j q];congr 1;exact(Aa.1 hv).2
  simp[execOp,A,B.agr.eval hx,B.agr.eval hz,Instr.index,run_underlying E,asIntOf,this]
def bnd(g:Nat->Option Value)(x:Option Operand)(d j:Nat):Prop:=match x with
 |none=>j=d
 |some x=>∃(k:IntKind),ev g x=some (.int k (j:Int))
theorem zag{x:Operand}{d j:Nat}{k:IntKind}{i:Int}(h:ev g x=some (.int k i))(m:i=(j:Int)):bnd g (some x) d j:=⟨k,by rw[h,m]⟩
theorem zbx{d:Nat} :bnd g none d d:=rfl
theorem zhi{a:Act}(q:Agrees g a){lo B mx:Option Operand}{isS:Bool}{n c l h m:Nat}(j:bnd g lo 0 l)(hh:bnd g B n h)(hm:bnd g mx c m)(h1:l<=h)(h2:h<=m)(I:m<=c)(H:B.isSome=true\/mx=none)(w:World):
  (Instr.sliceBounds isS n c (lo.map a.eval) (B.map a.eval) (mx.map a.eval)).run P w= .ok (l,h,m) w:=by
 have A:∀(k:IntKind) (i y:Nat) (code:BoundsCode),i<=y->(Instr.sliceBound (.int k (i:Int)) y code).run P w= .ok i w:=λk i y code J=>by
  have:=run_sliceBound (P:=P) w k (i:Int) y code q_o q_o;rw[this,B6]
 unfold Instr.sliceBounds;cases mx with
 |none=>
  have hm:m=c:=hm;subst hm;cases B with
  |none=>
   have hh:h=n:=hh;subst hh;cases lo with
   |none=>have j:l=0:=j;subst j;simp
   |some x=>obtain⟨k,E⟩:=j;simp[q.eval E,A _ _ _ _ h1]
  |some z=>
   obtain⟨k,G⟩:=hh;cases lo with
   |none=>have j:l=0:=j;subst j;simp[q.eval G,A _ _ _ _ h2]
   |some x=>obtain⟨K,E⟩:=j;simp[q.eval E,q.eval G,A _ _ _ _ h1,A _ _ _ _ h2]
 |some u=>
  obtain⟨O,hu⟩:=hm;cases B with
  |none=>rcases H with h|h <;> cases h
  |some z=>
   obtain⟨k,G⟩:=hh;cases lo with
   |none=>have j:l=0:=j;subst j;simp[q.eval G,q.eval hu,A _ _ _ _ h2,A _ _ _ _ I]
   |some x=>obtain⟨K,E⟩:=j;simp[q.eval E,q.eval G,q.eval hu,A _ _ _ _ h1,A _ _ _ _ h2,A _ _ _ _ I]
def zb4(a:Option Addr)(l m s:Nat):Option Addr:=if m=l then a else a.map (·.add (l*s))
theorem zlD(a:Option Addr)(m s:Nat):zb4 a 0 m s=a:=by
 unfold zb4;split
 ·rfl
 ·cases a with
  |none=>rfl
  |some ad=>simp[Addr.add]
theorem zg7{b off l m s:Nat}(h:l<m):zb4 (some ⟨b,off,none⟩) l m s=some ⟨b,off+l*s,none⟩:=by
 unfold zb4;rw[if_neg q_o];simp[Addr.add_mid]
theorem zsk{t e n c l h m:Nat}{x:Operand}{lo q mx:Option Operand}{a0:Option Addr}{y ye:Ty}(B:o.op= .slice t x lo q mx:=by exact rfl)(hx:ev g x=some (.slice a0 n c):=by exact rfl)(K:zac P t=some y:=by exact ty rfl)(O:y.desc= .slice e:=by exact rfl)(he:zac P e=some ye:=by exact ty rfl)
  (J:bnd g lo 0 l:=by first|exact zbx|exact zag rfl rfl|exact zag rfl (zbe _ _)|exact zag rfl (Ae q_o).symm|fail)(hh:bnd g q n h:=by first|exact zbx|exact zag rfl rfl|exact zag rfl (zbe _ _)|exact zag rfl (Ae q_o).symm|fail)(hm:bnd g mx c m:=by first|exact zbx|exact zag rfl rfl|exact zag rfl (zbe _ _)|exact zag rfl (Ae q_o).symm|fail)(h1:l<=h:=by first|omega|simp only[A0,AI];omega|simp;omega|fail)(h2:h<=m:=by first|omega|simp only[A0,AI];omega|simp;omega|fail)(G:m<=c:=by first|omega|simp only[A0,AI];omega|simp;omega|fail)(A:q.isSome=true\/mx=none:=by first|exact .inl rfl|exact .inr rfl):OpT P ro N w0 M ds o g L (Det (.slice (zb4 a0 l m ye.size) (h-l) (m-l)) L):=
 F7 (by rw[B];rfl) λa w X E=>by
  obtain⟨d,S,H,I,j,_⟩:=zU K;rw[O] at j;have:=za6 j;subst this;simp[execOp,B,E.agr.eval hx,Instr.sliceAt,Instr.slice,run_underlying H,zhi E.agr J hh hm h1 h2 G A,zbI he,zb4]
theorem zoi{t e n l h m b off:Nat}{x:Operand}{lo q mx:Option Operand}{y ye:Ty}(B:o.op= .slice t x lo q mx:=by exact rfl)(hx:ev g x=some (.pointer (some ⟨b,off,none⟩)):=by exact rfl)(O:zac P t=some y:=by exact ty rfl)(S:y.desc= .array n e:=by exact rfl)(he:zac P e=some ye:=by exact ty rfl)
  (K:bnd g lo 0 l:=by first|exact zbx|exact zag rfl rfl|exact zag rfl (zbe _ _)|exact zag rfl (Ae q_o).symm|fail)(hh:bnd g q n h:=by first|exact zbx|exact zag rfl rfl|exact zag rfl (zbe _ _)|exact zag rfl (Ae q_o).symm|fail)(hm:bnd g mx n m:=by first|exact zbx|exact zag rfl rfl|exact zag rfl (zbe _ _)|exact zag rfl (Ae q_o).symm|fail)(h1:l<=h:=by first|omega|simp only[A0,AI];omega|simp;omega|fail)(h2:h<=m:=by first|omega|simp only[A0,AI];omega|simp;omega|fail)(H:m<=n:=by first|omega|simp only[A0,AI];omega|simp;omega|fail)(A:q.isSome=true\/mx=none:=by first|exact .inl rfl|exact .inr rfl):OpT P ro N w0 M ds o g L (Det (.slice (zb4 (some ⟨b,off,none⟩) l m ye.size) (h-l) (m-l)) L):=
 F7 (by rw[B];rfl) λa w X E=>by
  obtain⟨d,T,I,J,j,_⟩:=zU O;rw[S] at j;have:=zcN j;subst this;have G:(some (if m=l then (⟨b,off,none⟩:Addr) else (⟨b,off,none⟩:Addr).add (l*ye.size)))=zb4 (some ⟨b,off,none⟩) l m ye.size:=by unfold zb4;split <;> rfl
  simp[execOp,B,E.agr.eval hx,Instr.sliceAt,Instr.sureAddr,run_underlying I,zhi E.agr K hh hm h1 h2 H A,zbI he,<-G]
theorem zff{t l h:Nat}{x:Operand}{lo m:Option Operand}{s:ByteArray}{y:Ty}(q:o.op= .slice t x lo m none:=by exact rfl)(hx:ev g x=some (.string s):=by exact rfl)(H:zac P t=some y:=by exact ty rfl)(I:y.desc= .string:=by exact rfl)
  (G:bnd g lo 0 l:=by first|exact zbx|exact zag rfl rfl|exact zag rfl (zbe _ _)|exact zag rfl (Ae q_o).symm|fail)(hh:bnd g m s.size h:=by first|exact zbx|exact zag rfl rfl|exact zag rfl (zbe _ _)|exact zag rfl (Ae q_o).symm|fail)(h1:l<=h:=by first|omega|simp only[A0,AI];omega|simp;omega|fail)(h2:h<=s.size:=by first|omega|simp only[A0,AI];omega|simp;omega|fail):OpT P ro N w0 M ds o g L (Det (.string (s.extract l h)) L):=
 F7 (by rw[q];rfl) λa w X A=>by
  obtain⟨d,J,B,E,j,_⟩:=zU H;rw[I] at j;have:=zfh j;subst this;have:=zhi (P:=P) (isS:=false) A.agr G hh (mx:=none) (c:=s.size) zbx h1 h2 (A4 _) (.inr rfl) w;simp only[Option.map_none] at this;simp[execOp,q,A.agr.eval hx,Instr.sliceAt,Instr.slice,run_underlying B,this]
theorem ziv{t e n c:Nat}{x:Operand}{a0:Option Addr}{y:Ty}(m:o.op= .call { callee:=.builtin .len,args:=#[x],argTypes:=#[t] } :=by exact rfl)(hx:ev g x=some (.slice a0 n c):=by exact rfl)(E:zac P t=some y:=by exact ty rfl)(G:y.desc= .slice e:=by exact rfl):OpT P ro N w0 M ds o g L (Det (.int .i64 n) L):=
 F7 (by rw[m];rfl) λa w X B=>by
  obtain⟨d,H,q,A,j,_⟩:=zU E;rw[G] at j;have:=za6 j;subst this;simp[execOp,m,resolve,invoke,builtin,B.agr.eval hx,Builtin.len_,run_underlying q,goInt]
theorem zik{t:Nat}{x:Operand}{s:ByteArray}{y:Ty}(m:o.op= .call { callee:=.builtin .len,args:=#[x],argTypes:=#[t] } :=by exact rfl)(hx:ev g x=some (.string s):=by exact rfl)(E:zac P t=some y:=by exact ty rfl)(G:y.desc= .string:=by exact rfl):OpT P ro N w0 M ds o g L (Det (.int .i64 s.size) L):=
 F7 (by rw[m];rfl) λa w X B=>by
  obtain⟨d,H,q,A,j,_⟩:=zU E;rw[G] at j;have:=zfh j;subst this;simp[execOp,m,resolve,invoke,builtin,B.agr.eval hx,Builtin.len_,run_underlying q,goInt]
theorem zau{t:Operand}{k:Nat}{vs:Array Value}{v:Value}(j:o.op= .extract t k:=by exact rfl)(hx:ev g t=some (.tuple vs):=by exact rfl)(hv:vs[k]?=some v:=by exact rfl):OpT P ro N w0 M ds o g L (Det v L):=
 F7 (by rw[j];rfl) λa w X m=>by simp[execOp,j,m.agr.eval hx,Instr.extract,hv]
theorem zaj{fn:Fn}{f c:Array Operand}{vs j:List Value}(m:o.op= .makeFunc fn f c:=by exact rfl)(E:evs g f.toList=some vs:=by exact rfl)(hc:evs g c.toList=some j:=by exact rfl):OpT P ro N w0 M ds o g L (Det (.func fn vs.toArray j.toArray) L):=
 F7 (by rw[m];rfl) λa w X q=>by
  have A:f.map a.eval=vs.toArray:=BC.1 (by rw[Bn,q.agr.evals E]);have B:c.map a.eval=j.toArray:=BC.1 (by rw[Bn,q.agr.evals hc]);simp[execOp,m,Instr.makeFunc,A,B]
def Fn(P:Program)(f:FuncId)(args:List Value)(w:World)(M:Nat->Prop)(post:Value->List Res->Prop):Prop:=
 Calls P f args.toArray w λe w'=>∃v R,e= .returned v/\post v R/\Keep M w w'/\Holds w.heap.size M R w'
theorem Fn.mono{f:FuncId}{args:List Value}{w:World}{M':Nat->Prop}{post j:Value->List Res->Prop}(h:Fn P f args w M' post)(A:∀v R,post v R->j v R):Fn P f args w M' j:=
 Calls.mono h λ_ _ ⟨v,R,e,B,q,m⟩=>⟨v,R,e,A v R B,q,m⟩
def OwnOf(C:List Res):Nat->Prop:=λb=>∃r∈C,r.own b
def RemL(L C L1:List Res):Prop:=L.Perm (C++L1)
theorem RemL.nil:RemL L [] L:=CA _
def FP:=@RemL.nil
theorem RemL.cons{r m:Res}{C L1 j:List Res}(h:Rem L m L1)(e:m=r)(h2:RemL L1 C j):RemL L (r::C) j:=by
 subst e;exact h.perm.trans (List.Perm.cons _ h2)
def FH:=@RemL.cons
theorem zei{fo:Operand}{args:Array Operand}{a7:Array TypeId}{f:Nat}{vs:List Value}{cap:List Value}{C L1:List Res}{M':Nat->Prop}{post:Value->List Res->Prop}
  (ho:o.op= .call { callee:=.value fo,args:=args,argTypes:=a7 } :=by exact rfl)(hf:ev g fo=some (.func (.func f) #[] cap.toArray):=by exact rfl)(ha:evs g args.toList=some vs:=by exact rfl)
  (he:∀args w,(callFunc f args).run P w= .ok (.enter f args) w:=by exact en rfl)(hC:RemL L C L1)(hM:∀b,M' b->OwnOf C b)
  (hc:∀w X,Keep M w0 w->Holds w0.heap.size M (L++X) w->Fn P f (vs++cap) w M' post):OpT P ro N w0 M ds o g L (λv L'=>∃R,L'=R++L1/\post v R):=by
 intro a w X next Q K hn
 refine⟨λ_ _=>trivial,?_⟩;rw[Oper.semAt_plain (FW ro) _ _ (λc hc=>by rw[ho] at hc;cases hc)];have G:args.map a.eval=vs.toArray:=BC.1 (by rw[Bn,K.agr.evals ha]);have S:(execOp a.eval o).run P w= .ok (.enter f (vs++cap).toArray) w:=by
  simp only[execOp,ho,resolve,K.agr.eval hf,Deferred.ofValue,G,Sem.run_bind,Sem.run_pure,Result.andThen_ok,invoke];rw[show(#[]++vs.toArray++cap.toArray:Array Value)=(vs++cap).toArray by simp];exact he _ w
 rw[S];refine⟨λh=>(by cases h),?_⟩;have H:=hc w X K.keep K.hold;have Z:CallsIn (FW ro) (0-1) P f (vs++cap).toArray w (λe T=>∃v R,e= .returned v/\post v R/\Keep M' w T/\Holds w.heap.size M' R T):=(callsIn_wide (n:=0-1)).2 H;refine CallsIn.mono Z ?_;rintro e T ⟨v,R,rfl,hp,hk,U⟩;have I:(L++X).Perm (C++(L1++X)):=by rw[<-AL];exact B2 X hC
 have hold:=K.hold.perm I;have m:Holds w0.heap.size M (L1++X) w:=hold.sublist (EG C (L1++X));have j:∀b,M' b->w0.heap.size<=b\/M b:=λb q=>by
  obtain⟨r,B,J⟩:=hM b q;exact hold.mine r (AX _ B) b J
 have O:∀r∈L1++X,∀b,r.own b->¬M' b:=λr B b q A=>by
  obtain⟨V,E,J⟩:=hM b A;exact(Cf.1 hold.apart).2.2 V E r B b J q
 have a6:Keep M w0 T:=K.keep.trans hk (λb q=>j b q);refine hn v T (R++L1) ⟨R,rfl,hp⟩ a6 ?_;have Y:=m.keep hk O;rw[AL];refine⟨λr B=>?_,?_,λr B b q=>?_⟩
 ·rcases BE.1 B with h|h
  ·exact U.all r h
  ·exact Y.all r h
 ·refine Cf.2 ⟨U.apart,Y.apart,λr B V E b q A=>?_⟩;rcases U.mine r B b q with h|h
  ·have:=FN (m.all V E) A;omega
  ·exact O V E b A h
 ·rcases BE.1 B with h|h
  ·rcases U.mine r h b q with W|W
   ·exact .inl (BG K.keep.size W)
   ·exact j b W
  ·exact Y.mine r h b q
theorem zh{m:Operand}{args:Array Operand}{j:Array TypeId}{f:Nat}{vs:List Value}{cap:List Value}{post:Value->List Res->Prop}
  (B:o.op= .call { callee:=.value m,args:=args,argTypes:=j } :=by exact rfl)(A:ev g m=some (.func (.func f) #[] cap.toArray):=by exact rfl)(ha:evs g args.toList=some vs:=by exact rfl)
  (he:∀args w,(callFunc f args).run P w= .ok (.enter f args) w:=by exact en rfl)
  (hc:∀w X,Keep M w0 w->Holds w0.heap.size M (L++X) w->Fn P f (vs++cap) w No post):OpT P ro N w0 M ds o g L (λv q=>∃R,q=R++L/\post v R):=
 zei B A ha he FP (λ_ h=>h.elim) hc
def zmb(v:Value):Value->List Res->Prop:=λv' R=>v'=v/\R= []
theorem za{m:Operand}{args:Array Operand}{j:Array TypeId}{f:Nat}{vs:List Value}{cap:List Value}{v:Value}
  (B:o.op= .call { callee:=.value m,args:=args,argTypes:=j } :=by exact rfl)(A:ev g m=some (.func (.func f) #[] cap.toArray):=by exact rfl)(ha:evs g args.toList=some vs:=by exact rfl)
  (he:∀args w,(callFunc f args).run P w= .ok (.enter f args) w:=by exact en rfl)
  (hc:∀w X,Keep M w0 w->Holds w0.heap.size M (L++X) w->Fn P f (vs++cap) w No (zmb v)):OpT P ro N w0 M ds o g L (Det v L):=
 (zh B A ha he hc).mono λH G ⟨R,e,E,q⟩=>by subst E;subst q;exact⟨rfl,e⟩
def FnR(w:World)(M:Nat->Prop)(post:Value->List Res->Prop)(e:Ending)(w':World):Prop:=∃v R,e= .returned v/\post v R/\Keep M w w'/\Holds w.heap.size M R w'
def zkt:Nat->List Value->Fr
 |_,[]=>[]
 |i,v::l=>(i,v)::zkt (i+1) l
theorem zlF:∀(l:List Value) (i t:Nat) (v:Value),get (zkt i l) t=some v->i<=t/\l[t-i]?=some v
 | [],i,t,v,h=>by cases h
 |x::l,i,t,v,h=>by
  simp only[zkt,get] at h;cases hb:Nat.beq i t with
  |true=>rw[hb] at h;have:=BT hb;subst this;simpa using h
  |false=>
   rw[hb] at h;have:=zlF l (i+1) t v h;have j:=Bw hb;refine⟨by omega,?_⟩;rw[show t-i=(t-(i+1))+1 by omega];simpa using this.2
theorem zcl{f:Nat}{fn:Func}{c:Code}{args:List Value}{w:World}{M':Nat->Prop}{post:Value->List Res->Prop}{L0:List Res}(m:P.funcs[f]?=some fn)(hb:fn.body=some c)(hn:fn.ntmps=N)(q:args.length<=N)
  (hL:Holds w.heap.size M' L0 w)(h:Sy P none N w M' [] c (bodyPostM Fence.wide 0 P fn (FnR w M' post)) (zkt 0 args) L0):Fn P f args w M' post:=by
 refine(callsIn_wide (n:=0)).1 (callsIn_of_wp_marks m hb trivial ?_ rfl);refine h _ w ⟨[],rfl,by simp;omega,λt v A=>?_,G8 _ _,by simpa using hL⟩;have:=zlF args 0 t v A;simp only[CM] at this;have j:t<args.length:=(AQ.1 this.2).1;rw[Array.getElem?_append_left (by simpa using j)];simpa using this.2
def ziB(tmps:Array Value)(r:ResultVar):Sem Value:=match r with
 | .tmp t=>pure (tmps.getD t undef)
 | .cell p t=>do loadVar t (<-asAddr (tmps.getD p undef))
theorem zeY(fn:Func)(tmps:Array Value):results fn tmps=(do
  let j <-fn.results.mapM (ziB tmps)
  pure (if h:j.size=1 then j[0] else .tuple j)):=rfl
def zde(P:Program)(N:Nat)(w0:World)(M:Nat->Prop)(ds:List Deferred)(fr:Fr)(L:List Res)(r:ResultVar)(v:Value):Prop:=
 ∀a w,St N w0 M ds (get fr) L a w->(ziB a.tmps r).run P w= .ok v w
variable {fr:Fr}
theorem zr{t:Nat}{v:Value}(h:get fr t=some v):zde P N w0 M ds fr L (.tmp t) v:=λa w j=>by
 have:=j.agr t v h;simp only[ziB,Ab,this,CH];rfl
theorem zk2{p t b T:Nat}{v:Value}{C:List Value}{off:Nat}{y:Ty}(A:get fr p=some (.pointer (some ⟨b,off,none⟩)))(B:zac P t=some y)(hr:y.desc.isRow=false)(hL:Has L (.blk b T C))(hv:C[off]?=some v):zde P N w0 M ds fr L (.cell p t) v:=λa w j=>by
 have m:=j.agr p _ A;have q:=j.hold.has hL;have:=zgg B hr w ⟨b,off,none⟩ ((zeR q off).trans hv);simp only[Instr.loadAt,Instr.sureAddr,Sem.run_bind,Sem.run_pure,Result.andThen_ok] at this;simp only[ziB,Ab,m,CH,Sem.run_bind,asAddr,Sem.run_pure,Result.andThen_ok,this]
theorem zz{p t b T:Nat}{C B:List Value}{off:Nat}{y:Ty}(A:get fr p=some (.pointer (some ⟨b,off,none⟩)))(E:zac P t=some y)(hr:y.desc.isRow=true)(hL:Has L (.blk b T C))(hv:Seg C off B)(hz:y.size=B.length):zde P N w0 M ds fr L (.cell p t) (.agg B.toArray):=λa w j=>by
 have m:=j.agr p _ A;have q:=j.hold.has hL;have:=zfF E hr hz (zp q hv);simp only[Instr.loadAt,Instr.sureAddr,Sem.run_bind,Sem.run_pure,Result.andThen_ok] at this;simp only[ziB,Ab,m,CH,Sem.run_bind,asAddr,Sem.run_pure,Result.andThen_ok,this]
theorem Keep.putObj{w:World}{b:Nat}{o:Obj} :Keep (· =b) w (w.putObj b o):=⟨rfl,rfl,rfl,by simp,λ_ _ j=>World.putObj_heap_other j⟩
def FV:=@Keep.putObj
theorem zh0{fn:Func}{g:Nat->Option Value}{R:Ending->World->Prop} :∀(m:List Nat) (a:Act) (w:World),St N w0 M [] g (L++m.map dob) a w->
  (∀q,St N w0 M [] g L a q->∃v,(results fn a.tmps).run P q= .ok v q/\R (.returned v) q)->LeavesInM Fence.wide 0 P fn a.tmps R (m.map col) .returning w
 | [],a,w,hs,h=>h w (by simpa using hs)
 |D::m,a,w,hs,h=>by
  have j:=hs.perm (L':=dob D::(L++m.map dob)) (by simpa using List.perm_middle);have B:w.heap[D]?=some (.deferred (some [])):=j.hold.all _ A5;refine⟨by simp,.inl ⟨D,_,rfl,run_takeDeferred B,zh0 m a _ ⟨j.size,j.agr,?_,?_⟩ h⟩⟩
  ·exact j.keep.trans FV (λx H=>by subst H;exact j.hold.mine _ A5 x rfl)
  ·exact j.hold.tail.keep FV (λr G b E A=>by subst A;exact(Am.1 j.hold.apart).1 r G b rfl E)
theorem ziA{fn:Func}{post:Value->List Res->Prop}{v:Value}{R:List Res}(m:∀a w,St N w0 M [] (get fr) L a w->(results fn a.tmps).run P w= .ok v w)(B:SubR R L)(E:post v R)(e:Exit)(he:e= .ret\/e= .normal):
  SyX N w0 M [] (bodyPostM Fence.wide 0 P fn (FnR w0 M post) e) fr L:=by
 rintro a w ⟨A,q,G⟩;rw[AZ] at q;have key:LeavesInM Fence.wide 0 P fn a.tmps (FnR w0 M post) a.defers .returning w:=by
  rw[q];exact zh0 A a w G λH j=>⟨v,m a H j,v,R,rfl,E,j.keep,j.hold.subR B⟩
 rcases he with rfl|rfl
 ·exact key
 ·exact key
theorem zn1{fn:Func}(h:fn.results= #[])(a:Act)(w:World):(results fn a.tmps).run P w= .ok (.tuple #[]) w:=by simp[results,h]
theorem ztP{fn:Func}{r:ResultVar}{v:Value}(h:fn.results= #[r])(h1:zde P N w0 M ds fr L r v)(a:Act)(w:World)(m:St N w0 M ds (get fr) L a w):(results fn a.tmps).run P w= .ok v w:=by
 have j:=h1 a w m;rw[zeY,h];simp[j]
theorem ztN{fn:Func}{m q:ResultVar}{A B:Value}(h:fn.results= #[m,q])(h1:zde P N w0 M ds fr L m A)(h2:zde P N w0 M ds fr L q B)(a:Act)(w:World)(j:St N w0 M ds (get fr) L a w):(results fn a.tmps).run P w= .ok (.tuple #[A,B]) w:=by
 have E:=h1 a w j;have G:=h2 a w j;rw[zeY,h];simp[E,G]
theorem ztF{fn:Func}{m q A:ResultVar}{B E v3:Value}(h:fn.results= #[m,q,A])(h1:zde P N w0 M ds fr L m B)(h2:zde P N w0 M ds fr L q E)(J:zde P N w0 M ds fr L A v3)(a:Act)(w:World)(j:St N w0 M ds (get fr) L a w):(results fn a.tmps).run P w= .ok (.tuple #[B,E,v3]) w:=by
 have G:=h1 a w j;have H:=h2 a w j;have I:=J a w j;rw[zeY,h];simp[G,H,I]
variable {post:Value->List Res->Prop}{R:List Res}{fn:Func}
theorem zk7(h:fn.results= #[])(j:SubR R L)(m:post (.tuple #[]) R):SyX N w0 M [] (bodyPostM Fence.wide 0 P fn (FnR w0 M post) .ret) fr L:=ziA (λa w _=>zn1 h a w) j m _ (.inl rfl)
theorem ze4(h:fn.results= #[])(j:SubR R L)(m:post (.tuple #[]) R):SyX N w0 M [] (bodyPostM Fence.wide 0 P fn (FnR w0 M post) .normal) fr L:=ziA (λa w _=>zn1 h a w) j m _ (.inr rfl)
theorem zaw{r:ResultVar}{v:Value}(h:fn.results= #[r])(h1:zde P N w0 M [] fr L r v)(j:SubR R L)(m:post v R):SyX N w0 M [] (bodyPostM Fence.wide 0 P fn (FnR w0 M post) .ret) fr L:=ziA (ztP h h1) j m _ (.inl rfl)
theorem zad{j m:ResultVar}{q w:Value}(h:fn.results= #[j,m])(h1:zde P N w0 M [] fr L j q)(h2:zde P N w0 M [] fr L m w)(A:SubR R L)(B:post (.tuple #[q,w]) R):SyX N w0 M [] (bodyPostM Fence.wide 0 P fn (FnR w0 M post) .ret) fr L:=ziA (ztN h h1 h2) A B _ (.inl rfl)
theorem zxj{j m q:ResultVar}{w A v3:Value}(h:fn.results= #[j,m,q])(h1:zde P N w0 M [] fr L j w)(h2:zde P N w0 M [] fr L m A)(B:zde P N w0 M [] fr L q v3)(E:SubR R L)(G:post (.tuple #[w,A,v3]) R):SyX N w0 M [] (bodyPostM Fence.wide 0 P fn (FnR w0 M post) .ret) fr L:=ziA (ztF h h1 h2 B) E G _ (.inl rfl)
theorem s_t{A B:Prop}(k:B)(f:B->A:=by intro h;(first|refine zb0 ?_|refine zav ?_|refine zi0 rfl ?_|refine ziO rfl ?_|refine zd4 ?_|refine zee ?_|refine zkn ?_|refine zhd ?_|refine zhC ?_|refine zai ?_|refine zg9 ?_|refine zet ?_|refine zdZ ?_|refine ziq ?_|refine zfK ?_|refine zdW ?_|refine zfg rfl ?_);(repeat (first|refine zb0 ?_|refine zav ?_|refine zi0 rfl ?_|refine ziO rfl ?_|refine zd4 ?_|refine zee ?_|refine zkn ?_|refine zhd ?_|refine zhC ?_|refine zai ?_|refine zg9 ?_|refine zet ?_|refine zdZ ?_|refine ziq ?_|refine zfK ?_|refine zdW ?_|refine zfg rfl ?_));exact h):A:=f k
theorem s_0{A B:Prop}(k:B)(f:B->A:=by intro h;(first|refine zb0 ?_|refine zav ?_|refine zi0 rfl ?_|refine ziO rfl ?_|refine zee ?_|refine zkn ?_|refine zhd ?_|refine zhC ?_|refine zai ?_|refine zg9 ?_|refine zet ?_|refine zdZ ?_|refine ziq ?_|refine zfK ?_|refine zdW ?_|refine zfg rfl ?_);(repeat (first|refine zb0 ?_|refine zav ?_|refine zi0 rfl ?_|refine ziO rfl ?_|refine zee ?_|refine zkn ?_|refine zhd ?_|refine zhC ?_|refine zai ?_|refine zg9 ?_|refine zet ?_|refine zdZ ?_|refine ziq ?_|refine zfK ?_|refine zdW ?_|refine zfg rfl ?_));exact h):A:=f k
theorem zo{P:Program}{N f:Nat}{fn:Func}{c:Code}{args:List Value}{w:World}{M:Nat->Prop}{post:Value->List Res->Prop}(j:P.funcs[f]?=some fn)(hn:fn.ntmps=N)(h:Sy P none N w M [] c (bodyPostM Fence.wide 0 P fn (FnR w M post)) (zkt 0 args) [])(hb:fn.body=some c:=by exact rfl)(hz:args.length<=N:=by simp):Fn P f args w M post:=zcl j hb hn hz Holds.nil h
end Go.Sy
