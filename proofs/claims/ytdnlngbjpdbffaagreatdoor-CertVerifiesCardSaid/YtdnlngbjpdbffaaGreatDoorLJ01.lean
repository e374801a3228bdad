/- A logic for walks: the frame is a list of slots, the memory a list of blocks of the call's own; worlds are not named. -/
import Derived.Test.YtdnlngbjpdbffaaGreatDoorLJ00
import Derived.WalkKit
import Derived.OwnWalkIn
import Derived.TacticsInMore
import Derived.OrdersIn
import Derived.Deep.MidRow
import Derived.Great.BuildSlice
import Derived.Laws.Tables
import Derived.Shelf.Abstract
import Derived.RangeFuncLeaves
import Derived.RangeFuncNested
set_option linter.all false
section
namespace Go.Sy
open Go Go.RowKit
abbrev Fr:=List (Nat×Value)
def get:Fr->Nat->Option Value
 | [],_=>none
 |(t,v)::r,s=>bif Nat.beq t s then some v else get r s
def ev (g:Nat->Option Value):Operand->Option Value
 | .tmp t=>g t
 | .const v=>some v
 | .global b=>some (.pointer (some ⟨b,0,none⟩))
 | .func f=>some (.func (.func f) #[] #[])
def evs (g:Nat->Option Value):List Operand->Option (List Value)
 | []=>some []
 |x::l=>match ev g x,evs g l with
  |some v,some vs=>some (v::vs)
  |_,_=>none
def Agrees (g:Nat->Option Value) (a:Act):Prop:=∀t v,g t=some v->a.tmps[t]?=some v
theorem Agrees.eval {g:Nat->Option Value}{a:Act}(h:Agrees g a) {x:Operand}{v:Value}(he:ev g x=some v):a.eval x=v:=by
 cases x with
 |tmp t=>
  have:=h t v he;simp only [Act.eval,Array.getD_eq_getD_getElem?,this,Option.getD_some]
 |const c=>simpa [ev,Act.eval] using he
 |global b=>simpa [ev,Act.eval] using he
 |func f=>simpa [ev,Act.eval] using he
theorem Agrees.evals {g:Nat->Option Value}{a:Act}(h:Agrees g a): ∀ {l:List Operand}{vs:List Value},evs g l=some vs->l.map a.eval=vs
 | [],vs,he=>by simpa [evs] using he
 |x::l,vs,he=>by
  simp only [evs] at he;split at he
  ·rename_i v vs' h1 h2;cases he;rw [List.map_cons,h.eval h1,h.evals h2]
  ·cases he
theorem Agrees.put {fr:Fr}{a:Act}(h:Agrees (get fr) a) {d:Nat}(hd:d < a.tmps.size) (v:Value):Agrees (get ((d,v)::fr)) (a.put (some d) v):=by
 intro t u hu;simp only [get] at hu;simp only [Act.put];cases hb:Nat.beq d t with
 |true=>
  have hdt:d=t:=Nat.eq_of_beq_eq_true hb;rw [hb] at hu;simp at hu;subst hdt;subst hu;simp [hd]
 |false=>
  have hdt:d≠t:=Nat.ne_of_beq_eq_false hb;rw [hb] at hu;simp at hu;rw [Array.getElem?_setIfInBounds_ne hdt];exact h t u hu
theorem Agrees.sub {g g':Nat->Option Value}{a:Act}(h:Agrees g a) (hs: ∀t v,g' t=some v->g t=some v):Agrees g' a:=λt v hv=>h t v (hs t v hv)
def Sub (fr' fr:Fr):Prop:=∀t v,get fr' t=some v->get fr t=some v
theorem Sub.nil {fr:Fr} :Sub [] fr:=λ_ _ h=>by simp [get] at h
theorem Sub.cons {fr fr':Fr}{t:Nat}{v v':Value}(h:get fr t=some v') (e:v'=v) (hs:Sub fr' fr):Sub ((t,v)::fr') fr:=λs u hu=>by
 subst e;simp only [get] at hu;cases hb:Nat.beq t s with
 |true=>rw [hb] at hu;simp at hu;subst hu;rw [<-Nat.eq_of_beq_eq_true hb];exact h
 |false=>rw [hb] at hu;simp at hu;exact hs s u hu
theorem Sub.refl {fr:Fr} :Sub fr fr:=λ_ _ h=>h
theorem Sub.go {a b:Fr}(h:Sub a b:=by repeat' (first|exact Sub.nil|refine Sub.cons rfl ?_ ?_|rfl)):Sub a b:=h
inductive Res where
 |blk (b T:Nat) (C:List Value)
 |row (v:Value) (E size n:Nat) (xs:List Value)
 |obj (b:Nat) (o:Obj)
 |abs (O:Nat->Prop) (H:World->Prop)
def Res.own:Res->Nat->Prop
 | .blk b _ _=>λx=>b=x
 | .row v _ _ _ _=>λx=>v.ownBlock=some x
 | .obj b _=>λx=>b=x
 | .abs O _=>O
def Res.holds (w:World):Res->Prop
 | .blk b T C=>w.heap[b]?=some (.cells C.toArray T (0,0))
 | .row v E s n xs=>w.ownsRow 0 E s v n xs
 | .obj b o=>w.heap[b]?=some o
 | .abs O H=>(∀b,O b->b < w.heap.size)/\ ∀w':World,(∀b,O b->w'.heap[b]?=w.heap[b]?)->H w'
theorem Res.own_lt {w:World}{r:Res}(h:r.holds w) {b:Nat}(hb:r.own b):b < w.heap.size:=by
 match r,h,hb with
 | .blk b' T C,h,hb=>have hb:b'=b:=hb;subst hb;exact (Array.getElem?_eq_some_iff.1 h).1
 | .obj b' o,h,hb=>have hb:b'=b:=hb;subst hb;exact (Array.getElem?_eq_some_iff.1 h).1
 | .row v E s n xs,h,hb=>exact (World.ownsRow.lt h b hb).2
 | .abs O H,h,hb=>exact h.1 b hb
theorem zlN {w w':World}{b:Nat}(h:b < w.heap.size) (e:w'.heap[b]?=w.heap[b]?):b < w'.heap.size:=by
 rw [Array.getElem?_eq_getElem h] at e;exact (Array.getElem?_eq_some_iff.1 e).1
theorem Res.holds_congr {w w':World}{r:Res}(h:r.holds w) (hb: ∀b,r.own b->w'.heap[b]?=w.heap[b]?):r.holds w':=by
 match r,h,hb with
 | .blk b T C,h,hb=>exact (hb b rfl).trans h
 | .obj b o,h,hb=>exact (hb b rfl).trans h
 | .abs O H,h,hb=>exact ⟨λb ho=>zlN (h.1 b ho) (hb b ho),λw'' h''=>h.2 w'' λb ho=>(h'' b ho).trans (hb b ho)⟩
 | .row v E s n xs,h,hb=>
  obtain ⟨h1,h2|⟨g,cap,cur,rfl,h3,h4,h5⟩⟩:=h
  ·exact ⟨h1,.inl h2⟩
  ·exact ⟨h1,.inr ⟨g,cap,cur,rfl,h3,(hb g rfl).trans h4,h5⟩⟩
def Apart (r r':Res):Prop:=∀b,r.own b-> ¬r'.own b
theorem Apart.symm {r r':Res}(h:Apart r r'):Apart r' r:=λb hb hb'=>h b hb' hb
structure Keep (M:Nat->Prop) (w0 w:World):Prop where
 os:w.os=w0.os
 tape:w.tape=w0.tape
 output:w.output=w0.output
 size:w0.heap.size<=w.heap.size
 block: ∀k,k < w0.heap.size-> ¬M k->w.heap[k]?=w0.heap[k]?
abbrev No:Nat->Prop:=λ_=>False
theorem Keep.refl (M:Nat->Prop) (w:World):Keep M w w:=⟨rfl,rfl,rfl,Nat.le_refl _,λ_ _ _=>rfl⟩
theorem Keep.trans {M M':Nat->Prop}{a b c:World}(h:Keep M a b) (k:Keep M' b c) (hm: ∀x,M' x->a.heap.size<=x\/M x):Keep M a c:=
 ⟨k.os.trans h.os,k.tape.trans h.tape,k.output.trans h.output,Nat.le_trans h.size k.size,λx hx hn=>
  (k.block x (Nat.lt_of_lt_of_le hx h.size) (λhmx=>(hm x hmx).elim (λh=>absurd hx (Nat.not_lt.2 h)) hn)).trans (h.block x hx hn)⟩
theorem Keep.mono {M M':Nat->Prop}{a b:World}(h:Keep M a b) (hm: ∀x,M x->M' x):Keep M' a b:=
 ⟨h.os,h.tape,h.output,h.size,λx hx hn=>h.block x hx (λh=>hn (hm x h))⟩
theorem Keep.below {w w':World}(h:Keep No w w'):Below w.heap.size w w':=⟨h.os,h.tape,h.output,h.size,λk hk=>h.block k hk (λh=>h)⟩
theorem Keep.of_below {M:Nat->Prop}{w w':World}(h:Below w.heap.size w w'):Keep M w w':=⟨h.os,h.tape,h.output,h.size,λk hk _=>h.block k hk⟩
theorem Keep.alloc (M:Nat->Prop) (w:World) (o:Obj):Keep M w (w.alloc o):=
 ⟨rfl,rfl,rfl,by simp,λk hk _=>Below.heap_alloc w o k hk⟩
theorem Keep.setCell (w:World) (a:Addr) (v:Value):Keep (· =a.block) w (w.setCell a v):=
 ⟨rfl,rfl,rfl,by simp,λk _ hn=>Below.heap_setCell w a v k hn⟩
theorem Keep.grown {w w':World}{row:Option Nat}(h:w.grownBy w' row):Keep (λk=>row=some k) w w':=
 ⟨h.os,h.tape,h.output,h.size,λk hk hn=>h.block k hk (λe=>hn e.symm)⟩
theorem Keep.cell {M:Nat->Prop}{w w':World}(h:Keep M w w') {a:Addr}{v:Value}(hv:w.cell? a=some v) (hn: ¬M a.block):w'.cell? a=some v:=by
 have hl:=World.block_lt_of_cell? w a hv;rw [World.cell?_of_block (w:=w) (h.block _ hl hn)];exact hv
structure Holds (B:Nat) (M:Nat->Prop) (L:List Res) (w:World):Prop where
 all: ∀r∈L,r.holds w
 apart:L.Pairwise Apart
 mine: ∀r∈L,∀b,r.own b->B<=b\/M b
theorem Holds.nil {B:Nat}{M:Nat->Prop}{w:World} :Holds B M [] w:=⟨λ_ h=>(List.not_mem_nil h).elim,List.Pairwise.nil,λ_ h=>(List.not_mem_nil h).elim⟩
theorem Holds.tail {B:Nat}{M:Nat->Prop}{r:Res}{L:List Res}{w:World}(h:Holds B M (r::L) w):Holds B M L w:=
 ⟨λx hx=>h.all x (List.mem_cons_of_mem _ hx),(List.pairwise_cons.1 h.apart).2,λx hx=>h.mine x (List.mem_cons_of_mem _ hx)⟩
theorem Holds.cons {B:Nat}{M:Nat->Prop}{r:Res}{L:List Res}{w:World}(h:Holds B M L w) (hr:r.holds w) (ha: ∀x∈L,Apart r x) (hm: ∀b,r.own b->B<=b\/M b):Holds B M (r::L) w:=
 ⟨λx hx=>by
  rcases List.mem_cons.1 hx with rfl|hx
  ·exact hr
  ·exact h.all x hx,List.pairwise_cons.2 ⟨ha,h.apart⟩,λx hx=>by
  rcases List.mem_cons.1 hx with rfl|hx
  ·exact hm
  ·exact h.mine x hx⟩
theorem Holds.keep {B:Nat}{M M':Nat->Prop}{L:List Res}{w w':World}(h:Holds B M L w) (hk:Keep M' w w') (hn: ∀r∈L,∀b,r.own b-> ¬M' b):Holds B M L w':=
 ⟨λr hr=>Res.holds_congr (h.all r hr) (λb hb=>hk.block b (Res.own_lt (h.all r hr) hb) (hn r hr b hb)),h.apart,h.mine⟩
theorem Holds.perm {B:Nat}{M:Nat->Prop}{L L':List Res}{w:World}(h:Holds B M L w) (hp:L.Perm L'):Holds B M L' w:=
 ⟨λr hr=>h.all r (hp.mem_iff.2 hr),(hp.pairwise_iff (λh=>Apart.symm h)).1 h.apart,λr hr=>h.mine r (hp.mem_iff.2 hr)⟩
theorem Holds.sublist {B:Nat}{M:Nat->Prop}{L L':List Res}{w:World}(h:Holds B M L w) (hp:L'.Sublist L):Holds B M L' w:=
 ⟨λr hr=>h.all r (hp.subset hr),h.apart.sublist hp,λr hr=>h.mine r (hp.subset hr)⟩
theorem Holds.new {B:Nat}{M:Nat->Prop}{L:List Res}{w:World}(h:Holds B M L w) (hB:B<=w.heap.size) (T:Nat) (C:List Value):
  Holds B M (.blk w.heap.size T C::L) (w.alloc (.cells C.toArray T)):=by
 refine (h.keep (Keep.alloc No w _) (λ_ _ _ _ h=>h)).cons ?_ ?_ ?_
 ·show (w.heap.push _)[w.heap.size]?=_;simp
 ·intro x hx b hb hb';cases hb;have:=Res.own_lt (h.all x hx) hb';omega
 ·intro b hb;cases hb;exact .inl hB
def Has (L:List Res) (r:Res):Prop:=r∈L
theorem Has.here {r:Res}{L:List Res} :Has (r::L) r:=List.mem_cons_self
theorem Has.there {r x:Res}{L:List Res}(h:Has L r):Has (x::L) r:=List.mem_cons_of_mem _ h
theorem Has.go {L:List Res}{r:Res}(h:Has L r:=by repeat (first|exact Has.here|apply Has.there)):Has L r:=h
theorem Has.mem {L:List Res}{r:Res}(h:Has L r):r∈L:=h
theorem Has.append {L X:List Res}{r:Res}(h:Has L r):Has (L ++ X) r:=List.mem_append_left _ h
def Upd (L:List Res) (r r':Res) (L':List Res):Prop:=∃A B,L=A ++ r::B/\L'=A ++ r'::B
theorem Upd.here {r r':Res}{L:List Res} :Upd (r::L) r r' (r'::L):=⟨[],L,rfl,rfl⟩
theorem Upd.there {r r' x:Res}{L L':List Res}(h:Upd L r r' L'):Upd (x::L) r r' (x::L'):=
 let ⟨A,B,e,e'⟩:=h;⟨x::A,B,by rw [e];rfl,by rw [e'];rfl⟩
theorem Upd.append {L L' X:List Res}{r r':Res}(h:Upd L r r' L'):Upd (L ++ X) r r' (L' ++ X):=
 let ⟨A,B,e,e'⟩:=h;⟨A,B ++ X,by rw [e];simp,by rw [e'];simp⟩
def Rem (L:List Res) (r:Res) (L':List Res):Prop:=∃A B,L=A ++ r::B/\L'=A ++ B
theorem Rem.here {r:Res}{L:List Res} :Rem (r::L) r L:=⟨[],L,rfl,rfl⟩
theorem Rem.there {r x:Res}{L L':List Res}(h:Rem L r L'):Rem (x::L) r (x::L'):=
 let ⟨A,B,e,e'⟩:=h;⟨x::A,B,by rw [e];rfl,by rw [e'];rfl⟩
theorem Rem.append {L L' X:List Res}{r:Res}(h:Rem L r L'):Rem (L ++ X) r (L' ++ X):=
 let ⟨A,B,e,e'⟩:=h;⟨A,B ++ X,by rw [e];simp,by rw [e'];simp⟩
theorem Rem.perm {L L':List Res}{r:Res}(h:Rem L r L'):L.Perm (r::L'):=by
 obtain ⟨A,B,e,e'⟩:=h;rw [e,e'];exact List.perm_middle
theorem Upd.rem {L L':List Res}{r r':Res}(h:Upd L r r' L'): ∃L1,L.Perm (r::L1)/\L'.Perm (r'::L1):=by
 obtain ⟨A,B,e,e'⟩:=h;exact ⟨A ++ B,by rw [e];exact List.perm_middle,by rw [e'];exact List.perm_middle⟩
def SubR (R L:List Res):Prop:=∃X,L.Perm (R ++ X)
theorem SubR.nil {L:List Res} :SubR [] L:=⟨L,List.Perm.refl _⟩
theorem SubR.pick {r r':Res}{R L L':List Res}(h:Rem L r' L') (e:r'=r) (hs:SubR R L'):SubR (r::R) L:=by
 obtain ⟨X,hX⟩:=hs;subst e;exact ⟨X,h.perm.trans (List.Perm.cons _ hX)⟩
theorem SubR.blk {b T:Nat}{C C':List Value}{R L L':List Res}(h:Rem L (.blk b T C') L') (e:C'=C) (hs:SubR R L'):SubR (.blk b T C::R) L:=by
 subst e;exact SubR.pick h rfl hs
theorem SubR.refl {L:List Res} :SubR L L:=⟨[],by simp⟩
theorem SubR.perm {R L:List Res}(h:SubR R L): ∃X,L.Perm (R ++ X):=h
theorem Holds.has {B:Nat}{M:Nat->Prop}{L:List Res}{w:World}(h:Holds B M L w) {r:Res}(hr:Has L r):r.holds w:=h.all r hr.mem
theorem Holds.subR {B:Nat}{M:Nat->Prop}{L R:List Res}{w:World}(h:Holds B M L w) (hs:SubR R L):Holds B M R w:=by
 obtain ⟨X,hX⟩:=hs.perm;exact (h.perm hX).sublist (List.sublist_append_left R X)
theorem Holds.upd {B:Nat}{M:Nat->Prop}{L L':List Res}{r r':Res}{w w':World}(h:Holds B M L w) (hu:Upd L r r' L') (ho: ∀b,r'.own b->r.own b\/(w.heap.size<=b/\B<=b)) (hr:r'.holds w') (hk:Keep (λk=>r.own k) w w'):Holds B M L' w':=by
 obtain ⟨L1,h1,h2⟩:=hu.rem;have h':=h.perm h1;have ht:=h'.tail;refine Holds.perm (L:=r'::L1) ?_ h2.symm;refine (ht.keep hk (λx hx b hb hb'=>?_)).cons hr (λx hx b hb=>?_) (λb hb=>?_)
 ·exact (List.pairwise_cons.1 h'.apart).1 x hx b hb' hb
 ·rcases ho b hb with hb|⟨hb,_⟩
  ·exact (List.pairwise_cons.1 h'.apart).1 x hx b hb
  ·intro hb';have:=Res.own_lt (ht.all x hx) hb';omega
 ·rcases ho b hb with hb|⟨_,hb⟩
  ·exact h'.mine r List.mem_cons_self b hb
  ·exact .inl hb
structure St (N:Nat) (w0:World) (M:Nat->Prop) (ds:List Deferred) (g:Nat->Option Value) (L:List Res) (a:Act) (w:World):Prop where
 size:a.tmps.size=N
 agr:Agrees g a
 keep:Keep M w0 w
 hold:Holds w0.heap.size M L w
def FW (ro:Option Nat):Fence:={ Fence.wide with round:=ro }
theorem zsn:FW none=Fence.wide:=rfl
theorem zso (l:Nat):FW (some l)=Fence.wide.inRound l:=rfl
section
variable {P:Program}{ro:Option Nat}{N:Nat}{w0:World}{M:Nat->Prop}{ds:List Deferred}
theorem St.weaken {g g':Nat->Option Value}{L L':List Res}{a:Act}{w:World}(h:St N w0 M ds g L a w) (hg: ∀t v,g' t=some v->g t=some v) (hL:SubR L' L):St N w0 M ds g' L' a w:=
 ⟨h.size,h.agr.sub hg,h.keep,h.hold.subR hL⟩
theorem St.perm {g:Nat->Option Value}{L L':List Res}{a:Act}{w:World}(h:St N w0 M ds g L a w) (hL:L.Perm L'):St N w0 M ds g L' a w:=
 ⟨h.size,h.agr,h.keep,h.hold.perm hL⟩
def col (D:Nat):Deferred:={ target:=.collected D,args:=#[] }
def dob (D:Nat):Res:=.obj D (.deferred (some []))
def StD (N:Nat) (w0:World) (M:Nat->Prop) (ds:List Deferred) (g:Nat->Option Value) (L:List Res) (a:Act) (w:World):Prop:=
 ∃Ds:List Nat,a.defers=Ds.map col ++ ds/\St N w0 M ds g (L ++ Ds.map dob) a w
theorem SubR.append {R L X:List Res}(h:SubR R L):SubR (R ++ X) (L ++ X):=by
 obtain ⟨Y,hY⟩:=h;refine ⟨Y,(hY.append_right X).trans ?_⟩;rw [List.append_assoc,List.append_assoc];exact List.Perm.append_left R List.perm_append_comm
theorem StD.weaken {g g':Nat->Option Value}{L L':List Res}{a:Act}{w:World}(h:StD N w0 M ds g L a w) (hg: ∀t v,g' t=some v->g t=some v) (hL:SubR L' L):StD N w0 M ds g' L' a w:=
 let ⟨Ds,hd,hs⟩:=h;⟨Ds,hd,hs.weaken hg hL.append⟩
theorem StD.agr {g:Nat->Option Value}{L:List Res}{a:Act}{w:World}(h:StD N w0 M ds g L a w):Agrees g a:=let ⟨_,_,hs⟩:=h;hs.agr
def SyX (N:Nat) (w0:World) (M:Nat->Prop) (ds:List Deferred) (K:Act->World->Prop) (fr:Fr) (L:List Res):Prop:=∀a w,StD N w0 M ds (get fr) L a w->K a w
def Sy (P:Program) (ro:Option Nat) (N:Nat) (w0:World) (M:Nat->Prop) (ds:List Deferred) (c:Code) (Q:Exit->Act->World->Prop) (fr:Fr) (L:List Res):Prop:=
 ∀a w,StD N w0 M ds (get fr) L a w->c.wpIn (FW ro) 0 P Q a w
def SyL (P:Program) (ro:Option Nat) (N:Nat) (w0:World) (M:Nat->Prop) (ds:List Deferred) (ops:Array Oper) (Q:Exit->Act->World->Prop) (rest:List Oper) (fr:Fr) (L:List Res):Prop:=
 ∀a w,StD N w0 M ds (get fr) L a w->wpListIn (FW ro) 0 P ops Q rest a w
variable {Q:Exit->Act->World->Prop}{fr:Fr}{L:List Res}
theorem zcy {c:Operand}{x y:Code}{t:Bool}(hc:ev (get fr) c=some (.bool t)) (ht:t=true->Sy P ro N w0 M ds x Q fr L) (hf:t=false->Sy P ro N w0 M ds y Q fr L):Sy P ro N w0 M ds (.cond c x y) Q fr L:=
 λa w hs=>wpIn_cond_split (hs.agr.eval hc) (λh=>ht h a w hs) (λh=>hf h a w hs)
theorem zcv {id:Nat}{c:Code}(h:Sy P ro N w0 M ds c (Exit.inBlock id Q) fr L):Sy P ro N w0 M ds (.block id c) Q fr L:=λa w hs=>wpIn_block (h a w hs)
theorem zcE (h:SyX N w0 M ds (Q .normal) fr L):Sy P ro N w0 M ds .skip Q fr L:=λa w hs=>wpIn_skip (h a w hs)
theorem zeY {l:Nat}(h:SyX N w0 M ds (Q .normal) fr L):Sy P ro N w0 M ds (.label l) Q fr L:=λa w hs=>wpIn_label (h a w hs)
theorem zey {id:Nat}(h:SyX N w0 M ds (Q (.exit id)) fr L):Sy P ro N w0 M ds (.exit id) Q fr L:=λa w hs=>wpIn_exit (h a w hs)
theorem zdL {l:Nat}(h:SyX N w0 M ds (Q (.goto l)) fr L):Sy P ro N w0 M ds (.goto l) Q fr L:=λa w hs=>wpIn_goto (h a w hs)
theorem zgR (h:SyX N w0 M ds (Q .ret) fr L):Sy P ro N w0 M ds .ret Q fr L:=λa w hs=>wpIn_ret (h a w hs)
theorem zbc {id:Nat}{l:List Oper}(h:SyL P ro N w0 M ds l.toArray Q l fr L):Sy P ro N w0 M ds (.region id l.toArray false) Q fr L:=
 λa w hs=>wpIn_region_lit (h a w hs)
theorem zae {ops:Array Oper}(h:SyX N w0 M ds (Q .normal) fr L):SyL P ro N w0 M ds ops Q [] fr L:=λa w hs=>h a w hs
theorem zZ {K:Act->World->Prop}(h:SyX N w0 M ds K fr L):SyX N w0 M ds (Exit.then K Q .normal) fr L:=h
theorem zcm {K:Act->World->Prop}{id:Nat}(h:SyX N w0 M ds (Q (.exit id)) fr L):SyX N w0 M ds (Exit.then K Q (.exit id)) fr L:=h
theorem zbD {K:Act->World->Prop}{id:Nat}(h:SyX N w0 M ds (Q (.goto id)) fr L):SyX N w0 M ds (Exit.then K Q (.goto id)) fr L:=h
theorem zcO {K:Act->World->Prop}(h:SyX N w0 M ds (Q .ret) fr L):SyX N w0 M ds (Exit.then K Q .ret) fr L:=h
theorem zfj {id:Nat}(h:SyX N w0 M ds (Q .normal) fr L):SyX N w0 M ds (Exit.inBlock id Q .normal) fr L:=h
theorem zdC {id:Nat}(h:SyX N w0 M ds (Q .ret) fr L):SyX N w0 M ds (Exit.inBlock id Q .ret) fr L:=h
theorem zch {id:Nat}(h:SyX N w0 M ds (Q .normal) fr L):SyX N w0 M ds (Exit.inBlock id Q (.exit id)) fr L:=λa w hs=>by
 simp only [Exit.inBlock,if_true];exact h a w hs
theorem zdh {id id':Nat}(hne:Nat.beq id' id=false) (h:SyX N w0 M ds (Q (.exit id')) fr L):SyX N w0 M ds (Exit.inBlock id Q (.exit id')) fr L:=λa w hs=>by
 simp only [Exit.inBlock,if_neg (Nat.ne_of_beq_eq_false hne)];exact h a w hs
def CK (P:Program) (ro:Option Nat) (y:Code) (Q:Exit->Act->World->Prop) (a:Act) (w:World):Prop:=y.wpIn (FW ro) 0 P Q a w
theorem zbC {x y:Code}(h:Sy P ro N w0 M ds x (Exit.then (CK P ro y Q) Q) fr L):Sy P ro N w0 M ds (.seq x y) Q fr L:=λa w hs=>wpIn_seq (h a w hs)
theorem zeu {y:Code}(h:Sy P ro N w0 M ds y Q fr L):SyX N w0 M ds (CK P ro y Q) fr L:=h
theorem zfZ {c:Operand}{x y:Code}(hc:ev (get fr) c=some (.bool true)) (h:Sy P ro N w0 M ds x Q fr L):Sy P ro N w0 M ds (.cond c x y) Q fr L:=zcy hc (λ_=>h) (λh=>by cases h)
theorem zfW {c:Operand}{x y:Code}(hc:ev (get fr) c=some (.bool false)) (h:Sy P ro N w0 M ds y Q fr L):Sy P ro N w0 M ds (.cond c x y) Q fr L:=zcy hc (λh=>by cases h) (λ_=>h)
def CutK (N:Nat) (w0:World) (M:Nat->Prop) (ds:List Deferred) {γ:Type}(f:γ->Fr) (R:γ->List Res) (I:γ->Prop) (a:Act) (w:World):Prop:=∃g,I g/\StD N w0 M ds (get (f g)) (R g) a w
theorem zT {γ:Type}{f:γ->Fr}{R:γ->List Res}{I:γ->Prop}(g:γ) (hI:I g) (hf:Sub (f g) fr) (hR:SubR (R g) L):SyX N w0 M ds (CutK N w0 M ds f R I) fr L:=λ_ _ hs=>⟨g,hI,hs.weaken hf hR⟩
theorem Sy.weaken {c:Code}{fr':Fr}{L':List Res}(h:Sy P ro N w0 M ds c Q fr' L') (hf:Sub fr' fr) (hL:SubR L' L):Sy P ro N w0 M ds c Q fr L:=λa w hs=>h a w (hs.weaken hf hL)
theorem SyX.weaken {K:Act->World->Prop}{fr':Fr}{L':List Res}(h:SyX N w0 M ds K fr' L') (hf:Sub fr' fr) (hL:SubR L' L):SyX N w0 M ds K fr L:=λa w hs=>h a w (hs.weaken hf hL)
def LoopK (N:Nat) (w0:World) (M:Nat->Prop) (ds:List Deferred) {γ:Type}(f:γ->Fr) (R:γ->List Res) (I:γ->Prop) (μ:γ->Nat) (m:Nat) (a:Act) (w:World):Prop:=
 ∃g,I g/\μ g < m/\StD N w0 M ds (get (f g)) (R g) a w
theorem zy {γ:Type}(f:γ->Fr) (R:γ->List Res) (I:γ->Prop) (μ:γ->Nat) {c:Code}(g0:γ) (h0:I g0) (hf:Sub (f g0) fr) (hR:SubR (R g0) L)
  (hb: ∀g,I g->Sy P ro N w0 M ds c (Exit.then (LoopK N w0 M ds f R I μ (μ g)) Q) (f g) (R g)):Sy P ro N w0 M ds (.loop c) Q fr L:=by
 intro a w hs;refine wpIn_loop (λa w=>∃g,I g/\StD N w0 M ds (get (f g)) (R g) a w) (λa w=>
  Classical.epsilon (λm=>(∃g,I g/\StD N w0 M ds (get (f g)) (R g) a w/\μ g=m)/\ ∀g,I g->StD N w0 M ds (get (f g)) (R g) a w->m<=μ g)) ⟨g0,h0,hs.weaken hf hR⟩ ?_
 intro a w hI;have least: ∀a w,(∃g,I g/\StD N w0 M ds (get (f g)) (R g) a w)-> ∃m,(∃g,I g/\StD N w0 M ds (get (f g)) (R g) a w/\μ g=m)/\ ∀g,I g->StD N w0 M ds (get (f g)) (R g) a w->m<=μ g:=by
  intro a w ⟨g,hg,hst⟩;generalize hm:μ g=m
  induction m using Nat.strongRecOn generalizing g with
  |_ m ih=>
   by_cases hl: ∃g',I g'/\StD N w0 M ds (get (f g')) (R g') a w/\μ g' < m
   ·obtain ⟨g',h1,h2,h3⟩:=hl;exact ih (μ g') h3 g' h1 h2 rfl
   ·exact ⟨m,⟨g,hg,hst,hm⟩,λg' h1 h2=>Nat.le_of_not_lt λh=>hl ⟨g',h1,h2,h⟩⟩
 have mu: ∀a w,(hI: ∃g,I g/\StD N w0 M ds (get (f g)) (R g) a w)-> ∀m,((∃g,I g/\StD N w0 M ds (get (f g)) (R g) a w/\μ g=m)/\ ∀g,I g->StD N w0 M ds (get (f g)) (R g) a w->m<=μ g)->
   Classical.epsilon (λm=>(∃g,I g/\StD N w0 M ds (get (f g)) (R g) a w/\μ g=m)/\ ∀g,I g->StD N w0 M ds (get (f g)) (R g) a w->m<=μ g)=m:=by
  intro a w hI m hm;have hs:=Classical.epsilon_spec (least a w hI);obtain ⟨⟨g1,a1,b1,c1⟩,d1⟩:=hs;obtain ⟨⟨g2,a2,b2,c2⟩,d2⟩:=hm;have h1:=d1 g2 a2 b2;have h2:=d2 g1 a1 b1;omega
 obtain ⟨m,⟨g,hg,hst,rfl⟩,hmin⟩:=least a w hI;refine wpIn_mono (hb g hg a w hst) ?_;intro e a' w' hq;cases e with
 |normal=>
  obtain ⟨g',h1,h2,h3⟩:=hq;have hI': ∃g,I g/\StD N w0 M ds (get (f g)) (R g) a' w':=⟨g',h1,h3⟩;refine ⟨hI',?_⟩;obtain ⟨m',hm'⟩:=least a' w' hI';rw [mu a' w' hI' m' hm',mu a w hI (μ g) ⟨⟨g,hg,hst,rfl⟩,hmin⟩];exact Nat.lt_of_le_of_lt (hm'.2 g' h1 h3) h2
 |exit id=>exact hq
 |goto l=>exact hq
 |ret=>exact hq
 |panic c=>exact hq
 |outgrown=>exact hq
theorem zq {γ:Type}{f:γ->Fr}{R:γ->List Res}{I:γ->Prop}{μ:γ->Nat}{m:Nat}(g:γ) (hI:I g) (hm:μ g < m) (hf:Sub (f g) fr) (hR:SubR (R g) L):SyX N w0 M ds (LoopK N w0 M ds f R I μ m) fr L:=
 λ_ _ hs=>⟨g,hI,hm,hs.weaken hf hR⟩
def OpT (P:Program) (ro:Option Nat) (N:Nat) (w0:World) (M:Nat->Prop) (ds:List Deferred) (o:Oper) (g:Nat->Option Value) (L:List Res) (post:Value->List Res->Prop):Prop:=
 ∀a w X (next:Act->World->Prop) (Q:Exit->Act->World->Prop),St N w0 M ds g (L ++ X) a w->
  (∀v w' L',post v L'->Keep M w0 w'->Holds w0.heap.size M (L' ++ X) w'->next (a.put o.dst v) w')->o.wpIn (FW ro) 0 P a w next Q
def Det (v:Value) (L:List Res):Value->List Res->Prop:=λv' L'=>v'=v/\L'=L
theorem St.put {w w':World}{a:Act}{L':List Res}{d:Nat}(h:St N w0 M ds (get fr) L a w) (hd:d < N) (v:Value) (hk:Keep M w0 w') (hh:Holds w0.heap.size M L' w'):St N w0 M ds (get ((d,v)::fr)) L' (a.put (some d) v) w':=
 ⟨by simp only [Act.put,Array.size_setIfInBounds];exact h.size,h.agr.put (by rw [h.size];exact hd) v,hk,hh⟩
theorem St.put_none {w w':World}{a:Act}{L':List Res}{v:Value}(h:St N w0 M ds (get fr) L a w) (hk:Keep M w0 w') (hh:Holds w0.heap.size M L' w'):St N w0 M ds (get fr) L' (a.put none v) w':=
 ⟨h.size,h.agr,hk,hh⟩
def wants (ops:Array Oper) (o:Oper) (g:Nat->Option Value):Option Bool:=
 match o.guard with
 |none=>some true
 |some (j,want)=>match (ops[j]?).bind (·.dst) with
  |none=>some false
  |some d=>match g d with
   |some (.bool b)=>some (b == want)
   |some _=>some false
   |none=>none
theorem zbp {ops:Array Oper}{o:Oper}{g:Nat->Option Value}{a:Act}(h:Agrees g a) {b:Bool}(hw:wants ops o g=some b):Region.wanted o (yielded ops a.tmps)=b:=by
 unfold wants at hw;unfold Region.wanted;cases hg:o.guard with
 |none=>rw [hg] at hw;simpa using hw
 |some p=>
  obtain ⟨j,want⟩:=p;rw [hg] at hw;simp only at hw ⊢;unfold yielded;cases hd:(ops[j]?).bind (·.dst) with
  |none=>rw [hd] at hw;simp only [Option.some.injEq] at hw;subst hw;simp
  |some d=>
   rw [hd] at hw;simp only at hw;cases hv:g d with
   |none=>rw [hv] at hw;cases hw
   |some v=>
    rw [hv] at hw;simp only [Option.bind_some,h d v hv];cases v <;> simp_all
theorem zfn {ops:Array Oper}{rest:List Oper}{o:Oper}{a:Act}{w:World}(hg:Region.wanted o (yielded ops a.tmps)=true) (h:o.wpIn (FW ro) 0 P a w (wpListIn (FW ro) 0 P ops Q rest) Q):wpListIn (FW ro) 0 P ops Q (o::rest) a w:=by
 unfold wpListIn;rw [if_pos hg];exact h
theorem syl {ops:Array Oper}{rest:List Oper}{o:Oper}{post:Value->List Res->Prop}{d:Nat}(h:OpT P ro N w0 M ds o (get fr) L post) (hw:wants ops o (get fr)=some true) (hd:o.dst=some d) (hN:Nat.blt d N=true)
  (hr: ∀v L',post v L'->SyL P ro N w0 M ds ops Q rest ((d,v)::fr) L'):SyL P ro N w0 M ds ops Q (o::rest) fr L:=by
 rintro a w ⟨Ds,hds,hs⟩;refine zfn (zbp hs.agr hw) (h a w _ _ _ hs λv w' L' hp hk hh=>?_);rw [hd];exact hr v L' hp _ _ ⟨Ds,hds,hs.put (Nat.le_of_ble_eq_true hN) v hk hh⟩
theorem zr7 {ops:Array Oper}{rest:List Oper}{o:Oper}{post:Value->List Res->Prop}(h:OpT P ro N w0 M ds o (get fr) L post) (hw:wants ops o (get fr)=some true) (hd:o.dst=none)
  (hr: ∀v L',post v L'->SyL P ro N w0 M ds ops Q rest fr L'):SyL P ro N w0 M ds ops Q (o::rest) fr L:=by
 rintro a w ⟨Ds,hds,hs⟩;refine zfn (zbp hs.agr hw) (h a w _ _ _ hs λv w' L' hp hk hh=>?_);rw [hd];exact hr v L' hp _ _ ⟨Ds,hds,hs.put_none hk hh⟩
theorem zaO {ops:Array Oper}{rest:List Oper}{o:Oper}{d:Nat}{v:Value}{L':List Res}(h:OpT P ro N w0 M ds o (get fr) L (Det v L')) (hw:wants ops o (get fr)=some true) (hd:o.dst=some d) (hN:Nat.blt d N=true)
  (hr:SyL P ro N w0 M ds ops Q rest ((d,v)::fr) L'):SyL P ro N w0 M ds ops Q (o::rest) fr L:=
 syl h hw hd hN λ_ _ ⟨e1,e2⟩=>by subst e1;subst e2;exact hr
theorem zmL {ops:Array Oper}{rest:List Oper}{o:Oper}{v:Value}{L':List Res}(h:OpT P ro N w0 M ds o (get fr) L (Det v L')) (hw:wants ops o (get fr)=some true) (hd:o.dst=none)
  (hr:SyL P ro N w0 M ds ops Q rest fr L'):SyL P ro N w0 M ds ops Q (o::rest) fr L:=
 zr7 h hw hd λ_ _ ⟨e1,e2⟩=>by subst e1;subst e2;exact hr
theorem yv {ops:Array Oper}{rest:List Oper}{o:Oper}{d:Nat}{v:Value}{L':List Res}(h:OpT P ro N w0 M ds o (get fr) L (Det v L')) (hw:wants ops o (get fr)=some true:=by exact rfl) (hd:o.dst=some d:=by exact rfl) (hN:Nat.blt d N=true:=by exact rfl)
  (k:SyL P ro N w0 M ds ops Q rest ((d,v)::fr) L'):SyL P ro N w0 M ds ops Q (o::rest) fr L:=zaO h hw hd hN k
theorem yn {ops:Array Oper}{rest:List Oper}{o:Oper}{v:Value}{L':List Res}(h:OpT P ro N w0 M ds o (get fr) L (Det v L')) (hw:wants ops o (get fr)=some true:=by exact rfl) (hd:o.dst=none:=by exact rfl)
  (k:SyL P ro N w0 M ds ops Q rest fr L'):SyL P ro N w0 M ds ops Q (o::rest) fr L:=zmL h hw hd k
theorem ys {ops:Array Oper}{rest:List Oper}{o:Oper}{post:Value->List Res->Prop}{d:Nat}(h:OpT P ro N w0 M ds o (get fr) L post) (hw:wants ops o (get fr)=some true:=by exact rfl) (hd:o.dst=some d:=by exact rfl) (hN:Nat.blt d N=true:=by exact rfl)
  (k: ∀v L',post v L'->SyL P ro N w0 M ds ops Q rest ((d,v)::fr) L'):SyL P ro N w0 M ds ops Q (o::rest) fr L:=syl h hw hd hN k
theorem zP {ops:Array Oper}{rest:List Oper}{o:Oper}(h:SyL P ro N w0 M ds ops Q (o::rest) fr L):SyL P ro N w0 M ds ops Q (o::rest) fr L:=h
theorem zam {ops:Array Oper}{rest:List Oper}{o:Oper}{d:Nat}(hw:wants ops o (get fr)=some false) (hd:o.dst=some d) (hN:Nat.blt d N=true)
  (hr:SyL P ro N w0 M ds ops Q rest ((d,undef)::fr) L):SyL P ro N w0 M ds ops Q (o::rest) fr L:=by
 rintro a w ⟨Ds,hds,hs⟩;unfold wpListIn;rw [if_neg (by rw [zbp hs.agr hw];decide)];refine ⟨λf hf=>trivial,?_⟩;rw [hd];exact hr _ _ ⟨Ds,hds,hs.put (Nat.le_of_ble_eq_true hN) _ hs.keep hs.hold⟩
end
end Go.Sy
namespace Go.Sy
open Go
theorem zaf {a b:Nat} :Nat.blt a b=true↔a < b:=by unfold Nat.blt;rw [Nat.ble_eq];exact Iff.rfl
theorem za5 {a b:Nat} :Nat.blt a b=false↔b<=a:=by rw [<-Bool.not_eq_true,zaf];exact Nat.not_lt
theorem zav {a b:Nat} :Nat.beq a b=false↔a≠b:=⟨Nat.ne_of_beq_eq_false,λh=>by
 cases hb:Nat.beq a b
 ·rfl
 ·exact (h (Nat.eq_of_beq_eq_true hb)).elim⟩
theorem zcG (a:Nat):Nat.beq a a=true:=Nat.beq_refl a
abbrev Env:=Nat->Value×List Res
abbrev Item:=(Env->Value) ⊕ (Env->Value->List Res->Prop)
def itVal (it:Item) (i:Nat) (ρ:Env):Value:=match it with| .inl v=>v ρ| .inr _=>(ρ i).1
def itRes (it:Item) (i:Nat) (ρ:Env):List Res:=match it with| .inl _=>[]| .inr _=>(ρ i).2
def itRel (it:Item) (i:Nat) (ρ:Env):Prop:=match it with| .inl _=>True| .inr R=>R ρ (ρ i).1 (ρ i).2
def Loc (ts:List Nat) (it:Item):Prop:=∀ρ ρ':Env,(∀k,k∈ts->ρ k=ρ' k)->match it with| .inl v=>v ρ=v ρ'| .inr R=>R ρ=R ρ'
def only (ts:List Nat) (g:Nat->Option Value) (t:Nat):Option Value:=bif ts.contains t then g t else none
def pre (o:Oper):List Nat:=(o.after.toList.filter (Region.binds .any)).map (·.on)
def cl (C:List (List Nat)) (i:Nat):List Nat:=C.getD i []
def dstOf (ops:Array Oper) (i:Nat):Option Nat:=(ops[i]?).bind (·.dst)
def drawOk (ops:Array Oper) (n N:Nat) (C:List (List Nat)):Bool:=
 Nat.ble n ops.size &&
 (List.range ops.size).all λi=>match ops[i]? with
  |none=>true
  |some o=>
   (pre o).all (λj=>Nat.blt j i) && (match o.dst with|none=>true|some d=>Nat.blt d N) &&
   (cl C i).all (λj=>Nat.blt j i && ((pre o).contains j || (pre o).any λk=>(cl C k).contains j)) &&
   (bif Nat.blt i n then (List.range n).all (λj=>Nat.beq i j || match dstOf ops j with
    |none=>true
    |some d=>!(o.dst == some d) && (!((o.looksAt ops).contains d) || (bif Nat.blt j i then (cl C i).contains j else (cl C j).contains i)))
   else (List.range i).all (cl C i).contains)
def relOf (ts:List Nat):List (Nat×(Env->Value->List Res->Prop))->Env->Prop
 | [],_=>True
 |p::r,ρ=>bif ts.contains p.1 then p.2 ρ (ρ p.1).1 (ρ p.1).2/\relOf ts r ρ else relOf ts r ρ
def resOf (ts:List Nat):List (Nat×(Env->Value->List Res->Prop))->Env->List Res->List Res
 | [],_,L=>L
 |p::r,ρ,L=>bif ts.contains p.1 then (ρ p.1).2 ++ resOf ts r ρ L else resOf ts r ρ L
def ext (d:Option Nat) (v:Value) (fr:Fr):Fr:=match d with|some t=>(t,v)::fr|none=>fr
section
variable {P:Program}{ro:Option Nat}{N:Nat}{w0:World}{M:Nat->Prop}{ds:List Deferred}
def GpT (P:Program) (ro:Option Nat) (N:Nat) (w0:World) (M:Nat->Prop) (ds:List Deferred) (ops:Array Oper) (o:Oper) (g:Nat->Option Value) (L:List Res) (post:Value->List Res->Prop):Prop:=
 (wants ops o g=some true/\OpT P ro N w0 M ds o g L post)\/(wants ops o g=some false/\post undef L)
def DH (P:Program) (ro:Option Nat) (N:Nat) (w0:World) (M:Nat->Prop) (ds:List Deferred) (ops:Array Oper) (Q:Exit->Act->World->Prop) (C:List (List Nat)) (L0:List Res):
  Nat->Nat->List Oper->(Env->Fr)->List (Nat×(Env->Value->List Res->Prop))->Prop
 |0,i,rest,F,rs=>∀ρ,relOf (List.range i) rs ρ->SyL P ro N w0 M ds ops Q rest (F ρ) (resOf (List.range i) rs ρ L0)
 |_+1,_,[],_,_=>False
 |k+1,i,o::rest,F,rs=>
  (∃v:Env->Value,Loc (cl C i) (.inl v)/\(∀ρ,relOf (cl C i) rs ρ->GpT P ro N w0 M ds ops o (only (o.looksAt ops) (get (F ρ))) (resOf (cl C i) rs ρ L0) (Det (v ρ) (resOf (cl C i) rs ρ L0)))/\
   DH P ro N w0 M ds ops Q C L0 k (i+1) rest (λρ=>ext o.dst (v ρ) (F ρ)) rs)\/
  (∃R:Env->Value->List Res->Prop,Loc (cl C i) (.inr R)/\(∀ρ,relOf (cl C i) rs ρ->GpT P ro N w0 M ds ops o (only (o.looksAt ops) (get (F ρ))) (resOf (cl C i) rs ρ L0) (λv L'=>∃Nw,L'=Nw ++ resOf (cl C i) rs ρ L0/\R ρ v Nw))/\
   DH P ro N w0 M ds ops Q C L0 k (i+1) rest (λρ=>ext o.dst (ρ i).1 (F ρ)) ((i,R)::rs))
def frT (ops:Array Oper) (it:Nat->Item) (fr:Fr) (ρ:Env):Nat->Fr
 |0=>fr
 |j+1=>ext (dstOf ops j) (itVal (it j) j ρ) (frT ops it fr ρ j)
def rsT (it:Nat->Item):Nat->List (Nat×(Env->Value->List Res->Prop))
 |0=>[]
 |j+1=>match it j with| .inl _=>rsT it j| .inr R=>(j,R)::rsT it j
def Good (P:Program) (ro:Option Nat) (N:Nat) (w0:World) (M:Nat->Prop) (ds:List Deferred) (ops:Array Oper) (C:List (List Nat)) (fr:Fr) (L0:List Res) (it:Nat->Item) (i:Nat) (o:Oper):Prop:=
  Loc (cl C i) (it i)/\ ∀ρ,relOf (cl C i) (rsT it i) ρ->GpT P ro N w0 M ds ops o (only (o.looksAt ops) (get (frT ops it fr ρ i))) (resOf (cl C i) (rsT it i) ρ L0)
    (match it i with
     | .inl v=>Det (v ρ) (resOf (cl C i) (rsT it i) ρ L0)
     | .inr R=>λv L'=>∃Nw,L'=Nw ++ resOf (cl C i) (rsT it i) ρ L0/\R ρ v Nw)
theorem DH.items {ops:Array Oper}{Q:Exit->Act->World->Prop}{C:List (List Nat)}{fr:Fr}{L0:List Res} : ∀(k i:Nat) (rest:List Oper) (it0:Nat->Item),(∀j,rest[j]?=ops[i+j]?)->
  DH P ro N w0 M ds ops Q C L0 k i rest (λρ=>frT ops it0 fr ρ i) (rsT it0 i)->
  ∃it:Nat->Item,(∀j,j < i->it j=it0 j)/\(∀j,i<=j->j < i+k-> ∃o,ops[j]?=some o/\Good P ro N w0 M ds ops C fr L0 it j o)/\
   (∀ρ,relOf (List.range (i+k)) (rsT it (i+k)) ρ->SyL P ro N w0 M ds ops Q (rest.drop k) (frT ops it fr ρ (i+k)) (resOf (List.range (i+k)) (rsT it (i+k)) ρ L0))
 |0,i,rest,it0,_,h=>⟨it0,λ_ _=>rfl,λj h1 h2=>by omega,by simpa [DH] using h⟩
 |k+1,i,[],_,_,h=>by simp [DH] at h
 |k+1,i,o::rest,it0,hr,h=>by
  have ho:ops[i]?=some o:=by simpa using (hr 0).symm
  have hd:dstOf ops i=o.dst:=by simp [dstOf,ho]
  have hr': ∀j,rest[j]?=ops[i+1+j]?:=λj=>by have:=hr (j+1);simpa [Nat.add_assoc,Nat.add_comm 1 j] using this
  have key: ∀(x:Item),Good P ro N w0 M ds ops C fr L0 (λj=>if j=i then x else it0 j) i o->
    DH P ro N w0 M ds ops Q C L0 k (i+1) rest (λρ=>frT ops (λj=>if j=i then x else it0 j) fr ρ (i+1)) (rsT (λj=>if j=i then x else it0 j) (i+1))->
    ∃it:Nat->Item,(∀j,j < i->it j=it0 j)/\(∀j,i<=j->j < i+(k+1)-> ∃o,ops[j]?=some o/\Good P ro N w0 M ds ops C fr L0 it j o)/\
     (∀ρ,relOf (List.range (i+(k+1))) (rsT it (i+(k+1))) ρ->SyL P ro N w0 M ds ops Q ((o::rest).drop (k+1)) (frT ops it fr ρ (i+(k+1))) (resOf (List.range (i+(k+1))) (rsT it (i+(k+1))) ρ L0)):=by
   intro x hg hdh;obtain ⟨it,h1,h2,h3⟩:=DH.items k (i+1) rest _ hr' hdh;have same: ∀j,j<=i->it j=(λj=>if j=i then x else it0 j) j:=λj hj=>h1 j q_o;have efr: ∀ρ j,j<=i+1->frT ops it fr ρ j=frT ops (λj=>if j=i then x else it0 j) fr ρ j:=by
    intro ρ j hj
    induction j with
    |zero=>rfl
    |succ j ih=>simp only [frT];rw [ih q_o,same j q_o]
   have ers: ∀j,j<=i+1->rsT it j=rsT (λj=>if j=i then x else it0 j) j:=by
    intro j hj
    induction j with
    |zero=>rfl
    |succ j ih=>simp only [rsT];rw [ih q_o,same j q_o]
   refine ⟨it,λj hj=>by rw [same j q_o];simp [Nat.ne_of_lt hj],λj hj1 hj2=>?_,?_⟩
   ·by_cases e:j=i
    ·subst e;refine ⟨o,ho,?_⟩;unfold Good at hg ⊢;rw [same j (Nat.le_refl _),ers j q_o];refine ⟨hg.1,λρ hρ=>?_⟩;rw [efr ρ j q_o];exact hg.2 ρ hρ
    ·exact h2 j q_o q_o
   ·have e:i+(k+1)=i+1+k:=q_o;rw [e];simpa using h3
  have frI: ∀(x:Item) ρ,frT ops (λj=>if j=i then x else it0 j) fr ρ i=frT ops it0 fr ρ i:=by
   intro x ρ;have: ∀j,j<=i->frT ops (λj=>if j=i then x else it0 j) fr ρ j=frT ops it0 fr ρ j:=by
    intro j hj
    induction j with
    |zero=>rfl
    |succ j ih=>simp only [frT];rw [ih q_o,if_neg q_o]
   exact this i (Nat.le_refl _)
  have rsI: ∀(x:Item),rsT (λj=>if j=i then x else it0 j) i=rsT it0 i:=by
   intro x;have: ∀j,j<=i->rsT (λj=>if j=i then x else it0 j) j=rsT it0 j:=by
    intro j hj
    induction j with
    |zero=>rfl
    |succ j ih=>simp only [rsT];rw [ih q_o,if_neg q_o]
   exact this i (Nat.le_refl _)
  simp only [DH] at h;rcases h with ⟨v,hl,hg,hdh⟩|⟨R,hl,hg,hdh⟩
  ·refine key (.inl v) ?_ ?_
   ·unfold Good;simp only [if_true];rw [rsI];refine ⟨hl,λρ hρ=>?_⟩;rw [frI];exact hg ρ hρ
   ·simp only [frT,rsT,if_true,itVal,hd,frI,rsI];exact hdh
  ·refine key (.inr R) ?_ ?_
   ·unfold Good;simp only [if_true];rw [rsI];refine ⟨hl,λρ hρ=>?_⟩;rw [frI];exact hg ρ hρ
   ·simp only [frT,rsT,if_true,itVal,hd,frI,rsI];exact hdh
def fm (p:Nat->Bool) (f:Nat->List Res):Nat->List Res
 |0=>[]
 |k+1=>(bif p k then f k else []) ++ fm p f k
theorem zda {p q r:Nat->Bool}{f:Nat->List Res} : ∀n,(∀k,k < n->p k=(q k || r k)/\(q k && r k)=false)->(fm p f n).Perm (fm q f n ++ fm r f n)
 |0,_=>List.Perm.refl _
 |k+1,h=>by
  obtain ⟨h1,h2⟩:=h k q_o;have ih:=zda (f:=f) k (λj hj=>h j q_o);simp only [fm,h1];cases hq:q k <;> cases hr:r k <;> simp only [cond_true,cond_false,Bool.or_self,Bool.or_true,Bool.or_false,List.nil_append,List.append_assoc]
  ·exact ih
  ·refine (List.Perm.append_left _ ih).trans ?_;rw [<-List.append_assoc,<-List.append_assoc];exact List.Perm.append_right _ List.perm_append_comm
  ·exact List.Perm.append_left _ ih
  ·rw [hq,hr] at h2;cases h2
theorem zg9 {p:Nat->Bool}{f:Nat->List Res}{j:Nat}(h: ∀k,j<=k->p k=false): ∀n,j<=n->fm p f n=fm p f j
  | 0, hj => by obtain rfl : j = 0 := q_o
                rfl
  |n+1,hj=>by
    by_cases e:j=n+1
    · rw [e]
    · simp only [fm];rw [h n q_o,zg9 h n q_o];rfl
theorem zc9 {p p':Nat->Bool}{f f':Nat->List Res} : ∀n,(∀k,k < n->p k=p' k/\(p k=true->f k=f' k))->fm p f n=fm p' f' n
 |0,_=>rfl
 |n+1,h=>by
  obtain ⟨h1,h2⟩:=h n q_o;simp only [fm];rw [zc9 n (λk hk=>h k q_o),<-h1];cases hp:p n
  ·rfl
  ·rw [h2 hp]
theorem zhJ {p:Nat->Bool}{f:Nat->List Res} : ∀n,(∀k,k < n->p k=false)->fm p f n= []
 |0,_=>rfl
 |n+1,h=>by simp only [fm];rw [h n q_o,zhJ n (λk hk=>h k q_o)];rfl
theorem zjZ {f:Nat->List Res}(i:Nat): ∀n,i < n->fm (λk=>Nat.beq k i) f n=f i
 |n+1,h=>by
  simp only [fm];by_cases e:n=i
  ·subst e;rw [zhJ n (λk hk=>zav.2 q_o),zcG];simp
  ·rw [zjZ i n q_o,zav.2 e];rfl
theorem zcb {it:Nat->Item}{ts:List Nat}{ρ:Env}{L:List Res} : ∀i,(resOf ts (rsT it i) ρ L).Perm (fm (λk=>ts.contains k) (λk=>itRes (it k) k ρ) i ++ L)
 |0=>List.Perm.refl _
 |i+1=>by
  have ih:=zcb (it:=it) (ts:=ts) (ρ:=ρ) (L:=L) i;simp only [rsT,fm];cases hi:it i with
  |inl v=>simp only [itRes];cases ts.contains i <;> exact ih
  |inr R=>
   simp only [itRes,resOf];cases ts.contains i
   ·exact ih
   ·simp only [cond_true,List.append_assoc];exact List.Perm.append_left _ ih
theorem zdU {it:Nat->Item}{ts:List Nat}{ρ:Env} : ∀i,(∀k,k < i->ts.contains k=true->itRel (it k) k ρ)->relOf ts (rsT it i) ρ
 |0,_=>trivial
 |i+1,h=>by
  have ih:=zdU (it:=it) (ts:=ts) (ρ:=ρ) i (λk hk hc=>h k q_o hc);simp only [rsT];cases hi:it i with
  |inl v=>exact ih
  |inr R=>
   simp only [relOf];cases hc:ts.contains i
   ·exact ih
   ·have:=h i q_o hc;rw [hi] at this;exact ⟨this,ih⟩
theorem zfX {ops:Array Oper}{it:Nat->Item}{fr:Fr}{ρ:Env}{t:Nat}{v:Value} : ∀j,get (frT ops it fr ρ j) t=some v->
  (∃k,k < j/\dstOf ops k=some t/\v=itVal (it k) k ρ)\/((∀k,k < j->dstOf ops k≠some t)/\get fr t=some v)
 |0,h=> .inr ⟨λk hk=>by omega,h⟩
 |j+1,h=>by
  simp only [frT] at h;cases hd:dstOf ops j with
  |none=>
   rw [hd] at h;rcases zfX j h with ⟨k,h1,h2,h3⟩|⟨h1,h2⟩
   ·exact .inl ⟨k,by omega,h2,h3⟩
   ·refine .inr ⟨λk hk=>?_,h2⟩;by_cases e:k=j
    ·subst e;rw [hd];exact λe=>by cases e
    ·exact h1 k q_o
  |some d=>
   rw [hd] at h;simp only [ext,get] at h;cases hb:Nat.beq d t with
   |true=>
    rw [hb] at h;simp only [cond_true,Option.some.injEq] at h;have:=Nat.eq_of_beq_eq_true hb;subst this;exact .inl ⟨j,by omega,hd,h.symm⟩
   |false=>
    rw [hb] at h;simp only [cond_false] at h;have hne:=Nat.ne_of_beq_eq_false hb;rcases zfX j h with ⟨k,h1,h2,h3⟩|⟨h1,h2⟩
    ·exact .inl ⟨k,by omega,h2,h3⟩
    ·refine .inr ⟨λk hk=>?_,h2⟩;by_cases e:k=j
     ·subst e;rw [hd];exact λe=>hne (Option.some.inj e)
     ·exact h1 k q_o
structure DOk (ops:Array Oper) (n N:Nat) (C:List (List Nat)):Prop where
 le:n<=ops.size
 acyc: ∀(i:Nat) (o:Oper),ops[i]?=some o-> ∀j∈pre o,j < i
 low: ∀(i:Nat) (o:Oper),ops[i]?=some o-> ∀d,o.dst=some d->d < N
 clo: ∀(i:Nat) (o:Oper),ops[i]?=some o-> ∀j∈cl C i,j < i/\(j∈pre o\/ ∃k∈pre o,j∈cl C k)
 slot: ∀(i:Nat) (o:Oper),ops[i]?=some o->i < n-> ∀j,j < n->j≠i-> ∀d,dstOf ops j=some d->o.dst≠some d/\(d∈o.looksAt ops->(j < i->j∈cl C i)/\(i < j->i∈cl C j))
 tail: ∀(i:Nat) (o:Oper),ops[i]?=some o->n<=i-> ∀j,j < i->j∈cl C i
theorem zek {ops:Array Oper}{n:Nat}{C:List (List Nat)}(h:drawOk ops n N C=true):DOk ops n N C:=by
 unfold drawOk at h;rw [Bool.and_eq_true,List.all_eq_true] at h;obtain ⟨h0,h1⟩:=h;have get1: ∀i o,ops[i]?=some o->_:=λi o ho=>by
  have hlt:i < ops.size:=(Array.getElem?_eq_some_iff.1 ho).1;have:=h1 i (List.mem_range.2 hlt);rw [ho] at this;simp only [Bool.and_eq_true] at this;exact this
 refine ⟨Nat.le_of_ble_eq_true h0,λi o ho j hj=>?_,λi o ho d hd=>?_,λi o ho j hj=>?_,λi o ho hi j hj hji d hd=>?_,λi o ho hi j hj=>?_⟩
 ·have:=(get1 i o ho).1.1.1;rw [List.all_eq_true] at this;exact zaf.1 (this j hj)
 ·have:=(get1 i o ho).1.1.2;rw [hd] at this;exact zaf.1 this
 ·have:=(get1 i o ho).1.2;rw [List.all_eq_true] at this;have:=this j hj;rw [Bool.and_eq_true,Bool.or_eq_true,List.any_eq_true] at this;refine ⟨zaf.1 this.1,this.2.imp q_p λ⟨k,hk,hc⟩=>⟨k,hk,by simpa using hc⟩⟩
 ·have:=(get1 i o ho).2;rw [zaf.2 hi,cond_true,List.all_eq_true] at this;have:=this j (List.mem_range.2 hj);rw [zav.2 (λe=>hji e.symm),Bool.false_or,hd] at this;simp only [Bool.and_eq_true,Bool.or_eq_true,Bool.not_eq_true'] at this;refine ⟨by simpa using this.1,λhl=>?_⟩;have h2:=this.2.resolve_left (by simp [hl]);refine ⟨λhji'=>?_,λhij=>?_⟩
  ·rw [zaf.2 hji',cond_true] at h2;simpa using h2
  ·rw [za5.2 q_o,cond_false] at h2;simpa using h2
 ·have:=(get1 i o ho).2;rw [za5.2 hi,cond_false,List.all_eq_true] at this;simpa using this j (List.mem_range.2 hj)
theorem zbX {o:Oper}{j:Nat} :j∈pre o↔ ∃e∈o.after,Region.binds .any e=true/\e.on=j:=by
 unfold pre;simp only [List.mem_map,List.mem_filter,Array.mem_toList_iff];exact ⟨λ⟨e,⟨h1,h2⟩,h3⟩=>⟨e,h1,h2,h3⟩,λ⟨e,h1,h2,h3⟩=>⟨e,⟨h1,h2⟩,h3⟩⟩
theorem zhv {ops:Array Oper}{n:Nat}{C:List (List Nat)}(hk:DOk ops n N C) {p:Nat->Bool}(down: ∀k o,p k=true->ops[k]?=some o-> ∀j∈pre o,p j=true):
  ∀i o,ops[i]?=some o->(∀j∈pre o,p j=true)-> ∀j∈cl C i,p j=true:=by
 intro i
 induction i using Nat.strongRecOn with
 |_ i ih=>
  intro o ho hp j hj;obtain ⟨_,h|⟨k,h1,h2⟩⟩:=hk.clo i o ho j hj
  ·exact hp j h
  ·have hki:=hk.acyc i o ho k h1;have hlt:i < ops.size:=(Array.getElem?_eq_some_iff.1 ho).1;have hok:ops[k]?=some ops[k]:=Array.getElem?_eq_getElem q_o;exact ih k hki _ hok (down k _ (hp k h1) hok) j h2
def unl (p:Nat->Bool):Nat->Nat
 |0=>0
 |k+1=>(bif p k then 0 else 1)+unl p k
theorem zgK {p:Nat->Bool} : ∀n,unl p n=0-> ∀k,k < n->p k=true
 |n+1,h,k,hk=>by
  simp only [unl] at h;by_cases e:k=n
  ·subst e;cases hp:p k
   ·rw [hp] at h;simp at h
   ·rfl
  ·exact zgK n q_o k q_o
theorem zj8 {p p':Nat->Bool} : ∀n,(∀k,k < n->p' k=p k)->unl p' n=unl p n
 |0,_=>rfl
 |n+1,h=>by simp only [unl];rw [h n q_o,zj8 n (λk hk=>h k q_o)]
theorem zhE {p p':Nat->Bool}{i:Nat}(hi:p i=false) (hi':p' i=true) (h: ∀k,k≠i->p' k=p k): ∀n,i < n->unl p' n+1=unl p n
 |n+1,hn=>by
  simp only [unl];by_cases e:i=n
  ·subst e;rw [hi,hi',zj8 i (λk hk=>h k q_o)];simp;omega
  ·rw [h n (λe'=>e e'.symm)];have:=zhE hi hi' h n q_o;omega
structure DInv (ops:Array Oper) (n:Nat) (fr:Fr) (L0:List Res) (it:Nat->Item) (N:Nat) (w0:World) (M:Nat->Prop) (dd:List Deferred) (listed:Array Bool) (ρ:Env) (a:Act) (w:World):Prop where
 size:listed.size=ops.size
 head: ∀k,listed.getD k false=true->k < n
 down: ∀(k:Nat) (o:Oper),listed.getD k false=true->ops[k]?=some o-> ∀j∈pre o,listed.getD j false=true
 tsize:a.tmps.size=N
 defs:a.defers=dd
 s1: ∀k d,listed.getD k false=true->dstOf ops k=some d->a.tmps[d]?=some (itVal (it k) k ρ)
 s2: ∀t v,get fr t=some v->(∀k,listed.getD k false=true->dstOf ops k≠some t)->a.tmps[t]?=some v
 rel: ∀k,listed.getD k false=true->itRel (it k) k ρ
 keep:Keep M w0 w
 hold:Holds w0.heap.size M (fm (λk=>listed.getD k false) (λk=>itRes (it k) k ρ) n ++ L0) w
section sound
variable {ops:Array Oper}{n:Nat}{C:List (List Nat)}{fr:Fr}{L0:List Res}{it:Nat->Item}{Q:Exit->Act->World->Prop}{dd:List Deferred}
theorem zaQ {listed:Array Bool}{i:Nat}(h:listed.getD i true=false):listed.getD i false=false:=by
 simp only [Array.getD_eq_getD_getElem?] at h ⊢;cases hl:listed[i]? with
 |none=>rw [hl] at h;simp at h
 |some b=>rw [hl] at h;simpa using h
theorem dstep (hk:DOk ops n N C) (hg: ∀i o,i < n->ops[i]?=some o->Good P ro N w0 M ds ops C fr L0 it i o) {listed:Array Bool}{ρ:Env}{a:Act}{w:World}
    (inv:DInv ops n fr L0 it N w0 M dd listed ρ a w) {i:Nat}(hi:i∈Region.ready .any ops listed) (hin:i < n) {K:Act->World->Prop}
    (hK: ∀ρ' a' w',DInv ops n fr L0 it N w0 M dd (listed.setIfInBounds i true) ρ' a' w'->K a' w'):wpOpIn (FW ro) 0 P ops Q i K a w:=by
  obtain ⟨hli,o,ho,hedges⟩:=mem_ready.1 hi;have hl0:=zaQ hli;have hlt:i < ops.size:=(Array.getElem?_eq_some_iff.1 ho).1;have hpre: ∀j∈pre o,listed.getD j false=true:=λj hj=>by
    obtain ⟨e,he,hb,rfl⟩:=zbX.1 hj;exact hedges e he hb
  have hdn:=zhv hk (p:=λk=>listed.getD k false) inv.down;have hcl:=hdn i o ho hpre;have hdst:dstOf ops i=o.dst:=by simp [dstOf,ho]
  have hclk: ∀k,listed.getD k false=true->i ∉ cl C k:=λk hlk hik=>by
    have hkn:=inv.head k hlk;have hok:ops[k]?=some (ops[k]'(by have:=hk.le;omega)):=Array.getElem?_eq_getElem _;have:listed.getD i false=true:=hdn k _ hok (inv.down k _ hlk hok) i hik;rw [hl0] at this;cases this
  have hcli:i ∉ cl C i:=λh=>by have:=(hk.clo i o ho i h).1;omega
  have hgood:=hg i o hin ho;have hrel:relOf (cl C i) (rsT it i) ρ:=zdU i λk hki hc=>inv.rel k (hcl k (by simpa using hc));have hgp:=hgood.2 ρ hrel;have X:List Res:=[]
  -- memory, as the operation sees it
  have hperm:(fm (λk=>listed.getD k false) (λk=>itRes (it k) k ρ) n ++ L0).Perm (resOf (cl C i) (rsT it i) ρ L0 ++ fm (λk=>listed.getD k false && !(cl C i).contains k) (λk=>itRes (it k) k ρ) n):=by
    have h1:=zda (p:=λk=>listed.getD k false) (q:=λk=>(cl C i).contains k) (r:=λk=>listed.getD k false && !(cl C i).contains k) (f:=λk=>itRes (it k) k ρ) n (λk _=>by
      cases hc:(cl C i).contains k
      · simp
      · have:listed.getD k false=true:=hcl k (by simpa using hc)
        rw [this];exact ⟨rfl,rfl⟩)
    rw [zg9 (p:=λk=>(cl C i).contains k) (j:=i) (λk hik=>by
      cases hc:(cl C i).contains k
      · rfl
      · have:=(hk.clo i o ho k (by simpa using hc)).1;omega) n q_o] at h1
    have h2:=zcb (it:=it) (ts:=cl C i) (ρ:=ρ) (L:=L0) i;refine (List.Perm.append_right L0 h1).trans ?_;refine List.Perm.trans ?_ (List.Perm.append_right _ h2.symm);rw [List.append_assoc,List.append_assoc];exact List.Perm.append_left _ List.perm_append_comm
  have hst:St N w0 M ds (only (o.looksAt ops) (get (frT ops it fr ρ i))) (resOf (cl C i) (rsT it i) ρ L0 ++ fm (λk=>listed.getD k false && !(cl C i).contains k) (λk=>itRes (it k) k ρ) n) a w:=by
    refine ⟨inv.tsize,λt v hv=>?_,inv.keep,inv.hold.perm hperm⟩;unfold only at hv;cases hc:(o.looksAt ops).contains t
    · rw [hc] at hv;cases hv
    · rw [hc,cond_true] at hv
      have htl:t∈o.looksAt ops:=by simpa using hc
      rcases zfX i hv with ⟨k,hki,hkd,rfl⟩|⟨hno,hfr⟩
      · have hs:=(hk.slot i o ho hin k q_o q_o t hkd).2 htl
        exact inv.s1 k t (hcl k (hs.1 hki)) hkd
      · refine inv.s2 t v hfr λk hlk hkd=>?_
        have hkn:=inv.head k hlk;have hki:k≠i:=λe=>by rw [e,hl0] at hlk;cases hlk
        have hs:=(hk.slot i o ho hin k hkn hki t hkd).2 htl;by_cases hlt':k < i
        · exact hno k hlt' hkd
        · exact hclk k hlk (hs.2 q_o)
  -- what follows from its results
  have fin: ∀(ρ':Env) (v:Value) (w':World),(∀k,k≠i->ρ' k=ρ k)->itVal (it i) i ρ'=v->itRel (it i) i ρ'->Keep M w0 w'->
      Holds w0.heap.size M (itRes (it i) i ρ' ++ resOf (cl C i) (rsT it i) ρ L0 ++ fm (λk=>listed.getD k false && !(cl C i).contains k) (λk=>itRes (it k) k ρ) n) w'->K (a.put o.dst v) w':=by
    intro ρ' v w' hρ hv hr hkp hh;have old: ∀k,listed.getD k false=true->itVal (it k) k ρ'=itVal (it k) k ρ/\itRes (it k) k ρ'=itRes (it k) k ρ/\(itRel (it k) k ρ->itRel (it k) k ρ'):=by
      intro k hlk;have hki:k≠i:=λe=>by rw [e,hl0] at hlk;cases hlk
      have hkn:=inv.head k hlk;have hok:ops[k]?=some (ops[k]'(by have:=hk.le;omega)):=Array.getElem?_eq_getElem _;have hloc:=(hg k _ hkn hok).1 ρ' ρ (λj hj=>hρ j (λe=>hclk k hlk (e ▸ hj)));cases hit:it k with
      |inl f=>rw [hit] at hloc;exact ⟨hloc,rfl,λh=>h⟩
      |inr R=>rw [hit] at hloc;exact ⟨by simp only [itVal,hρ k hki],by simp only [itRes,hρ k hki],λh=>by simp only [itRel,hρ k hki] at h ⊢;rw [show R ρ'=R ρ from hloc];exact h⟩
    have hset: ∀k,(listed.setIfInBounds i true).getD k false=true->k=i\/listed.getD k false=true:=λk hk'=>by
      by_cases e:i=k
      · exact .inl e.symm
      · rw [getD_set_ne false e] at hk';exact .inr hk'
    have hseti:(listed.setIfInBounds i true).getD i false=true:=by
      have:i < listed.size:=by rw [inv.size];exact hlt
      simp [Array.getD_eq_getD_getElem?,this]
    refine hK ρ' _ w' ⟨by simpa using inv.size,λk hk'=>?_,λk o' hk' hok j hj=>?_,?_,?_,λk d hk' hkd=>?_,λt u hu hno=>?_,λk hk'=>?_,hkp,?_⟩
    · rcases hset k hk' with rfl|h
      · exact hin
      · exact inv.head k h
    · rcases hset k hk' with rfl|h
      · rw [ho] at hok;cases hok;exact getD_set_true (hpre j hj)
      · exact getD_set_true (inv.down k o' h hok j hj)
    · cases hd:o.dst <;> simp [Act.put,inv.tsize]
    · cases hd:o.dst <;> simp [Act.put,inv.defs]
    · rcases hset k hk' with rfl|h
      · rw [hdst] at hkd
        rw [hkd];have hdN:=hk.low k o ho d hkd;simp only [Act.put];rw [Array.getElem?_setIfInBounds_self_of_lt (by rw [inv.tsize];exact hdN),hv]
      · have hki:k≠i:=λe=>by rw [e,hl0] at h;cases h
        rw [(old k h).1];have hne:=(hk.slot i o ho hin k (inv.head k h) hki d hkd).1;have:=inv.s1 k d h hkd;cases hd:o.dst with
        |none=>exact this
        |some d'=>
          rw [hd] at hne;simp only [Act.put];rw [Array.getElem?_setIfInBounds_ne (λe=>hne (by rw [e]))];exact this
    · have h1:=inv.s2 t u hu (λk hlk=>hno k (getD_set_true hlk))
      have h2:=hno i hseti;rw [hdst] at h2;cases hd:o.dst with
      |none=>exact h1
      |some d'=>
        rw [hd] at h2;simp only [Act.put];rw [Array.getElem?_setIfInBounds_ne (λe=>h2 (by rw [e]))];exact h1
    · rcases hset k hk' with rfl|h
      · exact hr
      · exact (old k h).2.2 (inv.rel k h)
    · refine hh.perm ?_
      have h1:=zda (p:=λk=>(listed.setIfInBounds i true).getD k false) (q:=λk=>Nat.beq k i) (r:=λk=>listed.getD k false) (f:=λk=>itRes (it k) k ρ') n (λk _=>by
        by_cases e:i=k
        · subst e;rw [hseti,hl0,zcG];simp
        · rw [getD_set_ne false e];simp [zav.2 (λe'=>e e'.symm:k≠i)])
      rw [zjZ i n hin,zc9 (p:=λk=>listed.getD k false) (p':=λk=>listed.getD k false) (f:=λk=>itRes (it k) k ρ') (f':=λk=>itRes (it k) k ρ) n (λk _=>⟨rfl,λh=>(old k h).2.1⟩)] at h1;refine List.Perm.trans ?_ (List.Perm.append_right L0 h1.symm);rw [List.append_assoc,List.append_assoc];exact List.Perm.append_left _ hperm.symm
  have done: ∀v L' w',(match it i with
     | .inl v=>Det (v ρ) (resOf (cl C i) (rsT it i) ρ L0)
     | .inr R=>λv L'=>∃Nw,L'=Nw ++ resOf (cl C i) (rsT it i) ρ L0/\R ρ v Nw) v L'->Keep M w0 w'->
      Holds w0.heap.size M (L' ++ fm (λk=>listed.getD k false && !(cl C i).contains k) (λk=>itRes (it k) k ρ) n) w'->K (a.put o.dst v) w':=by
    intro v L' w' hp hkp hh;have hloc:=hgood.1;have fin:=fin;cases hit:it i with
    |inl f=>
      rw [hit] at hp fin;obtain ⟨e1,e2⟩:=hp;subst e1;subst e2;exact fin ρ _ w' (λ_ _=>rfl) rfl trivial hkp hh
    |inr R=>
      rw [hit] at hp fin hloc;obtain ⟨Nw,e,hR⟩:=hp;subst e;refine fin (λk=>if k=i then (v,Nw) else ρ k) v w' (λk hk'=>by simp [hk']) (by simp [itVal]) ?_ hkp (by simpa [itRes] using hh);have hl:=hloc (λk=>if k=i then (v,Nw) else ρ k) ρ (λk hk'=>by
        have:k≠i:=λe=>hcli (e ▸ hk');simp [this])
      simp only at hl;simp only [itRel,if_true];rw [hl];exact hR
  unfold wpOpIn;rw [ho];simp only;rcases hgp with ⟨hw,hop⟩|⟨hw,hu⟩
  · rw [if_pos (zbp hst.agr hw)]
    exact hop a w _ K Q hst (λv w' L' hp hkp hh=>done v L' w' hp hkp hh)
  · rw [if_neg (by rw [zbp hst.agr hw];decide)]
    exact ⟨λ_ _=>trivial,done undef _ w hu hst.keep hst.hold⟩
theorem dtail (hk:DOk ops n N C): ∀(fuel q:Nat) (rest:List Oper) (listed:Array Bool) (a:Act) (w:World),fuel+q=ops.size->n<=q->listed.size=ops.size->(∀k,k < ops.size->listed.getD k false=Nat.blt k q)->
  (∀j,rest[j]?=ops[q+j]?)->wpListIn (FW ro) 0 P ops Q rest a w->wpAnyIn (FW ro) 0 P .any ops Q fuel listed a w
 |0,q,rest,listed,a,w,hf,hn,hs,hl,hr,h=>by
  have hre:rest= []:=by
   cases rest with
   |nil=>rfl
   |cons o r=>have:=hr 0;simp at this;have:=(Array.getElem?_eq_some_iff.1 this.symm).1;omega
  subst hre;refine ⟨?_,h⟩;refine List.eq_nil_iff_forall_not_mem.2 λi hi=>?_;obtain ⟨h1,o,ho,_⟩:=mem_ready.1 hi;have hlt:i < ops.size:=(Array.getElem?_eq_some_iff.1 ho).1;have:=hl i hlt;rw [zaQ h1] at this;have h3:Nat.blt i q=true:=zaf.2 q_o;rw [h3] at this;cases this
 |f+1,q,rest,listed,a,w,hf,hn,hs,hl,hr,h=>by
  have hq:q < ops.size:=q_o;have hoq:ops[q]?=some ops[q]:=Array.getElem?_eq_getElem hq;have hready:q∈Region.ready .any ops listed:=mem_ready.2 ⟨by
   have:=hl q hq;rw [za5.2 (Nat.le_refl q)] at this;simp only [Array.getD_eq_getD_getElem?] at this ⊢;rw [Array.getElem?_eq_getElem q_o] at this ⊢;simpa using this,_,hoq,λe he hb=>by
   have hp:=hk.acyc q _ hoq e.on (zbX.2 ⟨e,he,hb,rfl⟩);rw [hl _ q_o];exact zaf.2 hp⟩
  refine ⟨λhnil=>(by rw [hnil] at hready;cases hready),λi hi=>?_⟩;obtain ⟨h1,o,ho,hedges⟩:=mem_ready.1 hi;have hlt:i < ops.size:=(Array.getElem?_eq_some_iff.1 ho).1;have hl1:=hl i hlt;rw [zaQ h1] at hl1;have hqi:q<=i:=by
   rcases Nat.lt_or_ge i q with h'|h'
   ·rw [zaf.2 h'] at hl1;cases hl1
   ·exact h'
  have heq:i=q:=by
   rcases Nat.lt_or_ge q i with h'|h'
   ·exfalso;have hc:=hk.tail i o ho q_o q h';have:=zhv hk (p:=λk=>Nat.blt k q) (λk o' hk' hok j hj=>by
     have h2:=hk.acyc k o' hok j hj;have:=zaf.1 hk';exact zaf.2 q_o) i o ho (λj hj=>by
     obtain ⟨e,he,hb,rfl⟩:=zbX.1 hj;have h3:=hedges e he hb;have h4:=hk.acyc i o ho e.on hj;rw [hl _ q_o] at h3;exact h3) q hc
    have:=zaf.1 this;omega
   ·omega
  subst heq;obtain ⟨o',r,rfl⟩: ∃o' r,rest=o'::r:=by
   cases rest with
   |nil=>have:=hr 0;simp at this;omega
   |cons o' r=>exact ⟨o',r,rfl⟩
  have he:o'=o:=by have:=hr 0;simp [ho] at this;exact this
  subst he;have hr': ∀j,r[j]?=ops[i+1+j]?:=λj=>by have:=hr (j+1);simpa [Nat.add_assoc,Nat.add_comm 1 j] using this
  have hnext: ∀a w,wpListIn (FW ro) 0 P ops Q r a w->wpAnyIn (FW ro) 0 P .any ops Q f (listed.setIfInBounds i true) a w:=λa w h'=>
   dtail hk f (i+1) r _ a w q_o q_o (by simpa using hs) (λk hks=>by
    by_cases e:i=k
    ·subst e;have:i < listed.size:=q_o;rw [zaf.2 (Nat.lt_succ_self i)];simp [Array.getD_eq_getD_getElem?,this]
    ·rw [getD_set_ne false e,hl k hks];rw [Bool.eq_iff_iff,zaf,zaf];omega) hr' h'
  unfold wpOpIn;rw [ho];simp only;unfold wpListIn at h;split
  ·rename_i hw;rw [if_pos hw] at h;exact Oper.wpIn_mono hnext h
  ·rename_i hw;rw [if_neg hw] at h;exact ⟨h.1,hnext _ _ h.2⟩
theorem zd6 {ts:List Nat}{ρ:Env}{L Y:List Res} : ∀rs,resOf ts rs ρ (L ++ Y)=resOf ts rs ρ L ++ Y
 | []=>rfl
 |p::r=>by
  simp only [resOf];cases ts.contains p.1
  ·simp only [cond_false];exact zd6 r
  ·simp only [cond_true];rw [zd6 r,List.append_assoc]
theorem GpT.app {o:Oper}{g:Nat->Option Value}{L:List Res}{post:Value->List Res->Prop}(h:GpT P ro N w0 M ds ops o g L post) (Y:List Res):GpT P ro N w0 M ds ops o g (L ++ Y) (λv L'=>∃L1,L'=L1 ++ Y/\post v L1):=by
 rcases h with ⟨hw,h⟩|⟨hw,h⟩
 ·refine .inl ⟨hw,λa w X next Q hs hn=>h a w (Y ++ X) next Q (by rw [<-List.append_assoc];exact hs) λv w' L' hp hk hh=>hn v w' (L' ++ Y) ⟨L',rfl,hp⟩ hk (by rw [List.append_assoc];exact hh)⟩
 ·exact .inr ⟨hw,L,rfl,h⟩
theorem GpT.mono {o:Oper}{g:Nat->Option Value}{L:List Res}{post post':Value->List Res->Prop}(h:GpT P ro N w0 M ds ops o g L post) (hp: ∀v L',post v L'->post' v L'):GpT P ro N w0 M ds ops o g L post':=
 h.imp (λ⟨hw,h⟩=>⟨hw,λa w X next Q hs hn=>h a w X next Q hs λv w' L' hv=>hn v w' L' (hp v L' hv)⟩) (λ⟨hw,h⟩=>⟨hw,hp _ _ h⟩)
theorem Good.app {i:Nat}{o:Oper}(h:Good P ro N w0 M ds ops C fr L0 it i o) (Y:List Res):Good P ro N w0 M ds ops C fr (L0 ++ Y) it i o:=by
 refine ⟨h.1,λρ hρ=>?_⟩;have:=(h.2 ρ hρ).app Y;rw [zd6];refine this.mono λv L' hv=>?_;obtain ⟨L1,rfl,hv⟩:=hv;cases hi:it i with
 |inl f=>rw [hi] at hv;exact ⟨hv.1,by rw [hv.2]⟩
 |inr R=>rw [hi] at hv;obtain ⟨Nw,e,hr⟩:=hv;exact ⟨Nw,by rw [e,List.append_assoc],hr⟩
theorem dall {Ds:List Nat}(hk:DOk ops n N C) (hg: ∀i o,i < n->ops[i]?=some o->Good P ro N w0 M ds ops C fr (L0 ++ Ds.map dob) it i o)
    (hfin: ∀ρ,relOf (List.range n) (rsT it n) ρ->SyL P ro N w0 M ds ops Q (ops.toList.drop n) (frT ops it fr ρ n) (resOf (List.range n) (rsT it n) ρ L0)):
    ∀(fuel:Nat) (listed:Array Bool) (ρ:Env) (a:Act) (w:World),DInv ops n fr (L0 ++ Ds.map dob) it N w0 M (Ds.map col ++ ds) listed ρ a w->unl (λk=>listed.getD k false) ops.size=fuel->wpAnyIn (FW ro) 0 P .any ops Q fuel listed a w:=by
  intro fuel
  induction fuel with
  |zero=>
    intro listed ρ a w inv hu;have hall:=zgK _ hu;have hn:n=ops.size:=by
      rcases Nat.lt_or_ge n ops.size with h|h
      · have:=inv.head n (hall n h);omega
      · have:=hk.le;omega
    exact tailAt inv (λk hk'=>hall k q_o) 0 q_o
  |succ f ih=>
    intro listed ρ a w inv hu;by_cases hh: ∀k,k < n->listed.getD k false=true
    · have hnu:unl (λk=>listed.getD k false) ops.size+n=ops.size:=by
        have key: ∀m,n<=m->m<=ops.size->unl (λk=>listed.getD k false) m+n=m:=by
          intro m
          induction m with
          | zero => intro h1 _; obtain rfl : n = 0 := q_o
                    rfl
          |succ m ihm=>
            intro h1 h2;by_cases e:n=m+1
            · subst e
              have hz: ∀j,j<=m+1->unl (λk=>listed.getD k false) j=0:=by
                intro j
                induction j with
                |zero=>intro _;rfl
                |succ j ihj=>intro hj;simp only [unl];rw [hh j q_o,ihj q_o];rfl
              rw [hz _ (Nat.le_refl _)];omega
            · simp only [unl]
              have:listed.getD m false=false:=by
                cases hb:listed.getD m false
                · rfl
                · have:=inv.head m hb;omega
              rw [this];have:=ihm q_o q_o;simp only [cond_false];omega
        exact key _ hk.le (Nat.le_refl _)
      exact tailAt inv hh (f+1) q_o
    · refine ⟨λhnil=>?_,λi hi=>?_⟩
      · exfalso
        -- the least head that has not been carried out could be
        apply hh;intro k
        induction k using Nat.strongRecOn with
        |_ k ihk=>
          intro hkn;cases hb:listed.getD k false with
          |true=>rfl
          |false=>
            exfalso;have hks:k < ops.size:=by have:=hk.le;omega
            have hok:ops[k]?=some ops[k]:=Array.getElem?_eq_getElem hks;have:k∈Region.ready .any ops listed:=mem_ready.2 ⟨by
              simp only [Array.getD_eq_getD_getElem?] at hb ⊢;rw [Array.getElem?_eq_getElem (by rw [inv.size];exact hks)] at hb ⊢;simpa using hb,_,hok,λe he hbd=>by
              have hp:=hk.acyc k _ hok e.on (zbX.2 ⟨e,he,hbd,rfl⟩);exact ihk e.on hp q_o⟩
            rw [hnil] at this;cases this
      · obtain ⟨h1,o,ho,hedges⟩:=mem_ready.1 hi
        have hl0:=zaQ h1;have hlt:i < ops.size:=(Array.getElem?_eq_some_iff.1 ho).1;have hin:i < n:=by
          rcases Nat.lt_or_ge i n with h|h
          · exact h
          · exfalso
            apply hh;intro k hkn;have hdn:=zhv hk (p:=λk=>listed.getD k false) inv.down i o ho (λj hj=>by
              obtain ⟨e,he,hb,rfl⟩:=zbX.1 hj;exact hedges e he hb)
            exact hdn k (hk.tail i o ho h k q_o)
        refine dstep hk hg inv hi hin (λρ' a' w' inv'=>ih _ ρ' a' w' inv' ?_);have:=zhE (p:=λk=>listed.getD k false) (p':=λk=>(listed.setIfInBounds i true).getD k false) (i:=i) hl0 (by
          have:i < listed.size:=by rw [inv.size];exact hlt
          simp [Array.getD_eq_getD_getElem?,this]) (λk hki=>getD_set_ne false (λe=>hki e.symm)) ops.size hlt
        omega
where
  tailAt {listed:Array Bool}{ρ:Env}{a:Act}{w:World}(inv:DInv ops n fr (L0 ++ Ds.map dob) it N w0 M (Ds.map col ++ ds) listed ρ a w) (hh: ∀k,k < n->listed.getD k false=true) (fuel:Nat) (hf:fuel+n=ops.size):wpAnyIn (FW ro) 0 P .any ops Q fuel listed a w:=by
    refine dtail hk fuel n (ops.toList.drop n) listed a w hf (Nat.le_refl _) inv.size (λk _=>?_) (λj=>by simp) ?_
    · cases hb:listed.getD k false with
      |true=>exact (zaf.2 (inv.head k hb)).symm
      |false=>
        rcases Nat.lt_or_ge k n with h|h
        · rw [hh k h] at hb;cases hb
        · exact (za5.2 h).symm
    · refine hfin ρ (zdU n λk hkn _=>inv.rel k (hh k hkn)) a w ⟨Ds,inv.defs,inv.tsize,λt v hv=>?_,inv.keep,inv.hold.perm ?_⟩
      · rcases zfX n hv with ⟨k,hkn,hkd,rfl⟩|⟨hno,hfr⟩
        · exact inv.s1 k t (hh k hkn) hkd
        · exact inv.s2 t v hfr (λk hlk=>hno k (inv.head k hlk))
      · rw [<-zd6]
        refine List.Perm.trans ?_ (zcb (it:=it) (ts:=List.range n) (ρ:=ρ) (L:=L0 ++ Ds.map dob) n).symm;rw [zc9 (p:=λk=>listed.getD k false) (p':=λk=>(List.range n).contains k) n (λk hkn=>⟨by rw [hh k hkn];symm;simpa using hkn,λ_=>rfl⟩)]
theorem zM {id:Nat}{l:List Oper}(n:Nat) (C:List (List Nat)) (hm:P.follows .mixedOrders=true) (hck:drawOk l.toArray n N C=true)
  (h:DH P ro N w0 M ds l.toArray Q C L0 n 0 l (λ_=>fr) []):Sy P ro N w0 M ds (.region id l.toArray true) Q fr L0:=by
 rintro a w ⟨Ds,hds,hs⟩;have hk:=zek hck;obtain ⟨it,_,h2,h3⟩:=DH.items (P:=P) (ro:=ro) (N:=N) (w0:=w0) (M:=M) (ds:=ds) (ops:=l.toArray) (Q:=Q) (C:=C) (fr:=fr) (L0:=L0) n 0 l (λ_=> .inl λ_=>undef) (λj=>by simp) h;simp only [Nat.zero_add] at h2 h3;refine wpIn_region_any hm ?_;have hg: ∀i o,i < n->l.toArray[i]?=some o->Good P ro N w0 M ds l.toArray C fr L0 it i o:=λi o hi ho=>by
  obtain ⟨o',ho',hgo⟩:=h2 i (Nat.zero_le _) hi;rw [ho] at ho';cases ho';exact hgo
 have hrep: ∀k,(Array.replicate l.toArray.size false).getD k false=false:=λk=>by
  simp only [Array.getD_eq_getD_getElem?,Array.getElem?_replicate];split <;> rfl
 have no: ∀k,(Array.replicate l.toArray.size false).getD k false=true->False:=λk h=>by rw [hrep] at h;cases h
 refine dall (Ds:=Ds) hk (λi o hi ho=>(hg i o hi ho).app _) (by simpa using h3) _ _ (λ_=>(undef,[])) a _ ⟨by simp,λk hk'=>(no k hk').elim,λk o hk'=>(no k hk').elim,hs.size,hds,λk d hk'=>(no k hk').elim,
  λt v hv _=>hs.agr t v hv,λk hk'=>(no k hk').elim,⟨hs.keep.os,hs.keep.tape,hs.keep.output,hs.keep.size,hs.keep.block⟩,?_⟩ ?_
 ·rw [zhJ n (λk _=>hrep k),List.nil_append];exact ⟨λr hr=>Res.holds_congr (hs.hold.all r hr) (λ_ _=>rfl),hs.hold.apart,hs.hold.mine⟩
 ·have: ∀m,unl (λk=>(Array.replicate l.toArray.size false).getD k false) m=m:=by
   intro m
   induction m with
   |zero=>rfl
   |succ m ih=>simp only [unl];rw [hrep,ih];simp;omega
  exact this _
end sound
section use
variable {ops:Array Oper}{C:List (List Nat)}{L0:List Res}{Q:Exit->Act->World->Prop}{k i d n:Nat}{o:Oper}{rest:List Oper}{F:Env->Fr}{rs:List (Nat×(Env->Value->List Res->Prop))}
theorem zsh {u:Value}(hg: ∀ρ,relOf (cl C i) rs ρ->OpT P ro N w0 M ds o (only (o.looksAt ops) (get (F ρ))) (resOf (cl C i) rs ρ L0) (Det u (resOf (cl C i) rs ρ L0))) (hw: ∀ρ,wants ops o (only (o.looksAt ops) (get (F ρ)))=some true) (hd:o.dst=some d)
  (h:DH P ro N w0 M ds ops Q C L0 k (i+1) rest (λρ=>(d,u)::F ρ) rs):DH P ro N w0 M ds ops Q C L0 (k+1) i (o::rest) F rs:=
 .inl ⟨λ_=>u,λ_ _ _=>rfl,λρ hρ=> .inl ⟨hw ρ,hg ρ hρ⟩,by rw [hd];exact h⟩
theorem dc {u:Value}(hg: ∀ρ,relOf (cl C i) rs ρ->OpT P ro N w0 M ds o (only (o.looksAt ops) (get (F ρ))) (resOf (cl C i) rs ρ L0) (Det u (resOf (cl C i) rs ρ L0))) (hw: ∀ρ,wants ops o (only (o.looksAt ops) (get (F ρ)))=some true:=by exact λ_=>rfl) (hd:o.dst=some d:=by exact rfl)
  (k:DH P ro N w0 M ds ops Q C L0 n (i+1) rest (λρ=>(d,u)::F ρ) rs):DH P ro N w0 M ds ops Q C L0 (n+1) i (o::rest) F rs:=zsh hg hw hd k
theorem zat (hw: ∀ρ,wants ops o (only (o.looksAt ops) (get (F ρ)))=some false) (hd:o.dst=some d)
  (h:DH P ro N w0 M ds ops Q C L0 k (i+1) rest (λρ=>(d,undef)::F ρ) rs):DH P ro N w0 M ds ops Q C L0 (k+1) i (o::rest) F rs:=
 .inl ⟨λ_=>undef,λ_ _ _=>rfl,λρ _=> .inr ⟨hw ρ,rfl,rfl⟩,by rw [hd];exact h⟩
theorem zY {fr':Fr}(h:SyL P ro N w0 M ds ops Q rest fr' L0):DH P ro N w0 M ds ops Q C L0 0 i rest (λ_=>fr') []:=λ_ _=>h
end use
end
section
variable {P:Program}{ro:Option Nat}{N:Nat}{w0:World}{M:Nat->Prop}{ds:List Deferred}{g:Nat->Option Value}{L:List Res}{o:Oper}
theorem zaC (j b:Nat):(j:Int)+((OfNat.ofNat b:Nat):Int)=((j+b:Nat):Int):=rfl
def plainOp:Op->Bool
 | .defer _=>false
 |_=>true
theorem OpT.run {post:Value->List Res->Prop}(hk:plainOp o.op=true) (h: ∀a w X,St N w0 M ds g (L ++ X) a w-> ∃x v w' L',(execOp a.eval o).run P w= .ok x w'/\(x= .value v\/(x= .skip/\v=undef))/\post v L'/\Keep M w0 w'/\Holds w0.heap.size M (L' ++ X) w'):OpT P ro N w0 M ds o g L post:=by
 intro a w X next Q hs hn
 obtain ⟨x,v,w',L',hr,hx,hp,hkp,hh⟩:=h a w X hs;refine ⟨λ_ _=>trivial,?_⟩;rw [Oper.semAt_plain (FW ro) _ _ (λc hc=>by rw [hc] at hk;cases hk),hr];rcases hx with rfl|⟨rfl,rfl⟩
 ·exact hn v w' L' hp hkp hh
 ·exact hn undef w' L' hp hkp hh
theorem OpT.still {v:Value}(hk:plainOp o.op=true) (h: ∀a w X,St N w0 M ds g (L ++ X) a w->(execOp a.eval o).run P w= .ok (.value v) w):OpT P ro N w0 M ds o g L (Det v L):=
 OpT.run hk λa w X hs=>⟨_,v,w,L,h a w X hs,.inl rfl,⟨rfl,rfl⟩,hs.keep,hs.hold⟩
theorem OpT.mono {post post':Value->List Res->Prop}(h:OpT P ro N w0 M ds o g L post) (hp: ∀v L',post v L'->post' v L'):OpT P ro N w0 M ds o g L post':=
 λa w X next Q hs hn=>h a w X next Q hs λv w' L' hpv=>hn v w' L' (hp v L' hpv)
theorem zbK {x:Operand}{v:Value}(ho:o.op= .move x:=by exact rfl) (hx:ev g x=some v:=by exact rfl):OpT P ro N w0 M ds o g L (Det v L):=
 OpT.still (by rw [ho];rfl) λa w X hs=>by simp only [execOp,ho,hs.agr.eval hx];rfl
theorem za9 {x:Operand}{v:Value}(ho:o.op= .assign x:=by exact rfl) (hx:ev g x=some v:=by exact rfl):OpT P ro N w0 M ds o g L (Det v L):=
 OpT.still (by rw [ho];rfl) λa w X hs=>by simp only [execOp,ho,hs.agr.eval hx];rfl
theorem zkV {c x y:Operand}{b:Bool}{v:Value}(ho:o.op= .pick c x y:=by exact rfl) (hc:ev g c=some (.bool b):=by exact rfl) (hv:(bif b then ev g x else ev g y)=some v:=by exact rfl):OpT P ro N w0 M ds o g L (Det v L):=
 OpT.still (by rw [ho];rfl) λa w X hs=>by
  cases b
  ·simp only [cond_false] at hv;simp [execOp,ho,hs.agr.eval hc,hs.agr.eval hv,asBool]
  ·simp only [cond_true] at hv;simp [execOp,ho,hs.agr.eval hc,hs.agr.eval hv,asBool]
section ints
variable {t t':TypeId}{x y:Operand}{k:IntKind}{a b c:Int}{r:Bool}
theorem zu (ho:o.op= .binOp .add t x y t':=by exact rfl) (hx:ev g x=some (.int k a):=by exact rfl) (hy:ev g y=some (.int k b):=by exact rfl) (hr:k.wrap (a+b)=c:=by first|exact IntWalk.i64_in _ q_o|exact IntWalk.u64_in _ q_o|exact IntWalk.u8_in _ q_o|exact IntWalk.u32_in _ q_o|rfl|fail):OpT P ro N w0 M ds o g L (Det (.int k c) L):=
 OpT.still (by rw [ho];rfl) λa w X hs=>by simp [execOp,ho,hs.agr.eval hx,hs.agr.eval hy,eqGuard,binOp,Op.intArith,hr]
theorem zD (ho:o.op= .binOp .sub t x y t':=by exact rfl) (hx:ev g x=some (.int k a):=by exact rfl) (hy:ev g y=some (.int k b):=by exact rfl) (hr:k.wrap (a - b)=c:=by first|exact IntWalk.i64_in _ q_o|exact IntWalk.u64_in _ q_o|exact IntWalk.u8_in _ q_o|exact IntWalk.u32_in _ q_o|rfl|fail):OpT P ro N w0 M ds o g L (Det (.int k c) L):=
 OpT.still (by rw [ho];rfl) λa w X hs=>by simp [execOp,ho,hs.agr.eval hx,hs.agr.eval hy,eqGuard,binOp,Op.intArith,hr]
theorem zah (ho:o.op= .binOp .mul t x y t':=by exact rfl) (hx:ev g x=some (.int k a):=by exact rfl) (hy:ev g y=some (.int k b):=by exact rfl) (hr:k.wrap (a*b)=c:=by first|exact IntWalk.i64_in _ q_o|exact IntWalk.u64_in _ q_o|exact IntWalk.u8_in _ q_o|exact IntWalk.u32_in _ q_o|rfl|fail):OpT P ro N w0 M ds o g L (Det (.int k c) L):=
 OpT.still (by rw [ho];rfl) λa w X hs=>by simp [execOp,ho,hs.agr.eval hx,hs.agr.eval hy,eqGuard,binOp,Op.intArith,hr]
theorem zaz (ho:o.op= .binOp .quo t x y t':=by exact rfl) (hx:ev g x=some (.int k a):=by exact rfl) (hy:ev g y=some (.int k b):=by exact rfl) (hb:b≠0:=by first|decide|omega) (hr:k.wrap (a.tdiv b)=c:=by first|exact IntWalk.i64_quo _ _ q_o|exact IntWalk.u64_quo _ _ q_o|rfl):OpT P ro N w0 M ds o g L (Det (.int k c) L):=
 OpT.still (by rw [ho];rfl) λa w X hs=>by simp [execOp,ho,hs.agr.eval hx,hs.agr.eval hy,eqGuard,binOp,Op.intDiv,hr,hb]
theorem zap (ho:o.op= .binOp .rem t x y t':=by exact rfl) (hx:ev g x=some (.int k a):=by exact rfl) (hy:ev g y=some (.int k b):=by exact rfl) (hb:b≠0:=by first|decide|omega) (hr:a.tmod b=c:=by first|exact IntWalk.rem_in _ _ q_o|rfl):OpT P ro N w0 M ds o g L (Det (.int k c) L):=
 OpT.still (by rw [ho];rfl) λa w X hs=>by simp [execOp,ho,hs.agr.eval hx,hs.agr.eval hy,eqGuard,binOp,Op.intDiv,hr,hb]
theorem zdq (ho:o.op= .binOp .and t x y t':=by exact rfl) (hx:ev g x=some (.int k a):=by exact rfl) (hy:ev g y=some (.int k b):=by exact rfl) (hr:bits .and k a b=c:=by exact rfl):OpT P ro N w0 M ds o g L (Det (.int k c) L):=
 OpT.still (by rw [ho];rfl) λa w X hs=>by subst hr;simp [execOp,ho,hs.agr.eval hx,hs.agr.eval hy,eqGuard,binOp,Op.intBits,bits]
theorem zpK (ho:o.op= .binOp .or t x y t':=by exact rfl) (hx:ev g x=some (.int k a):=by exact rfl) (hy:ev g y=some (.int k b):=by exact rfl) (hr:bits .or k a b=c:=by exact rfl):OpT P ro N w0 M ds o g L (Det (.int k c) L):=
 OpT.still (by rw [ho];rfl) λa w X hs=>by subst hr;simp [execOp,ho,hs.agr.eval hx,hs.agr.eval hy,eqGuard,binOp,Op.intBits,bits]
theorem zb5 (ho:o.op= .binOp .xor t x y t':=by exact rfl) (hx:ev g x=some (.int k a):=by exact rfl) (hy:ev g y=some (.int k b):=by exact rfl) (hr:bits .xor k a b=c:=by exact rfl):OpT P ro N w0 M ds o g L (Det (.int k c) L):=
 OpT.still (by rw [ho];rfl) λa w X hs=>by subst hr;simp [execOp,ho,hs.agr.eval hx,hs.agr.eval hy,eqGuard,binOp,Op.intBits,bits]
theorem zm4 (ho:o.op= .binOp .andNot t x y t':=by exact rfl) (hx:ev g x=some (.int k a):=by exact rfl) (hy:ev g y=some (.int k b):=by exact rfl) (hr:bits .andNot k a b=c:=by exact rfl):OpT P ro N w0 M ds o g L (Det (.int k c) L):=
 OpT.still (by rw [ho];rfl) λa w X hs=>by subst hr;simp [execOp,ho,hs.agr.eval hx,hs.agr.eval hy,eqGuard,binOp,Op.intBits,bits]
theorem zdW {k':IntKind}(ho:o.op= .binOp .shl t x y t':=by exact rfl) (hx:ev g x=some (.int k a):=by exact rfl) (hy:ev g y=some (.int k' b):=by exact rfl) (hr:Op.shift .shl k a k' b=pure (.int k c)):OpT P ro N w0 M ds o g L (Det (.int k c) L):=
 OpT.still (by rw [ho];rfl) λa w X hs=>by simp [execOp,ho,hs.agr.eval hx,hs.agr.eval hy,eqGuard,binOp,hr]
theorem zaJ {k':IntKind}(ho:o.op= .binOp .shr t x y t':=by exact rfl) (hx:ev g x=some (.int k a):=by exact rfl) (hy:ev g y=some (.int k' b):=by exact rfl) (hr:Op.shift .shr k a k' b=pure (.int k c)):OpT P ro N w0 M ds o g L (Det (.int k c) L):=
 OpT.still (by rw [ho];rfl) λa w X hs=>by simp [execOp,ho,hs.agr.eval hx,hs.agr.eval hy,eqGuard,binOp,hr]
theorem zn (ho:o.op= .binOp .lss t x y t':=by exact rfl) (hx:ev g x=some (.int k a):=by exact rfl) (hy:ev g y=some (.int k b):=by exact rfl) (hr:decide (a < b)=r:=by first|exact decide_eq_true q_o|exact decide_eq_false q_o|rfl|fail):OpT P ro N w0 M ds o g L (Det (.bool r) L):=
 OpT.still (by rw [ho];rfl) λa w X hs=>by simp [execOp,ho,hs.agr.eval hx,hs.agr.eval hy,eqGuard,binOp,Op.intCmp,hr]
theorem zau (ho:o.op= .binOp .leq t x y t':=by exact rfl) (hx:ev g x=some (.int k a):=by exact rfl) (hy:ev g y=some (.int k b):=by exact rfl) (hr:decide (a<=b)=r:=by first|exact decide_eq_true q_o|exact decide_eq_false q_o|rfl|fail):OpT P ro N w0 M ds o g L (Det (.bool r) L):=
 OpT.still (by rw [ho];rfl) λa w X hs=>by simp [execOp,ho,hs.agr.eval hx,hs.agr.eval hy,eqGuard,binOp,Op.intCmp,hr]
theorem zU (ho:o.op= .binOp .gtr t x y t':=by exact rfl) (hx:ev g x=some (.int k a):=by exact rfl) (hy:ev g y=some (.int k b):=by exact rfl) (hr:decide (b < a)=r:=by first|exact decide_eq_true q_o|exact decide_eq_false q_o|rfl|fail):OpT P ro N w0 M ds o g L (Det (.bool r) L):=
 OpT.still (by rw [ho];rfl) λa w X hs=>by simp [execOp,ho,hs.agr.eval hx,hs.agr.eval hy,eqGuard,binOp,Op.intCmp,hr]
theorem zab (ho:o.op= .binOp .geq t x y t':=by exact rfl) (hx:ev g x=some (.int k a):=by exact rfl) (hy:ev g y=some (.int k b):=by exact rfl) (hr:decide (b<=a)=r:=by first|exact decide_eq_true q_o|exact decide_eq_false q_o|rfl|fail):OpT P ro N w0 M ds o g L (Det (.bool r) L):=
 OpT.still (by rw [ho];rfl) λa w X hs=>by simp [execOp,ho,hs.agr.eval hx,hs.agr.eval hy,eqGuard,binOp,Op.intCmp,hr]
theorem zX (ho:o.op= .binOp .eql t x y t':=by exact rfl) (hx:ev g x=some (.int k a):=by exact rfl) (hy:ev g y=some (.int k b):=by exact rfl) (hr:decide (a=b)=r:=by first|exact decide_eq_true q_o|exact decide_eq_false q_o|rfl|fail):OpT P ro N w0 M ds o g L (Det (.bool r) L):=
 OpT.still (by rw [ho];rfl) λa' w X hs=>by
  have:(a == b)=r:=by rw [<-hr];rfl
  simp [execOp,ho,hs.agr.eval hx,hs.agr.eval hy,eqGuard,binOp,Op.intCmp,this]
theorem zag (ho:o.op= .binOp .neq t x y t':=by exact rfl) (hx:ev g x=some (.int k a):=by exact rfl) (hy:ev g y=some (.int k b):=by exact rfl) (hr:decide (a≠b)=r:=by first|exact decide_eq_true q_o|exact decide_eq_false q_o|rfl|fail):OpT P ro N w0 M ds o g L (Det (.bool r) L):=
 OpT.still (by rw [ho];rfl) λa' w X hs=>by
  have:(a != b)=r:=by rw [<-hr];by_cases h:a=b <;> simp [h]
  simp [execOp,ho,hs.agr.eval hx,hs.agr.eval hy,eqGuard,binOp,Op.intCmp,this]
theorem z5 {d:TypeDesc}(ho:o.op= .convert t t' x:=by exact rfl) (hx:ev g x=some (.int k a):=by exact rfl) (hs':P.underlying t=some d:=by exact tyU rfl) {k':IntKind}(hd:P.underlying t'=some (.int k'):=by exact tyI rfl rfl) (hr:k'.wrap a=c:=by first|exact IntWalk.i64_in _ q_o|exact IntWalk.u64_in _ q_o|exact IntWalk.u8_in _ q_o|exact IntWalk.u32_in _ q_o|rfl|fail):OpT P ro N w0 M ds o g L (Det (.int k' c) L):=
 OpT.still (by rw [ho];rfl) λa' w X hs=>by
  simp [execOp,ho,hs.agr.eval hx,convert,run_underlying hs',run_underlying hd,Conv.intToInt,hr]
theorem ziV (ho:o.op= .unOp .neg t x:=by exact rfl) (hx:ev g x=some (.int k a):=by exact rfl) (hr:k.wrap (0 - a)=c:=by first|exact IntWalk.i64_in _ q_o|exact IntWalk.u64_in _ q_o|exact IntWalk.u8_in _ q_o|exact IntWalk.u32_in _ q_o|rfl|fail):OpT P ro N w0 M ds o g L (Det (.int k c) L):=
 OpT.still (by rw [ho];rfl) λa w X hs=>by simp only [Int.zero_sub] at hr;simp [execOp,ho,hs.agr.eval hx,Op.unary,Op.intArith,hr]
theorem zg7 (ho:o.op= .unOp .not t x:=by exact rfl) (hx:ev g x=some (.bool r):=by exact rfl):OpT P ro N w0 M ds o g L (Det (.bool (!r)) L):=
 OpT.still (by rw [ho];rfl) λa w X hs=>by simp [execOp,ho,hs.agr.eval hx,Op.unary]
end ints
end
def slim:TypeDesc->TypeDesc
 | .struct _=> .struct #[]
 | .interface _=> .interface #[]
 | .func _ _ _=> .func #[] #[] false
 |d=>d
structure Ty where
 desc:TypeDesc
 size:Nat
 bytes:Nat
 flds:List (Nat×Nat)      -- a field's offset, its number of cells
def tyOf (P:Program) (t:TypeId):Option Ty:=
 match P.underlying t,P.info? t with
 |some d,some i=>some ⟨slim d,i.size,i.bytes,match d with
  | .struct fs=>fs.toList.map λf=>(f.offset,P.cellsOf f.type)
  |_=>[]⟩
 |_,_=>none
def nth {α:Type} :List α->Nat->Option α
 | [],_=>none
 |x::_,0=>some x
 |_::l,n+1=>nth l n
theorem zer {α:Type} : ∀(l:List α) (n:Nat),nth l n=l[n]?
 | [],_=>by simp [nth]
 |_::_,0=>by simp [nth]
 |_::l,n+1=>by simp [nth,zer l n]
theorem zo1 {P:Program}{tbl:List Ty}(h:(List.range tbl.length).map (tyOf P)=tbl.map some) {t:Nat}{y:Ty}(hy:nth tbl t=some y):tyOf P t=some y:=by
 rw [zer] at hy;have hlt:t < tbl.length:=(List.getElem?_eq_some_iff.1 hy).1;have:=congrArg (λl=>l[t]?) h;simp only [List.getElem?_map,List.getElem?_range hlt,Option.map_some,hy,Option.some.injEq] at this;exact this
theorem zN {P:Program}{t:TypeId}{y:Ty}(h:tyOf P t=some y): ∃d i,P.underlying t=some d/\P.info? t=some i/\slim d=y.desc/\i.size=y.size/\i.bytes=y.bytes/\
  y.flds=(match d with| .struct fs=>fs.toList.map λf=>(f.offset,P.cellsOf f.type)|_=>[]):=by
 unfold tyOf at h;split at h
 ·rename_i d i hd hi;cases h;exact ⟨d,i,hd,hi,rfl,rfl,rfl,rfl⟩
 ·cases h
theorem zjI (d:TypeDesc):(slim d).isRow=d.isRow:=by cases d <;> rfl
theorem zaF {d:TypeDesc}{e:TypeId}(h:slim d= .slice e):d= .slice e:=by cases d <;> simp_all [slim]
theorem zbF {d:TypeDesc}{n:Nat}{e:TypeId}(h:slim d= .array n e):d= .array n e:=by cases d <;> simp_all [slim]
theorem ziP {d:TypeDesc}{k:IntKind}(h:slim d= .int k):d= .int k:=by cases d <;> simp_all [slim]
theorem zen {d:TypeDesc}(h:slim d= .string):d= .string:=by cases d <;> simp_all [slim]
theorem znq {d:TypeDesc}(h:slim d= .bool):d= .bool:=by cases d <;> simp_all [slim]
theorem zdm {d:TypeDesc}(h:slim d= .struct #[]): ∃fs,d= .struct fs:=by cases d <;> simp_all [slim]
section
variable {P:Program}
theorem zfG {t:TypeId}{y:Ty}(ht:tyOf P t=some y) (hr:y.desc.isRow=false) (w:World):(isAgg t).run P w= .ok false w:=by
 obtain ⟨d,i,hd,hi,hs,_⟩:=zN ht;rw [<-hs,zjI] at hr;unfold isAgg;rw [Sem.run_bind,run_underlying hd w];cases d <;> simp_all
theorem zaX {t:TypeId}{y:Ty}(ht:tyOf P t=some y) (w:World):(sizeOf t).run P w= .ok y.size w:=by
 obtain ⟨d,i,hd,hi,hs,hz,_⟩:=zN ht;simp [sizeOf,typeInfo,hi,hz]
theorem zdZ {t:TypeId}{y:Ty}(ht:tyOf P t=some y) (hr:y.desc.isRow=false) (w:World) (a:Addr) {v:Value}(hc:w.cell? a=some v):(Instr.loadAt t (.pointer (some a))).run P w= .ok v w:=by
 simp only [Instr.loadAt,Instr.sureAddr,Sem.run_bind,Sem.run_pure,Result.andThen_ok,loadVar,zfG ht hr];simp [load,Sem.run,hc]
theorem ziF {t:TypeId}{y:Ty}(ht:tyOf P t=some y) (hz:y.size=1) (w:World) (a:Addr) {v u:Value}(hc:w.cell? a=some u) (hf:w.frozen? a=false) (h1:v.oneCell'=true):(Instr.storeAt t (.pointer (some a)) v).run P w= .ok () (w.setCell a v):=by
 have hv:v.cells= #[v]:=by cases v <;> first|rfl|(simp [Value.oneCell'] at h1)
 have ha:a.add 0=a:=by simp [Addr.add]
 simp only [Instr.storeAt,Instr.sureAddr,Sem.run_bind,Sem.run_pure,Result.andThen_ok,storeVar,hv,zaX ht,hz];cases v <;> first
  |(simp [Value.oneCell'] at h1;done)
  |simp [storeCells,store,Sem.run,ha,hc,hf]
theorem zc0 {w:World}{b T:Nat}{C:List Value}(h:(Res.blk b T C).holds w) (o:Nat):w.cell? ⟨b,o,none⟩=C[o]?:=by
 have h:w.heap[b]?=some (.cells C.toArray T (0,0)):=h;simp [World.cell?,h]
theorem zjC {w:World}{b T:Nat}{C:List Value}(h:(Res.blk b T C).holds w) (o:Nat):w.frozen? ⟨b,o,none⟩=false:=by
 have h:w.heap[b]?=some (.cells C.toArray T (0,0)):=h;simp [World.frozen?,h]
theorem zkU {w:World}{b T:Nat}{C:List Value}(h:(Res.blk b T C).holds w) (o:Nat) (v:Value):(Res.blk b T (C.set o v)).holds (w.setCell ⟨b,o,none⟩ v):=by
 have h:w.heap[b]?=some (.cells C.toArray T (0,0)):=h;show (w.setCell ⟨b,o,none⟩ v).heap[b]?=_;simp [World.setCell,Array.getElem?_modify,h]
def setSeg (C:List Value) (o:Nat) (l:List Value):List Value:=C.take o ++ l ++ C.drop (o+l.length)
theorem zcN {b T:Nat} : ∀(l:List Value) (C:List Value) (o:Nat) (w:World),(Res.blk b T C).holds w->o+l.length<=C.length->(Res.blk b T (setSeg C o l)).holds (w.setCells b o l)
 | [],C,o,w,h,_=>by simpa [setSeg,World.setCells] using h
 |x::l,C,o,w,h,hl=>by
  simp only [List.length_cons] at hl;have:=zcN l (C.set o x) (o+1) _ (zkU h o x) (by rw [List.length_set];omega);have e:setSeg (C.set o x) (o+1) l=setSeg C o (x::l):=by
   unfold setSeg;rw [List.take_succ_eq_append_getElem (by rw [List.length_set];omega),List.getElem_set_self,List.take_set_of_le (Nat.le_refl o),List.drop_set_of_lt q_o];simp [Nat.add_assoc,Nat.add_comm 1]
  rw [e] at this;exact this
theorem Keep.setCells (b:Nat): ∀(l:List Value) (o:Nat) (w:World),Keep (· =b) w (w.setCells b o l)
 | [],_,w=>Keep.refl _ w
 |x::l,o,w=>(Keep.setCell w ⟨b,o,none⟩ x).trans (Keep.setCells b l (o+1) _) (λ_ h=> .inr h)
end
section
variable {P:Program}{ro:Option Nat}{N:Nat}{w0:World}{M:Nat->Prop}{ds:List Deferred}{g:Nat->Option Value}{L:List Res}{o:Oper}
theorem St.blk {a:Act}{w:World}{X:List Res}(h:St N w0 M ds g (L ++ X) a w) {r:Res}(hr:Has L r):r.holds w:=h.hold.has (Has.append hr)
theorem St.old {a:Act}{w:World}{X:List Res}(h:St N w0 M ds g (L ++ X) a w) {ad:Addr}{v:Value}(hv:w0.cell? ad=some v) (hn: ¬M ad.block):w.cell? ad=some v:=h.keep.cell hv hn
theorem St.oldRange {a:Act}{w:World}{X:List Res}(h:St N w0 M ds g (L ++ X) a w) {b off:Nat}{cs:List Value}(hv:w0.rangeAt b off cs) (hn: ¬M b):w.rangeAt b off cs:=
 λj v hj=>h.old (hv j v hj) hn
def Seg (C:List Value) (off:Nat) (B:List Value):Prop:=∀j v,B[j]?=some v->C[off+j]?=some v
theorem Seg.all {C:List Value} :Seg C 0 C:=λj v h=>by rw [Nat.zero_add];exact h
theorem Seg.mid {A B D:List Value} :Seg (A ++ B ++ D) A.length B:=λj v h=>by
 have hj:j < B.length:=(List.getElem?_eq_some_iff.1 h).1;rw [List.append_assoc,List.getElem?_append_right q_o,List.getElem?_append_left q_o,Nat.add_sub_cancel_left];exact h
theorem Seg.at {C B:List Value}{off:Nat}(h:(C.drop off).take B.length=B):Seg C off B:=λj v hj=>by
 have hj':j < B.length:=(List.getElem?_eq_some_iff.1 hj).1;rw [<-h,List.getElem?_take_of_lt hj',List.getElem?_drop] at hj;exact hj
theorem zp {w:World}{b T:Nat}{C B:List Value}{off:Nat}(h:(Res.blk b T C).holds w) (hs:Seg C off B):w.rangeAt b off B:=λj v hj=>by rw [zc0 h];exact hs j v hj
theorem zfN {w:World}{b T:Nat}{C:List Value}{off n:Nat}(h:(Res.blk b T C).holds w) (hl:off+n<=C.length):w.there b off n:=λj hj=>
 ⟨by rw [zc0 h,List.getElem?_eq_getElem q_o];rfl,zjC h _⟩
def Reads (w0:World) (M:Nat->Prop) (L:List Res) (b off:Nat) (B:List Value):Prop:=∀w X,Keep M w0 w->Holds w0.heap.size M (L ++ X) w->w.rangeAt b off B
theorem Reads.blk {b off T:Nat}{C B:List Value}(hL:Has L (.blk b T C)) (hs:Seg C off B):Reads w0 M L b off B:=λ_ _ _ hh=>zp (hh.has (Has.append hL)) hs
def SlA (w:World) (a:Option Addr) (B:List Value):Prop:=B= []\/ ∃b off,a=some ⟨b,off,none⟩/\w.rangeAt b off B
def Rd (w0:World) (M:Nat->Prop) (L:List Res) (a:Option Addr) (B:List Value):Prop:=∀w X,Keep M w0 w->Holds w0.heap.size M (L ++ X) w->SlA w a B
theorem SlA.drop {w:World}{a:Option Addr}{B:List Value}(h:SlA w a B) (k:Nat):SlA w (a.map (·.add k)) (B.drop k):=by
 rcases h with rfl|⟨b,o,rfl,hr⟩
 ·exact .inl q_p
 ·refine .inr ⟨b,o+k,by simp [Addr.add_mid],λj v hj=>?_⟩;rw [List.getElem?_drop] at hj;rw [Nat.add_assoc];exact hr _ v hj
theorem SlA.take {w:World}{a:Option Addr}{B:List Value}(h:SlA w a B) (k:Nat):SlA w a (B.take k):=by
 rcases h with rfl|⟨b,o,rfl,hr⟩
 ·exact .inl q_p
 ·refine .inr ⟨b,o,rfl,λj v hj=>?_⟩;rw [List.getElem?_take] at hj;split at hj
  ·exact hr j v hj
  ·cases hj
theorem SlA.keep {M':Nat->Prop}{w w':World}{a:Option Addr}{B:List Value}(h:SlA w a B) (hk:Keep M' w w') (hn: ∀ad,a=some ad-> ¬M' ad.block):SlA w' a B:=by
 rcases h with rfl|⟨b,o,rfl,hr⟩
 ·exact .inl rfl
 ·exact .inr ⟨b,o,rfl,λj v hj=>hk.cell (hr j v hj) (hn ⟨b,o,none⟩ rfl)⟩
theorem Rd.nil {a:Option Addr} :Rd w0 M L a []:=λ_ _ _ _=> .inl rfl
theorem Rd.of {b off:Nat}{B:List Value}(h:Reads w0 M L b off B):Rd w0 M L (some ⟨b,off,none⟩) B:=λw X hk hh=> .inr ⟨b,off,rfl,h w X hk hh⟩
theorem Rd.old {a:Option Addr}{B:List Value}(h:SlA w0 a B) (hn: ∀ad,a=some ad-> ¬M ad.block):Rd w0 M L a B:=λ_ _ hk _=>h.keep hk hn
theorem Rd.row {E n m c:Nat}{a:Option Addr}{xs:List Value}(hL:Has L (.row (.slice a m c) E 1 n xs)):Rd w0 M L a xs:=λw X _ hh=>by
 have hrow:w.ownsRow 0 E 1 (.slice a m c) n xs:=hh.has (Has.append hL);obtain ⟨h1,⟨_,h2⟩|⟨b,cc,cur,hv,_,h3,h4,h5,h6,h7⟩⟩:=hrow
 ·exact .inl (List.length_eq_zero_iff.1 q_o)
 ·cases hv;refine .inr ⟨b,0,rfl,λj v hj=>?_⟩;rw [<-h7,List.getElem?_take] at hj;split at hj
  ·simp only [World.cell?,h3,Nat.zero_add];simpa using hj
  ·cases hj
theorem zC {t:TypeId}{x:Operand}{b off T:Nat}{C:List Value}{v:Value}{y:Ty}(ho:o.op= .load t x:=by exact rfl) (hx:ev g x=some (.pointer (some ⟨b,off,none⟩)):=by exact rfl) (ht:tyOf P t=some y:=by exact ty rfl) (hr:y.desc.isRow=false:=by exact rfl)
  (hL:Has L (.blk b T C):=by repeat (first|exact Has.here|apply Has.there)) (hv:C[off]?=some v:=by first|rfl|assumption):OpT P ro N w0 M ds o g L (Det v L):=
 OpT.still (by rw [ho];rfl) λa w X hs=>by
  simp [execOp,ho,hs.agr.eval hx,zdZ ht hr w _ ((zc0 (hs.blk hL) off).trans hv)]
theorem zl {t:TypeId}{x:Operand}{ad:Addr}{v:Value}{y:Ty}(ho:o.op= .load t x:=by exact rfl) (hx:ev g x=some (.pointer (some ad)):=by exact rfl) (ht:tyOf P t=some y:=by exact ty rfl) (hr:y.desc.isRow=false:=by exact rfl)
  (hv:w0.cell? ad=some v:=by assumption) (hn: ¬M ad.block:=by exact λh=>h):OpT P ro N w0 M ds o g L (Det v L):=
 OpT.still (by rw [ho];rfl) λa w X hs=>by
  simp [execOp,ho,hs.agr.eval hx,zdZ ht hr w _ (hs.old hv hn)]
theorem zdy {t:TypeId}{y:Ty}(ht:tyOf P t=some y) (hr:y.desc.isRow=true) {w:World}{b off:Nat}{B:List Value}(hz:y.size=B.length) (hc:w.rangeAt b off B):
  (Instr.loadAt t (.pointer (some ⟨b,off,none⟩))).run P w= .ok (.agg B.toArray) w:=by
 obtain ⟨d,i,hd,hi,hs,hz',_⟩:=zN ht;exact run_loadAt_mid w b off t B d hc hd (by rw [<-zjI,hs];exact hr) (by rw [hi,Option.map_some,hz',hz])
theorem zf {t:TypeId}{x:Operand}{b off T:Nat}{C B:List Value}{y:Ty}(ho:o.op= .load t x:=by exact rfl) (hx:ev g x=some (.pointer (some ⟨b,off,none⟩)):=by exact rfl) (ht:tyOf P t=some y:=by exact ty rfl) (hr:y.desc.isRow=true:=by exact rfl)
  (hL:Has L (.blk b T C):=by repeat (first|exact Has.here|apply Has.there)) (hv:Seg C off B:=by exact Seg.all) (hz:y.size=B.length:=by first|rfl|(simp only [List.length_map,List.length_set,List.length_replicate,List.length_append];omega)|(simp only [List.length_map];first|assumption|omega)|(simp;omega)|fail):OpT P ro N w0 M ds o g L (Det (.agg B.toArray) L):=
 OpT.still (by rw [ho];rfl) λa w X hs=>by
  simp [execOp,ho,hs.agr.eval hx,zdy ht hr hz (zp (hs.blk hL) hv)]
theorem zz {t:TypeId}{x:Operand}{b off:Nat}{B:List Value}{y:Ty}(ho:o.op= .load t x:=by exact rfl) (hx:ev g x=some (.pointer (some ⟨b,off,none⟩)):=by exact rfl) (ht:tyOf P t=some y:=by exact ty rfl) (hr:y.desc.isRow=true:=by exact rfl)
  (hv:w0.rangeAt b off B:=by assumption) (hz:y.size=B.length:=by first|rfl|(simp only [List.length_map,List.length_set,List.length_replicate,List.length_append];omega)|(simp only [List.length_map];first|assumption|omega)|(simp;omega)|fail) (hn: ¬M b:=by exact λh=>h):OpT P ro N w0 M ds o g L (Det (.agg B.toArray) L):=
 OpT.still (by rw [ho];rfl) λa w X hs=>by
  simp [execOp,ho,hs.agr.eval hx,zdy ht hr hz (hs.oldRange hv hn)]
def SetAt (C:List Value) (n:Nat) (v:Value) (C':List Value):Prop:=n < C.length/\C'=C.set n v
theorem SetAt.here {x v:Value}{C:List Value} :SetAt (x::C) 0 v (v::C):=⟨by simp,rfl⟩
theorem SetAt.any {v:Value}{C:List Value}{n:Nat}(h:n < C.length):SetAt C n v (C.set n v):=⟨h,rfl⟩
theorem zeb {w w':World}{b:Nat}(hk:Keep M w0 w) (hk':Keep (· =b) w w') (hm:w0.heap.size<=b\/M b):Keep M w0 w':=hk.trans hk' (λx hx=>by subst hx;exact hm)
theorem zcr {t:TypeId}{x z:Operand}{b off T:Nat}{C C':List Value}{v:Value}{y:Ty}{L':List Res}(ho:o.op= .store t x z:=by exact rfl) (hx:ev g x=some (.pointer (some ⟨b,off,none⟩)):=by exact rfl) (hz:ev g z=some v:=by exact rfl) (ht:tyOf P t=some y:=by exact ty rfl) (h1:y.size=1:=by exact rfl) (hv:v.oneCell'=true:=by exact rfl)
  (hL:Upd L (.blk b T C) (.blk b T C') L':=by repeat (first|exact Upd.here|apply Upd.there)) (hC:SetAt C off v C':=by first|(refine SetAt.any ?_;first|omega|(simp only [List.length_map,List.length_set];omega)|(simp;omega)|fail)|(repeat (first|exact SetAt.here|apply SetAt.there);done)|fail):OpT P ro N w0 M ds o g L (Det undef L'):=
 OpT.run (by rw [ho];rfl) λa w X hs=>by
  obtain ⟨hlt,rfl⟩:=hC;have hb:=hs.hold.has (r:=.blk b T C) (by
   obtain ⟨A,B,e,_⟩:=hL;subst e;simp [Has])
  have hm:=hs.hold.mine (.blk b T C) (by obtain ⟨A,B,e,_⟩:=hL;subst e;simp) b rfl;refine ⟨.skip,undef,w.setCell ⟨b,off,none⟩ v,L',?_,.inr ⟨rfl,rfl⟩,⟨rfl,rfl⟩,zeb hs.keep (Keep.setCell w _ v) hm,?_⟩
  ·simp [execOp,ho,hs.agr.eval hx,hs.agr.eval hz,ziF ht h1 w ⟨b,off,none⟩ ((zc0 hb off).trans (List.getElem?_eq_getElem hlt)) (zjC hb off) hv]
  ·exact hs.hold.upd hL.append (λb' hb'=> .inl hb') (zkU hb off v) ((Keep.setCell w _ v).mono (λx hx=>by rw [hx];rfl))
theorem zcC {t:TypeId}{x z:Operand}{b off T:Nat}{C B:List Value}{y:Ty}{L':List Res}(ho:o.op= .store t x z:=by exact rfl) (hx:ev g x=some (.pointer (some ⟨b,off,none⟩)):=by exact rfl) (hz:ev g z=some (.agg B.toArray):=by exact rfl) (ht:tyOf P t=some y:=by exact ty rfl) (h1:y.size=B.length:=by first|rfl|(simp only [List.length_map,List.length_set,List.length_replicate,List.length_append];omega)|(simp only [List.length_map];first|assumption|omega)|(simp;omega)|fail) (hv:B.all (·.oneCell')=true:=by first|exact zdI _ (λ_=>rfl) _|rfl|fail)
  (hL:Upd L (.blk b T C) (.blk b T (setSeg C off B)) L':=by repeat (first|exact Upd.here|apply Upd.there)) (hC:off+B.length<=C.length:=by first|omega|(simp only [List.length_map,List.length_set];omega)|(simp;omega)|fail):OpT P ro N w0 M ds o g L (Det undef L'):=
 OpT.run (by rw [ho];rfl) λa w X hs=>by
  have hb:=hs.hold.has (r:=.blk b T C) (by
   obtain ⟨A,B,e,_⟩:=hL;subst e;simp [Has])
  have hm:=hs.hold.mine (.blk b T C) (by obtain ⟨A,B,e,_⟩:=hL;subst e;simp) b rfl;obtain ⟨d,i,hd,hi,hs',hz',_⟩:=zN ht;refine ⟨.skip,undef,w.setCells b off B,L',?_,.inr ⟨rfl,rfl⟩,⟨rfl,rfl⟩,zeb hs.keep (Keep.setCells b B off w) hm,?_⟩
  ·have:=run_storeAt_mid (P:=P) w b off t B.toArray (by simpa using zfN hb hC) (by rw [hi,Option.map_some,hz',h1];simp) (by simpa using hv);simp only [execOp,ho,hs.agr.eval hx,hs.agr.eval hz,Sem.run_bind,this,Result.andThen_ok];rfl
  ·exact hs.hold.upd hL.append (λb' hb'=> .inl hb') (zcN B C off w hb hC) ((Keep.setCells b B off w).mono (λx hx=>by rw [hx];rfl))
theorem zeP {C B:List Value}(h:C.length=B.length):setSeg C 0 B=B:=by
 simp [setSeg,<-h]
theorem zE {t:TypeId}{x z:Operand}{b T:Nat}{C B:List Value}{y:Ty}{L':List Res}(ho:o.op= .store t x z:=by exact rfl) (hx:ev g x=some (.pointer (some ⟨b,0,none⟩)):=by exact rfl) (hz:ev g z=some (.agg B.toArray):=by exact rfl) (ht:tyOf P t=some y:=by exact ty rfl) (h1:y.size=B.length:=by first|rfl|(simp only [List.length_map,List.length_set,List.length_replicate,List.length_append];omega)|(simp only [List.length_map];first|assumption|omega)|(simp;omega)|fail) (hv:B.all (·.oneCell')=true:=by first|exact zdI _ (λ_=>rfl) _|rfl|fail)
  (hL:Upd L (.blk b T C) (.blk b T B) L':=by repeat (first|exact Upd.here|apply Upd.there)) (hC:C.length=B.length:=by first|rfl|(simp only [List.length_map,List.length_set,List.length_replicate,List.length_append];omega)|(simp only [List.length_map];first|assumption|omega)|(simp;omega)|fail):OpT P ro N w0 M ds o g L (Det undef L'):=
 zcC ho hx hz ht h1 hv (by rw [zeP hC];exact hL) q_o
def NewP (T:Nat) (C:List Value) (L:List Res) (v:Value) (L':List Res):Prop:=∃b,v= .pointer (some ⟨b,0,none⟩)/\L'= .blk b T C::L
def zeroC (P:Program) (t:TypeId):Option (List Value):=((P.info? t).bind (·.zero)).map (·.cells.toList)
def zfind:List (Nat×List Value)->Nat->Option (List Value)
 | [],_=>none
 |(k,C)::l,t=>bif Nat.beq k t then some C else zfind l t
theorem zjA {P:Program} : ∀(l:List (Nat×List Value)),l.map (λp=>zeroC P p.1)=l.map (λp=>some p.2)-> ∀ {t:Nat}{C:List Value},zfind l t=some C->zeroC P t=some C
 | [],_,_,_,h=>by cases h
 |(k,D)::l,hl,t,C,h=>by
  simp only [List.map_cons,List.cons.injEq] at hl;simp only [zfind] at h;cases hb:Nat.beq k t with
  |true=>rw [hb] at h;rw [<-Nat.eq_of_beq_eq_true hb,hl.1];simpa using h
  |false=>rw [hb] at h;exact zjA l hl.2 h
theorem zpn {t:TypeId}{C:List Value}(h:zeroC P t=some C) (w:World): ∃z,(zeroValue t).run P w= .ok z w/\z.cells=C.toArray:=by
 unfold zeroC at h;cases hi:P.info? t with
 |none=>rw [hi] at h;cases h
 |some i=>
  rw [hi] at h;simp only [Option.bind_some,Option.map_eq_some_iff] at h;obtain ⟨z,hz,rfl⟩:=h;exact ⟨z,by simp [zeroValue,typeInfo,hi,hz],by simp⟩
theorem zaU {a:Act}{w:World}{X:List Res}(hs:St N w0 M ds g (L ++ X) a w) (T:Nat) (C:List Value):Keep M w0 (w.alloc (.cells C.toArray T))/\Holds w0.heap.size M ((.blk w.heap.size T C::L) ++ X) (w.alloc (.cells C.toArray T)):=
 ⟨hs.keep.trans (Keep.alloc No w _) (λ_ h=>h.elim),hs.hold.new hs.keep.size T C⟩
theorem zcx {t:TypeId}{C:List Value}(ho:o.op= .alloc t:=by exact rfl) (hz:zeroC P t=some C:=by exact zc rfl):OpT P ro N w0 M ds o g L (NewP t C L):=
 OpT.run (by rw [ho];rfl) λa w X hs=>by
  obtain ⟨z,hr,hc⟩:=zpn hz w;obtain ⟨h1,h2⟩:=zaU hs t C;refine ⟨_,_,w.alloc (.cells C.toArray t),_,?_,.inl rfl,⟨w.heap.size,rfl,rfl⟩,h1,h2⟩;simp [execOp,ho,Instr.alloc,Sem.run_bind,hr,newVar,newRow,hc]
theorem znM {t:TypeId}{x:Operand}{v:Value}(ho:o.op= .box t x:=by exact rfl) (hx:ev g x=some v:=by exact rfl) (hv:v.oneCell'=true:=by exact rfl):OpT P ro N w0 M ds o g L (NewP t [v] L):=
 OpT.run (by rw [ho];rfl) λa w X hs=>by
  obtain ⟨h1,h2⟩:=zaU hs t [v];have hc:v.cells= #[v]:=by cases v <;> first|rfl|(simp [Value.oneCell'] at hv)
  refine ⟨_,_,w.alloc (.cells [v].toArray t),_,?_,.inl rfl,⟨w.heap.size,rfl,rfl⟩,h1,h2⟩;simp [execOp,ho,hs.agr.eval hx,Instr.box,newVar,newRow,hc]
theorem zqy {t:TypeId}{x:Operand}{B:List Value}(ho:o.op= .box t x:=by exact rfl) (hx:ev g x=some (.agg B.toArray):=by exact rfl):OpT P ro N w0 M ds o g L (NewP t B L):=
 OpT.run (by rw [ho];rfl) λa w X hs=>by
  obtain ⟨h1,h2⟩:=zaU hs t B;refine ⟨_,_,w.alloc (.cells B.toArray t),_,?_,.inl rfl,⟨w.heap.size,rfl,rfl⟩,h1,h2⟩;simp [execOp,ho,hs.agr.eval hx,Instr.box,newVar,newRow,Value.cells]
theorem ya {ops:Array Oper}{Q:Exit->Act->World->Prop}{rest:List Oper}{fr:Fr}{o:Oper}{d T:Nat}{C:List Value}(h:OpT P ro N w0 M ds o (get fr) L (NewP T C L)) (hw:wants ops o (get fr)=some true:=by exact rfl) (hd:o.dst=some d:=by exact rfl) (hN:Nat.blt d N=true:=by exact rfl)
  (k: ∀b,SyL P ro N w0 M ds ops Q rest ((d,.pointer (some ⟨b,0,none⟩))::fr) (.blk b T C::L)):SyL P ro N w0 M ds ops Q (o::rest) fr L:=
 syl h hw hd hN λ_ _ ⟨b,e1,e2⟩=>by subst e1;subst e2;exact k b
end
section
variable {P:Program}{ro:Option Nat}{N:Nat}{w0:World}{M:Nat->Prop}{ds:List Deferred}{g:Nat->Option Value}{L:List Res}{o:Oper}
theorem zS {s f b off d n:Nat}{x:Operand}{y:Ty}(ho:o.op= .fieldAddr s x f:=by exact rfl) (hx:ev g x=some (.pointer (some ⟨b,off,none⟩)):=by exact rfl) (ht:tyOf P s=some y:=by exact ty rfl) (hy:y.desc= .struct #[]:=by exact rfl) (hf:nth y.flds f=some (d,n):=by exact rfl) (hn:Nat.beq n 0=false:=by exact rfl):
  OpT P ro N w0 M ds o g L (Det (.pointer (some ⟨b,off+d,none⟩)) L):=
 OpT.still (by rw [ho];rfl) λa w X hs=>by
  obtain ⟨dd,i,hd,hi,hs',_,_,hfl⟩:=zN ht;rw [hy] at hs';obtain ⟨fs,rfl⟩:=zdm hs';simp only at hfl;rw [hfl,zer,List.getElem?_map,Option.map_eq_some_iff] at hf;obtain ⟨fl,hfl',e⟩:=hf;rw [Array.getElem?_toList] at hfl';cases e;have hz:(sizeOf fl.type).run P w= .ok (P.cellsOf fl.type) w:=by
   unfold Program.cellsOf at hn ⊢;cases hq:P.info? fl.type with
   |none=>rw [hq] at hn;cases hn
   |some j=>simp [sizeOf,typeInfo,hq]
  have hne:P.cellsOf fl.type≠0:=Nat.ne_of_beq_eq_false hn;simp [execOp,ho,hs.agr.eval hx,Instr.fieldAt,run_underlying hd,hfl',Instr.sureAddr,fieldPlace,hz,hne,Addr.add_mid]
theorem zA {t e b off n c j:Nat}{x z:Operand}{k:IntKind}{i:Int}{y ye:Ty}(ho:o.op= .indexAddr t x z:=by exact rfl) (hx:ev g x=some (.slice (some ⟨b,off,none⟩) n c):=by exact rfl) (hz:ev g z=some (.int k i):=by exact rfl)
  (ht:tyOf P t=some y:=by exact ty rfl) (hy:y.desc= .slice e:=by exact rfl) (he:tyOf P e=some ye:=by exact ty rfl) (hi:i=(j:Int):=by first|rfl|exact idx_mul _ _|exact idx_mul1 _ _ _|exact zaC _ _|exact (Int.toNat_of_nonneg q_o).symm|fail) (hj:j < n:=by first|omega|(simp only [List.length_map,List.length_set];omega)|(simp;omega)|fail):OpT P ro N w0 M ds o g L (Det (.pointer (some ⟨b,off+j*ye.size,none⟩)) L):=
 OpT.still (by rw [ho];rfl) λa w X hs=>by
  obtain ⟨d,i',hd,hi',hs',_⟩:=zN ht;rw [hy] at hs';have:=zaF hs';subst this;subst hi;have hb:(0:Int)<=(j:Int)/\(j:Int) < (n:Int):=q_o;simp [execOp,ho,hs.agr.eval hx,hs.agr.eval hz,Instr.indexAt,run_underlying hd,asIntOf,hj,zaX he,Addr.add_mid]
theorem zG {t e b off n c j:Nat}{x z:Operand}{k:IntKind}{i:Int}{y ye:Ty}(ho:o.op= .indexAddr t x z:=by exact rfl) (hx:ev g x=some (.slice (some ⟨b,off,none⟩) n c):=by exact rfl) (hz:ev g z=some (.int k i):=by exact rfl)
  (ht:tyOf P t=some y:=by exact ty rfl) (hy:y.desc= .slice e:=by exact rfl) (he:tyOf P e=some ye:=by exact ty rfl) (h1:ye.size=1:=by exact rfl) (hi:i=(j:Int):=by first|rfl|exact idx_mul _ _|exact idx_mul1 _ _ _|exact zaC _ _|exact (Int.toNat_of_nonneg q_o).symm|fail) (hj:j < n:=by first|omega|(simp only [List.length_map,List.length_set];omega)|(simp;omega)|fail):OpT P ro N w0 M ds o g L (Det (.pointer (some ⟨b,off+j,none⟩)) L):=by
 have:=zA (P:=P) (ro:=ro) (N:=N) (w0:=w0) (M:=M) (ds:=ds) (L:=L) ho hx hz ht hy he hi hj;rw [h1,Nat.mul_one] at this;exact this
theorem zdi {t e b off n j:Nat}{x z:Operand}{k:IntKind}{i:Int}{y ye:Ty}(ho:o.op= .indexAddr t x z:=by exact rfl) (hx:ev g x=some (.pointer (some ⟨b,off,none⟩)):=by exact rfl) (hz:ev g z=some (.int k i):=by exact rfl)
  (ht:tyOf P t=some y:=by exact ty rfl) (hy:y.desc= .array n e:=by exact rfl) (he:tyOf P e=some ye:=by exact ty rfl) (hi:i=(j:Int):=by first|rfl|exact idx_mul _ _|exact idx_mul1 _ _ _|exact zaC _ _|exact (Int.toNat_of_nonneg q_o).symm|fail) (hj:j < n:=by first|omega|(simp only [List.length_map,List.length_set];omega)|(simp;omega)|fail):OpT P ro N w0 M ds o g L (Det (.pointer (some ⟨b,off+j*ye.size,none⟩)) L):=
 OpT.still (by rw [ho];rfl) λa w X hs=>by
  obtain ⟨d,i',hd,hi',hs',_⟩:=zN ht;rw [hy] at hs';have:=zbF hs';subst this;subst hi;simp [execOp,ho,hs.agr.eval hx,hs.agr.eval hz,Instr.indexAt,Instr.sureAddr,run_underlying hd,asIntOf,hj,zaX he,Addr.add_mid]
theorem zcT {t e b off n j:Nat}{x z:Operand}{k:IntKind}{i:Int}{y ye:Ty}(ho:o.op= .indexAddr t x z:=by exact rfl) (hx:ev g x=some (.pointer (some ⟨b,off,none⟩)):=by exact rfl) (hz:ev g z=some (.int k i):=by exact rfl)
  (ht:tyOf P t=some y:=by exact ty rfl) (hy:y.desc= .array n e:=by exact rfl) (he:tyOf P e=some ye:=by exact ty rfl) (h1:ye.size=1:=by exact rfl) (hi:i=(j:Int):=by first|rfl|exact idx_mul _ _|exact idx_mul1 _ _ _|exact zaC _ _|exact (Int.toNat_of_nonneg q_o).symm|fail) (hj:j < n:=by first|omega|(simp only [List.length_map,List.length_set];omega)|(simp;omega)|fail):OpT P ro N w0 M ds o g L (Det (.pointer (some ⟨b,off+j,none⟩)) L):=by
 have:=zdi (P:=P) (ro:=ro) (N:=N) (w0:=w0) (M:=M) (ds:=ds) (L:=L) ho hx hz ht hy he hi hj;rw [h1,Nat.mul_one] at this;exact this
theorem zbw {t e b n c j:Nat}{x z:Operand}{k:IntKind}{i:Int}{y ye:Ty}(ho:o.op= .indexAddr t x z:=by exact rfl) (hx:ev g x=some (.slice (some ⟨b,0,none⟩) n c):=by exact rfl) (hz:ev g z=some (.int k i):=by exact rfl)
  (ht:tyOf P t=some y:=by exact ty rfl) (hy:y.desc= .slice e:=by exact rfl) (he:tyOf P e=some ye:=by exact ty rfl) (h1:ye.size=1:=by exact rfl) (hi:i=(j:Int):=by first|rfl|exact idx_mul _ _|exact idx_mul1 _ _ _|exact zaC _ _|exact (Int.toNat_of_nonneg q_o).symm|fail) (hj:j < n:=by first|omega|(simp only [List.length_map,List.length_set];omega)|(simp;omega)|fail):OpT P ro N w0 M ds o g L (Det (.pointer (some ⟨b,j,none⟩)) L):=by
 have:=zG (P:=P) (ro:=ro) (N:=N) (w0:=w0) (M:=M) (ds:=ds) (L:=L) ho hx hz ht hy he h1 hi hj;rw [Nat.zero_add] at this;exact this
theorem zcn {t e b n j:Nat}{x z:Operand}{k:IntKind}{i:Int}{y ye:Ty}(ho:o.op= .indexAddr t x z:=by exact rfl) (hx:ev g x=some (.pointer (some ⟨b,0,none⟩)):=by exact rfl) (hz:ev g z=some (.int k i):=by exact rfl)
  (ht:tyOf P t=some y:=by exact ty rfl) (hy:y.desc= .array n e:=by exact rfl) (he:tyOf P e=some ye:=by exact ty rfl) (h1:ye.size=1:=by exact rfl) (hi:i=(j:Int):=by first|rfl|exact idx_mul _ _|exact idx_mul1 _ _ _|exact zaC _ _|exact (Int.toNat_of_nonneg q_o).symm|fail) (hj:j < n:=by first|omega|(simp only [List.length_map,List.length_set];omega)|(simp;omega)|fail):OpT P ro N w0 M ds o g L (Det (.pointer (some ⟨b,j,none⟩)) L):=by
 have:=zcT (P:=P) (ro:=ro) (N:=N) (w0:=w0) (M:=M) (ds:=ds) (L:=L) ho hx hz ht hy he h1 hi hj;rw [Nat.zero_add] at this;exact this
theorem zgs {t e n j:Nat}{x z:Operand}{k:IntKind}{i:Int}{y ye:Ty}{C:List Value}{v:Value}(ho:o.op= .index t x z:=by exact rfl) (hx:ev g x=some (.agg C.toArray):=by exact rfl) (hz:ev g z=some (.int k i):=by exact rfl)
  (ht:tyOf P t=some y:=by exact ty rfl) (hy:y.desc= .array n e:=by exact rfl) (he:tyOf P e=some ye:=by exact ty rfl) (h1:ye.size=1:=by exact rfl) (hr:ye.desc.isRow=false:=by exact rfl) (hi:i=(j:Int):=by first|rfl|exact idx_mul _ _|exact idx_mul1 _ _ _|exact zaC _ _|exact (Int.toNat_of_nonneg q_o).symm|fail) (hj:j < n:=by first|omega|(simp only [List.length_map,List.length_set];omega)|(simp;omega)|fail) (hv:C[j]?=some v:=by first|rfl|assumption):OpT P ro N w0 M ds o g L (Det v L):=
 OpT.still (by rw [ho];rfl) λa w X hs=>by
  obtain ⟨d,i',hd,hi',hs',_⟩:=zN ht;rw [hy] at hs';have:=zbF hs';subst this;subst hi;simp [execOp,ho,hs.agr.eval hx,hs.agr.eval hz,Instr.index,run_underlying hd,asIntOf,hj,zaX he,h1,part,zfG he hr,hv]
theorem zF {t j:Nat}{x z:Operand}{k:IntKind}{i:Int}{y:Ty}{s:ByteArray}{u:UInt8}(ho:o.op= .index t x z:=by exact rfl) (hx:ev g x=some (.string s):=by exact rfl) (hz:ev g z=some (.int k i):=by exact rfl)
  (ht:tyOf P t=some y:=by exact ty rfl) (hy:y.desc= .string:=by exact rfl) (hi:i=(j:Int):=by first|rfl|exact idx_mul _ _|exact idx_mul1 _ _ _|exact zaC _ _|exact (Int.toNat_of_nonneg q_o).symm|fail) (hv:s.data[j]?=some u:=by first|rfl|assumption):OpT P ro N w0 M ds o g L (Det (.int .u8 u.toNat) L):=
 OpT.still (by rw [ho];rfl) λa w X hs=>by
  obtain ⟨d,i',hd,hi',hs',_⟩:=zN ht;rw [hy] at hs';have:=zen hs';subst this;subst hi;have hlt:j < s.size:=(Array.getElem?_eq_some_iff.1 hv).1;have:s[j]?=some u:=by
   rw [getElem?_pos s j hlt];congr 1;exact (Array.getElem?_eq_some_iff.1 hv).2
  simp [execOp,ho,hs.agr.eval hx,hs.agr.eval hz,Instr.index,run_underlying hd,asIntOf,this]
def bnd (g:Nat->Option Value) (x:Option Operand) (d j:Nat):Prop:=match x with
 |none=>j=d
 |some x=>∃(k:IntKind),ev g x=some (.int k (j:Int))
theorem zW {x:Operand}{d j:Nat}{k:IntKind}{i:Int}(h:ev g x=some (.int k i)) (hi:i=(j:Int)):bnd g (some x) d j:=⟨k,by rw [h,hi]⟩
theorem zaL {d:Nat} :bnd g none d d:=rfl
theorem zeW {a:Act}(hg:Agrees g a) {lo hi mx:Option Operand}{isS:Bool}{n c l h m:Nat}(hl:bnd g lo 0 l) (hh:bnd g hi n h) (hm:bnd g mx c m) (h1:l<=h) (h2:h<=m) (h3:m<=c) (hmx:hi.isSome=true\/mx=none) (w:World):
  (Instr.sliceBounds isS n c (lo.map a.eval) (hi.map a.eval) (mx.map a.eval)).run P w= .ok (l,h,m) w:=by
 have sb: ∀(k:IntKind) (i y:Nat) (code:BoundsCode),i<=y->(Instr.sliceBound (.int k (i:Int)) y code).run P w= .ok i w:=λk i y code hle=>by
  have:=run_sliceBound (P:=P) w k (i:Int) y code q_o q_o;rw [this,Int.toNat_natCast]
 unfold Instr.sliceBounds;cases mx with
 |none=>
  have hm:m=c:=hm;subst hm;cases hi with
  |none=>
   have hh:h=n:=hh;subst hh;cases lo with
   |none=>have hl:l=0:=hl;subst hl;simp
   |some x=>obtain ⟨k,hx⟩:=hl;simp [hg.eval hx,sb _ _ _ _ h1]
  |some z=>
   obtain ⟨k,hz⟩:=hh;cases lo with
   |none=>have hl:l=0:=hl;subst hl;simp [hg.eval hz,sb _ _ _ _ h2]
   |some x=>obtain ⟨k',hx⟩:=hl;simp [hg.eval hx,hg.eval hz,sb _ _ _ _ h1,sb _ _ _ _ h2]
 |some u=>
  obtain ⟨ku,hu⟩:=hm;cases hi with
  |none=>rcases hmx with h|h <;> cases h
  |some z=>
   obtain ⟨k,hz⟩:=hh;cases lo with
   |none=>have hl:l=0:=hl;subst hl;simp [hg.eval hz,hg.eval hu,sb _ _ _ _ h2,sb _ _ _ _ h3]
   |some x=>obtain ⟨k',hx⟩:=hl;simp [hg.eval hx,hg.eval hz,hg.eval hu,sb _ _ _ _ h1,sb _ _ _ _ h2,sb _ _ _ _ h3]
def movA (a:Option Addr) (l m s:Nat):Option Addr:=if m=l then a else a.map (·.add (l*s))
theorem zie (a:Option Addr) (m s:Nat):movA a 0 m s=a:=by
 unfold movA;split
 ·rfl
 ·cases a with
  |none=>rfl
  |some ad=>simp [Addr.add]
theorem zeD {b off l m s:Nat}(h:l < m):movA (some ⟨b,off,none⟩) l m s=some ⟨b,off+l*s,none⟩:=by
 unfold movA;rw [if_neg q_o];simp [Addr.add_mid]
theorem zof {t e n c l h m:Nat}{x:Operand}{lo hi mx:Option Operand}{a0:Option Addr}{y ye:Ty}(ho:o.op= .slice t x lo hi mx:=by exact rfl) (hx:ev g x=some (.slice a0 n c):=by exact rfl) (ht:tyOf P t=some y:=by exact ty rfl) (hy:y.desc= .slice e:=by exact rfl) (he:tyOf P e=some ye:=by exact ty rfl)
  (hl:bnd g lo 0 l:=by first|exact zaL|exact zW rfl rfl|exact zW rfl (zaC _ _)|exact zW rfl (Int.toNat_of_nonneg q_o).symm|fail) (hh:bnd g hi n h:=by first|exact zaL|exact zW rfl rfl|exact zW rfl (zaC _ _)|exact zW rfl (Int.toNat_of_nonneg q_o).symm|fail) (hm:bnd g mx c m:=by first|exact zaL|exact zW rfl rfl|exact zW rfl (zaC _ _)|exact zW rfl (Int.toNat_of_nonneg q_o).symm|fail) (h1:l<=h:=by first|omega|(simp only [List.length_map,List.length_set];omega)|(simp;omega)|fail) (h2:h<=m:=by first|omega|(simp only [List.length_map,List.length_set];omega)|(simp;omega)|fail) (h3:m<=c:=by first|omega|(simp only [List.length_map,List.length_set];omega)|(simp;omega)|fail) (hmx:hi.isSome=true\/mx=none:=by first|exact .inl rfl|exact .inr rfl):OpT P ro N w0 M ds o g L (Det (.slice (movA a0 l m ye.size) (h - l) (m - l)) L):=
 OpT.still (by rw [ho];rfl) λa w X hs=>by
  obtain ⟨d,i',hd,hi',hs',_⟩:=zN ht;rw [hy] at hs';have:=zaF hs';subst this;simp [execOp,ho,hs.agr.eval hx,Instr.sliceAt,Instr.slice,run_underlying hd,zeW hs.agr hl hh hm h1 h2 h3 hmx,zaX he,movA]
theorem zky {t e n l h m b off:Nat}{x:Operand}{lo hi mx:Option Operand}{y ye:Ty}(ho:o.op= .slice t x lo hi mx:=by exact rfl) (hx:ev g x=some (.pointer (some ⟨b,off,none⟩)):=by exact rfl) (ht:tyOf P t=some y:=by exact ty rfl) (hy:y.desc= .array n e:=by exact rfl) (he:tyOf P e=some ye:=by exact ty rfl)
  (hl:bnd g lo 0 l:=by first|exact zaL|exact zW rfl rfl|exact zW rfl (zaC _ _)|exact zW rfl (Int.toNat_of_nonneg q_o).symm|fail) (hh:bnd g hi n h:=by first|exact zaL|exact zW rfl rfl|exact zW rfl (zaC _ _)|exact zW rfl (Int.toNat_of_nonneg q_o).symm|fail) (hm:bnd g mx n m:=by first|exact zaL|exact zW rfl rfl|exact zW rfl (zaC _ _)|exact zW rfl (Int.toNat_of_nonneg q_o).symm|fail) (h1:l<=h:=by first|omega|(simp only [List.length_map,List.length_set];omega)|(simp;omega)|fail) (h2:h<=m:=by first|omega|(simp only [List.length_map,List.length_set];omega)|(simp;omega)|fail) (h3:m<=n:=by first|omega|(simp only [List.length_map,List.length_set];omega)|(simp;omega)|fail) (hmx:hi.isSome=true\/mx=none:=by first|exact .inl rfl|exact .inr rfl):OpT P ro N w0 M ds o g L (Det (.slice (movA (some ⟨b,off,none⟩) l m ye.size) (h - l) (m - l)) L):=
 OpT.still (by rw [ho];rfl) λa w X hs=>by
  obtain ⟨d,i',hd,hi',hs',_⟩:=zN ht;rw [hy] at hs';have:=zbF hs';subst this;have e1:(some (if m=l then (⟨b,off,none⟩:Addr) else (⟨b,off,none⟩:Addr).add (l*ye.size)))=movA (some ⟨b,off,none⟩) l m ye.size:=by unfold movA;split <;> rfl
  simp [execOp,ho,hs.agr.eval hx,Instr.sliceAt,Instr.sureAddr,run_underlying hd,zeW hs.agr hl hh hm h1 h2 h3 hmx,zaX he,<-e1]
theorem zdg {t l h:Nat}{x:Operand}{lo hi:Option Operand}{s:ByteArray}{y:Ty}(ho:o.op= .slice t x lo hi none:=by exact rfl) (hx:ev g x=some (.string s):=by exact rfl) (ht:tyOf P t=some y:=by exact ty rfl) (hy:y.desc= .string:=by exact rfl)
  (hl:bnd g lo 0 l:=by first|exact zaL|exact zW rfl rfl|exact zW rfl (zaC _ _)|exact zW rfl (Int.toNat_of_nonneg q_o).symm|fail) (hh:bnd g hi s.size h:=by first|exact zaL|exact zW rfl rfl|exact zW rfl (zaC _ _)|exact zW rfl (Int.toNat_of_nonneg q_o).symm|fail) (h1:l<=h:=by first|omega|(simp only [List.length_map,List.length_set];omega)|(simp;omega)|fail) (h2:h<=s.size:=by first|omega|(simp only [List.length_map,List.length_set];omega)|(simp;omega)|fail):OpT P ro N w0 M ds o g L (Det (.string (s.extract l h)) L):=
 OpT.still (by rw [ho];rfl) λa w X hs=>by
  obtain ⟨d,i',hd,hi',hs',_⟩:=zN ht;rw [hy] at hs';have:=zen hs';subst this;have:=zeW (P:=P) (isS:=false) hs.agr hl hh (mx:=none) (c:=s.size) zaL h1 h2 (Nat.le_refl _) (.inr rfl) w;simp only [Option.map_none] at this;simp [execOp,ho,hs.agr.eval hx,Instr.sliceAt,Instr.slice,run_underlying hd,this]
theorem zhl {t e n c:Nat}{x:Operand}{a0:Option Addr}{y:Ty}(ho:o.op= .call { callee:=.builtin .len,args:=#[x],argTypes:=#[t] } :=by exact rfl) (hx:ev g x=some (.slice a0 n c):=by exact rfl) (ht:tyOf P t=some y:=by exact ty rfl) (hy:y.desc= .slice e:=by exact rfl):OpT P ro N w0 M ds o g L (Det (.int .i64 n) L):=
 OpT.still (by rw [ho];rfl) λa w X hs=>by
  obtain ⟨d,i',hd,hi',hs',_⟩:=zN ht;rw [hy] at hs';have:=zaF hs';subst this;simp [execOp,ho,resolve,invoke,builtin,hs.agr.eval hx,Builtin.len_,run_underlying hd,goInt]
theorem zhV {t:Nat}{x:Operand}{s:ByteArray}{y:Ty}(ho:o.op= .call { callee:=.builtin .len,args:=#[x],argTypes:=#[t] } :=by exact rfl) (hx:ev g x=some (.string s):=by exact rfl) (ht:tyOf P t=some y:=by exact ty rfl) (hy:y.desc= .string:=by exact rfl):OpT P ro N w0 M ds o g L (Det (.int .i64 s.size) L):=
 OpT.still (by rw [ho];rfl) λa w X hs=>by
  obtain ⟨d,i',hd,hi',hs',_⟩:=zN ht;rw [hy] at hs';have:=zen hs';subst this;simp [execOp,ho,resolve,invoke,builtin,hs.agr.eval hx,Builtin.len_,run_underlying hd,goInt]
theorem zcQ {t:Operand}{k:Nat}{vs:Array Value}{v:Value}(ho:o.op= .extract t k:=by exact rfl) (hx:ev g t=some (.tuple vs):=by exact rfl) (hv:vs[k]?=some v:=by exact rfl):OpT P ro N w0 M ds o g L (Det v L):=
 OpT.still (by rw [ho];rfl) λa w X hs=>by simp [execOp,ho,hs.agr.eval hx,Instr.extract,hv]
theorem zgg {fn:Fn}{f c:Array Operand}{vs us:List Value}(ho:o.op= .makeFunc fn f c:=by exact rfl) (hf:evs g f.toList=some vs:=by exact rfl) (hc:evs g c.toList=some us:=by exact rfl):OpT P ro N w0 M ds o g L (Det (.func fn vs.toArray us.toArray) L):=
 OpT.still (by rw [ho];rfl) λa w X hs=>by
  have h1:f.map a.eval=vs.toArray:=Array.toList_inj.1 (by rw [Array.toList_map,hs.agr.evals hf]);have h2:c.map a.eval=us.toArray:=Array.toList_inj.1 (by rw [Array.toList_map,hs.agr.evals hc]);simp [execOp,ho,Instr.makeFunc,h1,h2]
def Fn (P:Program) (f:FuncId) (args:List Value) (w:World) (M:Nat->Prop) (post:Value->List Res->Prop):Prop:=
 Calls P f args.toArray w λe w'=>∃v R,e= .returned v/\post v R/\Keep M w w'/\Holds w.heap.size M R w'
theorem Fn.mono {f:FuncId}{args:List Value}{w:World}{M':Nat->Prop}{post post':Value->List Res->Prop}(h:Fn P f args w M' post) (hp: ∀v R,post v R->post' v R):Fn P f args w M' post':=
 Calls.mono h λ_ _ ⟨v,R,e,hv,hk,hh⟩=>⟨v,R,e,hp v R hv,hk,hh⟩
def OwnOf (C:List Res):Nat->Prop:=λb=>∃r∈C,r.own b
def RemL (L C L1:List Res):Prop:=L.Perm (C ++ L1)
theorem RemL.nil:RemL L [] L:=List.Perm.refl _
theorem RemL.cons {r r':Res}{C L1 L2:List Res}(h:Rem L r' L1) (e:r'=r) (h2:RemL L1 C L2):RemL L (r::C) L2:=by
 subst e;exact h.perm.trans (List.Perm.cons _ h2)
theorem zcH {fo:Operand}{args:Array Operand}{tys:Array TypeId}{f:Nat}{vs:List Value}{cap:List Value}{C L1:List Res}{M':Nat->Prop}{post:Value->List Res->Prop}
  (ho:o.op= .call { callee:=.value fo,args:=args,argTypes:=tys } :=by exact rfl) (hf:ev g fo=some (.func (.func f) #[] cap.toArray):=by exact rfl) (ha:evs g args.toList=some vs:=by exact rfl)
  (he: ∀args w,(callFunc f args).run P w= .ok (.enter f args) w:=by exact en rfl) (hC:RemL L C L1) (hM: ∀b,M' b->OwnOf C b)
  (hc: ∀w X,Keep M w0 w->Holds w0.heap.size M (L ++ X) w->Fn P f (vs ++ cap) w M' post):OpT P ro N w0 M ds o g L (λv L'=>∃R,L'=R ++ L1/\post v R):=by
 intro a w X next Q hs hn
 refine ⟨λ_ _=>trivial,?_⟩;rw [Oper.semAt_plain (FW ro) _ _ (λc hc=>by rw [ho] at hc;cases hc)];have hargs:args.map a.eval=vs.toArray:=Array.toList_inj.1 (by rw [Array.toList_map,hs.agr.evals ha]);have hrun:(execOp a.eval o).run P w= .ok (.enter f (vs ++ cap).toArray) w:=by
  simp only [execOp,ho,resolve,hs.agr.eval hf,Deferred.ofValue,hargs,Sem.run_bind,Sem.run_pure,Result.andThen_ok,invoke];rw [show (#[] ++ vs.toArray ++ cap.toArray:Array Value)=(vs ++ cap).toArray by simp];exact he _ w
 rw [hrun];refine ⟨λh=>(by cases h),?_⟩;have hcall:=hc w X hs.keep hs.hold;have hin:CallsIn (FW ro) (0 - 1) P f (vs ++ cap).toArray w (λe w'=>∃v R,e= .returned v/\post v R/\Keep M' w w'/\Holds w.heap.size M' R w'):=(callsIn_wide (n:=0 - 1)).2 hcall;refine CallsIn.mono hin ?_;rintro e w' ⟨v,R,rfl,hp,hk,hh⟩;have hperm:(L ++ X).Perm (C ++ (L1 ++ X)):=by rw [<-List.append_assoc];exact List.Perm.append_right X hC
 have hold:=hs.hold.perm hperm;have hold1:Holds w0.heap.size M (L1 ++ X) w:=hold.sublist (List.sublist_append_right C (L1 ++ X));have hmine: ∀b,M' b->w0.heap.size<=b\/M b:=λb hb=>by
  obtain ⟨r,hr,hro⟩:=hM b hb;exact hold.mine r (List.mem_append_left _ hr) b hro
 have hap: ∀r∈L1 ++ X,∀b,r.own b-> ¬M' b:=λr hr b hb hb'=>by
  obtain ⟨r',hr',hro⟩:=hM b hb';exact (List.pairwise_append.1 hold.apart).2.2 r' hr' r hr b hro hb
 have hkp:Keep M w0 w':=hs.keep.trans hk (λb hb=>hmine b hb);refine hn v w' (R ++ L1) ⟨R,rfl,hp⟩ hkp ?_;have hL:=hold1.keep hk hap;rw [List.append_assoc];refine ⟨λr hr=>?_,?_,λr hr b hb=>?_⟩
 ·rcases List.mem_append.1 hr with h|h
  ·exact hh.all r h
  ·exact hL.all r h
 ·refine List.pairwise_append.2 ⟨hh.apart,hL.apart,λr hr r' hr' b hb hb'=>?_⟩;rcases hh.mine r hr b hb with h|h
  ·have:=Res.own_lt (hold1.all r' hr') hb';omega
  ·exact hap r' hr' b hb' h
 ·rcases List.mem_append.1 hr with h|h
  ·rcases hh.mine r h b hb with h'|h'
   ·exact .inl (Nat.le_trans hs.keep.size h')
   ·exact hmine b h'
  ·exact hL.mine r h b hb
theorem zh {fo:Operand}{args:Array Operand}{tys:Array TypeId}{f:Nat}{vs:List Value}{cap:List Value}{post:Value->List Res->Prop}
  (ho:o.op= .call { callee:=.value fo,args:=args,argTypes:=tys } :=by exact rfl) (hf:ev g fo=some (.func (.func f) #[] cap.toArray):=by exact rfl) (ha:evs g args.toList=some vs:=by exact rfl)
  (he: ∀args w,(callFunc f args).run P w= .ok (.enter f args) w:=by exact en rfl)
  (hc: ∀w X,Keep M w0 w->Holds w0.heap.size M (L ++ X) w->Fn P f (vs ++ cap) w No post):OpT P ro N w0 M ds o g L (λv L'=>∃R,L'=R ++ L/\post v R):=
 zcH ho hf ha he RemL.nil (λ_ h=>h.elim) hc
def Gives (v:Value):Value->List Res->Prop:=λv' R=>v'=v/\R= []
theorem zd {fo:Operand}{args:Array Operand}{tys:Array TypeId}{f:Nat}{vs:List Value}{cap:List Value}{v:Value}
  (ho:o.op= .call { callee:=.value fo,args:=args,argTypes:=tys } :=by exact rfl) (hf:ev g fo=some (.func (.func f) #[] cap.toArray):=by exact rfl) (ha:evs g args.toList=some vs:=by exact rfl)
  (he: ∀args w,(callFunc f args).run P w= .ok (.enter f args) w:=by exact en rfl)
  (hc: ∀w X,Keep M w0 w->Holds w0.heap.size M (L ++ X) w->Fn P f (vs ++ cap) w No (Gives v)):OpT P ro N w0 M ds o g L (Det v L):=
 (zh ho hf ha he hc).mono λv' L' ⟨R,e,hv,hR⟩=>by subst hv;subst hR;exact ⟨rfl,e⟩
def FnR (w:World) (M:Nat->Prop) (post:Value->List Res->Prop) (e:Ending) (w':World):Prop:=∃v R,e= .returned v/\post v R/\Keep M w w'/\Holds w.heap.size M R w'
def argFr:Nat->List Value->Fr
 |_,[]=>[]
 |i,v::l=>(i,v)::argFr (i+1) l
theorem zh2: ∀(l:List Value) (i t:Nat) (v:Value),get (argFr i l) t=some v->i<=t/\l[t - i]?=some v
 | [],i,t,v,h=>by cases h
 |x::l,i,t,v,h=>by
  simp only [argFr,get] at h;cases hb:Nat.beq i t with
  |true=>rw [hb] at h;have:=Nat.eq_of_beq_eq_true hb;subst this;simpa using h
  |false=>
   rw [hb] at h;have:=zh2 l (i+1) t v h;have hne:=Nat.ne_of_beq_eq_false hb;refine ⟨by omega,?_⟩;rw [show t - i=(t - (i+1))+1 by omega];simpa using this.2
theorem zg {f:Nat}{fn:Func}{c:Code}{args:List Value}{w:World}{M':Nat->Prop}{post:Value->List Res->Prop}{L0:List Res}(hf:P.funcs[f]?=some fn) (hb:fn.body=some c) (hn:fn.ntmps=N) (hsz:args.length<=N)
  (hL:Holds w.heap.size M' L0 w) (h:Sy P none N w M' [] c (bodyPostM Fence.wide 0 P fn (FnR w M' post)) (argFr 0 args) L0):Fn P f args w M' post:=by
 refine (callsIn_wide (n:=0)).1 (callsIn_of_wp_marks hf hb trivial ?_ rfl);refine h _ w ⟨[],rfl,by simp;omega,λt v hv=>?_,Keep.refl _ _,by simpa using hL⟩;have:=zh2 args 0 t v hv;simp only [Nat.sub_zero] at this;have hlt:t < args.length:=(List.getElem?_eq_some_iff.1 this.2).1;rw [Array.getElem?_append_left (by simpa using hlt)];simpa using this.2
def resRun (tmps:Array Value) (r:ResultVar):Sem Value:=match r with
 | .tmp t=>pure (tmps.getD t undef)
 | .cell p t=>do loadVar t (<-asAddr (tmps.getD p undef))
theorem zc1 (fn:Func) (tmps:Array Value):results fn tmps=(do
  let vs <-fn.results.mapM (resRun tmps)
  pure (if h:vs.size=1 then vs[0] else .tuple vs)):=rfl
def ResOk (P:Program) (N:Nat) (w0:World) (M:Nat->Prop) (ds:List Deferred) (fr:Fr) (L:List Res) (r:ResultVar) (v:Value):Prop:=
 ∀a w,St N w0 M ds (get fr) L a w->(resRun a.tmps r).run P w= .ok v w
variable {fr:Fr}
theorem resTmp {t:Nat}{v:Value}(h:get fr t=some v):ResOk P N w0 M ds fr L (.tmp t) v:=λa w hs=>by
 have:=hs.agr t v h;simp only [resRun,Array.getD_eq_getD_getElem?,this,Option.getD_some];rfl
theorem resCell {p t b T:Nat}{v:Value}{C:List Value}{off:Nat}{y:Ty}(hp:get fr p=some (.pointer (some ⟨b,off,none⟩))) (ht:tyOf P t=some y) (hr:y.desc.isRow=false) (hL:Has L (.blk b T C)) (hv:C[off]?=some v):ResOk P N w0 M ds fr L (.cell p t) v:=λa w hs=>by
 have h1:=hs.agr p _ hp;have hb:=hs.hold.has hL;have:=zdZ ht hr w ⟨b,off,none⟩ ((zc0 hb off).trans hv);simp only [Instr.loadAt,Instr.sureAddr,Sem.run_bind,Sem.run_pure,Result.andThen_ok] at this;simp only [resRun,Array.getD_eq_getD_getElem?,h1,Option.getD_some,Sem.run_bind,asAddr,Sem.run_pure,Result.andThen_ok,this]
theorem resCells {p t b T:Nat}{C B:List Value}{off:Nat}{y:Ty}(hp:get fr p=some (.pointer (some ⟨b,off,none⟩))) (ht:tyOf P t=some y) (hr:y.desc.isRow=true) (hL:Has L (.blk b T C)) (hv:Seg C off B) (hz:y.size=B.length):ResOk P N w0 M ds fr L (.cell p t) (.agg B.toArray):=λa w hs=>by
 have h1:=hs.agr p _ hp;have hb:=hs.hold.has hL;have:=zdy ht hr hz (zp hb hv);simp only [Instr.loadAt,Instr.sureAddr,Sem.run_bind,Sem.run_pure,Result.andThen_ok] at this;simp only [resRun,Array.getD_eq_getD_getElem?,h1,Option.getD_some,Sem.run_bind,asAddr,Sem.run_pure,Result.andThen_ok,this]
theorem Keep.putObj {w:World}{b:Nat}{o:Obj} :Keep (· =b) w (w.putObj b o):=⟨rfl,rfl,rfl,by simp,λ_ _ hn=>World.putObj_heap_other hn⟩
theorem zfP {fn:Func}{g:Nat->Option Value}{R:Ending->World->Prop} : ∀(Ds:List Nat) (a:Act) (w:World),St N w0 M [] g (L ++ Ds.map dob) a w->
  (∀w',St N w0 M [] g L a w'-> ∃v,(results fn a.tmps).run P w'= .ok v w'/\R (.returned v) w')->LeavesInM Fence.wide 0 P fn a.tmps R (Ds.map col) .returning w
 | [],a,w,hs,h=>h w (by simpa using hs)
 |D::Ds,a,w,hs,h=>by
  have hp:=hs.perm (L':=dob D::(L ++ Ds.map dob)) (by simpa using List.perm_middle);have hD:w.heap[D]?=some (.deferred (some [])):=hp.hold.all _ List.mem_cons_self;refine ⟨by simp,.inl ⟨D,_,rfl,run_takeDeferred hD,zfP Ds a _ ⟨hp.size,hp.agr,?_,?_⟩ h⟩⟩
  ·exact hp.keep.trans Keep.putObj (λx hx=>by subst hx;exact hp.hold.mine _ List.mem_cons_self x rfl)
  ·exact hp.hold.tail.keep Keep.putObj (λr hr b hb hb'=>by subst hb';exact (List.pairwise_cons.1 hp.hold.apart).1 r hr b rfl hb)
theorem zfH {fn:Func}{post:Value->List Res->Prop}{v:Value}{R:List Res}(hres: ∀a w,St N w0 M [] (get fr) L a w->(results fn a.tmps).run P w= .ok v w) (hR:SubR R L) (hp:post v R) (e:Exit) (he:e= .ret\/e= .normal):
  SyX N w0 M [] (bodyPostM Fence.wide 0 P fn (FnR w0 M post) e) fr L:=by
 rintro a w ⟨Ds,hd,hs⟩;rw [List.append_nil] at hd;have key:LeavesInM Fence.wide 0 P fn a.tmps (FnR w0 M post) a.defers .returning w:=by
  rw [hd];exact zfP Ds a w hs λw' hs'=>⟨v,hres a w' hs',v,R,rfl,hp,hs'.keep,hs'.hold.subR hR⟩
 rcases he with rfl|rfl
 ·exact key
 ·exact key
theorem results0 {fn:Func}(h:fn.results= #[]) (a:Act) (w:World):(results fn a.tmps).run P w= .ok (.tuple #[]) w:=by simp [results,h]
theorem results1 {fn:Func}{r:ResultVar}{v:Value}(h:fn.results= #[r]) (h1:ResOk P N w0 M ds fr L r v) (a:Act) (w:World) (hs:St N w0 M ds (get fr) L a w):(results fn a.tmps).run P w= .ok v w:=by
 have e1:=h1 a w hs;rw [zc1,h];simp [e1]
theorem results2 {fn:Func}{r1 r2:ResultVar}{v1 v2:Value}(h:fn.results= #[r1,r2]) (h1:ResOk P N w0 M ds fr L r1 v1) (h2:ResOk P N w0 M ds fr L r2 v2) (a:Act) (w:World) (hs:St N w0 M ds (get fr) L a w):(results fn a.tmps).run P w= .ok (.tuple #[v1,v2]) w:=by
 have e1:=h1 a w hs;have e2:=h2 a w hs;rw [zc1,h];simp [e1,e2]
theorem results3 {fn:Func}{r1 r2 r3:ResultVar}{v1 v2 v3:Value}(h:fn.results= #[r1,r2,r3]) (h1:ResOk P N w0 M ds fr L r1 v1) (h2:ResOk P N w0 M ds fr L r2 v2) (h3:ResOk P N w0 M ds fr L r3 v3) (a:Act) (w:World) (hs:St N w0 M ds (get fr) L a w):(results fn a.tmps).run P w= .ok (.tuple #[v1,v2,v3]) w:=by
 have e1:=h1 a w hs;have e2:=h2 a w hs;have e3:=h3 a w hs;rw [zc1,h];simp [e1,e2,e3]
variable {post:Value->List Res->Prop}{R:List Res}{fn:Func}
theorem ret0 (h:fn.results= #[]) (hR:SubR R L) (hp:post (.tuple #[]) R):SyX N w0 M [] (bodyPostM Fence.wide 0 P fn (FnR w0 M post) .ret) fr L:=zfH (λa w _=>results0 h a w) hR hp _ (.inl rfl)
theorem end0 (h:fn.results= #[]) (hR:SubR R L) (hp:post (.tuple #[]) R):SyX N w0 M [] (bodyPostM Fence.wide 0 P fn (FnR w0 M post) .normal) fr L:=zfH (λa w _=>results0 h a w) hR hp _ (.inr rfl)
theorem ret1 {r:ResultVar}{v:Value}(h:fn.results= #[r]) (h1:ResOk P N w0 M [] fr L r v) (hR:SubR R L) (hp:post v R):SyX N w0 M [] (bodyPostM Fence.wide 0 P fn (FnR w0 M post) .ret) fr L:=zfH (results1 h h1) hR hp _ (.inl rfl)
theorem ret2 {r1 r2:ResultVar}{v1 v2:Value}(h:fn.results= #[r1,r2]) (h1:ResOk P N w0 M [] fr L r1 v1) (h2:ResOk P N w0 M [] fr L r2 v2) (hR:SubR R L) (hp:post (.tuple #[v1,v2]) R):SyX N w0 M [] (bodyPostM Fence.wide 0 P fn (FnR w0 M post) .ret) fr L:=zfH (results2 h h1 h2) hR hp _ (.inl rfl)
theorem ret3 {r1 r2 r3:ResultVar}{v1 v2 v3:Value}(h:fn.results= #[r1,r2,r3]) (h1:ResOk P N w0 M [] fr L r1 v1) (h2:ResOk P N w0 M [] fr L r2 v2) (h3:ResOk P N w0 M [] fr L r3 v3) (hR:SubR R L) (hp:post (.tuple #[v1,v2,v3]) R):SyX N w0 M [] (bodyPostM Fence.wide 0 P fn (FnR w0 M post) .ret) fr L:=zfH (results3 h h1 h2 h3) hR hp _ (.inl rfl)
end
theorem s_t {A B:Prop}(k:B) (f:B->A:=by intro h;(first|refine zbC ?_|refine zae ?_|refine zfZ rfl ?_|refine zfW rfl ?_|refine zcv ?_|refine zcE ?_|refine zgR ?_|refine zey ?_|refine zeY ?_|refine zZ ?_|refine zeu ?_|refine zcO ?_|refine zcm ?_|refine zfj ?_|refine zdC ?_|refine zch ?_|refine zdh rfl ?_);(repeat (first|refine zbC ?_|refine zae ?_|refine zfZ rfl ?_|refine zfW rfl ?_|refine zcv ?_|refine zcE ?_|refine zgR ?_|refine zey ?_|refine zeY ?_|refine zZ ?_|refine zeu ?_|refine zcO ?_|refine zcm ?_|refine zfj ?_|refine zdC ?_|refine zch ?_|refine zdh rfl ?_));exact h):A:=f k
theorem s_0 {A B:Prop}(k:B) (f:B->A:=by intro h;(first|refine zbC ?_|refine zae ?_|refine zfZ rfl ?_|refine zfW rfl ?_|refine zcE ?_|refine zgR ?_|refine zey ?_|refine zeY ?_|refine zZ ?_|refine zeu ?_|refine zcO ?_|refine zcm ?_|refine zfj ?_|refine zdC ?_|refine zch ?_|refine zdh rfl ?_);(repeat (first|refine zbC ?_|refine zae ?_|refine zfZ rfl ?_|refine zfW rfl ?_|refine zcE ?_|refine zgR ?_|refine zey ?_|refine zeY ?_|refine zZ ?_|refine zeu ?_|refine zcO ?_|refine zcm ?_|refine zfj ?_|refine zdC ?_|refine zch ?_|refine zdh rfl ?_));exact h):A:=f k
end Go.Sy
end
