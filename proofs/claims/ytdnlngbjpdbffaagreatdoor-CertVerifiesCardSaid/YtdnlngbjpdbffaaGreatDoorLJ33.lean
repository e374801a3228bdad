/- Certificates: bytes of numbers and of elements, as the walks meet them. -/
import Derived.Test.YtdnlngbjpdbffaaGreatDoorLJ06
import Derived.Test.YtdnlngbjpdbffaaGreatDoorLJ19
import Derived.Test.YtdnlngbjpdbffaaGreatDoorLJ32
import Derived.Test.YtdnlngbjpdbffaaGreatDoorLJ04
import Derived.RecoverIn
import Derived.Test.YtdnlngbjpdbffaaGreatDoorLJ13
import Derived.Test.YtdnlngbjpdbffaaGreatDoorLJ11
set_option maxRecDepth 10000
set_option linter.all false
section
namespace Go.Ct
open Go Go.Sy Go.RowKit
theorem shrZ (v:Int) (k:Nat) (kk:IntKind) (h:k < 64):Op.shift .shr .i64 v kk (k:Int)=pure (.int .i64 (v / 2 ^ k)):=by
 rw [shift_shr_any _ _ _ _ (Int.natCast_nonneg _)];congr 2;rw [Int.toNat_natCast,show min k IntKind.i64.bits=k from Nat.min_eq_left (Nat.le_of_lt h)]
theorem shrC (x k:Nat) (kk:IntKind) (h:k < 64):Op.shift .shr .i64 (x:Int) kk (k:Int)=pure (.int .i64 ((x / 2 ^ k:Nat):Int)):=by
 rw [shift_shr_any _ _ _ _ (Int.natCast_nonneg _)];congr 2;rw [Int.toNat_natCast,show min k IntKind.i64.bits=k from Nat.min_eq_left (Nat.le_of_lt h),Int.natCast_ediv,Int.natCast_pow];rfl
theorem u8Z (v:Int):IntKind.u8.wrap v=Wd.n8 (UInt8.ofNat (v % 256).toNat):=by
 rw [IntKind.wrap_u8,Wd.n8_of_nat];have h1:0<=v % 256:=Int.emod_nonneg _ q_e;have h2:v % 256 < 256:=Int.emod_lt_of_pos _ q_e;omega
theorem u8N (x:Nat):IntKind.u8.wrap (x:Int)=Wd.n8 (UInt8.ofNat x):=by rw [Wd.wrap_u8_nat,Wd.n8_of_nat]
theorem zqP (v:Int) (m i:Nat) (h:i < m):SetAt (List.replicate (m - i) (Value.int .u8 0) ++ (beZ v i).map v8) (m - 1 - i) (.int .u8 (Wd.n8 (UInt8.ofNat (v / 256 ^ i % 256).toNat))) (List.replicate (m - (i+1)) (Value.int .u8 0) ++ (beZ v (i+1)).map v8):=by
 refine ⟨by simp only [List.length_append,List.length_replicate];omega,?_⟩;obtain ⟨j,hj⟩: ∃j,m - i=j+1:=⟨m - i - 1,by omega⟩;have e1:m - 1 - i=j:=q_o;have e2:m - (i+1)=j:=q_o;rw [hj,e1,e2,List.replicate_succ',List.append_assoc,List.set_append_right _ _ q_p,List.length_replicate,Nat.sub_self];rfl
theorem zgC {v:Int}(h: -128<=v/\v<=127):sizeZ v=1:=by rw [sizeZ,dif_pos h]
theorem zjE {v:Int}(h: ¬(-128<=v/\v<=127)):sizeZ v=sizeZ (v / 256)+1:=by rw [sizeZ,dif_neg h]
theorem zi1: ∀(k:Nat) (v:Int),-(128*256 ^ k)<=v->v < 128*256 ^ k->sizeZ v<=k+1
 |0,v,h1,h2=>by rw [zgC q_o];exact Nat.le_refl _
 |k+1,v,h1,h2=>by
  by_cases h: -128<=v/\v<=127
  ·rw [zgC h];omega
  ·rw [zjE h];have:=zi1 k (v / 256) (by rw [Int.pow_succ] at h1;omega) (by rw [Int.pow_succ] at h2;omega);omega
theorem zmn {v:Int}(h1: -maxI<=v) (h2:v<=maxI):sizeZ v<=8:=zi1 7 v (by unfold maxI at *;omega) (by unfold maxI at *;omega)
theorem zqk (i:Nat):(2:Int) ^ (8*i)=256 ^ i:=by rw [Int.pow_mul];rfl
theorem zkW (n:Nat):(derL n).map v8=if n < 128 then [.int .u8 (Wd.n8 (UInt8.ofNat n))] else if n < 256 then [.int .u8 129,.int .u8 (Wd.n8 (UInt8.ofNat n))] else if n < 65536 then [.int .u8 130,.int .u8 (Wd.n8 (UInt8.ofNat (n / 2 ^ 8))),.int .u8 (Wd.n8 (UInt8.ofNat n))] else [.int .u8 131,.int .u8 (Wd.n8 (UInt8.ofNat (n / 2 ^ 16))),.int .u8 (Wd.n8 (UInt8.ofNat (n / 2 ^ 8))),.int .u8 (Wd.n8 (UInt8.ofNat n))]:=by
 unfold derL;split
 ·rfl
 ·split
  ·rfl
  ·split
   ·rfl
   ·rfl
theorem blkBs {B0:Nat}{w:World}{M:Nat->Prop}{E b n:Nat}{l:List UInt8}{L:List Res}(hh:Holds B0 M L w) (hl:l.length=n) (hL:Has L (.blk b E (l.map v8))):(⟨some ⟨b,0,none⟩,n,n,l⟩:Bs).ok w:=
 ⟨hl,Nat.le_refl _,.inr ⟨b,0,rfl,zp (hh.has hL) Seg.all⟩,λh=>by cases h⟩
theorem rowBs {B0:Nat}{w:World}{M:Nat->Prop}{E n c:Nat}{a:Option Addr}{l:List UInt8}{L:List Res}(hh:Holds B0 M L w) (hl:l.length=n) (hL:Has L (.row (.slice a n c) E 1 n (l.map v8))):(⟨a,n,c,l⟩:Bs).ok w:=
 ⟨hl,Row.cap hh hL,(SlF.row (Mi:=No) hh hL (λ_ h=>h.elim)).sla,λh=>(Row.nil hh hL h).1⟩
theorem objBs {w w':World}{L X:List Res}{E b n c:Nat}{M:Nat->Prop}{l:List UInt8}{J:List Value}(hk:Keep M w w') (hh:Holds w.heap.size M (L ++ X) w') (hl:l.length=n) (hc:n<=c) (hL:Has L (objR E b (l.map v8 ++ J))):(⟨some ⟨b,0,none⟩,n,c,l⟩:Bs).ok w':=
 ⟨hl,hc,.inr ⟨b,0,rfl,(Reads.obj hL (λj v hj=>by rw [Nat.zero_add,List.getElem?_append_left (List.getElem?_eq_some_iff.1 hj).1];exact hj)) w' X hk hh⟩,λh=>by cases h⟩
theorem cat1 (s:Bs):Bs.cat [s]=s.l:=by unfold Bs.cat;simp
theorem zbr {t:Nat}{l:List UInt8}{k:Nat}(h:l.length<=k):(tlv t l).length<=k+5:=by have:=(zV t l).2;omega
end Go.Ct
end
section
namespace Go.Sy
open Go Go.RowKit
section
variable {P:Program}{ro:Option Nat}{N:Nat}{w0:World}{M:Nat->Prop}{ds:List Deferred}{fr:Fr}{L:List Res}{Q:Exit->Act->World->Prop}
variable {post pan:Value->List Res->Prop}{R:List Res}{fn:Func}{v:Value}
theorem zij {p q:Nat->Bool}{i:Nat}(hq: ∀k,q k=true->p k=true) (hp:p i=true) (hn:q i=false): ∀ {l:List Nat},i∈l->l.countP q < l.countP p
 |x::l,h=>by
  have hle:l.countP q<=l.countP p:=List.countP_mono_left λk _=>hq k;rcases List.mem_cons.1 h with rfl|h
  ·rw [List.countP_cons_of_neg (by rw [hn];decide),List.countP_cons_of_pos hp];omega
  ·have ih:=zij hq hp hn h;by_cases hx:q x=true
   ·rw [List.countP_cons_of_pos hx,List.countP_cons_of_pos (hq x hx)];omega
   ·rw [List.countP_cons_of_neg hx];have:=List.countP_cons (p:=p) (a:=x) (l:=l);rw [this];omega
def acycB (l:List Oper):Bool:=(List.range l.length).all λi=>match l[i]? with
 |none=>true
 |some o=>(pre o).all λj=>Nat.blt j i
def HStep (P:Program) (ro:Option Nat) (N:Nat) (w0:World) (M:Nat->Prop) (ds:List Deferred) (ops:Array Oper) (Q:Exit->Act->World->Prop) (o:Oper) (fr:Fr) (L:List Res) (J:Fr->List Res->Prop):Prop:=
 ∀a w (K:Act->World->Prop),StD N w0 M ds (get fr) L a w->(∀fr' L' a' w',J fr' L'->StD N w0 M ds (get fr') L' a' w'->K a' w')->
  (if Region.wanted o (yielded ops a.tmps) then o.wpIn (FW ro) 0 P a w K Q else (∀f,o.about P w a.eval=some f->(FW ro).fn f)/\K (a.put o.dst undef) w)
theorem zn3 {id:Nat}{l:List Oper}(J:(Nat->Bool)->Fr->List Res->Prop) (hm:P.follows .mixedOrders=true) (hck:acycB l=true) (h0:J (λ_=>false) fr L)
  (step: ∀b fr L i o,l[i]?=some o->b i=false->(pre o).all b=true->J b fr L->HStep P ro N w0 M ds l.toArray Q o fr L (λfr' L'=>J (λk=>b k || Nat.beq k i) fr' L'))
  (hend: ∀b fr L,(∀i,i < l.length->b i=true)->J b fr L->SyX N w0 M ds (Q .normal) fr L):Sy P ro N w0 M ds (.region id l.toArray true) Q fr L:=by
 rintro a w ⟨Ds,hds,hs⟩;refine wpIn_region_any hm ?_;have hac: ∀i o,l[i]?=some o-> ∀j∈pre o,j < i:=λi o ho j hj=>by
  have hi:=(List.getElem?_eq_some_iff.1 ho).1;have:=List.all_eq_true.1 hck i (List.mem_range.2 hi);rw [ho] at this;exact zaf.1 (List.all_eq_true.1 this j hj)
 have done: ∀listed:Array Bool,listed.size=l.length->Region.ready .any l.toArray listed= []-> ∀i,i < l.length->listed.getD i false=true:=by
  intro listed hsz hnil i
  induction i using Nat.strongRecOn with
  |_ i ih=>
   intro hi;cases hb:listed.getD i false with
   |true=>rfl
   |false=>
    exfalso;have:i∈Region.ready .any l.toArray listed:=mem_ready.2 ⟨by
     simp only [Array.getD_eq_getD_getElem?] at hb ⊢;rw [Array.getElem?_eq_getElem q_o] at hb ⊢;simpa using hb,l[i],by simp [hi],λe he hbd=>by
     have hp:=hac i l[i] (List.getElem?_eq_getElem hi) e.on (zbX.2 ⟨e,he,hbd,rfl⟩);exact ih e.on hp q_o⟩
    rw [hnil] at this;cases this
 have key: ∀(f:Nat) (listed:Array Bool) (fr:Fr) (L:List Res) (a:Act) (w:World),listed.size=l.length->(List.range l.length).countP (λk=>!listed.getD k false)<=f->J (λk=>listed.getD k false) fr L->StD N w0 M ds (get fr) L a w->
   wpAnyIn (FW ro) 0 P .any l.toArray Q f listed a w:=by
  intro f
  induction f with
  |zero=>
   intro listed fr L a w hsz hc hJ hst;have hall: ∀i,i < l.length->listed.getD i false=true:=λi hi=>by
    have h1:(List.range l.length).countP (λk=>!listed.getD k false)=0:=Nat.le_zero.1 hc;have:=List.countP_eq_zero.1 h1 i (List.mem_range.2 hi);simpa using this
   refine ⟨?_,hend _ fr L hall hJ a w hst⟩;refine List.eq_nil_iff_forall_not_mem.2 λi hi=>?_;obtain ⟨h1,o,ho,_⟩:=mem_ready.1 hi;have hlt:i < l.length:=by simpa using (Array.getElem?_eq_some_iff.1 ho).1
   have:=zaQ h1;rw [hall i hlt] at this;cases this
  |succ f ih=>
   intro listed fr L a w hsz hc hJ hst;refine ⟨λhnil=>hend _ fr L (done listed hsz hnil) hJ a w hst,λi hi=>?_⟩;obtain ⟨h1,o,ho,he⟩:=mem_ready.1 hi;have hlt:i < l.length:=by simpa using (Array.getElem?_eq_some_iff.1 ho).1
   have ho':l[i]?=some o:=by simpa using ho
   have hf:=zaQ h1;have hpre:(pre o).all (λk=>listed.getD k false)=true:=List.all_eq_true.2 λj hj=>by
    obtain ⟨e,h2,h3,rfl⟩:=zbX.1 hj;exact he e h2 h3
   have hset: ∀k,(listed.setIfInBounds i true).getD k false=(listed.getD k false || Nat.beq k i):=λk=>by
    by_cases e:i=k
    ·subst e;have:i < listed.size:=q_o;simp [Array.getD_eq_getD_getElem?,this]
    ·rw [getD_set_ne false e];simp [zav.2 (λe'=>e e'.symm:k≠i)]
   unfold wpOpIn;rw [ho];refine step _ fr L i o ho' hf hpre hJ a w _ hst λfr' L' a' w' hJ' hst'=>?_;refine ih _ fr' L' a' w' (by simpa using hsz) ?_ (by simpa only [hset] using hJ') hst';have:(List.range l.length).countP (λk=>!(listed.setIfInBounds i true).getD k false) < (List.range l.length).countP (λk=>!listed.getD k false):=
    zij (i:=i) (λk hk=>by rw [hset] at hk;simp only [Bool.not_or,Bool.and_eq_true] at hk;exact hk.1) (by rw [hf];rfl) (by rw [hset];simp) (List.mem_range.2 hlt)
   omega
 refine key _ _ fr L a _ q_p ?_ ?_ ⟨Ds,hds,hs.size,hs.agr,⟨hs.keep.os,hs.keep.tape,hs.keep.output,hs.keep.size,hs.keep.block⟩,⟨λr hr=>Res.holds_congr (hs.hold.all r hr) (λ_ _=>rfl),hs.hold.apart,hs.hold.mine⟩⟩
 ·refine Nat.le_trans List.countP_le_length ?_;simp
 ·have e:(λk=>(Array.replicate l.toArray.size false).getD k false)=λ_=>false:=by
   funext k
   simp only [Array.getD_eq_getD_getElem?,Array.getElem?_replicate];split <;> rfl
  rw [e];exact h0
variable {ops:Array Oper}{o:Oper}{J:Fr->List Res->Prop}
end
section
variable {P:Program}{ro:Option Nat}{N:Nat}{w0:World}{M:Nat->Prop}{ds:List Deferred}{fr:Fr}{L B:List Res}{Q:Exit->Act->World->Prop}{ops:Array Oper}{g:Nat->Option Value}{o:Oper}
def HOp (P:Program) (ro:Option Nat) (N:Nat) (w0:World) (M:Nat->Prop) (ds:List Deferred) (Q:Exit->Act->World->Prop) (o:Oper) (g:Nat->Option Value) (L:List Res) (post:Value->List Res->Prop):Prop:=
 ∀a w (Ds:List Nat) (K:Act->World->Prop),a.defers=Ds.map col ++ ds->St N w0 M ds g (L ++ Ds.map dob) a w->(∀v w' L',post v L'->Keep M w0 w'->Holds w0.heap.size M (L' ++ Ds.map dob) w'->K (a.put o.dst v) w')->o.wpIn (FW ro) 0 P a w K Q
theorem HOp.of {post:Value->List Res->Prop}(h:OpT P ro N w0 M ds o g L post):HOp P ro N w0 M ds Q o g L post:=λa w Ds K _ hs hn=>h a w _ K Q hs (λv w' L' hp hk hh=>hn v w' L' hp hk hh)
def SyC (P:Program) (ro:Option Nat) (N:Nat) (w0:World) (M:Nat->Prop) (ds:List Deferred) (ops:Array Oper) (Q:Exit->Act->World->Prop) (B:List Res):List Oper->Fr->List Res->Prop
 | [],fr,L=>SubR B L/\SyX N w0 M ds (Q .normal) fr L
 |o::rest,fr,L=>SubR B L/\ ∃post,HOp P ro N w0 M ds Q o (only (o.looksAt ops) (get fr)) L post/\wants ops o (only (o.looksAt ops) (get fr))=some true/\((∃d,o.dst=some d/\d < N/\ ∀v L',post v L'->SyC P ro N w0 M ds ops Q B rest ((d,v)::fr) L')\/(o.dst=none/\ ∀v L',post v L'->SyC P ro N w0 M ds ops Q B rest fr L'))
def SyF (P:Program) (ro:Option Nat) (N:Nat) (w0:World) (M:Nat->Prop) (ds:List Deferred) (ops:Array Oper) (Q:Exit->Act->World->Prop) (B L:List Res) (chain:List Oper):List Oper->Fr->Prop
 | [],fr=>SyC P ro N w0 M ds ops Q B chain fr L
 |o::rest,fr=>∃d v,o.dst=some d/\d < N/\wants ops o (only (o.looksAt ops) (get fr))=some true/\OpT P ro N w0 M ds o (only (o.looksAt ops) (get fr)) B (Det v B)/\SyF P ro N w0 M ds ops Q B L chain rest ((d,v)::fr)
def pickO (l:List Oper):List Nat->List Oper
 | []=>[]
 |i::r=>match l[i]? with
  |none=>pickO l r
  |some o=>o::pickO l r
theorem zgZ {l:List Oper}{i:Nat}{o:Oper}(h:l[i]?=some o) (r:List Nat):pickO l (i::r)=o::pickO l r:=by rw [pickO,h]
def okFree (l:List Oper) (i:Nat) (js:List Nat):Bool:=match l[i]? with
 |none=>false
 |some o=>js.all λj=>match (l[j]?).bind (·.dst) with
  |none=>true
  |some t=>!(o.looksAt l.toArray).contains t && (Nat.beq i j || !(o.dst == some t))
def chkFree (l:List Oper):List Nat->List Nat->Bool
 | [],_=>true
 |i::fi,ci=>okFree l i (i::(fi ++ ci)) && chkFree l fi ci
def chkNext (l:List Oper):List Nat->Bool
 |i::j::r=>(match l[j]? with
  |none=>false
  |some o=>(pre o).contains i) && chkNext l (j::r)
 |_=>true
def chkDep (l:List Oper):Bool:=(List.range l.length).all λi=>match l[i]? with
 |none=>true
 |some o=>(List.range l.length).all λj=>match (l[j]?).bind (·.dst) with
  |none=>true
  |some t=>!(o.looksAt l.toArray).contains t || (pre o).contains j
def nodupB:List Nat->Bool
 | []=>true
 |i::r=>!r.contains i && nodupB r
def chkC (l:List Oper) (fi ci:List Nat):Bool:=
 acycB l && chkDep l && chkFree l fi ci && chkNext l ci && nodupB ci && ci.all (λi=>Nat.blt i l.length) && fi.all (λi=>Nat.blt i l.length) && (List.range l.length).all λi=>fi.contains i || ci.contains i
def FO (P:Program) (ro:Option Nat) (N:Nat) (w0:World) (M:Nat->Prop) (ds:List Deferred) (ops:Array Oper) (B:List Res) (frF:Fr) (o:Oper):Prop:=
 ∃d v,o.dst=some d/\d < N/\get frF d=some v/\wants ops o (only (o.looksAt ops) (get frF))=some true/\OpT P ro N w0 M ds o (only (o.looksAt ops) (get frF)) B (Det v B)
theorem zcj {fr:Fr}{t d:Nat}{v:Value}(h:d≠t):get ((d,v)::fr) t=get fr t:=by
 show (bif Nat.beq d t then some v else get fr t)=_;rw [zav.2 h];rfl
theorem zeo {fr:Fr}{d:Nat}{v:Value} :get ((d,v)::fr) d=some v:=by
 show (bif Nat.beq d d then some v else get fr d)=_;rw [Nat.beq_refl];rfl
theorem zea {ts:List Nat}{fr:Fr}{d:Nat}{v:Value}(h:ts.contains d=false):only ts (get ((d,v)::fr))=only ts (get fr):=by
 funext t
 unfold only;by_cases ht:ts.contains t=true
 ·rw [ht];have:d≠t:=λe=>by subst e;rw [h] at ht;cases ht
  simp only [cond_true,zcj this]
 ·rw [Bool.not_eq_true] at ht;rw [ht];rfl
theorem FO.cons {frF:Fr}{d:Nat}{v:Value}(h:FO P ro N w0 M ds ops B frF o) (h1:(o.looksAt ops).contains d=false) (h2:o.dst≠some d):FO P ro N w0 M ds ops B ((d,v)::frF) o:=by
 obtain ⟨d',v',e1,e2,e3,e4,e5⟩:=h;have hne:d≠d':=λe=>h2 (by rw [e1,e]);exact ⟨d',v',e1,e2,by rw [zcj hne];exact e3,by rw [zea h1];exact e4,by rw [zea h1];exact e5⟩
theorem zep {l:List Oper}{i:Nat}{js:List Nat}{o:Oper}(ho:l[i]?=some o) (h:okFree l i js=true) {j:Nat}(hj:j∈js) {o':Oper}{t:Nat}(ho':l[j]?=some o') (ht:o'.dst=some t):(o.looksAt l.toArray).contains t=false/\(i≠j->o.dst≠some t):=by
 unfold okFree at h;rw [ho] at h;have:=List.all_eq_true.1 h j hj;rw [ho'] at this;simp only [Option.bind_some,ht,Bool.and_eq_true,Bool.not_eq_true',Bool.or_eq_true] at this;refine ⟨this.1,λhne e=>?_⟩;rcases this.2 with h1|h1
 ·exact hne (Nat.eq_of_beq_eq_true h1)
 ·rw [e] at h1;simp at h1
theorem zjv {l:List Oper}{chain:List Oper} : ∀(fi:List Nat) (ci done:List Nat) (fr:Fr),(∀i∈fi,i < l.length)->chkFree l fi ci=true->(∀i∈done,∀o,l[i]?=some o->FO P ro N w0 M ds l.toArray B fr o/\okFree l i (fi ++ ci)=true/\i ∉ fi)->nodupB fi=true->
  SyF P ro N w0 M ds l.toArray Q B L chain (pickO l fi) fr-> ∃frF,(∀t,(∀i∈fi,∀o,l[i]?=some o->o.dst≠some t)->get frF t=get fr t)/\(∀i,i∈done\/i∈fi-> ∀o,l[i]?=some o->FO P ro N w0 M ds l.toArray B frF o)/\SyC P ro N w0 M ds l.toArray Q B chain frF L
 | [],ci,done,fr,_,_,hd,_,h=>⟨fr,λ_ _=>rfl,λi hi o ho=>(hi.elim (λh=>(hd i h o ho).1) (λh=>(by cases h))),h⟩
 |i::fi,ci,done,fr,hl,hc,hd,hn,h=>by
  have hi:i < l.length:=hl i List.mem_cons_self;have ho:=List.getElem?_eq_getElem hi;rw [zgZ ho] at h;obtain ⟨d,v,e1,e2,e3,e4,h⟩:=h;simp only [chkFree,Bool.and_eq_true] at hc;simp only [nodupB,Bool.and_eq_true,Bool.not_eq_true'] at hn;have hself:=zep ho hc.1 List.mem_cons_self ho e1;have hsub: ∀ {k:Nat}{o:Oper}(js js':List Nat),l[k]?=some o->okFree l k js=true->(∀x∈js',x∈js)->okFree l k js'=true:=by
   intro k o js js' hk h hs;unfold okFree at h ⊢;rw [hk] at h ⊢;exact List.all_eq_true.2 λx hx=>List.all_eq_true.1 h x (hs x hx)
  have hstep:=zjv (chain:=chain) fi ci (i::done) ((d,v)::fr) (λk hk=>hl k (List.mem_cons_of_mem _ hk)) hc.2 (λk hk o hko=>by
   rcases List.mem_cons.1 hk with rfl|hk
   ·have:o=l[k]:=by rw [ho] at hko;exact (Option.some.inj hko).symm
    subst this;refine ⟨⟨d,v,e1,e2,zeo,by rw [zea hself.1];exact e3,by rw [zea hself.1];exact e4⟩,hsub _ _ ho hc.1 (λx hx=>List.mem_cons_of_mem _ hx),λhm=>?_⟩;have:=hn.1;simp only [List.contains_eq_mem,decide_eq_false_iff_not] at this;exact this hm
   ·obtain ⟨h1,h2,h3⟩:=hd k hk o hko;have h4:=zep hko h2 (List.mem_append_left _ List.mem_cons_self) ho e1;have hki:k≠i:=λe=>h3 (by rw [e];exact List.mem_cons_self);exact ⟨h1.cons h4.1 (h4.2 hki),hsub _ _ hko h2 (λx hx=>(List.mem_append.1 hx).elim (λh=>List.mem_append_left _ (List.mem_cons_of_mem _ h)) (λh=>List.mem_append_right _ h)),λhm=>h3 (List.mem_cons_of_mem _ hm)⟩) hn.2 h
  obtain ⟨frF,h1,h2,h3⟩:=hstep;refine ⟨frF,λt ht=>?_,λk hk o hko=>?_,h3⟩
  ·rw [h1 t (λk hk o hko=>ht k (List.mem_cons_of_mem _ hk) o hko)];exact zcj (λe=>ht i List.mem_cons_self _ ho (by rw [<-e];exact e1))
  ·refine h2 k ?_ o hko;rcases hk with h|h
   ·exact .inl (List.mem_cons_of_mem _ h)
   ·rcases List.mem_cons.1 h with rfl|h
    ·exact .inl List.mem_cons_self
    ·exact .inr h
theorem zfD {l:List Oper} : ∀(cl:List Nat) {cr:List Nat},chkNext l (cl ++ cr)=true->chkNext l cr=true
 | [],_,h=>h
 | [c],[],_=>rfl
 | [c],d::cr,h=>by
  simp only [List.cons_append,List.nil_append,chkNext,Bool.and_eq_true] at h;exact h.2
 |c::c'::cl,cr,h=>by
  simp only [List.cons_append,chkNext,Bool.and_eq_true] at h;exact zfD (c'::cl) h.2
theorem zfk {l:List Oper} : ∀ {c:Nat}{cr:List Nat},chkNext l (c::cr)=true-> ∀i∈cr,∃p,p∈c::cr/\ ∃o,l[i]?=some o/\p∈pre o
 |c,[],_,i,hi=>by cases hi
 |c,d::cr,h,i,hi=>by
  simp only [chkNext,Bool.and_eq_true] at h;rcases List.mem_cons.1 hi with rfl|hi
  ·have h1:=h.1;split at h1
   ·cases h1
   ·rename_i o ho;refine ⟨c,List.mem_cons_self,o,ho,?_⟩;simpa [List.contains_eq_mem] using h1
  ·obtain ⟨p,hp,o,ho,hpo⟩:=zfk h.2 i hi;exact ⟨p,List.mem_cons_of_mem _ hp,o,ho,hpo⟩
theorem zlC {l:List Oper} : ∀ {fi ci:List Nat},chkFree l fi ci=true-> ∀k∈fi,∀o,l[k]?=some o-> ∀i∈ci,∀o',l[i]?=some o'-> ∀d,o'.dst=some d->(o.looksAt l.toArray).contains d=false/\(k≠i->o.dst≠some d)
 | [],_,_,_,hk,_,_,_,_,_,_,_,_=>by cases hk
 |x::fi,ci,h,k,hk,o,ho,i,hi,o',ho',d,hd=>by
  simp only [chkFree,Bool.and_eq_true] at h;rcases List.mem_cons.1 hk with rfl|hk
  ·exact zep ho h.1 (List.mem_cons_of_mem _ (List.mem_append_right _ hi)) ho' hd
  ·exact zlC h.2 k hk o ho i hi o' ho' d hd
theorem zhi: ∀(cl:List Nat) {c:Nat}{cr:List Nat},nodupB (cl ++ c::cr)=true->c ∉ cr
 | [],c,cr,h=>by
  simp only [List.nil_append,nodupB,Bool.and_eq_true,Bool.not_eq_true',List.contains_eq_mem,decide_eq_false_iff_not] at h;exact h.1
 |x::cl,c,cr,h=>by
  simp only [List.cons_append,nodupB,Bool.and_eq_true] at h;exact zhi cl h.2
theorem zh1 {id:Nat}{l:List Oper}(fi ci:List Nat) (hm:P.follows .mixedOrders=true) (hck:(chkC l fi ci && nodupB fi)=true) (h:SyF P ro N w0 M ds l.toArray Q B L (pickO l ci) (pickO l fi) fr):Sy P ro N w0 M ds (.region id l.toArray true) Q fr L:=by
 simp only [chkC,Bool.and_eq_true] at hck;obtain ⟨⟨⟨⟨⟨⟨⟨⟨hac,hdep⟩,hfree⟩,hnext⟩,hnd⟩,hci⟩,hfi⟩,hall⟩,hnf⟩:=hck;obtain ⟨frF0,hF1,hF2,hC0⟩:=zjv fi ci [] fr (λi hi=>zaf.1 (List.all_eq_true.1 hfi i hi)) hfree (λi hi=>by cases hi) hnf h;have hdep': ∀(i:Nat) (o:Oper),l[i]?=some o-> ∀(j:Nat) (o':Oper) (t:Nat),l[j]?=some o'->o'.dst=some t->(o.looksAt l.toArray).contains t=true->j∈pre o:=by
  intro i o ho j o' t ho' ht hlk;have h1:=List.all_eq_true.1 hdep i (List.mem_range.2 (List.getElem?_eq_some_iff.1 ho).1);rw [ho] at h1;have h2:=List.all_eq_true.1 h1 j (List.mem_range.2 (List.getElem?_eq_some_iff.1 ho').1);rw [ho'] at h2;simp only [Option.bind_some,ht,hlk,Bool.not_true,Bool.false_or] at h2;simpa [List.contains_eq_mem] using h2
 -- J: what has been done of the order; what is known.
 refine zn3 (J:=λb fr' L'=>∃cl cr frF,ci=cl ++ cr/\(∀c∈cl,b c=true)/\(∀c∈cr,b c=false)/\SyC P ro N w0 M ds l.toArray Q B (pickO l cr) frF L'/\(∀i∈fi,∀o,l[i]?=some o->i ∉ ci->FO P ro N w0 M ds l.toArray B frF o)/\ ∀t,(∀j o,l[j]?=some o->o.dst=some t->b j=true)-> ∀v,get frF t=some v->get fr' t=some v) hm hac ?_ ?_ ?_
 ·refine ⟨[],ci,frF0,rfl,(λc hc=>by cases hc),(λ_ _=>rfl),hC0,λi hi o ho _=>hF2 i (.inr hi) o ho,λt ht v hv=>?_⟩;rw [hF1 t (λi hi o ho e=>by have:=ht i o ho e;cases this)] at hv;exact hv
 ·rintro b fr' L' i o ho hbi hpre ⟨cl,cr,frF,hcc,hcl,hcr,hC,hFO,hag⟩;have hpre': ∀j∈pre o,b j=true:=λj hj=>List.all_eq_true.1 hpre j hj;have hagr: ∀a:Act,Agrees (get fr') a->Agrees (only (o.looksAt l.toArray) (get frF)) a:=λa ha t v hv=>by
   unfold only at hv;cases hc:(o.looksAt l.toArray).contains t with
   |false=>rw [hc] at hv;simp at hv
   |true=>
    rw [hc] at hv;exact ha t v (hag t (λj o' ho' hd=>hpre' j (hdep' i o ho j o' t ho' hd hc)) v hv)
  by_cases hic:i∈ci
  ·have hin:i∈cr:=by
    rw [hcc] at hic;rcases List.mem_append.1 hic with h|h
    ·rw [hcl i h] at hbi;cases hbi
    ·exact h
   obtain ⟨c,cr',rfl⟩: ∃c cr',cr=c::cr':=by cases cr with
    |nil=>cases hin
    |cons c r=>exact ⟨c,r,rfl⟩
   have hic':i=c:=by
    rcases List.mem_cons.1 hin with h|h
    ·exact h
    ·obtain ⟨p,hp,o',ho',hpo⟩:=zfk (zfD cl (by rw [<-hcc];exact hnext)) i h;rw [ho] at ho';cases ho';have:=hpre' p hpo;rw [hcr p hp] at this;cases this
   subst hic';rw [zgZ ho] at hC;obtain ⟨hsub,post,hop,hw,hres⟩:=hC;have hnm:i ∉ cr':=zhi cl (by rw [<-hcc];exact hnd);rintro a w K ⟨Ds,hds,hs⟩ hK;have hs':St N w0 M ds (only (o.looksAt l.toArray) (get frF)) (L' ++ Ds.map dob) a w:=⟨hs.size,hagr a hs.agr,hs.keep,hs.hold⟩;rw [if_pos (zbp hs'.agr hw)];refine hop a w Ds K hds hs' λv w' L'' hp hk hh=>?_;have hcl': ∀c∈cl ++ [i],(b c || Nat.beq c i)=true:=λc hc=>by
    rcases List.mem_append.1 hc with h|h
    ·rw [hcl c h];rfl
    ·rw [List.mem_singleton.1 h,Nat.beq_refl,Bool.or_true]
   have hcr': ∀c∈cr',(b c || Nat.beq c i)=false:=λc hc=>by
    rw [hcr c (List.mem_cons_of_mem _ hc),Bool.false_or];exact zav.2 (λe=>hnm (e ▸ hc))
   have hcc':ci=(cl ++ [i]) ++ cr':=by rw [hcc,List.append_assoc];rfl
   rcases hres with ⟨d,hd,hdN,hnx⟩|⟨hd,hnx⟩
   ·rw [hd];refine hK ((d,v)::fr') L'' _ _ ⟨cl ++ [i],cr',(d,v)::frF,hcc',hcl',hcr',hnx v L'' hp,λk hk o' ho' hkc=>?_,λt ht u hu=>?_⟩ ⟨Ds,hds,hs.put hdN v hk hh⟩
    ·have hF:=hFO k hk o' ho' hkc;obtain ⟨h1,h2⟩:=zlC hfree k hk o' ho' i (hcc ▸ List.mem_append_right _ List.mem_cons_self) o ho d hd;exact hF.cons h1 (h2 (λe=>hkc (e ▸ hic)))
    ·by_cases e:d=t
     ·subst e;rw [zeo] at hu ⊢;exact hu
     ·rw [zcj e] at hu ⊢;refine hag t (λj o' ho' hd'=>?_) u hu;have:(b j || Nat.beq j i)=true:=ht j o' ho' hd';have hji:j≠i:=λe'=>by subst e';rw [ho] at ho';cases ho';rw [hd] at hd';exact e (Option.some.inj hd')
      rwa [zav.2 hji,Bool.or_false] at this
   ·rw [hd];refine hK fr' L'' _ _ ⟨cl ++ [i],cr',frF,hcc',hcl',hcr',hnx v L'' hp,hFO,λt ht u hu=>?_⟩ ⟨Ds,hds,hs.put_none hk hh⟩;refine hag t (λj o' ho' hd'=>?_) u hu;have:(b j || Nat.beq j i)=true:=ht j o' ho' hd';have hji:j≠i:=λe'=>by subst e';rw [ho] at ho';cases ho';rw [hd] at hd';cases hd'
    rwa [zav.2 hji,Bool.or_false] at this
  ·have hif:i∈fi:=by
    have:=List.all_eq_true.1 hall i (List.mem_range.2 (List.getElem?_eq_some_iff.1 ho).1);simp only [Bool.or_eq_true,List.contains_eq_mem,decide_eq_true_eq] at this;exact this.resolve_right hic
   obtain ⟨d,v,hd,hdN,hv,hw,hop⟩:=hFO i hif o ho hic;have hsub:SubR B L':=by
    cases hcr0:pickO l cr with
    |nil=>rw [hcr0] at hC;exact hC.1
    |cons o' r=>rw [hcr0] at hC;exact hC.1
   obtain ⟨Y,hY⟩:=hsub.perm;rintro a w K ⟨Ds,hds,hs⟩ hK;have hs':St N w0 M ds (only (o.looksAt l.toArray) (get frF)) (B ++ (Y ++ Ds.map dob)) a w:=⟨hs.size,hagr a hs.agr,hs.keep,hs.hold.perm (by rw [<-List.append_assoc];exact List.Perm.append_right _ hY)⟩;rw [if_pos (zbp hs'.agr hw)];refine hop a w _ K Q hs' λv' w' L'' ⟨e1,e2⟩ hk hh=>?_;subst e1;subst e2;rw [hd];have hh':Holds w0.heap.size M (L' ++ Ds.map dob) w':=hh.perm (by rw [<-List.append_assoc];exact List.Perm.append_right _ hY.symm);refine hK ((d,v')::fr') L' _ _ ⟨cl,cr,frF,hcc,λc hc=>(by show (b c || Nat.beq c i)=true;rw [hcl c hc];rfl),λc hc=>?_,hC,hFO,λt ht u hu=>?_⟩ ⟨Ds,hds,hs.put hdN v' hk hh'⟩
   ·show (b c || Nat.beq c i)=false;rw [hcr c hc,Bool.false_or];exact zav.2 (λe=>hic (by rw [hcc,<-e];exact List.mem_append_right _ hc))
   ·by_cases e:d=t
    ·subst e;rw [zeo];rw [hv] at hu;exact hu
    ·rw [zcj e];refine hag t (λj o' ho' hd'=>?_) u hu;have:(b j || Nat.beq j i)=true:=ht j o' ho' hd';have hji:j≠i:=λe'=>by subst e';rw [ho] at ho';cases ho';rw [hd] at hd';exact e (Option.some.inj hd')
     rwa [zav.2 hji,Bool.or_false] at this
 ·rintro b fr' L' hall' ⟨cl,cr,frF,hcc,hcl,hcr,hC,hFO,hag⟩;have hnil:cr= []:=by
   cases cr with
   |nil=>rfl
   |cons c r=>
    have hcl2:c < l.length:=zaf.1 (List.all_eq_true.1 hci c (by rw [hcc];exact List.mem_append_right _ List.mem_cons_self));have:=hcr c List.mem_cons_self;rw [hall' c hcl2] at this;cases this
  subst hnil;exact hC.2.weaken (λt v hv=>hag t (λj o ho _=>hall' j (List.getElem?_eq_some_iff.1 ho).1) v hv) SubR.refl
theorem zbU {id:Nat}{l:List Oper}(fi ci:List Nat) (hm:P.follows .mixedOrders=true) (hck:(chkC l fi ci && nodupB fi)=true) (h:SyF P ro N w0 M ds l.toArray Q L L (pickO l ci) (pickO l fi) fr):Sy P ro N w0 M ds (.region id l.toArray true) Q fr L:=zh1 fi ci hm hck h
def dropL:List Nat->List Res->List Res
 | [],L=>L
 |k::ks,L=>dropL ks (L.eraseIdx k)
theorem zic {id:Nat}{l:List Oper}(ks:List Nat) (fi ci:List Nat) (hm:P.follows .mixedOrders=true) (hck:(chkC l fi ci && nodupB fi)=true) (h:SyF P ro N w0 M ds l.toArray Q (dropL ks L) L (pickO l ci) (pickO l fi) fr):Sy P ro N w0 M ds (.region id l.toArray true) Q fr L:=zh1 fi ci hm hck h
variable {rest chain:List Oper}{d:Nat}{v:Value}{L':List Res}
theorem yfv (h:OpT P ro N w0 M ds o (only (o.looksAt ops) (get fr)) B (Det v B)) (hw:wants ops o (only (o.looksAt ops) (get fr))=some true:=by exact rfl) (hd:o.dst=some d:=by exact rfl) (hN:Nat.blt d N=true:=by exact rfl)
  (k:SyF P ro N w0 M ds ops Q B L chain rest ((d,v)::fr)):SyF P ro N w0 M ds ops Q B L chain (o::rest) fr:=⟨d,v,hd,Nat.le_of_ble_eq_true hN,hw,h,k⟩
theorem yf0 (k:SyC P ro N w0 M ds ops Q B chain fr L):SyF P ro N w0 M ds ops Q B L chain [] fr:=k
theorem ycs {post:Value->List Res->Prop}(h:OpT P ro N w0 M ds o (only (o.looksAt ops) (get fr)) L post) (hw:wants ops o (only (o.looksAt ops) (get fr))=some true:=by exact rfl) (hd:o.dst=some d:=by exact rfl) (hN:Nat.blt d N=true:=by exact rfl) (hB:SubR B L:=by first|(focus ((repeat (first|exact SubR.refl|apply SubR.skip));done))|exact SubR.go2)
  (k: ∀v L',post v L'->SyC P ro N w0 M ds ops Q B rest ((d,v)::fr) L'):SyC P ro N w0 M ds ops Q B (o::rest) fr L:=⟨hB,post,HOp.of h,hw,.inl ⟨d,hd,Nat.le_of_ble_eq_true hN,k⟩⟩
theorem ycv (h:OpT P ro N w0 M ds o (only (o.looksAt ops) (get fr)) L (Det v L')) (hw:wants ops o (only (o.looksAt ops) (get fr))=some true:=by exact rfl) (hd:o.dst=some d:=by exact rfl) (hN:Nat.blt d N=true:=by exact rfl) (hB:SubR B L:=by first|(focus ((repeat (first|exact SubR.refl|apply SubR.skip));done))|exact SubR.go2)
  (k:SyC P ro N w0 M ds ops Q B rest ((d,v)::fr) L'):SyC P ro N w0 M ds ops Q B (o::rest) fr L:=ycs h hw hd hN hB λ_ _ ⟨e1,e2⟩=>by subst e1;subst e2;exact k
theorem ycn (h:OpT P ro N w0 M ds o (only (o.looksAt ops) (get fr)) L (Det v L')) (hw:wants ops o (only (o.looksAt ops) (get fr))=some true:=by exact rfl) (hd:o.dst=none:=by exact rfl) (hB:SubR B L:=by first|(focus ((repeat (first|exact SubR.refl|apply SubR.skip));done))|exact SubR.go2)
  (k:SyC P ro N w0 M ds ops Q B rest fr L'):SyC P ro N w0 M ds ops Q B (o::rest) fr L:=⟨hB,Det v L',HOp.of h,hw,.inr ⟨hd,λ_ _ ⟨e1,e2⟩=>by subst e1;subst e2;exact k⟩⟩
theorem yc0 (k:SyX N w0 M ds (Q .normal) fr L) (hB:SubR B L:=by first|(focus ((repeat (first|exact SubR.refl|apply SubR.skip));done))|exact SubR.go2):SyC P ro N w0 M ds ops Q B [] fr L:=⟨hB,k⟩
end
end Go.Sy
end
