/- The logic of walks: maps of one's own: made, changed, looked up; keys that are integers, strings, truths. -/
import Derived.Test.YtdnlngbjpdbffaaGreatDoorLJ13
import Derived.MapKept
import Derived.Test.YtdnlngbjpdbffaaGreatDoorLJ08
import Derived.Test.YtdnlngbjpdbffaaGreatDoorLJ32
import Derived.Test.YtdnlngbjpdbffaaGreatDoorLJ31
import Derived.Test.YtdnlngbjpdbffaaGreatDoorLJ27
set_option maxHeartbeats 1000000
set_option maxRecDepth 10000
set_option linter.all false
section
namespace Go.Sy
open Go Instr Go.MapKept
section
variable {P:Program}{ro:Option Nat}{N:Nat}{w0:World}{M:Nat->Prop}{ds:List Deferred}{g:Nat->Option Value}{L:List Res}{o:Oper}{t k e:TypeId}{d:TypeDesc}{m x:Operand}
def mapR (b:Nat) (es:List MapEntry) (c:Nat):Res:=.obj b (.map es.toArray c)
theorem zlP (ho:o.op= .makeMap t none:=by exact rfl):OpT P ro N w0 M ds o g L (λv L'=>∃b,v= .map (some b)/\L'=mapR b [] 0::L):=
 OpT.run (by rw [ho];rfl) λa w X hs=>by
  refine ⟨_,_,w.alloc (.map #[] 0),mapR w.heap.size [] 0::L,?_,.inl rfl,⟨w.heap.size,rfl,rfl⟩,hs.keep.trans (Keep.alloc No w _) (λ_ h=>h.elim),hs.hold.newObj hs.keep.size _⟩;simp [execOp,ho,Instr.makeMap]
theorem Keep.setObj (w:World) (b:Nat) (ob:Obj):Keep (· =b) w { w with heap:=w.heap.setIfInBounds b ob } :=
 ⟨rfl,rfl,rfl,by simp,λj _ hn=>by
  show (w.heap.setIfInBounds b ob)[j]?=_;rw [Array.getElem?_setIfInBounds_ne (λh=>hn h.symm)]⟩
theorem znX {z:Operand}{b c:Nat}{es:List MapEntry}{key v:Value}{L':List Res}(ht:P.underlying t=some (.map k e)) (hd:P.underlying k=some d) (hk:IsKey d key) (hf:findNow d key es 0=some none) (ho:o.op= .mapUpdate t m x z:=by exact rfl)
  (hm:ev g m=some (.map (some b)):=by exact rfl) (hx:ev g x=some key:=by exact rfl) (hz:ev g z=some v:=by exact rfl)
  (hL:Upd L (mapR b es c) (mapR b (es ++ [MapEntry.mk key v c]) (c+1)) L':=by repeat (first|exact Upd.here|apply Upd.there)):OpT P ro N w0 M ds o g L (Det undef L'):=
 OpT.run (by rw [ho];rfl) λa w X hs=>by
  have hb:w.heap[b]?=some (.map es.toArray c):=hs.hold.has (r:=mapR b es c) (by obtain ⟨A,B,e,_⟩:=hL;subst e;simp [Has]);have hmi:=hs.hold.mine (mapR b es c) (by obtain ⟨A,B,e,_⟩:=hL;subst e;simp) b rfl;obtain ⟨s1,s2⟩:=heap_set (o':=.map (es ++ [MapEntry.mk key v c]).toArray (c+1)) hb;refine ⟨_,_,{ w with heap:=w.heap.setIfInBounds b (.map (es ++ [MapEntry.mk key v c]).toArray (c+1)) },L',?_,.inr ⟨rfl,rfl⟩,⟨rfl,rfl⟩,zeb hs.keep (Keep.setObj w b _) hmi,?_⟩
  ·have hg:(getObj b).run P w= .ok (.map es.toArray c) w:=by simp [getObj,Sem.run,hb]
   have e1:(es.toArray.push (MapEntry.mk key v c))=(es ++ [MapEntry.mk key v c]).toArray:=by simp
   simp [execOp,ho,hs.agr.eval hm,hs.agr.eval hx,hs.agr.eval hz,Instr.mapUpdate,run_underlying ht,hg,run_checkKey hd hk,run_findKey hd hf,run_setObj_map _ hb,e1]
  ·exact hs.hold.upd hL.append (λb' hb'=> .inl hb') s1 ((Keep.setObj w b _).mono (λx hx=>by subst hx;exact rfl))
theorem zmw {b c i:Nat}{es:List MapEntry}{key v:Value}(ht:P.underlying t=some (.map k e)) (hd:P.underlying k=some d) (hk:IsKey d key) (hf:findNow d key es 0=some (some (i,v))) (ho:o.op= .lookup t m x false:=by exact rfl)
  (hm:ev g m=some (.map (some b)):=by exact rfl) (hx:ev g x=some key:=by exact rfl) (hL:Has L (mapR b es c):=by repeat (first|exact Has.here|apply Has.there)):OpT P ro N w0 M ds o g L (Det v L):=
 OpT.still (by rw [ho];rfl) λa w X hs=>by
  have hb:w.heap[b]?=some (.map es.toArray c):=hs.hold.has (r:=mapR b es c) (Has.append hL);have hg:(getObj b).run P w= .ok (.map es.toArray c) w:=by simp [getObj,Sem.run,hb]
  simp [execOp,ho,hs.agr.eval hm,hs.agr.eval hx,Instr.lookup,run_underlying ht,hg,run_checkKey hd hk,run_findKey hd hf]
theorem zkD {b c:Nat}{es:List MapEntry}{key zv:Value}(ht:P.underlying t=some (.map k e)) (hd:P.underlying k=some d) (hk:IsKey d key) (hf:findNow d key es 0=some none) (hzv: ∀w:World,(zeroValue e).run P w= .ok zv w) (ho:o.op= .lookup t m x false:=by exact rfl)
  (hm:ev g m=some (.map (some b)):=by exact rfl) (hx:ev g x=some key:=by exact rfl) (hL:Has L (mapR b es c):=by repeat (first|exact Has.here|apply Has.there)):OpT P ro N w0 M ds o g L (Det zv L):=
 OpT.still (by rw [ho];rfl) λa w X hs=>by
  have hb:w.heap[b]?=some (.map es.toArray c):=hs.hold.has (r:=mapR b es c) (Has.append hL);have hg:(getObj b).run P w= .ok (.map es.toArray c) w:=by simp [getObj,Sem.run,hb]
  simp [execOp,ho,hs.agr.eval hm,hs.agr.eval hx,Instr.lookup,run_underlying ht,hg,run_checkKey hd hk,run_findKey hd hf,hzv]
end
section
variable {P:Program}{ro:Option Nat}{N:Nat}{w0:World}{M:Nat->Prop}{ds:List Deferred}{o:Oper}{g:Nat->Option Value}{L:List Res}{t:TypeId}{y:Ty}
theorem zoX (Z:List Value) (s n:Nat) (hs:Z.length=s) (h0:0 < s):madeCells Z.toArray (n*s)=(List.replicate n Z).flatten.toArray:=by
 have hl:(List.replicate n Z).flatten.length=n*s:=by simp [hs]
 apply Array.ext
 ·rw [size_madeCells];simp [hs]
 ·intro k h1 h2;rw [size_madeCells] at h1;have hm:k % s < s:=Nat.mod_lt _ h0;have hd:k / s < n:=(Nat.div_lt_iff_lt_mul h0).2 h1;have hk:k / s*s+k % s=k:=by rw [Nat.mul_comm];exact Nat.div_add_mod k s
  have:=zdQ (f:=λ(z:List Value)=>z) (k:=s) (List.replicate n Z) (λx hx=>by rw [(List.mem_replicate.1 hx).2];exact hs) (k / s) (k % s) hm;rw [hk,List.flatMap_id'] at this;simp only [madeCells,Array.getElem_map,Array.getElem_range,List.size_toArray,hs,List.getElem_toArray];have e1:(List.replicate n Z).flatten[k]?=Z[k % s]?:=by
   rw [this,List.getElem?_replicate,if_pos hd];rfl
  rw [List.getElem?_eq_getElem (by rw [hl];exact h1),List.getElem?_eq_getElem q_o] at e1;have e2:=Option.some.inj e1;rw [e2];simp [hs,hm]
theorem zby {len e:Nat}{parts:Array (Nat×Operand)}{vs C Z:List Value}{ye:Ty}(hf:FillTo (λi=>some (i*ye.size,ye.size)) (List.zip (parts.toList.map (·.1)) vs) (List.replicate len Z).flatten C) (ho:o.op= .buildSlice t len parts:=by exact rfl) (hv:evs g (parts.toList.map (·.2))=some vs:=by exact rfl) (ht:tyOf P t=some y:=by exact ty rfl) (hy:y.desc= .slice e:=by exact rfl) (he:tyOf P e=some ye:=by exact ty rfl) (hz:zeroC P e=some Z:=by exact zc rfl) (hZ:Z.length=ye.size:=by exact rfl)
  (hs:len*ye.size<=16777216:=by exact Nat.le_of_ble_eq_true rfl) (hpos:0 < len*ye.size:=by exact Nat.le_of_ble_eq_true rfl):
  OpT P ro N w0 M ds o g L (λv L'=>∃b,v= .slice (some ⟨b,0,none⟩) len len/\L'= .blk b e C::L):=
 OpT.run (by rw [ho];rfl) λa w X hst=>by
  obtain ⟨d,i',hd,hi',hs',_⟩:=zN ht;rw [hy] at hs';have:=zaF hs';subst this;obtain ⟨de,ie,hde,hie,_,hez,_⟩:=zN he;obtain ⟨h2,h3⟩:=zaU hst e C;unfold zeroC at hz;rw [hie] at hz;simp only [Option.bind_some,Option.map_eq_some_iff] at hz;obtain ⟨zv,hzv,hze⟩:=hz;have hzs:zv.cells=Z.toArray:=Array.toList_inj.1 (by rw [hze]);have hp:((parts.map λ(i,x)=>(i,a.eval x)).toList)=List.zip (parts.toList.map (·.1)) vs:=by
   have:=hst.agr.evals hv;rw [<-this,Array.toList_map,List.map_map];generalize parts.toList=l
   induction l with
   |nil=>rfl
   |cons p l ih=>simp only [List.map_cons,List.zip_cons_cons,ih];rfl
  have hm:madeCells zv.cells (len*ie.size)=(List.replicate len Z).flatten.toArray:=by
   rw [hzs,hez];exact zoX Z _ len hZ (Nat.pos_of_mul_pos_left hpos)
  have hrun:=run_buildSlice (P:=P) w t e len (parts.map λ(i,x)=>(i,a.eval x)) C.toArray ie zv hd hie hzv (by rw [hez];omega) (by rw [hez];omega) (by
   rw [hp];have h4:=zfU hf;have e1:(Array.range (len*ie.size)).map (zv.cells[· % zv.cells.size]!)=(List.replicate len Z).flatten.toArray:=hm;rw [e1,hez];exact h4)
  refine ⟨_,_,w.alloc (.cells C.toArray e),_,?_,.inl rfl,⟨w.heap.size,rfl,rfl⟩,h2,h3⟩;simp [execOp,ho,hrun]
theorem zdS {s:Nat}{C D:List Value}(hC:C.length=s) (hD:D.length=s):FillTo (λi=>some (i*s,s)) [(0,.agg C.toArray)] D C:=by
 refine .cons (cs:=C) (off:=0*s) (n:=s) rfl rfl hC (by rw [Nat.zero_mul];omega) ?_;rw [Nat.zero_mul,zeP q_o];exact .nil
theorem zn1 {s:Nat}{C C' D:List Value}(hC:C.length=s) (hC':C'.length=s) (hD:D.length=2*s):FillTo (λi=>some (i*s,s)) [(0,.agg C.toArray),(1,.agg C'.toArray)] D (C ++ C'):=by
 refine .cons (cs:=C) (off:=0*s) (n:=s) rfl rfl hC q_o ?_;refine .cons (cs:=C') (off:=1*s) (n:=s) rfl rfl hC' (by unfold setSeg;simp;omega) ?_;have:setSeg (setSeg D (0*s) C) (1*s) C'=C ++ C':=by
  unfold setSeg;rw [Nat.zero_mul,Nat.one_mul,List.take_zero,List.nil_append,List.take_left' hC,List.append_assoc,List.drop_eq_nil_of_le (by simp;omega),List.append_nil]
 rw [this];exact .nil
variable {k e:TypeId}{d:TypeDesc}{m x:Operand}
def ents:List Int->Nat->List MapEntry
 | [],_=>[]
 |z::r,i=>⟨.int .i64 z,.bool true,i⟩::ents r (i+1)
theorem zhY (z:Int): ∀(l:List Int) (i:Nat),ents (l ++ [z]) i=ents l i ++ [⟨.int .i64 z,.bool true,i+l.length⟩]
 | [],i=>rfl
 |y::l,i=>by
  rw [List.cons_append,ents,zhY z l (i+1),ents,List.length_cons,show i+(l.length+1)=i+1+l.length by omega];rfl
theorem zdx (z:Int): ∀(l:List Int) (i j:Nat),(z ∉ l->findNow (.int .i64) (.int .i64 z) (ents l i) j=some none)/\(z∈l-> ∃m,findNow (.int .i64) (.int .i64 z) (ents l i) j=some (some (j+m,.bool true))/\(ents l i)[m]?=some ⟨.int .i64 z,.bool true,i+m⟩)
 | [],i,j=>⟨λ_=>rfl,λh=>by cases h⟩
 |y::l,i,j=>by
  have ih:=zdx z l (i+1) (j+1);have hs:sameNow (.int .i64) (.int .i64 z) (.int .i64 y)=some (decide (z=y)):=by simp [sameNow];rfl
  by_cases h:z=y
  ·subst h;refine ⟨λhn=>absurd List.mem_cons_self hn,λ_=>⟨0,?_,rfl⟩⟩;rw [ents,findNow,hs,decide_eq_true rfl];rfl
  ·rw [decide_eq_false h] at hs;refine ⟨λhn=>?_,λhm=>?_⟩
   ·rw [ents,findNow,hs];exact ih.1 (λh'=>hn (List.mem_cons_of_mem _ h'))
   ·rcases List.mem_cons.1 hm with h'|h'
    ·exact absurd h' h
    ·obtain ⟨m,h1,h2⟩:=ih.2 h';refine ⟨m+1,?_,?_⟩
     ·rw [ents,findNow,hs,show j+(m+1)=j+1+m by omega];exact h1
     ·rw [ents,List.getElem?_cons_succ,h2,show i+(m+1)=i+1+m by omega]
theorem zmD {z:Operand}{b:Nat}{l:List Int}{u:Int}{L':List Res}(ht:P.underlying t=some (.map k e)) (hd:P.underlying k=some (.int .i64)) (ho:o.op= .mapUpdate t m x z:=by exact rfl)
  (hm:ev g m=some (.map (some b)):=by exact rfl) (hx:ev g x=some (.int .i64 u):=by exact rfl) (hz:ev g z=some (.bool true):=by exact rfl)
  (hL:Upd L (mapR b (ents l 0) l.length) (mapR b (ents (if u∈l then l else l ++ [u]) 0) (if u∈l then l else l ++ [u]).length) L':=by repeat (first|exact Upd.here|apply Upd.there)):OpT P ro N w0 M ds o g L (Det undef L'):=by
 by_cases hu:u∈l
 ·rw [if_pos hu] at hL;refine OpT.run (by rw [ho];rfl) λa w X hs=>?_;have hb:w.heap[b]?=some (.map (ents l 0).toArray l.length):=hs.hold.has (r:=mapR b (ents l 0) l.length) (by obtain ⟨A,B,e,_⟩:=hL;subst e;simp [Has]);have hLL:L'=L:=by obtain ⟨A,B,e1,e2⟩:=hL;rw [e1,e2]
  subst hLL;obtain ⟨i,h1,h2⟩:=(zdx u l 0 0).2 hu;rw [Nat.zero_add] at h1 h2;have hg:(getObj b).run P w= .ok (.map (ents l 0).toArray l.length) w:=by simp [getObj,Sem.run,hb]
  have hmod:((ents l 0).toArray.modify i λe=> { e with key:=.int .i64 u,val:=.bool true })=(ents l 0).toArray:=by
   apply Array.ext_getElem?;intro j;rw [Array.getElem?_modify];split
   ·rename_i h;subst h;rw [List.getElem?_toArray,h2];rfl
   ·rfl
  have hmod2:((ents l 0).modify i λe=> { e with key:=.int .i64 u,val:=.bool true })=ents l 0:=by
   have:=congrArg Array.toList hmod;simpa using this
  have hset:w.heap.setIfInBounds b (.map (ents l 0).toArray l.length)=w.heap:=by
   apply Array.ext_getElem?;intro j;by_cases h:b=j
   ·subst h;rw [hb];exact (heap_set hb).1
   ·rw [Array.getElem?_setIfInBounds_ne h]
  refine ⟨_,_,w,L',?_,.inr ⟨rfl,rfl⟩,⟨rfl,rfl⟩,hs.keep,hs.hold⟩;have hkey:((ents l 0).toArray[i]?.map (·.key)).getD (.int .i64 u)= .int .i64 u:=by rw [List.getElem?_toArray,h2];rfl
  have hbits:sameBits 10000 (.int .i64 u) (.int .i64 u)=true:=by simp [sameBits]
  simp [execOp,ho,hs.agr.eval hm,hs.agr.eval hx,hs.agr.eval hz,Instr.mapUpdate,run_underlying ht,hg,run_checkKey hd (show IsKey (.int .i64) (.int .i64 u) from rfl),run_findKey hd h1,hkey,keyThatStays,hbits,run_setObj_map _ hb,hmod2,hset,h2]
 ·rw [if_neg hu] at hL;have h1:=(zdx u l 0 0).1 hu;have e:ents (l ++ [u]) 0=ents l 0 ++ [MapEntry.mk (.int .i64 u) (.bool true) l.length]:=by rw [zhY,Nat.zero_add]
  rw [e,List.length_append] at hL;exact znX ht hd (show IsKey (.int .i64) (.int .i64 u) from rfl) h1 ho hm hx hz hL
theorem znx {b:Nat}{l:List Int}{u:Int}(ht:P.underlying t=some (.map k e)) (hd:P.underlying k=some (.int .i64)) (hzv: ∀w:World,(zeroValue e).run P w= .ok (.bool false) w) (ho:o.op= .lookup t m x false:=by exact rfl)
  (hm:ev g m=some (.map (some b)):=by exact rfl) (hx:ev g x=some (.int .i64 u):=by exact rfl) (hL:Has L (mapR b (ents l 0) l.length):=by repeat (first|exact Has.here|apply Has.there)):OpT P ro N w0 M ds o g L (Det (.bool (decide (u∈l))) L):=by
 by_cases hu:u∈l
 ·obtain ⟨i,h1,_⟩:=(zdx u l 0 0).2 hu;rw [decide_eq_true hu];exact zmw ht hd (show IsKey (.int .i64) (.int .i64 u) from rfl) h1 ho hm hx hL
 ·rw [decide_eq_false hu];exact zkD ht hd (show IsKey (.int .i64) (.int .i64 u) from rfl) ((zdx u l 0 0).1 hu) hzv ho hm hx hL
end
end Go.Sy
end
section
namespace Go.Proofs.YtdnlngbjpdbffaaGreatDoor
open Go Go.Sy Go.Nt Go.RowKit
attribute [local irreducible] Sy SyL SyX Sy.Fn callFunc natC rowN refC iC gP gQ gL memB safeC fixB gnum gel gsca chal Sh.sum
theorem zcl {x:Nat}(h:x < 18446744073709551616 ^ 16):nd 65536 x < 20000:=Nat.lt_of_le_of_lt (ndW h) q_e
theorem ziH (i:Nat) (pa ma ra:Option Addr) (pn pc mn mc rc r kb ko kc:Nat) (pl ml:List UInt8) (w:World) (h0:1<=i) (h5:i<=4) (hR:RTab w No kb ko kc) (hp:(⟨pa,pn,pc,pl⟩:Bs).ok w) (hm:(⟨ma,mn,mc,ml⟩:Bs).ok w) (hsr:SlA w ra (refC r)) (hpn:pn<=1000) (hmn:mn<=100000) (hr:memB (gP i) (gQ i) r=true):
  Sy.Fn Tryz.prog 150 [.int .i64 (i:Int),.slice pa pn pc,.slice ra (nd 65536 r) rc,.slice ma mn mc] w No (RefG (chal i pl r ml)):=by
 refine zg Tryz.func150 rfl Tryz.ntmps150 q_p Holds.nil ?_;have hu:=zk0 i h5;have hnr:=zcl (Nat.lt_trans (za7 hr) (zaN i h0 h5));have hby:=λw' (hk:Keep No w w')=>znC i ra rc r w' h0 h5 (hsr.to hk (λ_ h=> .inr h)).sla hnr (ze5 h0 h5 (za7 hr));have hfl:=zbH (gL i) r (ze5 h0 h5 (za7 hr));have hgl:gL i<=96:=by have:=zcd (z:=(i:Int)) ⟨by omega,by omega⟩;rwa [Int.toNat_natCast] at this
 have hpl:pl.length=pn:=hp.len;have hml:ml.length=mn:=hm.len;have hps:=hp.sla;have hms:=hm.sla;have hpnil:pa=none->pc=0:=hp.nil;have hmnil:ma=none->mc=0:=hm.nil;dsimp only at hps hms;rw [zll];have hBl:(chalB i pl r ml).length=1+pn+gL i+mn:=by
  unfold chalB;rw [List.length_cons,List.length_append,List.length_append,hfl,hpl,hml];omega
 have hsum:=λw' (hk:Keep No w w') a c (hs:SlA w' a ((chalB i pl r ml).map v8)) (hn:a=none->c=0)=>zoZ a (1+pn+gL i+mn) c kb ko kc (chalB i pl r ml) w' hBl q_o hs hn (hR.no hk).cell (hR.no hk).row;have hs32:=zlc (chalB i pl r ml);have hsc:=λw' b (h:w'.rangeAt b 0 ((Sh.sum (chalB i pl r ml)).map v8))=>zlR i (some ⟨b,0,none⟩) 32 32 (Sh.sum (chalB i pl r ml)) w' h0 h5 hs32 (.inr ⟨b,0,rfl,h⟩) q_e;generalize Sh.sum (chalB i pl r ml)=H at *;have hX:Value.int .u8 (Wd.n8 (UInt8.ofNat i))::(((List.append [] (pl.map v8)).append ((fixB (gL i) r).map v8)).append (ml.map v8))=(chalB i pl r ml).map v8:=by
  unfold chalB;rw [List.map_cons,List.map_append,List.map_append,<-List.append_assoc];rfl
 generalize chalB i pl r ml=B at *;generalize fixB (gL i) r=lb at *;generalize gL i=len at *;repeat' (first|refine s_0 ?_|(refine zb 0 (za ?_))|(refine zb 1 (za ?_);refine yv (z5 (hr:=hu)) (k:=?_);(refine ys zt (k:=?_);rintro _ _ ⟨_,rfl,rfl⟩);refine za ?_;(refine ys zaW (k:=?_);rintro _ _ ⟨rfl,_,_,rfl⟩);refine za ?_)|(refine zb 2 (za ?_);(refine ys (zh (f:=148) (hc:=zr hby)) (k:=?_);rintro _ _ ⟨R,rfl,aB,cB,rfl,rfl⟩;refine ze3 (λw' hh=>(Row.none hh (a:=aB) (n:=len) (c:=cB) Has.go:aB=none->cB=0)) λhnB=>?_);(refine ys z9 (k:=?_);rintro _ _ ⟨rfl,_,_,rfl⟩);refine za ?_;(refine ys z9 (k:=?_);rintro _ _ ⟨rfl,_,_,rfl⟩);refine za ?_))
 rw [hX];repeat' (first|refine s_0 ?_|(refine zb 3 (za ?_);refine yv (zd (f:=224) (hc:=λw' X hk hh=>hsum w' hk _ _ (zJ hh q_h) (Row.none hh q_h))) (k:=?_);refine zj ?_;intro _;refine zI ?_)|(refine zb 4 (za ?_);refine zbv ?_;(refine ys (zh (f:=147) (hc:=λw' X hk hh=>hsc w' _ (zp (hh.has q_h) Seg.all))) (k:=?_);rintro _ _ ⟨R,rfl,aS,cS,rfl,rfl⟩);refine za ?_))
 exact q_r
end Go.Proofs.YtdnlngbjpdbffaaGreatDoor
end
section
namespace Go.Proofs.YtdnlngbjpdbffaaGreatDoor
open Go Go.Sy Go.Nt Go.RowKit
attribute [local irreducible] Sy SyL SyX Sy.Fn callFunc natC rowN refC iC gP gQ gL memB safeC fixB gnum gel gsca chal Sh.sum glen
theorem zjF {i x:Nat}(h0:1<=i) (h5:i<=4) (h:mem i x) (e:Nat):mem i (x ^ e % gP i):=zjP h0 h5 (by
 have:=(zfx h0 h5 h.2.2).pow e;rwa [Nat.one_pow,<-Nat.pow_mul,Nat.mul_comm,Nat.pow_mul] at this)
theorem zlk {i x y:Nat}(h0:1<=i) (h5:i<=4) (h:mem i x) (h':mem i y):mem i (x*y % gP i):=zjP h0 h5 (by
 have:=(zfx h0 h5 h.2.2).mul (zfx h0 h5 h'.2.2);rwa [Nat.mul_one,<-Nat.mul_pow] at this)
theorem zjY (x y:Nat):decide (cmpI x y < 0)=decide (x < y):=by
 apply decide_eq_decide.2;unfold cmpI;constructor
 ·intro h;rcases Nat.lt_trichotomy x y with h1|h1|h1
  ·exact h1
  ·rw [if_neg q_o,if_pos h1] at h;omega
  ·rw [if_neg q_o,if_neg q_o] at h;omega
 ·intro h;rw [if_pos h];decide
theorem zjG (x y:Nat):decide (cmpI x y=0)=decide (x=y):=by
 apply decide_eq_decide.2;unfold cmpI;constructor
 ·intro h;rcases Nat.lt_trichotomy x y with h1|h1|h1
  ·rw [if_pos h1] at h;omega
  ·exact h1
  ·rw [if_neg q_o,if_neg q_o] at h;omega
 ·rintro rfl;rw [if_neg (Nat.lt_irrefl _),if_pos rfl]
theorem zlg (b n c:Nat) (fs:List Value) (bs:List Bool) (w:World) (hn:fs.length=n) (hb:bs.length=n) (hn2:n<=1000) (hs:w.rangeAt b 0 fs)
  (hf: ∀k v,bs[k]?=some v->(bs.take k).all id=true-> ∃(f:Nat) (cap:List Value),fs[k]?=some (.func (.func f) #[] cap.toArray)/\(∀args w,(callFunc f args).run Tryz.prog w= .ok (.enter f args) w)/\ ∀w',Keep No w w'->Sy.Fn Tryz.prog f cap w' No (Gives (.bool v))):
  Sy.Fn Tryz.prog 131 [.slice (some ⟨b,0,none⟩) n c] w No (Gives (.bool (bs.all id))):=by
 refine zg Tryz.func131 rfl Tryz.ntmps131 q_p Holds.nil ?_;repeat' (first|refine s_t ?_|(refine zB [0,1] ?_;refine za ?_))
 refine zy (γ:=Nat) (λk=>[(5,.slice (some ⟨b,0,none⟩) n c),(6,.int .i64 n),(7,.int .i64 k)]) (λ_=>[]) (λk=>k<=n/\(bs.take k).all id=true) (λk=>n - k) 0 ⟨Nat.zero_le _,rfl⟩ ?_ ?_ ?_
 ·exact q_h
 ·exact q_h
 rintro k ⟨hk,hall⟩;rcases Nat.lt_or_ge k n with h|h
 ·obtain ⟨v,hv⟩: ∃v,bs[k]?=some v:=⟨_,List.getElem?_eq_getElem q_o⟩;obtain ⟨f,cap,h1,hen,hc⟩:=hf k v hv hall;have hcell:w.cell? ⟨b,0+k,none⟩=some (.func (.func f) #[] cap.toArray):=hs k _ h1;have hlt:decide ((k:Int) < (n:Int))=true:=q_d;have hadd:IntKind.i64.wrap ((k:Int)+1)=((k+1:Nat):Int):=q_w;have htk:bs.take (k+1)=bs.take k ++ [v]:=by rw [List.take_succ,hv];rfl
  cases v with
  |false=>
   have hno:bs.all id=false:=by
    rw [List.all_eq_false];exact ⟨false,List.mem_of_getElem? hv,by decide⟩
   rw [hno];repeat' (first|refine s_t ?_|(refine zb 2 ?_;refine yv (zn (hr:=hlt)) (k:=?_))|(refine zb 3 ?_;refine yv (zG (j:=k)) (k:=?_);refine yv (zl (hv:=hcell)) (k:=za ?_))|(refine zb 4 (za ?_);(refine yv (zd (f:=f) (cap:=cap) (vs:=[]) (he:=hen) (hc:=zr hc)) (k:=?_));refine za ?_)|(refine zb 5 (za ?_)))
   exact q_r
  |true=>
   repeat' (first|refine s_t ?_|(refine zb 2 ?_;refine yv (zn (hr:=hlt)) (k:=?_))|(refine zb 3 ?_;refine yv (zG (j:=k)) (k:=?_);refine yv (zl (hv:=hcell)) (k:=za ?_))|(refine zb 4 (za ?_);(refine yv (zd (f:=f) (cap:=cap) (vs:=[]) (he:=hen) (hc:=zr hc)) (k:=?_));refine za ?_)|(refine zb 6 ?_;refine yv (zu (hr:=hadd)) (k:=za ?_)))
   refine zq (k+1) ⟨h,by rw [htk,List.all_append,hall];rfl⟩ ?_ ?_ ?_
   ·show n - (k+1) < n - k;omega
   ·exact q_h
   ·exact q_h
 ·obtain rfl:k=n:=q_o;rw [List.take_of_length_le q_o] at hall;have hlt:decide ((k:Int) < (k:Int))=false:=q_f;rw [hall];repeat' (first|refine s_0 ?_|(refine zb 2 ?_;refine yv (zn (hr:=hlt)) (k:=?_))|(refine zb 7 (za ?_)))
  exact q_r
theorem zlf (b9 k cP:Nat) (aP:Option Addr) (w:World) (h9:w.cell? ⟨b9,0,none⟩=some (.slice aP k cP)):
  Sy.Fn Tryz.prog 132 [.pointer (some ⟨b9,0,none⟩)] w No (Gives (.bool (decide ((k:Int)=2)))):=by
 refine zg Tryz.func132 rfl Tryz.ntmps132 q_p Holds.nil ?_;repeat' (first|refine s_0 ?_|(refine zb 0 (za ?_))|(refine zb 1 ?_;refine yv (zl (hv:=h9)) (k:=za ?_);refine yv (zX (hr:=rfl)) (k:=za ?_)))
 exact q_r
theorem zqF (b9 bP oP cP b12 x0 x1 q:Nat) (w:World) (h9:w.cell? ⟨b9,0,none⟩=some (.slice (some ⟨bP,oP,none⟩) 2 cP)) (hr:w.rangeAt bP oP (rowN [x0,x1])) (h12:w.rangeAt b12 0 (natC q))
  (hx:x0 < 18446744073709551616 ^ 16) (hq:q < 18446744073709551616 ^ 16):
  Sy.Fn Tryz.prog 133 [.pointer (some ⟨b9,0,none⟩),.pointer (some ⟨b12,0,none⟩)] w No (Gives (.bool (decide (x0 < q)))):=by
 refine zg Tryz.func133 rfl Tryz.ntmps133 q_p Holds.nil ?_;have hr0:w.rangeAt bP (oP+0*16) (natC x0):=λj v hj=>by
  have:=hr (0*16+j) v (zb9 (l:=[x0,x1]) (i:=0) rfl j v hj);rwa [<-Nat.add_assoc] at this
 have hl0:=ze x0;have hlq:=ze q;have hc:=λw'=>zbR x0 q w' hx hq;have hd:=zjY x0 q;repeat' (first|refine s_0 ?_|(refine zb 0 (za ?_))|(refine zM (id:=1) 4 [[],[0],[0,1],[],[0,1,2,3],[0,1,2,3,4],[0,1,2,3,4,5]] mixed ?_ ?_;kernel_rfl;refine dc (λ_ _=>zl (hv:=h9)) (k:=?_);refine dc (λ_ _=>zaA (j:=0)) (k:=?_);refine dc (λ_ _=>zz (B:=natC x0) (hv:=hr0)) (k:=?_);refine dc (λ_ _=>zz (B:=natC q) (hv:=h12)) (k:=?_);refine zY ?_;refine yv (zd (hc:=λ_ _ _ _=>(hc _))) (k:=?_);refine yv (zn (hr:=hd)) (k:=?_);refine zx ?_)|fail)
 exact q_r
theorem zq2 (b9 bP oP cP b12 x0 x1 q:Nat) (w:World) (h9:w.cell? ⟨b9,0,none⟩=some (.slice (some ⟨bP,oP,none⟩) 2 cP)) (hr:w.rangeAt bP oP (rowN [x0,x1])) (h12:w.rangeAt b12 0 (natC q))
  (hx:x1 < 18446744073709551616 ^ 16) (hq:q < 18446744073709551616 ^ 16):
  Sy.Fn Tryz.prog 135 [.pointer (some ⟨b9,0,none⟩),.pointer (some ⟨b12,0,none⟩)] w No (Gives (.bool (decide (x1 < q)))):=by
 refine zg Tryz.func135 rfl Tryz.ntmps135 q_p Holds.nil ?_;have hr0:w.rangeAt bP (oP+1*16) (natC x1):=λj v hj=>by
  have:=hr (1*16+j) v (zb9 (l:=[x0,x1]) (i:=1) rfl j v hj);rwa [<-Nat.add_assoc] at this
 have hl0:=ze x1;have hlq:=ze q;have hc:=λw'=>zbR x1 q w' hx hq;have hd:=zjY x1 q;repeat' (first|refine s_0 ?_|(refine zb 0 (za ?_))|(refine zM (id:=1) 4 [[],[0],[0,1],[],[0,1,2,3],[0,1,2,3,4],[0,1,2,3,4,5]] mixed ?_ ?_;kernel_rfl;refine dc (λ_ _=>zl (hv:=h9)) (k:=?_);refine dc (λ_ _=>zaA (j:=1)) (k:=?_);refine dc (λ_ _=>zz (B:=natC x1) (hv:=hr0)) (k:=?_);refine dc (λ_ _=>zz (B:=natC q) (hv:=h12)) (k:=?_);refine zY ?_;refine yv (zd (hc:=λ_ _ _ _=>(hc _))) (k:=?_);refine yv (zn (hr:=hd)) (k:=?_);refine zx ?_)|fail)
 exact q_r
theorem zpS (i b4 b10 b9 bP oP cP b12 b5 b6 x0 x1 y pn pc mn mc:Nat) (pa ma:Option Addr) (pl ml:List UInt8) (w:World) (h0:1<=i) (h5:i<=4) (hG:GT w) (hT:Tab w No) (h4:w.cell? ⟨b4,0,none⟩=some (.int .i64 (i:Int))) (h10:w.rangeAt b10 0 (natC y))
  (h9:w.cell? ⟨b9,0,none⟩=some (.slice (some ⟨bP,oP,none⟩) 2 cP)) (hr:w.rangeAt bP oP (rowN [x0,x1])) (h12:w.rangeAt b12 0 (natC (gQ i))) (hp5:w.cell? ⟨b5,0,none⟩=some (.slice pa pn pc)) (hm6:w.cell? ⟨b6,0,none⟩=some (.slice ma mn mc))
  (hp:(⟨pa,pn,pc,pl⟩:Bs).ok w) (hm:(⟨ma,mn,mc,ml⟩:Bs).ok w) (hpn:pn<=1000) (hmn:mn<=100000) (hx0:x0 < gQ i) (hx1:x1 < gQ i) (hy:memB (gP i) (gQ i) y=true):
  Sy.Fn Tryz.prog 136 [.pointer (some ⟨b4,0,none⟩),.pointer (some ⟨b10,0,none⟩),.pointer (some ⟨b9,0,none⟩),.pointer (some ⟨b12,0,none⟩),.pointer (some ⟨b5,0,none⟩),.pointer (some ⟨b6,0,none⟩)] w No (Gives (.bool (decide (chal i pl (sR i y x0 x1) ml=x0)))):=by
 refine zg Tryz.func136 rfl Tryz.ntmps136 q_p Holds.nil ?_;have hr0:w.rangeAt bP (oP+0*16) (natC x0):=λj v hj=>by
  have:=hr (0*16+j) v (zb9 (l:=[x0,x1]) (i:=0) rfl j v hj);rwa [<-Nat.add_assoc] at this
 have hr1:w.rangeAt bP (oP+1*16) (natC x1):=λj v hj=>by
  have:=hr (1*16+j) v (zb9 (l:=[x0,x1]) (i:=1) rfl j v hj);rwa [<-Nat.add_assoc] at this
 have hQ0:0 < gQ i:=Nat.lt_of_lt_of_le q_e (zaB i h0 h5);have hW:=zaV i h0 h5;have hx0W:=Nat.lt_trans hx0 hW;have hx1W:=Nat.lt_trans hx1 hW;have hyW:=Nat.lt_trans (za7 hy) (zaN i h0 h5);have hsub:=λw'=>zqB 0 x0 (gQ i) w' (Nat.lt_of_le_of_lt (Nat.zero_le _) hx0W) hx0W hW;unfold modR at hsub;rw [if_neg q_o] at hsub;have hdm:dm (gQ i) 0 x0=(gQ i - x0) % gQ i:=by unfold dm;rw [Nat.mod_eq_of_lt hx0,Nat.zero_add]
 rw [hdm] at hsub;have heq:(gQ i - x0) % gQ i < gQ i:=Nat.mod_lt _ hQ0;have hexp:=λw' (hk:Keep No w w')=>zqQ i y ((gQ i - x0) % gQ i) w' h0 h5 (hG.to hk) hyW (Nat.lt_trans heq hW) hy heq;have hmb:memB (gP i) (gQ i) (y ^ ((gQ i - x0) % gQ i) % gP i)=true:=zaY.2 (zjF h0 h5 (zaY.1 hy) _);have hpow:=λw' (hk:Keep No w w')=>zfv i x1 w' h0 h5 (hG.to hk) hx1W hx1;have hmp:memB (gP i) (gQ i) (4 ^ x1 % gP i)=true:=zaY.2 (zes h0 h5 _);have hmul:=λw' (hk:Keep No w w')=>zqu i (4 ^ x1 % gP i) (y ^ ((gQ i - x0) % gQ i) % gP i) w' h0 h5 (hG.to hk) (Nat.lt_trans (za7 hmp) (zaN i h0 h5)) (Nat.lt_trans (za7 hmb) (zaN i h0 h5)) (by rw [hmp,hmb];rfl);have hmr:memB (gP i) (gQ i) (sR i y x0 x1)=true:=zaY.2 (zlk h0 h5 (zaY.1 hmp) (zaY.1 hmb));have hR:sR i y x0 x1=(4 ^ x1 % gP i)*(y ^ ((gQ i - x0) % gQ i) % gP i) % gP i:=rfl;rw [<-hR] at hmul;have hch:=λw' (hk:Keep No w w')=>zfQ i pa ma pn pc mn mc (sR i y x0 x1) pl ml w' h0 h5 (hG.to hk) (hT.no hk) (hp.keep hk) (hm.keep hk) hpn hmn hmr;have hcq:chal i pl (sR i y x0 x1) ml < gQ i:=zeB h0 h5 _ _ _;have hcm:=λw'=>zbR (chal i pl (sR i y x0 x1) ml) x0 w' (Nat.lt_trans hcq hW) hx0W;have hcz:=zjG (chal i pl (sR i y x0 x1) ml) x0;have hd1:=λw'=>zbI ((gQ i - x0) % gQ i) 0 w';have hd2:=λw'=>zbI (y ^ ((gQ i - x0) % gQ i) % gP i) 0 w';have hd3:=λw'=>zbI (4 ^ x1 % gP i) 0 w';have hd4:=λw'=>zbI (sR i y x0 x1) 0 w';have l0:=ze x0;have l1:=ze x1;have ly:=ze y;have lq:=ze (gQ i);have lb:=ze (y ^ ((gQ i - x0) % gQ i) % gP i);have lr:=ze (sR i y x0 x1);generalize chal i pl (sR i y x0 x1) ml=e at *;generalize sR i y x0 x1=r at *;generalize 4 ^ x1 % gP i=ps at *;generalize y ^ ((gQ i - x0) % gQ i) % gP i=back at *;generalize (gQ i - x0) % gQ i=ne at *;generalize gQ i=q at *;repeat' (first|refine s_0 ?_|(refine zb 0 (za ?_)))
 refine zbj (id:=1) mixed ?_
 (refine zbi 16 16 [[],[],[],[],[3],[3,4],[],[2,3,4,5,6],[2,3,4,5,6,7],[2,3,4,5,6,7],[2,3,4,5,6,7,8,9],[0,1,2,3,4,5,6,7,8,9,10],[0,1,2,3,4,5,6,7,8,9,10,11],[0,1,2,3,4,5,6,7,8,9,10,11],[0,1,2,3,4,5,6,7,8,9,10,11,12,13],[],[0,1,2,3,4,5,6,7,8,9,10,11,12,13,14,15]] [[],[],[],[],[],[],[],[],[],[],[],[],[],[],[],[],[]] none rfl ?_ ?_ ?_;kernel_rfl;kernel_rfl;refine dcE (λ_ _=>zl (hv:=h4)) (k:=?_);refine dcE (λ_ _=>zz (B:=natC y) (hv:=h10)) (k:=?_);refine dcE (λ_ _=>zbG) (k:=?_);refine dcE (λ_ _=>zl (hv:=h9)) (k:=?_);refine dcE (λ_ _=>zaA (j:=0)) (k:=?_);refine dcE (λ_ _=>zz (B:=natC x0) (hv:=hr0)) (k:=?_);refine dcE (λ_ _=>zz (B:=natC q) (hv:=h12)) (k:=?_);refine dcE (λ_ _=>zd (hc:=λ_ _ _ _=>(hsub _))) (k:=?_);refine zaG ?_;refine zaG ?_;refine dcE (λ_ _=>zd (hc:=λ_ _ _ _=>(hd1 _))) (k:=?_);refine dcE (λ_ _=>zd (f:=137) (hc:=zr hexp)) (k:=?_);refine zaG ?_;refine zaG ?_;refine dcE (λ_ _=>zd (hc:=λ_ _ _ _=>(hd2 _))) (k:=?_);try refine dh_0nE (h:=?_))
 refine zcp (R:=λ_=>PtrOf 133 (List.replicate 16 (.int .u64 0))) (λ_ _ _=>rfl) (λρ hρ=>OpT.mono zcx λv L' h=>?_) (h:=?_)
 ·obtain ⟨b,rfl,rfl⟩:=h;exact ⟨[_],rfl,b,rfl,rfl⟩
 refine zco (h:=?_);rintro ρ ⟨⟨b7,p1,p2⟩,-⟩
 (refine zbk [[],[],[],[],[3],[3,4],[],[2,3,4,5,6],[2,3,4,5,6,7],[2,3,4,5,6,7],[2,3,4,5,6,7,8,9],[0,1,2,3,4,5,6,7,8,9,10],[0,1,2,3,4,5,6,7,8,9,10,11],[0,1,2,3,4,5,6,7,8,9,10,11],[0,1,2,3,4,5,6,7,8,9,10,11,12,13],[],[0,1,2,3,4,5,6,7,8,9,10,11,12,13,14,15]] ?_ ?_;kernel_rfl)
 refine SyL.weaken (fr':=[(7,.pointer (some ⟨b7,0,none⟩)),(23,natV back),(0,.pointer (some ⟨b4,0,none⟩)),(2,.pointer (some ⟨b9,0,none⟩)),(4,.pointer (some ⟨b5,0,none⟩)),(5,.pointer (some ⟨b6,0,none⟩))]) (L':=[.blk b7 133 (List.replicate 16 (.int .u64 0))]) ?_ ?_ ?_;rotate_left
 ·(repeat' (first|exact Sub.nil|refine Sub.cons rfl ?_ ?_|rfl))
  exact p1
 ·show SubR _ ((ρ 15).2 ++ _);rw [p2];exact q_h
 repeat' (first|refine s_0 ?_|(refine zP ?_;first|refine yn (zi (n:=back)) (k:=?_)|fail)|fail)
 refine zbj (id:=2) mixed ?_
 (refine zbi 15 15 [[],[],[],[2],[2,3],[1,2,3,4],[1,2,3,4,5],[1,2,3,4,5],[1,2,3,4,5,6,7],[],[0,1,2,3,4,5,6,7,8,9],[0,1,2,3,4,5,6,7,8,9,10],[0,1,2,3,4,5,6,7,8,9,10],[0,1,2,3,4,5,6,7,8,9,10,11,12],[],[0,1,2,3,4,5,6,7,8,9,10,11,12,13,14]] [[],[],[],[],[],[],[],[],[],[],[],[],[],[],[],[]] none rfl ?_ ?_ ?_;kernel_rfl;kernel_rfl;refine dcE (λ_ _=>zl (hv:=h4)) (k:=?_);refine dcE (λ_ _=>zl (hv:=h4)) (k:=?_);refine dcE (λ_ _=>zl (hv:=h9)) (k:=?_);refine dcE (λ_ _=>zaA (j:=1)) (k:=?_);refine dcE (λ_ _=>zz (B:=natC x1) (hv:=hr1)) (k:=?_);refine dcE (λ_ _=>zd (f:=106) (hc:=zr hpow)) (k:=?_);refine zaG ?_;refine zaG ?_;refine dcE (λ_ _=>zd (hc:=λ_ _ _ _=>(hd3 _))) (k:=?_);refine dcE (λ_ _=>zf (B:=natC back)) (k:=?_);refine dcE (λ_ _=>zd (f:=139) (hc:=zr hmul)) (k:=?_);refine zaG ?_;refine zaG ?_;refine dcE (λ_ _=>zd (hc:=λ_ _ _ _=>(hd4 _))) (k:=?_);try refine dh_0nE (h:=?_))
 refine zcp (R:=λ_=>PtrOf 133 (List.replicate 16 (.int .u64 0))) (λ_ _ _=>rfl) (λρ hρ=>OpT.mono zcx λv L' h=>?_) (h:=?_)
 ·obtain ⟨b,rfl,rfl⟩:=h;exact ⟨[_],rfl,b,rfl,rfl⟩
 refine zco (h:=?_);rintro ρ ⟨⟨b8,p1,p2⟩,-⟩
 (refine zbk [[],[],[],[2],[2,3],[1,2,3,4],[1,2,3,4,5],[1,2,3,4,5],[1,2,3,4,5,6,7],[],[0,1,2,3,4,5,6,7,8,9],[0,1,2,3,4,5,6,7,8,9,10],[0,1,2,3,4,5,6,7,8,9,10],[0,1,2,3,4,5,6,7,8,9,10,11,12],[],[0,1,2,3,4,5,6,7,8,9,10,11,12,13,14]] ?_ ?_;kernel_rfl)
 refine SyL.weaken (fr':=[(8,.pointer (some ⟨b8,0,none⟩)),(37,natV r),(0,.pointer (some ⟨b4,0,none⟩)),(2,.pointer (some ⟨b9,0,none⟩)),(4,.pointer (some ⟨b5,0,none⟩)),(5,.pointer (some ⟨b6,0,none⟩))]) (L':=[.blk b8 133 (List.replicate 16 (.int .u64 0))]) ?_ ?_ ?_;rotate_left
 ·(repeat' (first|exact Sub.nil|refine Sub.cons rfl ?_ ?_|rfl))
  exact p1
 ·show SubR _ ((ρ 14).2 ++ _);rw [p2];exact q_h
 repeat' (first|refine s_0 ?_|(refine zM (id:=3) 8 [[],[],[],[],[0,1,2,3],[],[5],[5,6],[0,1,2,3,4,5,6,7],[0,1,2,3,4,5,6,7,8],[0,1,2,3,4,5,6,7,8,9]] mixed ?_ ?_;kernel_rfl;refine dc (λ_ _=>zl (hv:=h4)) (k:=?_);refine dc (λ_ _=>zl (hv:=hp5)) (k:=?_);refine dc (λ_ _=>zf (B:=natC r)) (k:=?_);refine dc (λ_ _=>zl (hv:=hm6)) (k:=?_);refine dc (λ_ _=>zd (f:=102) (hc:=λw' _ hk _=>hch w' hk)) (k:=?_);refine dc (λ_ _=>zl (hv:=h9)) (k:=?_);refine dc (λ_ _=>zaA (j:=0)) (k:=?_);refine dc (λ_ _=>zz (B:=natC x0) (hv:=hr0)) (k:=?_);refine zY ?_;refine yv (zd (hc:=λ_ _ _ _=>(hcm _))) (k:=?_);refine yv (zX (hr:=hcz)) (k:=?_);refine zx ?_)|(refine zP ?_;first|refine yn (zi (n:=r)) (k:=?_)|fail)|fail)
 exact q_r
end Go.Proofs.YtdnlngbjpdbffaaGreatDoor
end
