/- The logic of walks: maps of one's own: made, changed, looked up; keys that are integers, strings, truths. -/
import Derived.Test.YtcpjfilcilcekaaGreatDoorYJ13
import Derived.MapKept
import Derived.Test.YtcpjfilcilcekaaGreatDoorYJ29
import Derived.Test.YtcpjfilcilcekaaGreatDoorYJ28
set_option linter.all false
section
namespace Go.Sy
open Go Instr Go.MapKept
section
variable {P:Program}{ro:Option Nat}{N:Nat}{w0:World}{M:Nat->Prop}{ds:List Deferred}{g:Nat->Option Value}{L:List Res}{o:Oper}{t k e:TypeId}{d:TypeDesc}{m x:Operand}
def mapR (b:Nat) (es:List MapEntry) (c:Nat):Res:=.obj b (.map es.toArray c)
theorem zlq (ho:o.op= .makeMap t none:=by exact rfl):OpT P ro N w0 M ds o g L (λv L'=>∃b,v= .map (some b)/\L'=mapR b [] 0::L):=
 OpT.run (by rw [ho];rfl) λa w X hs=>by
  refine ⟨_,_,w.alloc (.map #[] 0),mapR w.heap.size [] 0::L,?_,.inl rfl,⟨w.heap.size,rfl,rfl⟩,hs.keep.trans (Keep.alloc No w _) (λ_ h=>h.elim),hs.hold.newObj hs.keep.size _⟩
  simp [execOp,ho,Instr.makeMap]
theorem Keep.setObj (w:World) (b:Nat) (ob:Obj):Keep (· =b) w { w with heap:=w.heap.setIfInBounds b ob } :=
 ⟨rfl,rfl,rfl,by simp,λj _ hn=>by
  show (w.heap.setIfInBounds b ob)[j]?=_
  rw [Array.getElem?_setIfInBounds_ne (λh=>hn h.symm)]⟩
theorem zim {z:Operand}{b c:Nat}{es:List MapEntry}{key v:Value}{L':List Res}(ht:P.underlying t=some (.map k e)) (hd:P.underlying k=some d) (hk:IsKey d key) (hf:findNow d key es 0=some none) (ho:o.op= .insert t m x z:=by exact rfl)
  (hm:ev g m=some (.map (some b)):=by exact rfl) (hx:ev g x=some key:=by exact rfl) (hz:ev g z=some v:=by exact rfl)
  (hL:Upd L (mapR b es c) (mapR b (es ++ [MapEntry.mk key v c]) (c+1)) L':=by repeat (first|exact Upd.here|apply Upd.there)):OpT P ro N w0 M ds o g L (Det undef L'):=
 OpT.run (by rw [ho];rfl) λa w X hs=>by
  have hb:w.heap[b]?=some (.map es.toArray c):=hs.hold.has (r:=mapR b es c) (by obtain ⟨A,B,e,_⟩:=hL;subst e;simp [Has])
  have hmi:=hs.hold.mine (mapR b es c) (by obtain ⟨A,B,e,_⟩:=hL;subst e;simp) b rfl
  obtain ⟨s1,s2⟩:=heap_set (o':=.map (es ++ [MapEntry.mk key v c]).toArray (c+1)) hb
  refine ⟨_,_,{ w with heap:=w.heap.setIfInBounds b (.map (es ++ [MapEntry.mk key v c]).toArray (c+1)) },L',?_,.inr ⟨rfl,rfl⟩,⟨rfl,rfl⟩,zdA hs.keep (Keep.setObj w b _) hmi,?_⟩
  ·have hg:(getObj b).run P w= .ok (.map es.toArray c) w:=by simp [getObj,Sem.run,hb]
   have e1:(es.toArray.push (MapEntry.mk key v c))=(es ++ [MapEntry.mk key v c]).toArray:=by simp
   simp [execOp,ho,hs.agr.eval hm,hs.agr.eval hx,hs.agr.eval hz,Instr.mapUpdate,run_underlying ht,hg,run_checkKey hd hk,run_findKey hd hf,run_setObj_map _ hb,e1]
  ·exact hs.hold.upd hL.append (λb' hb'=> .inl hb') s1 ((Keep.setObj w b _).mono (λx hx=>by subst hx;exact rfl))
theorem zmH {b c i:Nat}{es:List MapEntry}{key v:Value}(ht:P.underlying t=some (.map k e)) (hd:P.underlying k=some d) (hk:IsKey d key) (hf:findNow d key es 0=some (some (i,v))) (ho:o.op= .lookup t m x false:=by exact rfl)
  (hm:ev g m=some (.map (some b)):=by exact rfl) (hx:ev g x=some key:=by exact rfl) (hL:Has L (mapR b es c):=by repeat (first|exact Has.here|apply Has.there)):OpT P ro N w0 M ds o g L (Det v L):=
 OpT.still (by rw [ho];rfl) λa w X hs=>by
  have hb:w.heap[b]?=some (.map es.toArray c):=hs.hold.has (r:=mapR b es c) (Has.append hL)
  have hg:(getObj b).run P w= .ok (.map es.toArray c) w:=by simp [getObj,Sem.run,hb]
  simp [execOp,ho,hs.agr.eval hm,hs.agr.eval hx,Instr.lookup,run_underlying ht,hg,run_checkKey hd hk,run_findKey hd hf]
theorem zkh {b c i:Nat}{es:List MapEntry}{key v:Value}(ht:P.underlying t=some (.map k e)) (hd:P.underlying k=some d) (hk:IsKey d key) (hf:findNow d key es 0=some (some (i,v))) (ho:o.op= .lookup t m x true:=by exact rfl)
  (hm:ev g m=some (.map (some b)):=by exact rfl) (hx:ev g x=some key:=by exact rfl) (hL:Has L (mapR b es c):=by repeat (first|exact Has.here|apply Has.there)):OpT P ro N w0 M ds o g L (Det (.tuple #[v,.bool true]) L):=
 OpT.still (by rw [ho];rfl) λa w X hs=>by
  have hb:w.heap[b]?=some (.map es.toArray c):=hs.hold.has (r:=mapR b es c) (Has.append hL)
  have hg:(getObj b).run P w= .ok (.map es.toArray c) w:=by simp [getObj,Sem.run,hb]
  simp [execOp,ho,hs.agr.eval hm,hs.agr.eval hx,Instr.lookup,run_underlying ht,hg,run_checkKey hd hk,run_findKey hd hf]
theorem ziM {b c:Nat}{es:List MapEntry}{key zv:Value}(ht:P.underlying t=some (.map k e)) (hd:P.underlying k=some d) (hk:IsKey d key) (hf:findNow d key es 0=some none) (hzv: ∀w:World,(zeroValue e).run P w= .ok zv w) (ho:o.op= .lookup t m x true:=by exact rfl)
  (hm:ev g m=some (.map (some b)):=by exact rfl) (hx:ev g x=some key:=by exact rfl) (hL:Has L (mapR b es c):=by repeat (first|exact Has.here|apply Has.there)):OpT P ro N w0 M ds o g L (Det (.tuple #[zv,.bool false]) L):=
 OpT.still (by rw [ho];rfl) λa w X hs=>by
  have hb:w.heap[b]?=some (.map es.toArray c):=hs.hold.has (r:=mapR b es c) (Has.append hL)
  have hg:(getObj b).run P w= .ok (.map es.toArray c) w:=by simp [getObj,Sem.run,hb]
  simp [execOp,ho,hs.agr.eval hm,hs.agr.eval hx,Instr.lookup,run_underlying ht,hg,run_checkKey hd hk,run_findKey hd hf,hzv]
end
end Go.Sy
end
section
namespace Go.Proofs.YtcpjfilcilcekaaGreatDoor
open Go Go.Sy Go.Sh Go.Nt Go.RowKit
attribute [local irreducible] Sy SyL SyX Sy.Fn callFunc natC
set_option maxRecDepth 10000
theorem zpR (x y:Nat) (w:World):Sy.Fn Tryz.prog 69 [natV x,natV y] w No (Gives (natV x)):=by
 refine zk Tryz.func69 rfl Tryz.ntmps69 (by simp) Holds.nil ?_
 have lx:=ze x
 have ly:=ze y
 repeat' (first|refine s_0 ?_|(refine za (id:=0) ?_;(refine zi ?_;intro _);(refine zi ?_;intro _);(refine zi ?_;intro _))|(refine za (id:=1) ?_;refine yv (zg (B:=natC x)) (k:=?_);refine yn (zl (n:=x)) (k:=?_))|fail)
 exact ret1 rfl (resCells (B:=natC x) rfl (ty rfl) rfl Has.go Seg.all (ze _).symm) SubR.nil ⟨rfl,rfl⟩
theorem zqp (x y:Nat) (w:World):Sy.Fn Tryz.prog 70 [natV x,natV y] w No (Gives (natV y)):=by
 refine zk Tryz.func70 rfl Tryz.ntmps70 (by simp) Holds.nil ?_
 have lx:=ze x
 have ly:=ze y
 repeat' (first|refine s_0 ?_|(refine za (id:=0) ?_;(refine zi ?_;intro _);(refine zi ?_;intro _);(refine zi ?_;intro _))|(refine za (id:=1) ?_;refine yv (zg (B:=natC y)) (k:=?_);refine yn (zl (n:=y)) (k:=?_))|fail)
 exact ret1 rfl (resCells (B:=natC y) rfl (ty rfl) rfl Has.go Seg.all (ze _).symm) SubR.nil ⟨rfl,rfl⟩
theorem zp2 (a b:Option Addr) (n c m d:Nat) (w:World):Sy.Fn Tryz.prog 71 [.slice a n c,.slice b m d] w No (Gives (.tuple #[.slice a n c,.slice b m d])):=by
 refine zk Tryz.func71 rfl Tryz.ntmps71 (by simp) Holds.nil ?_
 repeat' (first|refine s_0 ?_|(refine za (id:=0) ?_;refine zd ?_;refine zd ?_)|(refine za (id:=1) ?_;refine zb ?_;refine zb ?_;refine zd ?_;refine zd ?_)|fail)
 exact ret2 rfl (resTmp rfl) (resTmp rfl) SubR.nil ⟨rfl,rfl⟩
theorem zqo (a b:Option Addr) (n c m d:Nat) (w:World):Sy.Fn Tryz.prog 72 [.slice a n c,.slice b m d] w No (Gives (.tuple #[.slice b m d,.slice a n c])):=by
 refine zk Tryz.func72 rfl Tryz.ntmps72 (by simp) Holds.nil ?_
 repeat' (first|refine s_0 ?_|(refine za (id:=0) ?_;refine zd ?_;refine zd ?_)|(refine za (id:=1) ?_;refine zb ?_;refine zb ?_;refine zd ?_;refine zd ?_)|fail)
 exact ret2 rfl (resTmp rfl) (resTmp rfl) SubR.nil ⟨rfl,rfl⟩
def aggC:Value:=.agg #[.string (str (pkName true)),.func (.func 69) #[] #[],.func (.func 70) #[] #[],.func (.func 71) #[] #[]]
def aggS:Value:=.agg #[.string (str (pkName false)),.func (.func 70) #[] #[],.func (.func 69) #[] #[],.func (.func 72) #[] #[]]
theorem zcW (w:World):Sy.Fn Tryz.prog 28 [] w No (λv R=>∃b,v= .map (some b)/\R= [mapR b [⟨.int .i64 1,aggC,0⟩,⟨.int .i64 2,aggS,1⟩] 2]):=by
 refine zk Tryz.func28 rfl Tryz.ntmps28 (by simp) Holds.nil ?_
 have ht:Tryz.prog.underlying 60=some (.map 29 58):=rfl
 have hd:Tryz.prog.underlying 29=some (.int .i64):=rfl
 have hk: ∀n,MapKept.IsKey (.int .i64) (.int .i64 n):=λ_=>rfl
 repeat' (first|refine s_0 ?_|(refine za (id:=0) ?_;refine zd ?_)|(refine za (id:=1) ?_;refine zd ?_)|(refine za (id:=2) ?_;refine zd ?_)|(refine za (id:=3) ?_)|refine yn (zim (key:=.int .i64 1) (v:=aggC) (ht:=ht) (hd:=hd) (hk:=hk _) (hf:=rfl)) (k:=?_)|refine yn (zim (key:=.int .i64 2) (v:=aggS) (ht:=ht) (hd:=hd) (hk:=hk _) (hf:=rfl)) (k:=?_)|(refine zC ?_;first|(refine ys zlq (k:=?_);rintro _ _ ⟨bm,rfl,rfl⟩)|refine zd ?_|refine za0 ?_|refine zb ?_|fail)|fail)
 exact ret1 rfl (resTmp rfl) (SubR.same Rem.here SubR.nil) ⟨bm,rfl,rfl⟩
end Go.Proofs.YtcpjfilcilcekaaGreatDoor
end
section
namespace Go.Proofs.YtcpjfilcilcekaaGreatDoor
open Go Go.Sy Go.Sh Go.Nt Go.RowKit
attribute [local irreducible] Sy SyL SyX Sy.Fn callFunc natC
set_option maxRecDepth 10000
theorem zdi (b:Nat) (d:Bool) (w:World) (hc:w.cell? ⟨b,2,none⟩=some (.bool d)):Sy.Fn Tryz.prog 93 [.pointer (some ⟨b,0,none⟩)] w No (Gives (.bool d)):=by
 refine zk Tryz.func93 rfl Tryz.ntmps93 (by simp) Holds.nil ?_
 repeat' (first|refine s_0 ?_|(refine za (id:=0) ?_;refine zd ?_)|(refine za (id:=1) ?_;refine zb ?_;refine zA ?_;refine zm ?_;refine yv (zx (hv:=hc)) (k:=?_);refine zd ?_)|fail)
 exact ret1 rfl (resTmp rfl) SubR.nil ⟨rfl,rfl⟩
theorem zaq {b o:Nat}{v:Value}{w w':World}(hc:w.cell? ⟨b,o,none⟩=some v) (hk:Keep No w w'):w'.cell? ⟨b,o,none⟩=some v:=by
 have h:w.rangeAt b o [v]:=λj u hj=>by
  cases j with
  |zero=>cases hj;exact hc
  |succ j=>simp at hj
 exact zaC h hk (λh=>h) 0 v rfl
theorem zqn (b:Nat) (w:World) (hc:w.cell? ⟨b,2,none⟩=some (.bool false)):Sy.Fn Tryz.prog 55 [.pointer (some ⟨b,0,none⟩)] w No (Gives (.int .i64 0)):=by
 refine zk Tryz.func55 rfl Tryz.ntmps55 (by simp) Holds.nil ?_
 have hf:=λw' (hk:Keep No w w')=>zdi b false w' (zaq hc hk)
 repeat' (first|refine s_0 ?_|(refine za (id:=0) ?_;refine zd ?_)|(refine za (id:=1) ?_;refine zb ?_;refine zA ?_;refine zm ?_;refine yv (zf (f:=93) (hc:=λw' X hk hh=>hf w' hk)) (k:=?_))|(refine za (id:=3) ?_;refine zd ?_)|fail)
 exact ret1 rfl (resTmp rfl) SubR.nil ⟨rfl,rfl⟩
theorem zgv (b:Nat) (w:World) (hc:w.cell? ⟨b,2,none⟩=some (.bool true)):Sy.Fn Tryz.prog 66 [.pointer (some ⟨b,0,none⟩)] w No (Gives (.int .i64 0)):=by
 refine zk Tryz.func66 rfl Tryz.ntmps66 (by simp) Holds.nil ?_
 have hf:=λw' (hk:Keep No w w')=>zdi b true w' (zaq hc hk)
 repeat' (first|refine s_0 ?_|(refine za (id:=0) ?_;refine zd ?_)|(refine za (id:=1) ?_;refine zb ?_;refine zA ?_;refine zm ?_;refine yv (zf (f:=93) (hc:=λw' X hk hh=>hf w' hk)) (k:=?_);refine zal ?_)|(refine za (id:=3) ?_;refine zd ?_)|fail)
 exact ret1 rfl (resTmp rfl) SubR.nil ⟨rfl,rfl⟩
theorem zcg (b:Nat) (s:Int) (w:World) (hs:s≠0) (hc:w.cell? ⟨b,35,none⟩=some (.int .i64 s)):Sy.Fn Tryz.prog 46 [.pointer (some ⟨b,0,none⟩)] w No (Gives (.int .i64 0)):=by
 refine zk Tryz.func46 rfl Tryz.ntmps46 (by simp) Holds.nil ?_
 have g1:decide (s=(0:Int))=false:=decide_eq_false hs
 repeat' (first|refine s_0 ?_|(refine za (id:=0) ?_;refine zd ?_)|(refine za (id:=1) ?_;refine zb ?_;refine zX ?_;refine zb ?_;refine zb ?_;refine zA ?_;refine zm ?_;refine yv (zx (hv:=hc)) (k:=?_);refine yv (z8 (hr:=g1)) (k:=?_);refine zo ?_)|(refine za (id:=3) ?_;refine zd ?_)|fail)
 exact ret1 rfl (resTmp rfl) SubR.nil ⟨rfl,rfl⟩
theorem zem (a0:Option Addr) (n c:Nat) (l:List UInt8) (w:World) (hn:l.length=n) (hb:n < 1000000000000) (hsl:SlA w a0 (l.map Sy.v8)) (hnil:a0=none->c=0/\n=0):
  Sy.Fn Tryz.prog 30 [.slice a0 n c] w No (λv R=>∃a k,v= .slice a n k/\R= [.row (.slice a n k) 5 1 n (l.map Sy.v8)]):=by
 have hc0:a0=none->c=0:=λh=>(hnil h).1
 refine zk Tryz.func30 rfl Tryz.ntmps30 (by simp) Holds.nil ?_
 cases a0 with
 |none=>
  obtain ⟨rfl,rfl⟩:=hnil rfl
  obtain rfl:l= []:=List.length_eq_zero_iff.1 hn
  repeat' (first|refine s_0 ?_|(refine za (id:=0) ?_;refine zd ?_)|(refine za (id:=1) ?_;refine zb ?_;refine zX ?_)|(refine za (id:=2) ?_;refine zd ?_)|fail)
  exact zbv (zaU 5 1) (ret1 rfl (resTmp rfl) (by exact SubR.go) ⟨_,_,rfl,rfl⟩)
 |some ad=>
  repeat' (first|refine s_0 ?_|(refine za (id:=0) ?_;refine zd ?_)|(refine za (id:=1) ?_;refine zb ?_;refine zX ?_)|(refine za (id:=3) ?_;(refine ys zbu (k:=?_);rintro _ _ ⟨_,rfl,rfl⟩);refine zb ?_;(refine ys zba (k:=?_);rintro _ _ ⟨rfl,_,_,rfl⟩);refine zd ?_)|fail)
  exact ret1 rfl (resTmp rfl) (by exact SubR.go) ⟨_,_,rfl,rfl⟩
theorem zkm (b:Nat) (s:Int) (ao:Option Addr) (n c:Nat) (l:List UInt8) (w:World) (hs:s≠0) (hc:w.cell? ⟨b,35,none⟩=some (.int .i64 s)) (ho:w.cell? ⟨b,68,none⟩=some (.slice ao n c))
  (hn:l.length=n) (hb:n < 1000000000000) (hsl:SlA w ao (l.map Sy.v8)) (hnil:ao=none->c=0/\n=0):
  Sy.Fn Tryz.prog 12 [.pointer (some ⟨b,0,none⟩)] w No (λv R=>∃a k,v= .slice a n k/\R= [.row (.slice a n k) 5 1 n (l.map Sy.v8)]):=by
 refine zk Tryz.func12 rfl Tryz.ntmps12 (by simp) Holds.nil ?_
 have he:=λw' (hk:Keep No w w')=>zcg b s w' hs (zaq hc hk)
 have hcl:=λw' (hk:Keep No w w')=>zem ao n c l w' hn hb ((SlF.of hsl).to (Mi:=No) hk (λ_ h=> .inr h)).sla hnil
 repeat' (first|refine s_0 ?_|(refine za (id:=0) ?_;refine zd ?_)|(refine za (id:=1) ?_;refine zb ?_;refine yv (zf (f:=46) (hc:=λw' X hk hh=>he w' hk)) (k:=?_);refine zV ?_)|(refine za (id:=3) ?_;refine zb ?_;refine zA ?_;refine zm ?_;refine yv (zx (hv:=ho)) (k:=?_);(refine ys (zn (hc:=λw' X hk hh=>hcl w' hk)) (k:=?_);rintro _ _ ⟨R,rfl,aE,kE,rfl,rfl⟩);refine zd ?_)|fail)
 exact ret1 rfl (resTmp rfl) (by exact SubR.go) ⟨_,_,rfl,rfl⟩
end Go.Proofs.YtcpjfilcilcekaaGreatDoor
end
section
namespace Go.Sh
open Go Go.Wd Go.RowKit Go.Sy
section
variable {A B C D C':List Value}{k:Nat}{v:Value}
theorem zfJ (h:k+D.length<=C.length):setSeg (A ++ (C ++ B)) (A.length+k) D=A ++ (setSeg C k D ++ B):=by
 unfold setSeg
 rw [List.take_length_add_append,Nat.add_assoc,List.drop_length_add_append,List.take_append_of_le_length (by omega),List.drop_append_of_le_length (by omega)]
 simp
theorem Seg.in (h:Seg C k D):Seg (A ++ (C ++ B)) (A.length+k) D:=λj v hj=>by
 have h1:=h j v hj
 have hlt:=(List.getElem?_eq_some_iff.1 h1).1
 rw [Nat.add_assoc,List.getElem?_append_right (by omega),Nat.add_sub_cancel_left,List.getElem?_append_left hlt];exact h1
theorem SetAt.in (h:SetAt C k v C'):SetAt (A ++ (C ++ B)) (A.length+k) v (A ++ (C' ++ B)):=
 ⟨by have:=h.1;simp;omega,by rw [List.set_append_right _ _ (by omega),Nat.add_sub_cancel_left,List.set_append_left _ _ h.1,h.2]⟩
theorem zq9 (h:C[k]?=some v):(A ++ (C ++ B))[A.length+k]?=some v:=by
 have hlt:=(List.getElem?_eq_some_iff.1 h).1
 rw [List.getElem?_append_right (by omega),Nat.add_sub_cancel_left,List.getElem?_append_left hlt];exact h
end
def gcells (A B:List Value) (s:List UInt32) (r:List UInt8) (N:Nat):List Value:=A ++ (hcells s r N ++ B)
section
variable {A B:List Value}{s s':List UInt32}{r b:List UInt8}{N N':Nat}
theorem zdG:gcells A B s r N=A ++ (hcells s r N ++ B):=rfl
theorem zcS (hs:s.length=8) (hr:r.length=64):(gcells A B s r N).length=A.length+73+B.length:=by unfold gcells;simp [zbl hs hr];omega
theorem zgK (hs:s.length=8) (hr:r.length=64):(gcells A B s r N)[A.length+72]?=some (.int .i64 N):=zq9 (ze5 hs hr)
theorem zka (hs:s.length=8) (hr:r.length=64):SetAt (gcells A B s r N) (A.length+72) (.int .i64 N') (gcells A B s r N'):=SetAt.in (zgt hs hr)
theorem zha:Seg (gcells A B s r N) (A.length+0) (s.map Sy.v32):=Seg.in zeS
theorem zgl (hs:s.length=8):Seg (gcells A B s r N) (A.length+8) (r.map Sy.v8):=Seg.in (zev hs)
theorem zgm (hs:s.length=8) (hs':s'.length=8):setSeg (gcells A B s r N) (A.length+0) (s'.map Sy.v32)=gcells A B s' r N:=by
 unfold gcells;rw [zfJ (by unfold hcells;simp [hs,hs']),zer hs hs']
theorem zes {u:Nat}(hs:s.length=8) (hr:r.length=64) (hb:u+b.length<=64):setSeg (gcells A B s r N) (A.length+8+u) (b.map Sy.v8)=gcells A B s (r.take u ++ b ++ r.drop (u+b.length)) N:=by
 unfold gcells;rw [Nat.add_assoc,zfJ (by rw [zbl hs hr,List.length_map];omega),zdp hs hr hb]
end
end Go.Sh
namespace Go.Proofs.YtcpjfilcilcekaaGreatDoor
open Go Go.Sy Go.Sh Go.RowKit
attribute [local irreducible] Sy SyL SyX Sy.Fn callFunc gcells hcells
set_option maxRecDepth 10000
theorem zlf (S T b bo N:Nat) (A B:List Value) (s:List UInt32) (r blk:List UInt8) (w:World) (hs:s.length=8) (hr:r.length=64) (hb:blk.length=64) (hC:(Res.blk S T (gcells A B s r N)).holds w)
  (hB:w.rangeAt b bo (blk.map Sy.v8)) (hK:w.rangeAt 3 0 (kC.map Sy.v32)):
  Sy.Fn Tryz.prog 161 [.pointer (some ⟨S,A.length+0,none⟩),.slice (some ⟨b,bo,none⟩) 64 64] w (λx=>x=S) (λv R=>v= .tuple #[]/\R= [.blk S T (gcells A B (compress s blk) r N)]):=by
 have h:=zgB S T (A.length+0) b bo _ s blk w hs hb hC zha (by rw [zcS hs hr];omega) hB hK
 rw [zgm hs (zar s blk hs)] at h
 exact h
set_option maxHeartbeats 1000000 in
theorem zme (S T:Nat) (A B:List Value) (l b:List UInt8) (C:List Value) (a0:Option Addr) (n c:Nat) (w:World) (hC:(Res.blk S T (A ++ (C ++ B))).holds w) (hI:HashIs l C) (hn:b.length=n) (hc:n<=c)
  (hb:l.length+n < 1000000000000) (hsl:SlF w (λx=>x=S) a0 (b.map Sy.v8)) (hT:Tab w (λx=>x=S)):
  Sy.Fn Tryz.prog 132 [.pointer (some ⟨S,A.length,none⟩),.slice a0 n c] w (λx=>x=S) (λv R=>v= .int .i64 0/\ ∃C',HashIs (l ++ b) C'/\R= [.blk S T (A ++ (C' ++ B))]):=by
 obtain ⟨s,r,rfl,hs,hr,hS,hR⟩:=hI
 rw [<-zdG] at hC
 have hst:w.rangeAt 2 0 (h0.map Sy.v32):=hT.start
 have hns:=hT.ns
 have hL0:Holds w.heap.size (λx=>x=S) [.blk S T (gcells A B s r l.length)] w:=⟨λx hx=>by obtain rfl:=List.mem_singleton.1 hx;exact hC,List.pairwise_singleton _ _,λx hx y hy=>by obtain rfl:=List.mem_singleton.1 hx;exact .inr (Eq.symm hy)⟩
 refine zk Tryz.func132 rfl Tryz.ntmps132 (by simp) hL0 ?_
 generalize hN:l.length=N at *
 have g72:=zgK (A:=A) (B:=B) (N:=N) hs hr
 repeat' (first|refine s_0 ?_|(refine za (id:=0) ?_;refine zd ?_)|(refine za (id:=1) ?_;refine zb ?_;refine zX ?_)|(refine za (id:=3) ?_;refine zb ?_;refine zA ?_;refine zm ?_;refine yv (zw (hv:=g72)) (k:=?_);refine zX ?_)|fail)
 refine zaJ (γ:=List UInt32) (λ_=>[(0,.pointer (some ⟨S,A.length,none⟩)),(1,.slice a0 n c),(4,.int .i64 0)]) (λs'=>[.blk S T (gcells A B s' r N)]) (λs'=>s'.length=8/\s'=fold h0 (whole (N / 64) l)) ?_ ?_
 ·refine zbe rfl (λh=>?_) (λh=>?_)
  ·have h:=of_decide_eq_true h
   have hN0:N=0:=by omega
   repeat' (first|refine z6 ?_|refine zR ?_|(refine za (id:=4) ?_;refine zb ?_;refine yv (zaL (hn:=hns)) (k:=?_);refine zA ?_;refine zm ?_;refine yn (zbC (hL:=by rw [zgm hs rfl];exact Upd.here) (hC:=by rw [zcS hs hr,List.length_map,show h0.length=8 from rfl];omega)) (k:=?_))|fail)
   refine zO h0 ⟨rfl,by rw [hN0];rfl⟩ ?_ ?_
   ·exact Sub.go
   ·exact SubR.go
  ·have h:=of_decide_eq_false h
   have hne:l≠[]:=λe=>by subst e;simp at hN;omega
   repeat' (first|refine zbt ?_|refine zR ?_|fail)
   refine zO s ⟨hs,hS hne⟩ ?_ ?_
   ·exact Sub.go
   ·exact SubR.go
 clear hs hS g72 hst hL0
 rintro s ⟨hs,hS⟩
 have g72:=zgK (A:=A) (B:=B) (N:=N) hs hr
 obtain ⟨L,hL⟩: ∃L,L=l ++ b:=⟨_,rfl⟩
 have hLl:L.length=N+n:=by rw [hL,List.length_append,hN,hn]
 have hLl':(l ++ b).length=N+n:=by rw [<-hL];exact hLl
 obtain ⟨j,hj⟩: ∃j,j=N / 64:=⟨_,rfl⟩
 have hrem:((N:Int)).tmod 64=((N % 64:Nat):Int):=rfl
 obtain ⟨u,hu⟩: ∃u,u=N % 64:=⟨_,rfl⟩
 have hNj:N=64*j+u:=by omega
 have hu64:u < 64:=by omega
 rw [<-hu] at hrem hR
 rw [<-hj] at hR hS
 have hwl:whole j L=whole j l:=by rw [hL];exact zfE j l b (by omega)
 have hLd:L.drop (64*j)=l.drop (64*j) ++ b:=by rw [hL,List.drop_append_of_le_length (by omega)]
 repeat' (first|refine s_0 ?_|(refine za (id:=5) ?_;refine zb ?_;refine zA ?_;refine zm ?_;refine yv (zw (hv:=g72)) (k:=?_);refine yv (zau (hr:=hrem)) (k:=?_);refine zd ?_)|(refine za (id:=6) ?_;refine zb ?_;refine zA ?_;refine zm ?_;refine yv (zw (hv:=g72)) (k:=?_);refine zb ?_;refine zq ?_;refine zY ?_;refine zA ?_;refine zm ?_;refine yn (za5 (hC:=zka (N':=N+n) hs hr)) (k:=?_))|(refine za (id:=7) ?_;refine zb ?_;refine zaa ?_)|fail)
 refine zaJ (γ:=Nat×List UInt32×List UInt8×Option Addr×Nat×Nat) (λg=>[(0,.pointer (some ⟨S,A.length,none⟩)),(1,.slice g.2.2.2.1 g.2.2.2.2.1 g.2.2.2.2.2),(4,.int .i64 0)]) (λg=>[.blk S T (gcells A B g.2.1 g.2.2.1 (N+n))])
  (λg=>64*g.1+g.2.2.2.2.1=N+n/\g.2.1.length=8/\g.2.2.1.length=64/\g.2.1=fold h0 (whole g.1 L)/\SlF w (λx=>x=S) g.2.2.2.1 ((L.drop (64*g.1)).map Sy.v8)/\g.2.2.2.2.1<=g.2.2.2.2.2/\g.2.2.2.2.2<=c) ?_ ?_
 ·refine zbe rfl (λh=>?_) (λh=>?_)
  ·have h:=of_decide_eq_true h
   have hrl:(l.drop (64*j)).length=u:=by rw [List.length_drop];omega
   by_cases hsm:u+n < 64
   · -- the block is not full
    have hmin:Nat.min n (64 - u)=n:=Nat.min_eq_left (by omega)
    have hset:=zes (A:=A) (B:=B) (s:=s) (r:=r) (b:=b) (N:=N+n) (u:=u) hs hr (by omega)
    repeat' (first|refine s_0 ?_|(refine za (id:=8) ?_;refine zb ?_;refine zA ?_;refine zm ?_;refine zb ?_;refine yv (zax (ha:=zbV (by omega))) (k:=?_);refine zb ?_;refine yv (zbT (Rd.oldF hsl) (by rw [List.length_map,hn]) hset (hC:=by rw [zcS hs hr];omega)) (k:=?_);refine zd ?_)|(refine za (id:=9) ?_;refine zb ?_;refine zb ?_;refine zY ?_;refine zN ?_)|(refine za (id:=10) ?_;refine zd ?_)|fail)
    refine ret1 rfl (resTmp rfl) (R:=[.blk S T (gcells A B s (r.take u ++ b ++ r.drop (u+b.length)) (N+n))]) (by exact SubR.go) ⟨rfl,hcells s (r.take u ++ b ++ r.drop (u+b.length)) (N+n),⟨s,_,by rw [hLl'],hs,?_,λ_=>?_,?_⟩,congrArg (λx=>[Res.blk S T x]) zdG⟩
    ·simp [hr];omega
    ·rw [hLl',show (N+n) / 64=j from by omega,<-hL,hwl];exact hS
    ·rw [hLl',show (N+n) / 64=j from by omega,show (N+n) % 64=u+n from by omega,<-hL,hLd,hR]
     exact List.take_left' (by rw [List.length_append,hrl,hn])
   · -- the block is full
    have hbl:(b.take (64 - u)).length=64 - u:=by rw [List.length_take];omega
    have hset:=zes (A:=A) (B:=B) (s:=s) (r:=r) (b:=b.take (64 - u)) (N:=N+n) (u:=u) hs hr (by omega)
    have hrr:r.take u ++ b.take (64 - u) ++ r.drop (u+(b.take (64 - u)).length)=(L.drop (64*j)).take 64:=by
     rw [hbl,List.drop_eq_nil_of_le (by omega),List.append_nil,hR,hLd,List.take_append,hrl,List.take_of_length_le (l:=l.drop (64*j)) (by omega)]
    rw [hrr] at hset
    obtain ⟨r2,hr2⟩: ∃r2,r2=(L.drop (64*j)).take 64:=⟨_,rfl⟩
    rw [<-hr2] at hset
    have hr2l:r2.length=64:=by rw [hr2,List.length_take,List.length_drop];omega
    have hcl:=zar s r2 hs
    have hst2:compress s r2=fold h0 (whole (j+1) L):=by rw [zdI,Sh.fold_snoc,<-hr2,hwl,<-hS]
    have hsl2:SlF w (λx=>x=S) a0 ((b.take (64 - u)).map Sy.v8):=by rw [List.map_take];exact hsl.take _
    repeat' (first|refine s_0 ?_|(refine za (id:=8) ?_;refine zb ?_;refine zA ?_;refine zm ?_;refine zb ?_;refine yv (zax (ha:=zbV (by omega))) (k:=?_);refine zb ?_;refine yv (zbT (Rd.oldF hsl2) ((List.length_map _).trans hbl) hset (hC:=by rw [zcS hs hr];omega)) (k:=?_);refine zd ?_)|(refine za (id:=9) ?_;refine zb ?_;refine zb ?_;refine zY ?_;refine zN ?_)|(refine zK (id:=11) 7 [[],[0],[0,1],[],[3],[3,4],[3,4,5],[0,1,2,3,4,5,6]] mixed ?_ ?_;kernel_rfl;refine zp ?_;refine zas ?_;refine z3 ?_;refine zp ?_;refine zas ?_;refine z3 ?_;refine dc (λ_ _=>zax (ha:=zbV (by omega))) (k:=?_);refine zU ?_;refine yv (zbj (hc:=λw' X hk hh=>zlf S T S (A.length+8+0) (N+n) A B s r2 r2 w' hs hr2l hr2l (hh.has (Has.append Has.here)) (zz (hh.has (Has.append Has.here)) (show Seg _ (A.length+8+0) _ from zgl hs)) (hT.no hk).konst)) (k:=?_))|(refine za (id:=12) ?_;refine zb ?_;refine zb ?_;refine zap ?_;refine zd ?_)|fail)
    refine zO (j+1,compress s r2,r2,movA a0 (64 - u) c 1,n - (64 - u),c - (64 - u)) ⟨by dsimp only;omega,hcl,hr2l,hst2,?_,by dsimp only;omega,by dsimp only;omega⟩ ?_ ?_
    ·have:=hsl.mov (l:=64 - u) (m:=c) (by rw [List.length_map];omega)
     show SlF w _ (movA a0 (64 - u) c 1) ((L.drop (64*(j+1))).map Sy.v8)
     rw [show 64*(j+1)=64*j+64 from by omega,<-List.drop_drop,hLd,List.drop_append,List.drop_eq_nil_of_le (by omega),hrl,List.nil_append,List.map_drop]
     exact this
    ·exact Sub.go
    ·exact SubR.go
  ·have h:=of_decide_eq_false h
   have hu0:u=0:=by omega
   repeat' (first|refine zbt ?_|refine zR ?_|fail)
   refine zO (j,s,r,a0,n,c) ⟨by show 64*j+n=N+n;omega,hs,hr,by show s=_;rw [hS,hwl],?_,hc,Nat.le_refl _⟩ ?_ ?_
   ·show SlF w _ a0 ((L.drop (64*j)).map Sy.v8)
    rw [hLd,List.drop_eq_nil_of_le (by omega),List.nil_append];exact hsl
   ·exact Sub.go
   ·exact SubR.go
 clear hrem hu hwl hLd hR hr g72 hS hs hNj hj
 rintro ⟨j,s,r,a1,m,c1⟩ ⟨hj,hs,hr,hS,hs1,hmc,hcc⟩
 dsimp only at *
 repeat' (first|refine za6 ?_|refine zbL ?_|fail)
 refine zE (γ:=Nat×List UInt32×List UInt8×Option Addr×Nat×Nat) (λg=>[(0,.pointer (some ⟨S,A.length,none⟩)),(1,.slice g.2.2.2.1 g.2.2.2.2.1 g.2.2.2.2.2),(4,.int .i64 0)]) (λg=>[.blk S T (gcells A B g.2.1 g.2.2.1 (N+n))])
  (λg=>64*g.1+g.2.2.2.2.1=N+n/\g.2.1.length=8/\g.2.2.1.length=64/\g.2.1=fold h0 (whole g.1 L)/\SlF w (λx=>x=S) g.2.2.2.1 ((L.drop (64*g.1)).map Sy.v8)/\g.2.2.2.2.1<=g.2.2.2.2.2/\g.2.2.2.2.2<=c) (λg=>g.2.2.2.2.1) (j,s,r,a1,m,c1) ⟨hj,hs,hr,hS,hs1,hmc,hcc⟩ ?_ ?_ ?_
 ·exact Sub.go
 ·exact SubR.go
 clear hj hs hr hS hs1 hmc hcc
 rintro ⟨j,s,r,a1,m,c1⟩ ⟨hj,hs,hr,hS,hs1,hmc,hcc⟩
 dsimp only at *
 have hdl:(L.drop (64*j)).length=m:=by rw [List.length_drop];omega
 by_cases hge:64<=m
 ·obtain ⟨x,hx⟩: ∃x,x=(L.drop (64*j)).take 64:=⟨_,rfl⟩
  have hxl:x.length=64:=by rw [hx,List.length_take];omega
  obtain ⟨b1,o1,rfl,hrd,hno⟩: ∃b1 o1,a1=some ⟨b1,o1,none⟩/\w.rangeAt b1 o1 (x.map Sy.v8)/\ ¬b1=S:=by
   rcases hs1.take 64 with h|⟨b1,o1,h1,h2,h3⟩
   ·exfalso;have:=congrArg List.length h;simp [hdl] at this;omega
   ·exact ⟨b1,o1,h1,by rw [hx,List.map_take];exact h2,h3⟩
  have hcl:=zar s x hs
  have hst2:compress s x=fold h0 (whole (j+1) L):=by rw [zdI,Sh.fold_snoc,<-hx,<-hS]
  repeat' (first|refine s_t ?_|(refine za (id:=13) ?_;refine zb ?_;refine zq ?_;refine zac ?_)|(refine zK (id:=14) 5 [[],[0],[0,1],[],[3],[0,1,2,3,4]] mixed ?_ ?_;kernel_rfl;refine zp ?_;refine zas ?_;refine z3 ?_;refine zp ?_;refine zc0 ?_;refine zU ?_;refine yv (zbj (hc:=λw' X hk hh=>zlf S T b1 o1 (N+n) A B s r x w' hs hr hxl (hh.has (Has.append Has.here)) (zaC hrd hk hno) (hT.no hk).konst)) (k:=?_))|(refine za (id:=15) ?_;refine zb ?_;refine zap ?_;refine zd ?_)|fail)
  refine zy (j+1,compress s x,r,movA (some ⟨b1,o1,none⟩) 64 c1 1,m - 64,c1 - 64) ⟨by dsimp only;omega,hcl,hr,hst2,?_,by dsimp only;omega,by dsimp only;omega⟩ ?_ ?_ ?_
  ·have:=hs1.mov (l:=64) (m:=c1) (by rw [List.length_map,hdl];exact hmc)
   rw [<-List.map_drop,List.drop_drop,show 64*j+64=64*(j+1) from by omega] at this
   exact this
  ·show m - 64 < m;omega
  ·exact Sub.go
  ·exact SubR.go
 have hset:=zes (A:=A) (B:=B) (s:=s) (r:=r) (b:=L.drop (64*j)) (N:=N+n) (u:=0) hs hr (by omega)
 repeat' (first|refine s_0 ?_|(refine za (id:=13) ?_;refine zb ?_;refine zq ?_;refine zac ?_)|(refine za (id:=16) ?_;refine zb ?_;refine zA ?_;refine zm ?_;refine zap ?_;refine zb ?_;refine yv (zbT (Rd.oldF hs1) ((List.length_map _).trans hdl) hset (hC:=by rw [zcS hs hr];omega)) (k:=?_))|(refine za (id:=17) ?_;refine zd ?_)|fail)
 refine ret1 rfl (resTmp rfl) (R:=[.blk S T (gcells A B s (r.take 0 ++ L.drop (64*j) ++ r.drop (0+(L.drop (64*j)).length)) (N+n))]) (by exact SubR.go) ⟨rfl,hcells s (r.take 0 ++ L.drop (64*j) ++ r.drop (0+(L.drop (64*j)).length)) (N+n),⟨s,_,by rw [hLl'],hs,?_,λ_=>?_,?_⟩,congrArg (λx=>[Res.blk S T x]) zdG⟩
 ·simp [hr,hdl];omega
 ·rw [hLl',show (N+n) / 64=j from by omega,<-hL];exact hS
 ·rw [hLl',show (N+n) / 64=j from by omega,show (N+n) % 64=m from by omega,<-hL,List.take_zero,List.nil_append,List.take_left' hdl]
end Go.Proofs.YtcpjfilcilcekaaGreatDoor
namespace Go.Proofs.YtcpjfilcilcekaaGreatDoor
open Go Go.Sy Go.Sh Go.RowKit
attribute [local irreducible] Sy SyL SyX Sy.Fn callFunc gcells hcells
set_option maxRecDepth 10000
set_option maxHeartbeats 1000000 in
theorem zpn (S T:Nat) (A B:List Value) (l:List UInt8) (C:List Value) (w:World) (hC:(Res.blk S T (A ++ (C ++ B))).holds w) (hI:HashIs l C) (hb:l.length < 1000000000000) (hT:Tab w No):
  Sy.Fn Tryz.prog 133 [.pointer (some ⟨S,A.length,none⟩)] w No (Gives (.agg ((sum l).map Sy.v8).toArray)):=by
 obtain ⟨s,r,rfl,hs,hr,hS,hR⟩:=hI
 rw [<-zdG] at hC
 have h72:w.cell? ⟨S,A.length+72,none⟩=some (.int .i64 l.length):=by rw [Sy.blk_cell hC];exact zgK hs hr
 have hst:w.rangeAt S (A.length+0) (s.map Sy.v32):=zz hC zha
 have hre:w.rangeAt S (A.length+8) (r.map Sy.v8):=zz hC (zgl hs)
 refine zk Tryz.func133 rfl Tryz.ntmps133 (by simp) Holds.nil ?_
 by_cases hl0:l= []
 ·subst hl0
  repeat' (first|refine s_0 ?_|(refine za (id:=0) ?_;(refine zi ?_;intro _))|(refine za (id:=1) ?_;refine zb ?_;refine zX ?_;refine zb ?_;refine zb ?_;refine zA ?_;refine zm ?_;refine zD ?_;refine zX ?_;refine zo ?_)|(refine za (id:=2) ?_;refine yv (zf (hc:=λw' _ hk _=>zgF none 0 0 [] w' rfl (Nat.le_refl _) (by decide) SlA.nil (hT.no hk))) (k:=?_);refine zB ?_)|fail)
  exact ret1 rfl (resCells rfl (ty rfl) rfl Has.go Seg.all (by first|rfl|(simp only [List.length_map,List.length_set,List.length_replicate,List.length_append];omega)|(simp only [List.length_map];first|assumption|omega)|(simp;omega)|fail)) SubR.nil ⟨rfl,rfl⟩
 ·have hpos:0 < l.length:=List.length_pos_iff.2 hl0
  have hrem:((l.length:Int)).tmod 64=((l.length % 64:Nat):Int):=rfl
  have hu:l.length % 64 < 64:=by omega
  generalize hud:l.length % 64=u at *
  repeat' (first|refine s_0 ?_|(refine za (id:=0) ?_;(refine zi ?_;intro _))|(refine za (id:=1) ?_;refine zb ?_;refine zX ?_;refine zb ?_;refine zb ?_;refine zA ?_;refine zm ?_;refine zD ?_;refine zX ?_;refine zo ?_)|(refine za (id:=3) ?_;refine zb ?_;refine zA ?_;refine zm ?_;refine zD ?_;(refine zi ?_;intro _);refine zB ?_)|(refine za (id:=4) ?_;refine zb ?_;refine zA ?_;refine zm ?_;refine zD ?_;refine yv (zau (hr:=hrem)) (k:=?_);refine zd ?_)|(refine zK (id:=5) 10 [[],[0],[0,1],[],[],[0,1,2,3,4],[],[6],[6,7],[6,7,8],[0,1,2,3,4,5,6,7,8,9]] mixed ?_ ?_;kernel_rfl;refine zp ?_;refine zas ?_;refine z3 ?_;refine zp ?_;refine zp ?_;refine zc0 ?_;refine zp ?_;refine zas ?_;refine z3 ?_;refine zaD ?_;refine zU ?_)|fail)
  rename_i bo bs
  have hlast:(l.drop (64*(l.length / 64))).length=u:=by rw [List.length_drop];omega
  have hsl:SlA w (some ⟨S,A.length+8,none⟩) ((l.drop (64*(l.length / 64))).map Sy.v8):=by
   refine .inr ⟨S,A.length+8,rfl,λj v hj=>hre j v ?_⟩
   rw [<-hR,List.map_take,List.getElem?_take] at hj
   split at hj
   ·exact hj
   ·cases hj
  generalize hlst:l.drop (64*(l.length / 64))=last at *
  refine ys (zn (hc:=λw' X hk hh=>zfX _ _ w' rfl)) (k:=?_)
  rintro _ _ ⟨R,rfl,b1,b2,rfl,rfl⟩
  repeat' (first|refine s_t ?_|fail)
  refine zea (γ:=Nat) (xs:=blocks last l.length) (Arg:=ArgB) zbA rfl (en rfl) rfl (λk s=>s=k) (λ_ _ _=>False) (λk=>[.blk bs 169 ((fold s ((blocks last l.length).take k)).map Sy.v32)])
   [.blk b1 22 [.slice (some ⟨S,A.length+8,none⟩) u u],.blk b2 3 [.int .i64 l.length]] [.blk bo 66 (List.replicate 32 (.int .u8 0))] 0 rfl ?_ ?_ ?_ ?_ ?_ ?_
  ·exact (List.perm_append_comm (l₁:=[_,_]) (l₂:=[_])).append_right _
  ·exact λw' Mi X hk hm _ _=>ze4 b1 b2 _ u u l.length last w' Mi hlast (Nat.le_refl _) (by omega) (hsl.to hk hm)
  ·rintro O x vs RA w' ⟨b,o,rfl,_⟩;rfl
  ·rintro lp k hk q vs RA W rec hrec rfl ⟨b,o,rfl,rfl,hrd,hno⟩ hkW hmine
   have hT':=hT.to hkW hmine
   have hl8:(fold s ((blocks last l.length).take q)).length=8:=zbK _ _ hs
   have hl64:(blocks last l.length)[q].length=64:=zeY _ _ _ (List.getElem_mem hk)
   have hfs:=zda s (blocks last l.length) q hk
   generalize fold s ((blocks last l.length).take q)=st at *
   generalize (blocks last l.length)[q]=x at *
   have hcl:=zar st x hl8
   repeat' (first|refine s_t ?_|(apply zbr;(focus ((repeat (first|exact Rem.here|apply Rem.there));done));assumption)|(refine za (id:=6) ?_;refine zd ?_)|(refine za (id:=7) ?_;refine zb ?_;refine yv (zbj (hc:=λw' X hk hh=>zhB bs 169 b o st x w' hl8 hl64 (hh.has (Has.append (Has.there Has.here))) (zaC hrd hk hno) (hT'.no hk).konst)) (k:=?_))|fail)
   refine zdQ (q+1) rfl ?_
   (repeat' (first|exact SubR.nil|(apply SubR.same;with_reducible (focus ((repeat (first|exact Rem.here|apply Rem.there));done)))|(apply SubR.blk;(focus ((repeat (first|exact Rem.here|apply Rem.there));done)))|(apply SubR.pick;(focus ((repeat (first|exact Rem.here|apply Rem.there));done)))|rfl))
   rw [hfs]
  ·rintro q rfl
   rw [List.take_length]
   have hf8:(fold s (blocks last l.length)).length=8:=zbK _ _ hs
   have hsum:ser (fold s (blocks last l.length))=sum l:=by
    have hq0:last.length / 64=0:=by omega
    unfold sum fold
    rw [hS hl0]
    unfold blocks fold
    simp only [hq0,hlst,whole,List.nil_append,Nat.mul_zero,List.drop_zero,List.foldl_append]
   generalize fold s (blocks last l.length)=st at *
   have hs32:(ser st).length=32:=by rw [zdT,hf8]
   repeat' (first|refine s_0 ?_|(refine za (id:=8) ?_;refine zD ?_;refine yv (zf (hc:=λw' _ _ _=>zfu st w' hf8)) (k:=?_);refine zB ?_)|fail)
   exact ret1 rfl (resCells rfl (ty rfl) rfl Has.go Seg.all (by first|rfl|(simp only [List.length_map,List.length_set,List.length_replicate,List.length_append];omega)|(simp only [List.length_map];first|assumption|omega)|(simp;omega)|fail)) SubR.nil ⟨by rw [hsum],rfl⟩
  ·exact λ_ _ _ _ h=>h.elim
end Go.Proofs.YtcpjfilcilcekaaGreatDoor
end
