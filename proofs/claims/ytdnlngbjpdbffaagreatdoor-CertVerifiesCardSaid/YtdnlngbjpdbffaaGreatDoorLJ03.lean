/- The logic of walks: comparisons, strings, literals, make, append, copy. -/
import Derived.Test.YtdnlngbjpdbffaaGreatDoorLJ01
import Derived.Laws.IdiomCopy
import Derived.Laws.AppendOwn
import Derived.Laws.OwnMore
import Derived.Laws.BytesString
import Derived.Test.YtdnlngbjpdbffaaGreatDoorLJ02
set_option linter.all false
section
namespace Go.Sy
open Go
section
variable {P:Program}{ro:Option Nat}{N:Nat}{w0:World}{M:Nat->Prop}{ds:List Deferred}{g:Nat->Option Value}{L:List Res}{o:Oper}
variable {t t':TypeId}{x z:Operand}{y:Ty}
theorem zm5 {w:World}{u v:Value}{b:Bool}(h: ∀d,(Op.equalIn (d+1) t u v).run P w= .ok b w):(Op.equal t u v).run P w= .ok b w:=h 9999
theorem zh6 {e n c n' c':Nat}{a0:Option Addr}(ho:o.op= .binOp .eql t x z t':=by exact rfl) (hx:ev g x=some (.slice a0 n c):=by exact rfl) (hz:ev g z=some (.slice none n' c'):=by exact rfl) (ht:tyOf P t=some y:=by exact ty rfl) (hy:y.desc= .slice e:=by exact rfl):OpT P ro N w0 M ds o g L (Det (.bool a0.isNone) L):=
 OpT.still (by rw [ho];rfl) λa w X hs=>by
  obtain ⟨d,i',hd,hi',hs',_⟩:=zN ht;rw [hy] at hs';have:=zaF hs';subst this;have he:(Op.equal t (.slice a0 n c) (.slice none n' c')).run P w= .ok a0.isNone w:=zm5 λd=>by cases a0 <;> simp [Op.equalIn,run_underlying hd]
  simp [execOp,ho,hs.agr.eval hx,hs.agr.eval hz,eqGuard,binOp,he]
theorem zhp {a b r:Bool}(ho:o.op= .binOp .eql t x z t':=by exact rfl) (hx:ev g x=some (.bool a):=by exact rfl) (hz:ev g z=some (.bool b):=by exact rfl) (ht:tyOf P t=some y:=by exact ty rfl) (hy:y.desc= .bool:=by exact rfl) (hr:(a == b)=r:=by exact rfl):OpT P ro N w0 M ds o g L (Det (.bool r) L):=
 OpT.still (by rw [ho];rfl) λ_ w X hs=>by
  obtain ⟨d,i',hd,hi',hs',_⟩:=zN ht;rw [hy] at hs';have:=znq hs';subst this;have he:(Op.equal t (.bool a) (.bool b)).run P w= .ok (a == b) w:=zm5 λd=>by simp [Op.equalIn,run_underlying hd]
  subst hr;simp only [execOp,ho,hs.agr.eval hx,hs.agr.eval hz,eqGuard,binOp,Sem.run_bind,Sem.run_pure];simp;rw [he];simp [Result.andThen]
def str (l:List UInt8):ByteArray:=⟨l.toArray⟩
theorem zgo (l:List UInt8):(str l).size=l.length:=rfl
theorem zhc (l:List UInt8):(str l).toList=l:=by rw [ByteArray.toList_eq];rfl
theorem za2 {a b:List UInt8}{r:Bool}(ho:o.op= .binOp .eql t x z t':=by exact rfl) (hx:ev g x=some (.string (str a)):=by exact rfl) (hz:ev g z=some (.string (str b)):=by exact rfl) (hr:decide (a=b)=r:=by first|exact decide_eq_true (by first|rfl|assumption)|exact decide_eq_false (by assumption)|fail):OpT P ro N w0 M ds o g L (Det (.bool r) L):=
 OpT.still (by rw [ho];rfl) λ_ w X hs=>by
  have:(a == b)=r:=by rw [<-hr];by_cases h:a=b <;> simp [h]
  simp [execOp,ho,hs.agr.eval hx,hs.agr.eval hz,eqGuard,binOp,Op.stringOp,zhc,this]
theorem zb1 {a b:List UInt8}{r:Bool}(ho:o.op= .binOp .neq t x z t':=by exact rfl) (hx:ev g x=some (.string (str a)):=by exact rfl) (hz:ev g z=some (.string (str b)):=by exact rfl) (hr:decide (a≠b)=r:=by first|exact decide_eq_true (by assumption)|exact decide_eq_false (by first|exact λh=>h rfl|assumption)|fail):OpT P ro N w0 M ds o g L (Det (.bool r) L):=
 OpT.still (by rw [ho];rfl) λ_ w X hs=>by
  have:(!(a == b))=r:=by rw [<-hr];by_cases h:a=b <;> simp [h]
  simp [execOp,ho,hs.agr.eval hx,hs.agr.eval hz,eqGuard,binOp,Op.stringOp,zhc,this]
theorem zdP {parts:Array (Nat×Operand)}{vs:List Value}{C:List Value}(ho:o.op= .build t parts) (hv:evs g (parts.toList.map (·.2))=some vs) (hb:P.built t (List.zip (parts.toList.map (·.1)) vs)=some C.toArray):OpT P ro N w0 M ds o g L (Det (.agg C.toArray) L):=
 OpT.still (by rw [ho];rfl) λa w X hs=>by
  have e:(parts.map λ(i,x)=>(i,a.eval x)).toList=List.zip (parts.toList.map (·.1)) vs:=by
   rw [Array.toList_map,<-hs.agr.evals hv,List.map_map,List.zip_map'];rfl
  have:=run_build (P:=P) w t (parts.map λ(i,x)=>(i,a.eval x)) C.toArray (by rw [e];exact hb);simp [execOp,ho,this]
def ordered:Nat->List (Nat×Operand)->Bool
 |_,[]=>true
 |k,p::l=>Nat.beq p.1 k && ordered (k+1) l
theorem zh8: ∀(l:List Value) (A D:List Value),D.length=l.length->(∀v∈l,v.cells.size=1/\v.cells= #[v])->
  Instr.fill (λi=>some (i*1,1)) (A ++ D).toArray (l.zipIdx A.length |>.map λp=>(p.2,p.1))=some (A ++ l).toArray
 | [],A,D,h,_=>by
  have:D= []:=List.length_eq_zero_iff.1 h;subst this;simp [Instr.fill]
 |v::l,A,D,h,h1=>by
  obtain ⟨d,D',rfl⟩: ∃d D',D=d::D':=by cases D with
   |nil=>simp at h
   |cons d D'=>exact ⟨d,D',rfl⟩
  obtain ⟨e1,e2⟩:=h1 v List.mem_cons_self;have ih:=zh8 l (A ++ [v]) D' (by simpa using h) (λu hu=>h1 u (List.mem_cons_of_mem _ hu));have hs:(A ++ d::D').toArray.size=A.length+(D'.length+1):=by simp
  simp only [List.zipIdx_cons,List.map_cons,Instr.fill,e1,Nat.mul_one,hs];rw [if_neg q_p];have e3:(v.cells.zipIdx.foldl (λcs (c,j)=>cs.setIfInBounds (A.length+j) c) (A ++ d::D').toArray)=(A ++ [v] ++ D').toArray:=by
   rw [e2];simp [Array.zipIdx]
  simp only [Nat.mul_one] at ih;rw [e3];have e4:(A ++ [v]).length=A.length+1:=by simp
  rw [e4] at ih;rw [ih];simp
theorem zib {v:Value}(h:v.oneCell'=true):v.cells.size=1/\v.cells= #[v]:=by cases v <;> first|exact ⟨rfl,rfl⟩|(simp [Value.oneCell'] at h)
theorem zt {len e:Nat}{parts:Array (Nat×Operand)}{vs:List Value}{ye:Ty}(ho:o.op= .buildSlice t len parts:=by exact rfl) (hp:ordered 0 parts.toList=true:=by exact rfl) (hv:evs g (parts.toList.map (·.2))=some vs:=by exact rfl) (hl:vs.length=len:=by exact rfl)
  (ht:tyOf P t=some y:=by exact ty rfl) (hy:y.desc= .slice e:=by exact rfl) (he:tyOf P e=some ye:=by exact ty rfl) (h1:ye.size=1:=by exact rfl) (hz:(zeroC P e).map (·.length)=some 1:=by (rw [zc rfl];rfl)) (hc:vs.all (·.oneCell')=true:=by exact rfl) (hs:vs.length<=16777216:=by exact Nat.le_of_ble_eq_true rfl) (hpos:vs≠[]:=by exact List.cons_ne_nil _ _):
  OpT P ro N w0 M ds o g L (λv L'=>∃b,v= .slice (some ⟨b,0,none⟩) len len/\L'= .blk b e vs::L):=
 OpT.run (by rw [ho];rfl) λa w X hst=>by
  obtain ⟨d,i',hd,hi',hs',_⟩:=zN ht;rw [hy] at hs';have:=zaF hs';subst this;obtain ⟨de,ie,hde,hie,_,hez,_⟩:=zN he;obtain ⟨zcells,hzc,hzl⟩:=Option.map_eq_some_iff.1 hz;obtain ⟨h2,h3⟩:=zaU hst e vs;unfold zeroC at hzc;rw [hie] at hzc;simp only [Option.bind_some,Option.map_eq_some_iff] at hzc;obtain ⟨zv,hzv,hze⟩:=hzc;have hz1: ∀u,ie.zero=some u->u.cells.size=1:=λu hu=>by rw [hzv] at hu;cases hu;rw [<-hze] at hzl;simpa using hzl
  have hlen:(0:Nat) < len:=by rw [<-hl];exact List.length_pos_iff.2 hpos
  have hparts: ∀(l:List (Nat×Operand)) (k:Nat),ordered k l=true->(l.map λp=>(p.1,a.eval p.2))=((l.map λp=>a.eval p.2).zipIdx k).map λp=>(p.2,p.1):=by
   intro l
   induction l with
   |nil=>intro k _;rfl
   |cons p l ih=>
    intro k hk;simp only [ordered,Bool.and_eq_true] at hk;have:=Nat.eq_of_beq_eq_true hk.1;simp only [List.map_cons,List.zipIdx_cons,ih (k+1) hk.2,this]
  have hev:(parts.toList.map λp=>a.eval p.2)=vs:=by
   have:=hst.agr.evals hv;rw [List.map_map] at this;exact this
  have hf:=zh8 vs [] (List.replicate len (zv.cells[0]!)) (by simp [hl]) (λv hv'=>zib (List.all_eq_true.1 hc v hv'));have hrun:=run_buildSlice (P:=P) w t e len (parts.map λ(i,x)=>(i,a.eval x)) vs.toArray ie zv hd hie hzv (by rw [hez,h1];omega) (by rw [hez,h1];omega) (by
   rw [hez,h1,Array.toList_map];have:=hparts parts.toList 0 hp;rw [hev] at this;have e5:(parts.toList.map λ(i,x)=>(i,a.eval x))=parts.toList.map λp=>(p.1,a.eval p.2):=rfl;rw [e5,this];have e6:(Array.range (len*1)).map (zv.cells[· % zv.cells.size]!)=([] ++ List.replicate len (zv.cells[0]!)).toArray:=by
    have hzs:zv.cells.size=1:=hz1 zv hzv;apply Array.ext
    ·simp
    ·intro k h1 h2;simp [hzs,Nat.mod_one]
   rw [e6];simpa using hf)
  refine ⟨_,_,w.alloc (.cells vs.toArray e),_,?_,.inl rfl,⟨w.heap.size,rfl,rfl⟩,h2,h3⟩;simp [execOp,ho,hrun]
theorem zeA {e:Nat}(ho:o.op= .buildSlice t 0 #[]:=by exact rfl) (ht:tyOf P t=some y:=by exact ty rfl) (hy:y.desc= .slice e:=by exact rfl) {ye:Ty}(he:tyOf P e=some ye:=by exact ty rfl):
  OpT P ro N w0 M ds o g L (λv L'=>∃b,v= .slice (some ⟨b,0,none⟩) 0 0/\L'= .blk b e []::L):=
 OpT.run (by rw [ho];rfl) λa w X hst=>by
  obtain ⟨d,i',hd,hi',hs',_⟩:=zN ht;rw [hy] at hs';have:=zaF hs';subst this;obtain ⟨h2,h3⟩:=zaU hst e [];have hrun:(Instr.buildSlice t 0 #[]).run P w= .ok (.slice (some ⟨w.heap.size,0,none⟩) 0 0) (w.alloc (.cells #[] e)):=by
   simp [Instr.buildSlice,run_underlying hd,zaX he,Instr.fill,newRow];have:Array.map (λ_=>(default:Value)) (Array.range 0)= #[]:=Array.eq_empty_of_size_eq_zero q_p;rw [this]
  refine ⟨_,_,w.alloc (.cells #[] e),_,?_,.inl rfl,⟨w.heap.size,rfl,rfl⟩,h2,h3⟩;simp [execOp,ho,hrun]
end
section
variable {P:Program}{ro:Option Nat}{N:Nat}{w0:World}{M:Nat->Prop}{ds:List Deferred}{o:Oper}{g:Nat->Option Value}{L:List Res}{t:TypeId}{y:Ty}
inductive Fits (pl:Nat->Option (Nat×Nat)):Nat->Nat->List Value->List Value->Prop
 |nil {i off:Nat} :Fits pl i off [] []
 |cons {i off n:Nat}{v:Value}{cs vs R:List Value}(hv:v.cells=cs.toArray) (hp:pl i=some (off,n)) (hl:cs.length=n) (h:Fits pl (i+1) (off+n) vs R):Fits pl i off (v::vs) (cs ++ R)
theorem Fits.one {pl:Nat->Option (Nat×Nat)}{i off:Nat}{v:Value}{vs R:List Value}(h1:v.oneCell'=true) (hp:pl i=some (off,1)) (h:Fits pl (i+1) (off+1) vs R):Fits pl i off (v::vs) (v::R):=
 Fits.cons (cs:=[v]) (zib h1).2 hp rfl h
theorem Fits.agg {pl:Nat->Option (Nat×Nat)}{i off n:Nat}{cs vs R:List Value}(hp:pl i=some (off,n)) (hl:cs.length=n) (h:Fits pl (i+1) (off+n) vs R):Fits pl i off (.agg cs.toArray::vs) (cs ++ R):=Fits.cons rfl hp hl h
theorem zfR: ∀(cs A D:List Value) (b k:Nat),A.length=b+k->cs.length<=D.length->
  ((cs.zipIdx k).foldl (λ(a:Array Value) p=>a.setIfInBounds (b+p.2) p.1) (A ++ D).toArray)=(A ++ cs ++ D.drop cs.length).toArray
 | [],A,D,b,k,_,_=>by simp
 |c::cs,A,D,b,k,h,hl=>by
  obtain ⟨d,D',rfl⟩: ∃d D',D=d::D':=by cases D with
   |nil=>simp at hl
   |cons d D'=>exact ⟨d,D',rfl⟩
  rw [List.zipIdx_cons,List.foldl_cons];have e:((A ++ d::D').toArray.setIfInBounds (b+k) c)=((A ++ [c]) ++ D').toArray:=by
   rw [<-h];simp
  have:=zfR cs (A ++ [c]) D' b (k+1) (by simp;omega) (by simpa using hl);simp only at *;rw [e,this];simp
theorem zfA {pl:Nat->Option (Nat×Nat)} : ∀(vs:List Value) (i off:Nat) (R A D:List Value),Fits pl i off vs R->A.length=off->D.length=R.length->
  Instr.fill pl (A ++ D).toArray ((vs.zipIdx i).map λp=>(p.2,p.1))=some (A ++ R).toArray
 | [],i,off,R,A,D,h,ha,hd=>by
  cases h;have:D= []:=List.length_eq_zero_iff.1 hd;subst this;simp [Instr.fill]
 |v::vs,i,off,R,A,D,h,ha,hd=>by
  cases h with
  | @cons _ _ n _ cs _ R' hv hp hl h'=>
   simp only [List.zipIdx_cons,List.map_cons,Instr.fill,hp,hv];rw [List.length_append] at hd;rw [if_neg (by simp;omega)];have e:=zfR cs A D off 0 q_o q_o;have e2:(cs.toArray.zipIdx.foldl (λ(a:Array Value) (p:Value×Nat)=>a.setIfInBounds (off+p.2) p.1) (A ++ D).toArray)=(A ++ cs ++ D.drop cs.length).toArray:=by rw [<-e];simp
   have e3:(cs.toArray.zipIdx.foldl (λ(a:Array Value) (x:Value×Nat)=>match x with|(c,j)=>a.setIfInBounds (off+j) c) (A ++ D).toArray)=(A ++ cs ++ D.drop cs.length).toArray:=e2;rw [e3];have ih:=zfA vs (i+1) (off+n) R' (A ++ cs) (D.drop cs.length) h' (by simp;omega) (by simp;omega);rw [ih];simp
theorem zej: ∀(l:List (Nat×Operand)) (k:Nat) (vs:List Value),ordered k l=true->vs.length=l.length->List.zip (l.map (·.1)) vs=(vs.zipIdx k).map λp=>(p.2,p.1)
 | [],k,vs,_,hl=>by have:vs= []:=List.length_eq_zero_iff.1 hl;subst this;rfl
 |p::l,k,[],_,hl=>by simp at hl
 |p::l,k,v::vs,hk,hl=>by
  simp only [ordered,Bool.and_eq_true] at hk;have:=Nat.eq_of_beq_eq_true hk.1;simp only [List.map_cons,List.zip_cons_cons,List.zipIdx_cons,zej l (k+1) vs hk.2 (by simpa using hl),this]
theorem zln {g:Nat->Option Value} : ∀ {l:List Operand}{vs:List Value},evs g l=some vs->vs.length=l.length:=by
 intro l
 induction l with
 |nil=>intro vs h;simp [evs] at h;subst h;rfl
 |cons x l ih=>
  intro vs h;simp only [evs] at h;split at h
  ·rename_i h1 h2;cases h;simp [ih h2]
  ·cases h
theorem zh5 {n e:Nat}{parts:Array (Nat×Operand)}{vs R Z:List Value}{ye:Ty}(ho:o.op= .build t parts:=by exact rfl) (hp:ordered 0 parts.toList=true:=by exact rfl) (hv:evs g (parts.toList.map (·.2))=some vs:=by exact rfl) (ht:tyOf P t=some y:=by exact ty rfl) (hy:y.desc= .array n e:=by exact rfl)
  (he:tyOf P e=some ye:=by exact ty rfl) (hz:zeroC P t=some Z:=by exact zc rfl) (hf:Fits (λi=>some (i*ye.size,ye.size)) 0 0 vs R:=by repeat (first|exact Fits.nil|exact Fits.last rfl (by first|rfl|(simp only [List.length_map,List.length_set,List.length_replicate,List.length_append];omega)|(simp only [List.length_map];first|assumption|omega)|(simp;omega)|fail)|apply Fits.one rfl rfl|apply Fits.agg rfl (by first|rfl|(simp only [List.length_map,List.length_set,List.length_replicate,List.length_append];omega)|(simp only [List.length_map];first|assumption|omega)|(simp;omega)|fail)|fail)) (hl:Z.length=R.length:=by first|rfl|(simp only [List.length_map,List.length_set,List.length_replicate,List.length_append];omega)|(simp only [List.length_map];first|assumption|omega)|(simp;omega)|fail):OpT P ro N w0 M ds o g L (Det (.agg R.toArray) L):=by
 refine zdP ho hv ?_;obtain ⟨d,i,hd,hi,hs,_⟩:=zN ht;rw [hy] at hs;have:=zbF hs;subst this;obtain ⟨de,ie,hde,hie,_,hez,_⟩:=zN he;unfold zeroC at hz;rw [hi] at hz;simp only [Option.bind_some,Option.map_eq_some_iff] at hz;obtain ⟨zv,hzv,hze⟩:=hz;rw [zej _ 0 vs hp (by simpa using zln hv)];simp only [Program.built,hi,hd,hzv,hie,hez];have:=zfA vs 0 0 R [] Z hf rfl hl;rw [show zv.cells=([] ++ Z).toArray by rw [<-hze];simp];rw [this];rfl
theorem zdk {P:Program} : ∀(l:List Field),(l.map λf=>(f.offset,P.cellsOf f.type)).all (λp=>!Nat.beq p.2 0)=true->
  l.mapM (λf=>(P.info? f.type).map λi=>(f.offset,i.size))=some (l.map λf=>(f.offset,P.cellsOf f.type))
 | [],_=>rfl
 |f::l,h=>by
  simp only [List.map_cons,List.all_cons,Bool.and_eq_true] at h;obtain ⟨h1,h2⟩:=h;rw [List.mapM_cons,zdk l h2];cases hi:P.info? f.type with
  |none=>
   have:P.cellsOf f.type=0:=by simp [Program.cellsOf,hi]
   rw [this] at h1;cases h1
  |some i=>simp [Program.cellsOf,hi]
theorem zeg {parts:Array (Nat×Operand)}{vs R Z:List Value}(ho:o.op= .build t parts:=by exact rfl) (hp:ordered 0 parts.toList=true:=by exact rfl) (hv:evs g (parts.toList.map (·.2))=some vs:=by exact rfl) (ht:tyOf P t=some y:=by exact ty rfl) (hy:y.desc= .struct #[]:=by exact rfl)
  (hn:y.flds.all (λp=>!Nat.beq p.2 0)=true:=by exact rfl) (hz:zeroC P t=some Z:=by exact zc rfl) (hf:Fits (nth y.flds) 0 0 vs R:=by repeat (first|exact Fits.nil|exact Fits.last rfl (by first|rfl|(simp only [List.length_map,List.length_set,List.length_replicate,List.length_append];omega)|(simp only [List.length_map];first|assumption|omega)|(simp;omega)|fail)|apply Fits.one rfl rfl|apply Fits.agg rfl (by first|rfl|(simp only [List.length_map,List.length_set,List.length_replicate,List.length_append];omega)|(simp only [List.length_map];first|assumption|omega)|(simp;omega)|fail)|fail)) (hl:Z.length=R.length:=by first|rfl|(simp only [List.length_map,List.length_set,List.length_replicate,List.length_append];omega)|(simp only [List.length_map];first|assumption|omega)|(simp;omega)|fail):OpT P ro N w0 M ds o g L (Det (.agg R.toArray) L):=by
 refine zdP ho hv ?_;obtain ⟨d,i,hd,hi,hs,_,_,hfl⟩:=zN ht;rw [hy] at hs;obtain ⟨fs,rfl⟩:=zdm hs;simp only at hfl;unfold zeroC at hz;rw [hi] at hz;simp only [Option.bind_some,Option.map_eq_some_iff] at hz;obtain ⟨zv,hzv,hze⟩:=hz;rw [zej _ 0 vs hp (by simpa using zln hv)];rw [hfl] at hn;simp only [Program.built,hi,hd,hzv,zdk _ hn];have:=zfA vs 0 0 R [] Z hf rfl hl;rw [show zv.cells=([] ++ Z).toArray by rw [<-hze];simp];rw [show (λx=>(List.map (λf=>(f.offset,P.cellsOf f.type)) fs.toList).toArray[x]?)=nth y.flds by funext x;rw [zer,hfl];simp];rw [this];rfl
theorem zcF {Z:List Value}(ho:o.op= .build t #[]) (ht:tyOf P t=some y) (hy:(y.desc= .struct #[]/\y.flds.all (λp=>!Nat.beq p.2 0)=true)\/ ∃n e ye,y.desc= .array n e/\tyOf P e=some ye) (hz:zeroC P t=some Z):OpT P ro N w0 M ds o g L (Det (.agg Z.toArray) L):=by
 refine zdP (vs:=[]) ho rfl ?_;obtain ⟨d,i,hd,hi,hs,_,_,hfl⟩:=zN ht;unfold zeroC at hz;rw [hi] at hz;simp only [Option.bind_some,Option.map_eq_some_iff] at hz;obtain ⟨zv,hzv,hze⟩:=hz;rcases hy with ⟨hy,hn⟩|⟨n,e,ye,hy,he⟩
 ·rw [hy] at hs;obtain ⟨fs,rfl⟩:=zdm hs;simp only at hfl;rw [hfl] at hn;simp [Program.built,hi,hd,hzv,zdk _ hn,Instr.fill,<-hze]
 ·rw [hy] at hs;have:=zbF hs;subst this;obtain ⟨de,ie,hde,hie,_,hez,_⟩:=zN he;simp [Program.built,hi,hd,hzv,hie,Instr.fill,<-hze]
end
end Go.Sy
namespace Go.Sy
open Go Go.Wd
def v8 (x:UInt8):Value:=.int .u8 (n8 x)
def v32 (x:UInt32):Value:=.int .u32 (n32 x)
theorem zdI {α:Type}(f:α->Value) (hf: ∀x,(f x).oneCell'=true) (l:List α):(l.map f).all (·.oneCell')=true:=by
 rw [List.all_eq_true];intro v hv;obtain ⟨x,_,rfl⟩:=List.mem_map.1 hv;exact hf x
section
variable {P:Program}{ro:Option Nat}{N:Nat}{w0:World}{M:Nat->Prop}{ds:List Deferred}{g:Nat->Option Value}{L:List Res}{o:Oper}
variable {t t':TypeId}{x z:Operand}{y ye:Ty}
theorem zot {K:Act->World->Prop}{fr:Fr}{L1:List Res}{v:Value}{E s n:Nat}{xs:List Value}(hr:Rem L (.row v E s n xs) L1) (hn:0 < n)
  (h: ∀b c J,v= .slice (some ⟨b,0,none⟩) n c->(xs ++ J).length=c*s->n<=c->c<=maxLen->xs.length=n*s->SyX N w0 M ds K fr (.blk b E (xs ++ J)::L1)):SyX N w0 M ds K fr L:=by
 rintro a w ⟨Ds,hds,hs⟩;have hp:=hs.perm (hr.perm.append_right _);have hrow:w.ownsRow 0 E s v n xs:=hp.hold.all _ List.mem_cons_self;obtain ⟨h1,⟨_,h2⟩|⟨b,c,cur,hv,_,h3,h4,h5,h6,h7⟩⟩:=hrow
 ·omega
 ·have hsp:cur.toList=xs ++ cur.toList.drop (n*s):=by rw [<-h7,List.take_append_drop]
  have hl:(xs ++ cur.toList.drop (n*s)).length=c*s:=by rw [<-hsp];simpa using h6
  refine h b c (cur.toList.drop (n*s)) hv hl h4 h5 h1 a w ⟨Ds,hds,hp.size,hp.agr,hp.keep,?_⟩;have ho:(Res.row v E s n xs).own b:=by show v.ownBlock=some b;rw [hv];rfl
  refine hp.hold.tail.cons ?_ (λr hr' b' hb'=>?_) (λb' hb'=>hp.hold.mine _ List.mem_cons_self b' (by cases hb';exact ho))
  ·show w.heap[b]?=_;rw [h3,<-hsp]
  ·cases hb';exact (List.pairwise_cons.1 hp.hold.apart).1 r hr' b ho
theorem zf3 {c:Code}{Q:Exit->Act->World->Prop}{fr:Fr}{L1:List Res}{a:Option Addr}{E s n cp:Nat}{xs:List Value}(hr:Rem L (.row (.slice a n cp) E s n xs) L1) (hn:0 < n)
  (h: ∀b J,a=some ⟨b,0,none⟩->(xs ++ J).length=cp*s->n<=cp->cp<=maxLen->xs.length=n*s->Sy P ro N w0 M ds c Q fr (.blk b E (xs ++ J)::L1)):Sy P ro N w0 M ds c Q fr L:=λac w hs=>
 zot (K:=λac w=>c.wpIn (FW ro) 0 P Q ac w) hr hn (λb cp' J hv h1 h2 h3 h4=>by cases hv;exact h b J rfl h1 h2 h3 h4) ac w hs
theorem zi7 {b l m:Nat}(h:l < m):movA (some ⟨b,0,none⟩) l m 1=some ⟨b,l,none⟩:=by rw [zeD h,Nat.zero_add,Nat.mul_one]
theorem ze2 {b off l m:Nat}(h:l < m):movA (some ⟨b,off,none⟩) l m 1=some ⟨b,off+l,none⟩:=by rw [zeD h,Nat.mul_one]
theorem za0 {e n c l h m n' c' es:Nat}{lo hi mx:Option Operand}{a0 a':Option Addr}{ye:Ty}(ho:o.op= .slice t x lo hi mx:=by exact rfl) (hx:ev g x=some (.slice a0 n c):=by exact rfl) (ht:tyOf P t=some y:=by exact ty rfl) (hy:y.desc= .slice e:=by exact rfl) (he:tyOf P e=some ye:=by exact ty rfl)
  (hes:ye.size=es:=by first|exact (rfl:_=1)|exact (rfl:_=2)|exact (rfl:_=3)|exact (rfl:_=4)|exact (rfl:_=5)|exact rfl) (hl:bnd g lo 0 l:=by first|exact zaL|exact zW rfl rfl|exact zW rfl (zaC _ _)|exact zW rfl (Int.toNat_of_nonneg q_o).symm|fail) (hh:bnd g hi n h:=by first|exact zaL|exact zW rfl rfl|exact zW rfl (zaC _ _)|exact zW rfl (Int.toNat_of_nonneg q_o).symm|fail) (hm:bnd g mx c m:=by first|exact zaL|exact zW rfl rfl|exact zW rfl (zaC _ _)|exact zW rfl (Int.toNat_of_nonneg q_o).symm|fail) (h1:l<=h:=by first|omega|(simp only [List.length_map,List.length_set];omega)|(simp;omega)|fail) (h2:h<=m:=by first|omega|(simp only [List.length_map,List.length_set];omega)|(simp;omega)|fail) (h3:m<=c:=by first|omega|(simp only [List.length_map,List.length_set];omega)|(simp;omega)|fail) (hmx:hi.isSome=true\/mx=none:=by first|exact .inl rfl|exact .inr rfl)
  (ha:movA a0 l m es=a':=by first|assumption|exact zie _ _ _|exact zi7 q_o|exact ze2 q_o|exact zeD q_o|rfl|fail) (hn':h - l=n':=by first|with_reducible exact Nat.sub_zero _|with_reducible exact Nat.add_sub_cancel_left _ _|with_reducible exact Nat.add_sub_cancel _ _|rfl|omega) (hc':m - l=c':=by first|with_reducible exact Nat.sub_zero _|with_reducible exact Nat.add_sub_cancel_left _ _|with_reducible exact Nat.add_sub_cancel _ _|rfl|omega):OpT P ro N w0 M ds o g L (Det (.slice a' n' c') L):=by
 subst hes;subst ha;subst hn';subst hc';exact zof ho hx ht hy he hl hh hm h1 h2 h3 hmx
theorem zbJ {e n l h m n' c' es b off:Nat}{lo hi mx:Option Operand}{a':Option Addr}{ye:Ty}(ho:o.op= .slice t x lo hi mx:=by exact rfl) (hx:ev g x=some (.pointer (some ⟨b,off,none⟩)):=by exact rfl) (ht:tyOf P t=some y:=by exact ty rfl) (hy:y.desc= .array n e:=by exact rfl) (he:tyOf P e=some ye:=by exact ty rfl)
  (hes:ye.size=es:=by first|exact (rfl:_=1)|exact (rfl:_=2)|exact (rfl:_=3)|exact (rfl:_=4)|exact (rfl:_=5)|exact rfl) (hl:bnd g lo 0 l:=by first|exact zaL|exact zW rfl rfl|exact zW rfl (zaC _ _)|exact zW rfl (Int.toNat_of_nonneg q_o).symm|fail) (hh:bnd g hi n h:=by first|exact zaL|exact zW rfl rfl|exact zW rfl (zaC _ _)|exact zW rfl (Int.toNat_of_nonneg q_o).symm|fail) (hm:bnd g mx n m:=by first|exact zaL|exact zW rfl rfl|exact zW rfl (zaC _ _)|exact zW rfl (Int.toNat_of_nonneg q_o).symm|fail) (h1:l<=h:=by first|omega|(simp only [List.length_map,List.length_set];omega)|(simp;omega)|fail) (h2:h<=m:=by first|omega|(simp only [List.length_map,List.length_set];omega)|(simp;omega)|fail) (h3:m<=n:=by first|omega|(simp only [List.length_map,List.length_set];omega)|(simp;omega)|fail) (hmx:hi.isSome=true\/mx=none:=by first|exact .inl rfl|exact .inr rfl)
  (ha:movA (some ⟨b,off,none⟩) l m es=a':=by first|assumption|exact zie _ _ _|exact zi7 q_o|exact ze2 q_o|exact zeD q_o|rfl|fail) (hn':h - l=n':=by first|with_reducible exact Nat.sub_zero _|with_reducible exact Nat.add_sub_cancel_left _ _|with_reducible exact Nat.add_sub_cancel _ _|rfl|omega) (hc':m - l=c':=by first|with_reducible exact Nat.sub_zero _|with_reducible exact Nat.add_sub_cancel_left _ _|with_reducible exact Nat.add_sub_cancel _ _|rfl|omega):OpT P ro N w0 M ds o g L (Det (.slice a' n' c') L):=by
 subst hes;subst ha;subst hn';subst hc';exact zky ho hx ht hy he hl hh hm h1 h2 h3 hmx
theorem zkM {w:World}{b off:Nat}{B:List Value}(h:w.rangeAt b off B): ∀j u,B[j]?=some u->w.cell? ((⟨b,off,none⟩:Addr).add j)=some u:=λj u hj=>by
 rw [Addr.add_mid];exact h j u hj
theorem zhG (w:World) {ty e size bytes:Nat}{i:TypeInfo}{zv:Value}(hd:P.underlying t=some (.slice e)) (hi:P.info? e=some i) (hz:i.zero=some zv) (hsz:i.size=size) (hby:i.bytes=bytes) (hzs:zv.cells.size=size) (hpos:0 < size)
  {v:Value}{k m c:Nat}{xs news:List Value}(hown:w.ownsRow 0 e size v k xs) {ad:Addr}(hn:news.length=m*size) (hc: ∀j u,news[j]?=some u->w.cell? (ad.add j)=some u) (h1: ∀u∈news,u.oneCell'=true) (b1:k+m<=maxLen) (b2:(k+m)*bytes<=140737488355328):
  ∃v' w',(Builtin.append_ #[t,t] ty #[v,.slice (some ad) m c]).run P w= .ok v' w'/\w'.ownsRow 0 e size v' (k+m) (xs ++ news)/\w.grownBy w' v.ownBlock/\ ∀b,v'.ownBlock=some b->v.ownBlock=some b\/w.heap.size<=b:=by
 obtain ⟨v',w',r1,r2,r3,_⟩:=run_append_own (P:=P) w 0 t ty e i zv size bytes hd hi hz hsz hby hzs hpos v k xs hown ad m c news hn hc h1 b1 b2 (Nat.zero_le _);refine ⟨v',w',r1,r2,r3,λb hb=>?_⟩;obtain ⟨hx,⟨rfl,rfl⟩|⟨g,cap,cur,rfl,_,hg,hnc,hcm,hcs,htake⟩⟩:=hown
 ·have hx':xs= []:=List.length_eq_zero_iff.1 (by rw [hx];simp);subst hx';obtain ⟨v'',w'',s1,s2,_,_⟩:=run_append_own (P:=P) w w.heap.size t ty e i zv size bytes hd hi hz hsz hby hzs hpos (.slice none 0 0) 0 [] (World.ownsRow_nil w _ e size) ad m c news hn hc h1 b1 b2 (Nat.le_refl _);rw [r1] at s1;cases s1;exact .inr (World.ownsRow.lt s2 b hb).1
 ·by_cases hroom:k+m<=cap
  ·obtain ⟨w'',s1,_,_⟩:=run_append_fits (P:=P) w 0 t ty e i size hd hi hsz g k cap xs ⟨hx,.inr ⟨g,cap,cur,rfl,Nat.zero_le _,hg,hnc,hcm,hcs,htake⟩⟩ ad m c news hn hc h1 hroom;rw [r1] at s1;cases s1;exact .inl hb
  ·have hown':w.ownsRow 0 e size (.slice (some ⟨g,0,none⟩) k cap) k xs:=⟨hx,.inr ⟨g,cap,cur,rfl,Nat.zero_le _,hg,hnc,hcm,hcs,htake⟩⟩;have s1:=run_append_grow (P:=P) w t ty e i zv hd hi hz ⟨g,0,none⟩ k cap xs (by rw [hsz];exact hx) (hown'.cells (g:=g) rfl) ad m c news (by rw [hsz];exact hn) hc q_o (by unfold maxLen at b1;omega) (growslice_fits q_o (by rw [hby];exact b2));rw [r1] at s1;cases s1;cases hb;exact .inr (Nat.le_refl _)
theorem z9 {k m cx e size:Nat}{v:Value}{xs news:List Value}{L1:List Res}{a0:Option Addr}{xo:Operand}{so:Operand}(ho:o.op= .call { callee:=.builtin .append,args:=#[so,xo],argTypes:=#[t,t] } :=by exact rfl)
  (hs:ev g so=some v:=by exact rfl) (hx:ev g xo=some (.slice a0 m cx):=by exact rfl) (ht:tyOf P t=some y:=by exact ty rfl) (hy:y.desc= .slice e:=by exact rfl) (he:tyOf P e=some ye:=by exact ty rfl) (hsz:ye.size=size:=by first|exact (rfl:_=1)|exact (rfl:_=2)|exact (rfl:_=3)|exact (rfl:_=4)|exact (rfl:_=5)|exact rfl) (hpos:0 < size:=by decide) (hz:(zeroC P e).map (·.length)=some size:=by (rw [zc rfl];rfl))
  (hL:Rem L (.row v e size k xs) L1:=by repeat (first|exact Rem.here|apply Rem.there)) (hr:Rd w0 M L a0 news:=by first|exact Rd.of (Reads.blk (by repeat (first|exact Has.here|apply Has.there)) Seg.all)|exact Rd.row (by repeat (first|exact Has.here|apply Has.there))|exact Rd.old (by assumption) (λ_ _ h=>h)|assumption|exact Rd.nil|fail) (hn:news.length=m*size:=by first|rfl|(simp only [List.length_map,Nat.mul_one];first|assumption|omega)|(simp;omega)|fail) (h1:news.all (·.oneCell')=true:=by first|exact zdI _ (λ_=>rfl) _|rfl|fail) (b1:k+m<=maxLen:=by first|(unfold maxLen;omega)|(unfold maxLen;simp;omega)|fail) (b2:(k+m)*ye.bytes<=140737488355328:=by first|(dsimp only;omega)|omega|(simp;omega)|fail) (hnil:a0=none->cx=0:=by first|(intro h;cases h;done)|exact λ_=>rfl|assumption|fail) {km:Nat}{ys:List Value}(hkm:k+m=km:=by first|exact Nat.zero_add _|rfl) (hys:xs ++ news=ys:=by first|exact List.nil_append _|rfl):
  OpT P ro N w0 M ds o g L (λv' L'=>L'= .row v' e size km ys::L1/\ ∃a c,v'= .slice a km c):=by
 subst hkm;subst hys;refine OpT.run (by rw [ho];rfl) λa w X hst=>?_;obtain ⟨d,i',hd,hi',hs',_⟩:=zN ht;rw [hy] at hs';have:=zaF hs';subst this;obtain ⟨de,ie,hde,hie,_,hez,heb,_⟩:=zN he;obtain ⟨zcells,hzc,hzl⟩:=Option.map_eq_some_iff.1 hz;unfold zeroC at hzc;rw [hie] at hzc;simp only [Option.bind_some,Option.map_eq_some_iff] at hzc;obtain ⟨zv,hzv,hze⟩:=hzc;have hzs:zv.cells.size=size:=by rw [<-hze] at hzl;simpa using hzl
 have hp:=hst.perm (hL.append (X:=X)).perm;have hrow:w.ownsRow 0 e size v k xs:=hp.hold.all _ List.mem_cons_self;have hmine:=λb hb=>hp.hold.mine (.row v e size k xs) List.mem_cons_self b hb;have key: ∃v' w',(Builtin.append_ #[t,t] o.type #[v,.slice a0 m cx]).run P w= .ok v' w'/\w'.ownsRow 0 e size v' (k+m) (xs ++ news)/\w.grownBy w' v.ownBlock/\ ∀b,v'.ownBlock=some b->v.ownBlock=some b\/w.heap.size<=b:=by
  cases a0 with
  |none=>
   have hne:news= []:=by
    rcases hr w X hst.keep hst.hold with h|⟨b,off,h,_⟩
    ·exact h
    ·cases h
   subst hne;have hm:m=0:=by
    simp only [List.length_nil] at hn;rcases Nat.mul_eq_zero.1 hn.symm with h|h
    ·exact h
    ·omega
   subst hm;obtain rfl:=hnil rfl;exact ⟨v,w,run_append_owned_none (P:=P) w 0 t o.type e ie size hd hie v k xs hrow,by simpa using hrow,⟨rfl,rfl,rfl,Nat.le_refl _,λ_ _ _=>rfl⟩,λb hb=> .inl hb⟩
  |some ad=>
   refine zhG (P:=P) w hd hie hzv (by rw [hez,hsz]) heb hzs hpos hrow hn (λj u hj=>?_) (λu hu=>List.all_eq_true.1 h1 u hu) b1 b2;rcases hr w X hst.keep hst.hold with h|⟨b,off,h,hrg⟩
   ·rw [h] at hj;simp at hj
   ·cases h;exact zkM hrg j u hj
 obtain ⟨v',w',hrun,hown,hgr,hnew⟩:=key;have hkw:Keep (λb=>v.ownBlock=some b) w w':=Keep.grown hgr;have hkeep:Keep M w0 w':=hst.keep.trans hkw (λb hb=>hmine b hb);refine ⟨.value v',v',w',_,?_,.inl rfl,⟨rfl,?_⟩,hkeep,?_⟩
 ·have e1: #[so,xo].map a.eval= #[v,.slice a0 m cx]:=by simp [hst.agr.eval hs,hst.agr.eval hx]
  simp only [execOp,ho,resolve,invoke,builtin,e1,Sem.run_bind,Sem.run_pure,Result.andThen_ok,hrun]
 ·obtain ⟨_,⟨h2,h3⟩|⟨b,c,cur,hv,_⟩⟩:=hown
  ·exact ⟨none,0,by rw [h2,h3]⟩
  ·exact ⟨_,c,hv⟩
 ·have ht:=hp.hold.tail;refine Holds.cons (L:=L1 ++ X) (ht.keep hkw (λr hr' b hb hb'=>(List.pairwise_cons.1 hp.hold.apart).1 r hr' b hb' hb)) hown (λr hr' b hb hb'=>?_) (λb hb=>?_)
  ·rcases hnew b hb with h|h
   ·exact (List.pairwise_cons.1 hp.hold.apart).1 r hr' b h hb'
   ·have:=Res.own_lt (ht.all r hr') hb';omega
  ·rcases hnew b hb with h|h
   ·exact hmine b h
   ·exact .inl (Nat.le_trans hst.keep.size h)
def Conv (N:Nat) (w0:World) (M:Nat->Prop) (ds:List Deferred) (L L':List Res):Prop:=∀(g:Nat->Option Value) (a:Act) (w:World) (X:List Res),St N w0 M ds g (L ++ X) a w->St N w0 M ds g (L' ++ X) a w
theorem OpT.conv {L':List Res}{post:Value->List Res->Prop}(hc:Conv N w0 M ds L L') (h:OpT P ro N w0 M ds o g L' post):OpT P ro N w0 M ds o g L post:=λa w X next Q hs hk=>h a w X next Q (hc g a w X hs) hk
theorem zb7 {L1:List Res}{b E s n:Nat}{xs:List Value}(hr:Rem L (.blk b E xs) L1) (hx:xs.length=n*s) (hn:n<=maxLen):Conv N w0 M ds L (.row (.slice (some ⟨b,0,none⟩) n n) E s n xs::L1):=by
 intro g a w X hs;have hp:=hs.perm (hr.perm.append_right X);have hb:w.heap[b]?=some (.cells xs.toArray E (0,0)):=hp.hold.all _ List.mem_cons_self;refine ⟨hp.size,hp.agr,hp.keep,hp.hold.tail.cons ?_ (λr hr' b' hb'=>?_) (λb' hb'=>hp.hold.mine _ List.mem_cons_self b' (by cases hb';rfl))⟩
 ·exact ⟨hx,.inr ⟨b,n,_,rfl,Nat.zero_le _,hb,Nat.le_refl _,hn,by simpa using hx,by simp [<-hx]⟩⟩
 ·cases hb';exact (List.pairwise_cons.1 hp.hold.apart).1 r hr' b rfl
theorem zaE (E s:Nat):Conv N w0 M ds L (.row (.slice none 0 0) E s 0 []::L):=λg a w X hs=>
 ⟨hs.size,hs.agr,hs.keep,hs.hold.cons (World.ownsRow_nil w 0 E s) (λ_ _ b hb=>by cases hb) (λb hb=>by cases hb)⟩
theorem Rd.cons {L1:List Res}{r:Res}{a:Option Addr}{B:List Value}(h:Rd w0 M L1 a B):Rd w0 M (r::L1) a B:=λw X hk hh=>h w X hk hh.tail
theorem zbm {K:Act->World->Prop}{fr:Fr}{L':List Res}(hc:Conv N w0 M ds L L') (h:SyX N w0 M ds K fr L'):SyX N w0 M ds K fr L:=λa w ⟨Ds,hds,hs⟩=>h a w ⟨Ds,hds,hc _ _ _ _ hs⟩
theorem zaR {c:Code}{Q:Exit->Act->World->Prop}{fr:Fr}{L':List Res}(hc:Conv N w0 M ds L L') (h:Sy P ro N w0 M ds c Q fr L'):Sy P ro N w0 M ds c Q fr L:=λa w ⟨Ds,hds,hs⟩=>h a w ⟨Ds,hds,hc _ _ _ _ hs⟩
theorem zgQ {L1:List Res}{b E s n c:Nat}{xs J:List Value}(hr:Rem L (.blk b E (xs ++ J)) L1) (hl:(xs ++ J).length=c*s) (hn:n<=c) (hc:c<=maxLen) (hx:xs.length=n*s):Conv N w0 M ds L (.row (.slice (some ⟨b,0,none⟩) n c) E s n xs::L1):=by
 intro g a w X hs;have hp:=hs.perm (hr.perm.append_right X);have hb:w.heap[b]?=some (.cells (xs ++ J).toArray E (0,0)):=hp.hold.all _ List.mem_cons_self;refine ⟨hp.size,hp.agr,hp.keep,hp.hold.tail.cons ?_ (λr hr' b' hb'=>?_) (λb' hb'=>hp.hold.mine _ List.mem_cons_self b' (by cases hb';rfl))⟩
 ·exact ⟨hx,.inr ⟨b,c,_,rfl,Nat.zero_le _,hb,hn,hc,by simpa using hl,by simp [hx]⟩⟩
 ·cases hb';exact (List.pairwise_cons.1 hp.hold.apart).1 r hr' b rfl
theorem zaW {k m cx e size b:Nat}{xs news:List Value}{L1:List Res}{a0:Option Addr}{xo:Operand}{so:Operand}(ho:o.op= .call { callee:=.builtin .append,args:=#[so,xo],argTypes:=#[t,t] } :=by exact rfl)
  (hs:ev g so=some (.slice (some ⟨b,0,none⟩) k k):=by exact rfl) (hx:ev g xo=some (.slice a0 m cx):=by exact rfl) (ht:tyOf P t=some y:=by exact ty rfl) (hy:y.desc= .slice e:=by exact rfl) (he:tyOf P e=some ye:=by exact ty rfl) (hsz:ye.size=size:=by first|exact (rfl:_=1)|exact (rfl:_=2)|exact (rfl:_=3)|exact (rfl:_=4)|exact (rfl:_=5)|exact rfl) (hpos:0 < size:=by decide) (hz:(zeroC P e).map (·.length)=some size:=by (rw [zc rfl];rfl))
  (hB:Rem L (.blk b e xs) L1:=by repeat (first|exact Rem.here|apply Rem.there)) (hxn:xs.length=k*size:=by first|rfl|(simp only [List.length_map,Nat.mul_one];first|assumption|omega)|(simp;omega)|fail) (hr:Rd w0 M L1 a0 news:=by first|exact Rd.of (Reads.blk (by repeat (first|exact Has.here|apply Has.there)) Seg.all)|exact Rd.row (by repeat (first|exact Has.here|apply Has.there))|exact Rd.old (by assumption) (λ_ _ h=>h)|assumption|exact Rd.nil|fail) (hn:news.length=m*size:=by first|rfl|(simp only [List.length_map,Nat.mul_one];first|assumption|omega)|(simp;omega)|fail) (h1:news.all (·.oneCell')=true:=by first|exact zdI _ (λ_=>rfl) _|rfl|fail) (b1:k+m<=maxLen:=by first|(unfold maxLen;omega)|(unfold maxLen;simp;omega)|fail) (b2:(k+m)*ye.bytes<=140737488355328:=by first|(dsimp only;omega)|omega|(simp;omega)|fail) (hnil:a0=none->cx=0:=by first|(intro h;cases h;done)|exact λ_=>rfl|assumption|fail) {km:Nat}{ys:List Value}(hkm:k+m=km:=by first|exact Nat.zero_add _|rfl) (hys:xs ++ news=ys:=by first|exact List.nil_append _|rfl):
  OpT P ro N w0 M ds o g L (λv' L'=>L'= .row v' e size km ys::L1/\ ∃a c,v'= .slice a km c):=
 OpT.conv (zb7 hB hxn q_o) (z9 ho hs hx ht hy he hsz hpos hz Rem.here hr.cons hn h1 b1 b2 hnil hkm hys)
theorem zdD {m cx e size:Nat}{news:List Value}{a0:Option Addr}{xo:Operand}{so:Operand}(ho:o.op= .call { callee:=.builtin .append,args:=#[so,xo],argTypes:=#[t,t] } :=by exact rfl)
    (hs:ev g so=some (.slice none 0 0):=by exact rfl) (hx:ev g xo=some (.slice a0 m cx):=by exact rfl) (ht:tyOf P t=some y:=by exact ty rfl) (hy:y.desc= .slice e:=by exact rfl) (he:tyOf P e=some ye:=by exact ty rfl) (hsz:ye.size=size:=by first|exact (rfl:_=1)|exact (rfl:_=2)|exact (rfl:_=3)|exact (rfl:_=4)|exact (rfl:_=5)|exact rfl) (hpos:0 < size:=by decide) (hz:(zeroC P e).map (·.length)=some size:=by (rw [zc rfl];rfl))
     (hr:Rd w0 M L a0 news:=by first|exact Rd.of (Reads.blk (by repeat (first|exact Has.here|apply Has.there)) Seg.all)|exact Rd.row (by repeat (first|exact Has.here|apply Has.there))|exact Rd.old (by assumption) (λ_ _ h=>h)|assumption|exact Rd.nil|fail) (hn:news.length=m*size:=by first|rfl|(simp only [List.length_map,Nat.mul_one];first|assumption|omega)|(simp;omega)|fail) (h1:news.all (·.oneCell')=true:=by first|exact zdI _ (λ_=>rfl) _|rfl|fail) (b1:0+m<=maxLen:=by first|(unfold maxLen;omega)|(unfold maxLen;simp;omega)|fail) (b2:(0+m)*ye.bytes<=140737488355328:=by first|(dsimp only;omega)|omega|(simp;omega)|fail) (hnil:a0=none->cx=0:=by first|(intro h;cases h;done)|exact λ_=>rfl|assumption|fail):
    OpT P ro N w0 M ds o g L (λv' L'=>L'= .row v' e size m news::L/\ ∃a c,v'= .slice a m c):=
  OpT.conv (zaE e size) (z9 ho hs hx ht hy he hsz hpos hz Rem.here hr.cons hn h1 b1 b2 hnil (Nat.zero_add _) (List.nil_append _))
theorem zqv {e n:Nat}{lo co:Operand}{k1 k2:IntKind}{z0:Value}{l c:Int}(ho:o.op= .makeSlice t lo co) (hl:ev g lo=some (.int k1 l)) (hc:ev g co=some (.int k2 c)) (ht:tyOf P t=some y) (hy:y.desc= .slice e) (he:tyOf P e=some ye)
  (hz:zeroC P e=some [z0]) (h1:ye.size=1) (hln:l=(n:Int)) (hcn:c=(n:Int)) (hb:ye.bytes*n<=281474976710656) (hm:n<=maxLen):
  OpT P ro N w0 M ds o g L (λv L'=>∃b,v= .slice (some ⟨b,0,none⟩) n n/\L'= .blk b e (List.replicate n z0)::L):=
 OpT.run (by rw [ho];rfl) λa w X hst=>by
  obtain ⟨d,i',hd,hi',hs',_⟩:=zN ht;rw [hy] at hs';have:=zaF hs';subst this;obtain ⟨de,ie,hde,hie,_,hez,heb,_⟩:=zN he;unfold zeroC at hz;rw [hie] at hz;simp only [Option.bind_some,Option.map_eq_some_iff] at hz;obtain ⟨zv,hzv,hze⟩:=hz;subst hln;subst hcn;obtain ⟨h2,h3⟩:=zaU hst e (List.replicate n z0);refine ⟨_,_,w.alloc (.cells (List.replicate n z0).toArray e),_,?_,.inl rfl,⟨w.heap.size,rfl,rfl⟩,h2,h3⟩;have hm':n<=9223372036854775807:=by unfold maxLen at hm;omega
  have hzs:zv.cells= #[z0]:=Array.toList_inj.1 hze;have hr:=run_make (P:=P) w t e ie zv hd hie hzv k1 k2 n n q_o q_o (by rw [heb,<-Int.natCast_mul];omega) q_o;simp only [Int.toNat_natCast] at hr;have e1:madeCells zv.cells (n*ie.size)=(List.replicate n z0).toArray:=by
   rw [hez,h1,Nat.mul_one,hzs];exact Array.toList_inj.1 (toList_madeCells_one z0 n)
  rw [e1] at hr;simp [execOp,ho,hst.agr.eval hl,hst.agr.eval hc,hr]
theorem zpT {e b off dl dc sl sc T:Nat}{a0:Option Addr}{C B:List Value}{xd xs:Operand}{L':List Res}(ho:o.op= .call { callee:=.builtin .copy,args:=#[xd,xs],argTypes:=#[t,t'] }) (hd:ev g xd=some (.slice (some ⟨b,off,none⟩) dl dc)) (hx:ev g xs=some (.slice a0 sl sc))
  (ht:tyOf P t=some y) (hy:y.desc= .slice e) (he:tyOf P e=some ye) (h1:ye.size=1) (hr:Rd w0 M L a0 B) (hn:B.length=Nat.min sl dl) (hone:B.all (·.oneCell')=true)
  (hL:Upd L (.blk b T C) (.blk b T (setSeg C off B)) L') (hC:off+B.length<=C.length):OpT P ro N w0 M ds o g L (Det (.int .i64 B.length) L'):=
 OpT.run (by rw [ho];rfl) λa w X hst=>by
  obtain ⟨d,i',hdd,hi',hs',_⟩:=zN ht;rw [hy] at hs';have:=zaF hs';subst this;obtain ⟨de,ie,hde,hie,_,hez,_⟩:=zN he;have hb:=hst.hold.has (r:=.blk b T C) (by obtain ⟨A,B',e',_⟩:=hL;subst e';simp [Has]);have hm:=hst.hold.mine (.blk b T C) (by obtain ⟨A,B',e',_⟩:=hL;subst e';simp) b rfl;have hthere:=zfN hb hC;have hrun:(Builtin.copy_ #[t,t'] o.type #[.slice (some ⟨b,off,none⟩) dl dc,.slice a0 sl sc]).run P w= .ok (goInt B.length) (w.setCells b off B):=by
   rcases hr w X hst.keep hst.hold with rfl|⟨b',o',rfl,hrg⟩
   ·have:=run_copy_none (P:=P) w t t' o.type e (some ⟨b,off,none⟩) a0 dl dc sl sc hdd (by rw [hie,Option.map_some,hez,h1]) (by simpa using hn.symm);exact this
   ·exact run_copy_cells (P:=P) w t t' o.type e b off dl dc ⟨b',o',none⟩ sl sc B hdd (by rw [hie,Option.map_some,hez,h1]) hn (zkM hrg) (λj hj=>(hthere j hj).1) (λj hj=>(hthere j hj).2) (λv hv=>List.all_eq_true.1 hone v hv)
  refine ⟨_,_,w.setCells b off B,L',?_,.inl rfl,⟨rfl,rfl⟩,zeb hst.keep (Keep.setCells b B off w) hm,?_⟩
  ·have e1: #[xd,xs].map a.eval= #[.slice (some ⟨b,off,none⟩) dl dc,.slice a0 sl sc]:=by simp [hst.agr.eval hd,hst.agr.eval hx]
   simp only [execOp,ho,resolve,invoke,builtin,e1,Sem.run_bind,Sem.run_pure,Result.andThen_ok,hrun,goInt]
  ·exact hst.hold.upd hL.append (λb' hb'=> .inl hb') (zcN B C off w hb hC) ((Keep.setCells b B off w).mono (λx hx=>by rw [hx];rfl))
end
end Go.Sy
end
