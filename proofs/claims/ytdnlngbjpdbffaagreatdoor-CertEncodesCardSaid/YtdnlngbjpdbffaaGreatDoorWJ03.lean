/- Lemmas of this proof. -/
import Derived.Test.YtdnlngbjpdbffaaGreatDoorWJ01
import Derived.Laws.IdiomCopy
import Derived.Laws.AppendOwn
import Derived.Laws.OwnMore
import Derived.Laws.BytesString
import Derived.Test.YtdnlngbjpdbffaaGreatDoorWJ02
set_option linter.all false
namespace Go.Sy
open Go
variable {P:Program}{ro:Option Nat}{N:Nat}{w0:World}{M:Nat->Prop}{ds:List Deferred}{g:Nat->Option Value}{L:List Res}{o:Oper}{t t':TypeId}{x z:Operand}{y:Ty}
theorem zk0{w:World}{u v:Value}{b:Bool}(h:∀d,(Op.equalIn (d+1) t u v).run P w= .ok b w):(Op.equal t u v).run P w= .ok b w:=h 9999
theorem zoU{e:Nat}{a0:Option Addr}(m:o.op= .binOp .eql t x z t':=by exact rfl)(hx:ev g x=some (.pointer a0):=by exact rfl)(hz:ev g z=some (.pointer none):=by exact rfl)(C:zah P t=some y:=by exact ty rfl)(E:y.desc= .pointer e:=by exact rfl):OpT P ro N w0 M ds o g L (Det (.bool a0.isNone) L):=
 F0 (by rw[m];rfl) λa w X q=>by
  obtain⟨d,F,r,B,j,_⟩:=zV C;rw[E] at j;have:=zoh j;subst this;have A:(Op.equal t (.pointer a0) (.pointer none)).run P w= .ok a0.isNone w:=zk0 λd=>by cases a0 <;> simp[Op.equalIn,run_underlying r]
  simp[execOp,m,q.agr.eval hx,q.agr.eval hz,eqGuard,binOp,A]
theorem zmo{e n c n' c':Nat}{a0:Option Addr}(m:o.op= .binOp .eql t x z t':=by exact rfl)(hx:ev g x=some (.slice a0 n c):=by exact rfl)(hz:ev g z=some (.slice none n' c'):=by exact rfl)(C:zah P t=some y:=by exact ty rfl)(E:y.desc= .slice e:=by exact rfl):OpT P ro N w0 M ds o g L (Det (.bool a0.isNone) L):=
 F0 (by rw[m];rfl) λa w X q=>by
  obtain⟨d,F,r,B,j,_⟩:=zV C;rw[E] at j;have:=zbm j;subst this;have A:(Op.equal t (.slice a0 n c) (.slice none n' c')).run P w= .ok a0.isNone w:=zk0 λd=>by cases a0 <;> simp[Op.equalIn,run_underlying r]
  simp[execOp,m,q.agr.eval hx,q.agr.eval hz,eqGuard,binOp,A]
theorem ziI{a b r:Bool}(m:o.op= .binOp .eql t x z t':=by exact rfl)(hx:ev g x=some (.bool a):=by exact rfl)(hz:ev g z=some (.bool b):=by exact rfl)(C:zah P t=some y:=by exact ty rfl)(E:y.desc= .bool:=by exact rfl)(hr:(a==b)=r:=by exact rfl):OpT P ro N w0 M ds o g L (Det (.bool r) L):=
 F0 (by rw[m];rfl) λ_ w X q=>by
  obtain⟨d,G,A,B,j,_⟩:=zV C;rw[E] at j;have:=zmH j;subst this;have F:(Op.equal t (.bool a) (.bool b)).run P w= .ok (a==b) w:=zk0 λd=>by simp[Op.equalIn,run_underlying A]
  subst hr;simp only[execOp,m,q.agr.eval hx,q.agr.eval hz,eqGuard,binOp,Sem.run_bind,Sem.run_pure];simp_all
theorem zyd{a b r:Bool}(m:o.op= .binOp .neq t x z t':=by exact rfl)(hx:ev g x=some (.bool a):=by exact rfl)(hz:ev g z=some (.bool b):=by exact rfl)(C:zah P t=some y:=by exact ty rfl)(E:y.desc= .bool:=by exact rfl)(hr:(!(a==b))=r:=by exact rfl):OpT P ro N w0 M ds o g L (Det (.bool r) L):=
 F0 (by rw[m];rfl) λ_ w X q=>by
  obtain⟨d,G,A,B,j,_⟩:=zV C;rw[E] at j;have:=zmH j;subst this;have F:(Op.equal t (.bool a) (.bool b)).run P w= .ok (a==b) w:=zk0 λd=>by simp[Op.equalIn,run_underlying A]
  subst hr;simp only[execOp,m,q.agr.eval hx,q.agr.eval hz,eqGuard,binOp,Sem.run_bind,Sem.run_pure];simp_all
def str(l:List UInt8):ByteArray:=⟨l.toArray⟩
theorem zkb(l:List UInt8):(str l).size=l.length:=rfl
theorem zkK(l:List UInt8):(str l).toList=l:=by rw[ByteArray.toList_eq];rfl
theorem zbD{a b:List UInt8}{r:Bool}(j:o.op= .binOp .eql t x z t':=by exact rfl)(hx:ev g x=some (.string (str a)):=by exact rfl)(hz:ev g z=some (.string (str b)):=by exact rfl)(hr:decide (a=b)=r:=by first|exact decide_eq_true (by first|rfl|assumption)|exact decide_eq_false (by assumption)|fail):OpT P ro N w0 M ds o g L (Det (.bool r) L):=
 F0 (by rw[j];rfl) λ_ w X m=>by
  have:(a==b)=r:=by rw[<-hr];by_cases h:a=b <;> simp[h]
  simp[execOp,j,m.agr.eval hx,m.agr.eval hz,eqGuard,binOp,Op.stringOp,zkK,this]
theorem zcR{a b:List UInt8}{r:Bool}(j:o.op= .binOp .neq t x z t':=by exact rfl)(hx:ev g x=some (.string (str a)):=by exact rfl)(hz:ev g z=some (.string (str b)):=by exact rfl)(hr:decide (a≠b)=r:=by first|exact decide_eq_true (by assumption)|exact decide_eq_false (by first|exact λh=>h rfl|assumption)|fail):OpT P ro N w0 M ds o g L (Det (.bool r) L):=
 F0 (by rw[j];rfl) λ_ w X m=>by
  have:(!(a==b))=r:=by rw[<-hr];by_cases h:a=b <;> simp[h]
  simp[execOp,j,m.agr.eval hx,m.agr.eval hz,eqGuard,binOp,Op.stringOp,zkK,this]
theorem zgD{parts:Array (Nat×Operand)}{vs:List Value}{C:List Value}(j:o.op= .build t parts)(hv:evs g (parts.toList.map (·.2))=some vs)(hb:P.built t (List.zip (parts.toList.map (·.1)) vs)=some C.toArray):OpT P ro N w0 M ds o g L (Det (.agg C.toArray) L):=
 F0 (by rw[j];rfl) λa w X m=>by
  have e:(parts.map λ(i,x)=>(i,a.eval x)).toList=List.zip (parts.toList.map (·.1)) vs:=by
   rw[Bg,<-m.agr.evals hv,D8,List.zip_map'];rfl
  simp_all[run_build,execOp]
def ze0:Nat->List (Nat×Operand)->Bool
 |_,[]=>true
 |k,p::l=>Nat.beq p.1 k&&ze0 (k+1) l
theorem zmz:∀(l:List Value) (A D:List Value),D.length=l.length->(∀v∈l,v.cells.size=1/\v.cells= #[v])->
  Instr.fill (λi=>some (i*1,1)) (A++D).toArray (l.zipIdx A.length |>.map λp=>(p.2,p.1))=some (A++l).toArray
 | [],A,D,h,_=>by simp_all[Instr.fill]
 |v::l,A,D,h,h1=>by
  obtain⟨d,j,rfl⟩:∃d j,D=d::j:=by cases D with
   |nil=>simp at h
   |cons d j=>exact⟨d,j,rfl⟩
  obtain⟨m,q⟩:=h1 v A3;have r:=zmz l (A++[v]) j (by simpa using h) (λu hu=>h1 u (A4 _ hu))
  simp_all[Instr.fill]
theorem zmj{v:Value}(h:v.oneCell'=true):v.cells.size=1/\v.cells= #[v]:=by cases v <;> first|exact⟨rfl,rfl⟩|(simp[Value.oneCell'] at h)
theorem zz{len e:Nat}{parts:Array (Nat×Operand)}{vs:List Value}{ye:Ty}(R:o.op= .buildSlice t len parts:=by exact rfl)(hp:ze0 0 parts.toList=true:=by exact rfl)(hv:evs g (parts.toList.map (·.2))=some vs:=by exact rfl)(O:vs.length=len:=by exact rfl)
  (ht:zah P t=some y:=by exact ty rfl)(hy:y.desc= .slice e:=by exact rfl)(he:zah P e=some ye:=by exact ty rfl)(h1:ye.size=1:=by exact rfl)(hz:(za9 P e).map (·.length)=some 1:=by (rw[zc rfl];rfl))(hc:vs.all (·.oneCell')=true:=by exact rfl)(hs:vs.length<=16777216:=by exact A5 rfl)(B:vs≠[]:=by exact E8 _ _):
  OpT P ro N w0 M ds o g L (λv T=>∃b,v= .slice (some ⟨b,0,none⟩) len len/\T= .blk b e vs::L):=
 FC (by rw[R];rfl) λa w X F=>by
  obtain⟨d,i',Y,a6,E,_⟩:=zV ht;rw[hy] at E;have:=zbm E;subst this;obtain⟨de,S,Z,A,_,q,_⟩:=zV he;obtain⟨H,m,a8⟩:=Ah.1 hz;obtain⟨V,W⟩:=zbQ F e vs;unfold za9 at m;rw[A] at m;simp only[Ac,Ah] at m;obtain⟨r,G,a7⟩:=m;have K:∀u,S.zero=some u->u.cells.size=1:=λu hu=>by grind
  have Q:(0:Nat)<len:=by rw[<-O];exact List.length_pos_iff.2 B
  have j:∀(l:List (Nat×Operand)) (k:Nat),ze0 k l=true->(l.map λp=>(p.1,a.eval p.2))=((l.map λp=>a.eval p.2).zipIdx k).map λp=>(p.2,p.1):=by
   intro l
   induction l with
   |nil=>intro k _;rfl
   |cons p l ih=>
    intro k hk;simp only[ze0,AA] at hk
    grind [Nat.eq_of_beq_eq_true,List.zipIdx_cons]
  have I:(parts.toList.map λp=>a.eval p.2)=vs:=by
   have:=F.agr.evals hv;rw[D8] at this;exact this
  have hf:=zmz vs [] (List.replicate len (r.cells[0]!)) (by simp[O]) (λv J=>zmj (AL.1 hc v J));have C:=run_buildSlice (P:=P) w t e len (parts.map λ(i,x)=>(i,a.eval x)) vs.toArray S r Y A G (by rw[q,h1];omega) (by rw[q,h1];omega) (by
   rw[q,h1,Bg];have:=j parts.toList 0 hp;rw[I] at this;have U:(parts.toList.map λ(i,x)=>(i,a.eval x))=parts.toList.map λp=>(p.1,a.eval p.2):=rfl;rw[U,this];have e6:(Array.range (len*1)).map (r.cells[· % r.cells.size]!)=([]++List.replicate len (r.cells[0]!)).toArray:=by
    have a9:r.cells.size=1:=K r G;apply Array.ext
    ·simp
    ·grind
   simp_all)
  refine⟨_,_,w.alloc (.cells vs.toArray e),_,?_,.inl rfl,⟨w.heap.size,rfl,rfl⟩,V,W⟩;simp[execOp,R,C]
theorem zfr{e:Nat}(r:o.op= .buildSlice t 0 #[]:=by exact rfl)(G:zah P t=some y:=by exact ty rfl)(H:y.desc= .slice e:=by exact rfl){ye:Ty}(he:zah P e=some ye:=by exact ty rfl):
  OpT P ro N w0 M ds o g L (λv A=>∃b,v= .slice (some ⟨b,0,none⟩) 0 0/\A= .blk b e []::L):=
 FC (by rw[r];rfl) λa w X q=>by
  obtain⟨d,I,E,F,m,_⟩:=zV G;rw[H] at m;have:=zbm m;subst this;obtain⟨B,C⟩:=zbQ q e [];have j:(Instr.buildSlice t 0 #[]).run P w= .ok (.slice (some ⟨w.heap.size,0,none⟩) 0 0) (w.alloc (.cells #[] e)):=by
   simp[Instr.buildSlice,run_underlying E,zbS he,Instr.fill,newRow];have:Array.map (λ_=>(default:Value)) (Array.range 0)= #[]:=Array.eq_empty_of_size_eq_zero q_p;rw[this]
  refine⟨_,_,w.alloc (.cells #[] e),_,?_,.inl rfl,⟨w.heap.size,rfl,rfl⟩,B,C⟩;simp[execOp,r,j]
inductive Fits(pl:Nat->Option (Nat×Nat)):Nat->Nat->List Value->List Value->Prop
 |nil {i off:Nat} :Fits pl i off [] []
 |cons {i off n:Nat}{v:Value}{cs vs R:List Value}(hv:v.cells=cs.toArray) (hp:pl i=some (off,n)) (hl:cs.length=n) (h:Fits pl (i+1) (off+n) vs R):Fits pl i off (v::vs) (cs++R)
theorem Fits.one{pl:Nat->Option (Nat×Nat)}{i off:Nat}{v:Value}{vs R:List Value}(h1:v.oneCell'=true)(hp:pl i=some (off,1))(h:Fits pl (i+1) (off+1) vs R):Fits pl i off (v::vs) (v::R):=
 Fits.cons (cs:=[v]) (zmj h1).2 hp rfl h
theorem Fits.agg{pl:Nat->Option (Nat×Nat)}{i off n:Nat}{cs vs R:List Value}(hp:pl i=some (off,n))(j:cs.length=n)(h:Fits pl (i+1) (off+n) vs R):Fits pl i off (.agg cs.toArray::vs) (cs++R):=Fits.cons rfl hp j h
theorem zjk:∀(m A D:List Value) (b k:Nat),A.length=b+k->m.length<=D.length->
  ((m.zipIdx k).foldl (λ(a:Array Value) p=>a.setIfInBounds (b+p.2) p.1) (A++D).toArray)=(A++m++D.drop m.length).toArray
 | [],A,D,b,k,_,_=>by simp
 |c::m,A,D,b,k,h,hl=>by
  obtain⟨d,j,rfl⟩:∃d j,D=d::j:=by cases D with
   |nil=>simp at hl
   |cons d j=>exact⟨d,j,rfl⟩
  rw[E9,EP];have e:((A++d::j).toArray.setIfInBounds (b+k) c)=((A++[c])++j).toArray:=by
   rw[<-h];simp
  have:=zjk m (A++[c]) j b (k+1) (by simp;omega) (by simpa using hl);simp only at*;rw[e,this];simp
theorem zjj{pl:Nat->Option (Nat×Nat)} :∀(m:List Value) (i off:Nat) (R A D:List Value),Fits pl i off m R->A.length=off->D.length=R.length->
  Instr.fill pl (A++D).toArray ((m.zipIdx i).map λp=>(p.2,p.1))=some (A++R).toArray
 | [],i,off,R,A,D,h,ha,hd=>by
  cases h;have:D= []:=As.1 hd;subst this;simp[Instr.fill]
 |v::m,i,off,R,A,D,h,ha,hd=>by
  cases h with
  | @cons _ _ n _ cs _ R' hv hp hl h'=>
   simp only[E9,Aw,Instr.fill,hp,hv];rw[A2] at hd;rw[if_neg (by simp;omega)];have e:=zjk cs A D off 0 q_o q_o;have q:(cs.toArray.zipIdx.foldl (λ(a:Array Value) (p:Value×Nat)=>a.setIfInBounds (off+p.2) p.1) (A++D).toArray)=(A++cs++D.drop cs.length).toArray:=by rw[<-e];simp
   have r:(cs.toArray.zipIdx.foldl (λ(a:Array Value) (x:Value×Nat)=>match x with|(c,j)=>a.setIfInBounds (off+j) c) (A++D).toArray)=(A++cs++D.drop cs.length).toArray:=q;rw[r];have w:=zjj m (i+1) (off+n) R' (A++cs) (D.drop cs.length) h' (by simp;omega) (by simp;omega);rw[w];simp
theorem zhn:∀(l:List (Nat×Operand)) (k:Nat) (j:List Value),ze0 k l=true->j.length=l.length->List.zip (l.map (·.1)) j=(j.zipIdx k).map λp=>(p.2,p.1)
 | [],k,j,_,hl=>by have:j= []:=As.1 hl;subst this;rfl
 |p::l,k,[],_,hl=>by simp at hl
 |p::l,k,v::j,hk,hl=>by
  simp only[ze0,AA] at hk;have:=C3 hk.1;simp only[Aw,DF,E9,zhn l (k+1) j hk.2 (by simpa using hl),this]
theorem zpA{g:Nat->Option Value} :∀ {l:List Operand}{j:List Value},evs g l=some j->j.length=l.length:=by
 intro l
 induction l with
 |nil=>simp[evs]
 |cons x l ih=>
  grind [evs]
theorem zmd{n e:Nat}{parts:Array (Nat×Operand)}{vs R Z:List Value}{ye:Ty}(G:o.op= .build t parts:=by exact rfl)(hp:ze0 0 parts.toList=true:=by exact rfl)(hv:evs g (parts.toList.map (·.2))=some vs:=by exact rfl)(H:zah P t=some y:=by exact ty rfl)(I:y.desc= .array n e:=by exact rfl)
  (he:zah P e=some ye:=by exact ty rfl)(hz:za9 P t=some Z:=by exact zc rfl)(E:Fits (λi=>some (i*ye.size,ye.size)) 0 0 vs R:=by repeat (first|exact Fits.nil|exact Fits.last rfl (by first|rfl|simp only[A0,AO,AJ,A2];omega|(simp only[A0];first|assumption|omega)|simp;omega|fail)|apply Fits.one rfl rfl|apply Fits.agg rfl (by first|rfl|simp only[A0,AO,AJ,A2];omega|(simp only[A0];first|assumption|omega)|simp;omega|fail)|fail))(F:Z.length=R.length:=by first|rfl|simp only[A0,AO,AJ,A2];omega|(simp only[A0];first|assumption|omega)|simp;omega|fail):OpT P ro N w0 M ds o g L (Det (.agg R.toArray) L):=by
 refine zgD G hv ?_;obtain⟨d,i,B,w,A,_⟩:=zV H;rw[I] at A;have:=zdg A;subst this;obtain⟨K,O,C,m,_,j,_⟩:=zV he;unfold za9 at hz;rw[w] at hz;simp only[Ac,Ah] at hz;obtain⟨J,r,q⟩:=hz;rw[zhn _ 0 vs hp (by simpa using zpA hv)];simp only[Program.built,w,B,r,m,j];have:=zjj vs 0 0 R [] Z E rfl F;rw[show J.cells=([]++Z).toArray by rw[<-q];simp];rw[this];rfl
theorem zfW{P:Program} :∀(l:List Field),(l.map λf=>(f.offset,P.cellsOf f.type)).all (λp=>!Nat.beq p.2 0)=true->
  l.mapM (λf=>(P.info? f.type).map λi=>(f.offset,i.size))=some (l.map λf=>(f.offset,P.cellsOf f.type))
 | [],_=>rfl
 |f::l,h=>by
  simp only[Aw,BS,AA] at h;obtain⟨j,m⟩:=h;rw[List.mapM_cons,zfW l m];cases hi:P.info? f.type with
  |none=>
   have:P.cellsOf f.type=0:=by simp[Program.cellsOf,hi]
   rw[this] at j;cases j
  |some i=>simp[Program.cellsOf,hi]
theorem zg0{parts:Array (Nat×Operand)}{vs R Z:List Value}(F:o.op= .build t parts:=by exact rfl)(hp:ze0 0 parts.toList=true:=by exact rfl)(hv:evs g (parts.toList.map (·.2))=some vs:=by exact rfl)(G:zah P t=some y:=by exact ty rfl)(H:y.desc= .struct #[]:=by exact rfl)
  (hn:y.flds.all (λp=>!Nat.beq p.2 0)=true:=by exact rfl)(hz:za9 P t=some Z:=by exact zc rfl)(C:Fits (nth y.flds) 0 0 vs R:=by repeat (first|exact Fits.nil|exact Fits.last rfl (by first|rfl|simp only[A0,AO,AJ,A2];omega|(simp only[A0];first|assumption|omega)|simp;omega|fail)|apply Fits.one rfl rfl|apply Fits.agg rfl (by first|rfl|simp only[A0,AO,AJ,A2];omega|(simp only[A0];first|assumption|omega)|simp;omega|fail)|fail))(E:Z.length=R.length:=by first|rfl|simp only[A0,AO,AJ,A2];omega|(simp only[A0];first|assumption|omega)|simp;omega|fail):OpT P ro N w0 M ds o g L (Det (.agg R.toArray) L):=by
 refine zgD F hv ?_;obtain⟨d,i,B,r,w,_,_,j⟩:=zV G;rw[H] at w;obtain⟨A,rfl⟩:=zf3 w;simp only at j;unfold za9 at hz;rw[r] at hz;simp only[Ac,Ah] at hz;obtain⟨I,q,m⟩:=hz;rw[zhn _ 0 vs hp (by simpa using zpA hv)];rw[j] at hn;simp only[Program.built,r,B,q,zfW _ hn];have:=zjj vs 0 0 R [] Z C rfl E;rw[show I.cells=([]++Z).toArray by rw[<-m];simp];rw[show(λx=>(List.map (λf=>(f.offset,P.cellsOf f.type)) A.toList).toArray[x]?)=nth y.flds by funext x;rw[zhv,j];simp];rw[this];rfl
theorem zeT{Z:List Value}(I:o.op= .build t #[])(J:zah P t=some y)(m:(y.desc= .struct #[]/\y.flds.all (λp=>!Nat.beq p.2 0)=true)\/∃n e ye,y.desc= .array n e/\zah P e=some ye)(hz:za9 P t=some Z):OpT P ro N w0 M ds o g L (Det (.agg Z.toArray) L):=by
 refine zgD (vs:=[]) I rfl ?_;obtain⟨d,i,C,A,w,_,_,j⟩:=zV J;unfold za9 at hz;rw[A] at hz;simp only[Ac,Ah] at hz;obtain⟨R,r,q⟩:=hz;rcases m with ⟨m,E⟩|⟨n,e,ye,m,G⟩
 ·rw[m] at w;obtain⟨O,rfl⟩:=zf3 w;simp only at j;rw[j] at E;simp[Program.built,A,C,r,zfW _ E,Instr.fill,<-q]
 ·rw[m] at w;have:=zdg w;subst this;obtain⟨K,Q,F,B,_,H,_⟩:=zV G;simp[Program.built,A,C,r,B,Instr.fill,<-q]
open Go.Wd
def v8(x:UInt8):Value:=.int .u8 (n8 x)
def v32(x:UInt32):Value:=.int .u32 (n32 x)
theorem zgz{α:Type}(f:α->Value)(j:∀x,(f x).oneCell'=true)(l:List α):(l.map f).all (·.oneCell')=true:=by simp_all
variable {ye:Ty}
theorem zt5{K:Act->World->Prop}{fr:Fr}{L1:List Res}{v:Value}{E s n:Nat}{xs:List Value}(hr:Rem L (.row v E s n xs) L1)(hn:0<n)
  (h:∀b c J,v= .slice (some ⟨b,0,none⟩) n c->(xs++J).length=c*s->n<=c->c<=maxLen->xs.length=n*s->SyX N w0 M ds K fr (.blk b E (xs++J)::L1)):SyX N w0 M ds K fr L:=by
 rintro a w ⟨O,C,X⟩;have q:=X.perm (hr.perm.append_right _);have A:w.ownsRow 0 E s v n xs:=q.hold.all _ A3;obtain⟨Q,⟨_,Y⟩|⟨b,c,j,I,_,R,S,T,U,V⟩⟩:=A
 ·omega
 ·have B:j.toList=xs++j.toList.drop (n*s):=by rw[<-V,Bb]
  have W:(xs++j.toList.drop (n*s)).length=c*s:=by rw[<-B];simpa using U
  refine h b c (j.toList.drop (n*s)) I W S T Q a w ⟨O,C,q.size,q.agr,q.keep,?_⟩;have H:(Res.row v E s n xs).own b:=by show v.ownBlock=some b;rw[I];rfl
  refine q.hold.tail.cons ?_ (λr F G m=>?_) (λG m=>q.hold.mine _ A3 G (by cases m;exact H))
  ·show w.heap[b]?=_;rw[R,<-B]
  ·cases m;exact(Ag.1 q.hold.apart).1 r F b H
theorem zlw{c:Code}{Q:Exit->Act->World->Prop}{fr:Fr}{L1:List Res}{a:Option Addr}{E s n cp:Nat}{xs:List Value}(hr:Rem L (.row (.slice a n cp) E s n xs) L1)(hn:0<n)
  (h:∀b J,a=some ⟨b,0,none⟩->(xs++J).length=cp*s->n<=cp->cp<=maxLen->xs.length=n*s->Sy P ro N w0 M ds c Q fr (.blk b E (xs++J)::L1)):Sy P ro N w0 M ds c Q fr L:=λj w C=>
 zt5 (K:=λj w=>c.wpIn (FW ro) 0 P Q j w) hr hn (λb m J F q r A B=>by cases F;exact h b J rfl q r A B) j w C
theorem zoR{b l m:Nat}(h:l<m):zbw (some ⟨b,0,none⟩) l m 1=some ⟨b,l,none⟩:=by simp_all[zjC]
theorem zfG{b off l m:Nat}(h:l<m):zbw (some ⟨b,off,none⟩) l m 1=some ⟨b,off+l,none⟩:=by rw[zjC h,Ak]
theorem zb8{e n c l h m n' c' es:Nat}{lo q mx:Option Operand}{a0 a':Option Addr}{ye:Ty}(B:o.op= .slice t x lo q mx:=by exact rfl)(hx:ev g x=some (.slice a0 n c):=by exact rfl)(C:zah P t=some y:=by exact ty rfl)(E:y.desc= .slice e:=by exact rfl)(he:zah P e=some ye:=by exact ty rfl)
  (j:ye.size=es:=by first|exact(rfl:_=1)|exact(rfl:_=2)|exact(rfl:_=3)|exact(rfl:_=4)|exact(rfl:_=5)|exact rfl)(A:bnd g lo 0 l:=by first|exact zbJ|exact zan rfl rfl|exact zan rfl (zbt _ _)|exact zan rfl (AT q_o).symm|fail)(hh:bnd g q n h:=by first|exact zbJ|exact zan rfl rfl|exact zan rfl (zbt _ _)|exact zan rfl (AT q_o).symm|fail)(hm:bnd g mx c m:=by first|exact zbJ|exact zan rfl rfl|exact zan rfl (zbt _ _)|exact zan rfl (AT q_o).symm|fail)(h1:l<=h:=by first|omega|simp only[A0,AO];omega|simp;omega|fail)(h2:h<=m:=by first|omega|simp only[A0,AO];omega|simp;omega|fail)(w:m<=c:=by first|omega|simp only[A0,AO];omega|simp;omega|fail)(r:q.isSome=true\/mx=none:=by first|exact .inl rfl|exact .inr rfl)
  (ha:zbw a0 l m es=a':=by first|assumption|exact zme _ _ _|exact zoR q_o|exact zfG q_o|exact zjC q_o|rfl|fail)(hn':h-l=n':=by first|with_reducible exact CD _|with_reducible exact Bh _ _|with_reducible exact Au _ _|rfl|omega)(hc':m-l=c':=by first|with_reducible exact CD _|with_reducible exact Bh _ _|with_reducible exact Au _ _|rfl|omega):OpT P ro N w0 M ds o g L (Det (.slice a' n' c') L):=by
 subst j;subst ha;subst hn';subst hc';exact zuN B hx C E he A hh hm h1 h2 w r
theorem zcT{e n l h m n' c' es b off:Nat}{lo q mx:Option Operand}{a':Option Addr}{ye:Ty}(B:o.op= .slice t x lo q mx:=by exact rfl)(hx:ev g x=some (.pointer (some ⟨b,off,none⟩)):=by exact rfl)(C:zah P t=some y:=by exact ty rfl)(E:y.desc= .array n e:=by exact rfl)(he:zah P e=some ye:=by exact ty rfl)
  (j:ye.size=es:=by first|exact(rfl:_=1)|exact(rfl:_=2)|exact(rfl:_=3)|exact(rfl:_=4)|exact(rfl:_=5)|exact rfl)(A:bnd g lo 0 l:=by first|exact zbJ|exact zan rfl rfl|exact zan rfl (zbt _ _)|exact zan rfl (AT q_o).symm|fail)(hh:bnd g q n h:=by first|exact zbJ|exact zan rfl rfl|exact zan rfl (zbt _ _)|exact zan rfl (AT q_o).symm|fail)(hm:bnd g mx n m:=by first|exact zbJ|exact zan rfl rfl|exact zan rfl (zbt _ _)|exact zan rfl (AT q_o).symm|fail)(h1:l<=h:=by first|omega|simp only[A0,AO];omega|simp;omega|fail)(h2:h<=m:=by first|omega|simp only[A0,AO];omega|simp;omega|fail)(w:m<=n:=by first|omega|simp only[A0,AO];omega|simp;omega|fail)(r:q.isSome=true\/mx=none:=by first|exact .inl rfl|exact .inr rfl)
  (ha:zbw (some ⟨b,off,none⟩) l m es=a':=by first|assumption|exact zme _ _ _|exact zoR q_o|exact zfG q_o|exact zjC q_o|rfl|fail)(hn':h-l=n':=by first|with_reducible exact CD _|with_reducible exact Bh _ _|with_reducible exact Au _ _|rfl|omega)(hc':m-l=c':=by first|with_reducible exact CD _|with_reducible exact Bh _ _|with_reducible exact Au _ _|rfl|omega):OpT P ro N w0 M ds o g L (Det (.slice a' n' c') L):=by
 subst j;subst ha;subst hn';subst hc';exact zpn B hx C E he A hh hm h1 h2 w r
theorem zlR{w:World}{b off:Nat}{B:List Value}(h:w.rangeAt b off B):∀j u,B[j]?=some u->w.cell? ((⟨b,off,none⟩:Addr).add j)=some u:=λj u m=>by
 rw[Addr.add_mid];exact h j u m
theorem zlG(w:World){ty e size bytes:Nat}{i:TypeInfo}{zv:Value}(R:P.underlying t=some (.slice e))(S:P.info? e=some i)(hz:i.zero=some zv)(q:i.size=size)(C:i.bytes=bytes)(K:zv.cells.size=size)(B:0<size)
  {v:Value}{k m c:Nat}{xs news:List Value}(A:w.ownsRow 0 e size v k xs){F:Addr}(hn:news.length=m*size)(hc:∀j u,news[j]?=some u->w.cell? (F.add j)=some u)(h1:∀u∈news,u.oneCell'=true)(V:k+m<=maxLen)(W:(k+m)*bytes<=140737488355328):
  ∃O Q,(Builtin.append_ #[t,t] ty #[v,.slice (some F) m c]).run P w= .ok O Q/\Q.ownsRow 0 e size O (k+m) (xs++news)/\w.grownBy Q v.ownBlock/\∀b,O.ownBlock=some b->v.ownBlock=some b\/w.heap.size<=b:=by
 obtain⟨O,Q,U,r2,r3,_⟩:=run_append_own (P:=P) w 0 t ty e i zv size bytes R S hz q C K B v k xs A F m c news hn hc h1 V W (A9 _);refine⟨O,Q,U,r2,r3,λb X=>?_⟩;obtain⟨T,⟨rfl,rfl⟩|⟨g,cap,G,rfl,_,hg,J,H,I,r⟩⟩:=A
 ·have Y:xs= []:=As.1 (by rw[T];simp);subst Y;obtain⟨a6,Z,s1,s2,_,_⟩:=run_append_own (P:=P) w w.heap.size t ty e i zv size bytes R S hz q C K B (.slice none 0 0) 0 [] (World.ownsRow_nil w _ e size) F m c news hn hc h1 V W (A6 _);rw[U] at s1;cases s1;exact .inr (World.ownsRow.lt s2 b X).1
 ·by_cases hroom:k+m<=cap
  ·obtain⟨Z,s1,_,_⟩:=run_append_fits (P:=P) w 0 t ty e i size R S q g k cap xs ⟨T,.inr ⟨g,cap,G,rfl,A9 _,hg,J,H,I,r⟩⟩ F m c news hn hc h1 hroom;rw[U] at s1;cases s1;exact .inl X
  ·have E:w.ownsRow 0 e size (.slice (some ⟨g,0,none⟩) k cap) k xs:=⟨T,.inr ⟨g,cap,G,rfl,A9 _,hg,J,H,I,r⟩⟩;have s1:=run_append_grow (P:=P) w t ty e i zv R S hz ⟨g,0,none⟩ k cap xs (by rw[q];exact T) (E.cells (g:=g) rfl) F m c news (by rw[q];exact hn) hc q_o (by unfold maxLen at V;omega) (growslice_fits q_o (by rw[C];exact W));rw[U] at s1;cases s1;cases X;simp
theorem zaE{k m W e size:Nat}{v:Value}{xs news:List Value}{L1:List Res}{a0:Option Addr}{xo:Operand}{so:Operand}(ho:o.op= .call { callee:=.builtin .append,args:=#[so,xo],argTypes:=#[t,t] } :=by exact rfl)
  (hs:ev g so=some v:=by exact rfl)(hx:ev g xo=some (.slice a0 m W):=by exact rfl)(Y:zah P t=some y:=by exact ty rfl)(hy:y.desc= .slice e:=by exact rfl)(he:zah P e=some ye:=by exact ty rfl)(b3:ye.size=size:=by first|exact(rfl:_=1)|exact(rfl:_=2)|exact(rfl:_=3)|exact(rfl:_=4)|exact(rfl:_=5)|exact rfl)(T:0<size:=by decide)(hz:(za9 P e).map (·.length)=some size:=by (rw[zc rfl];rfl))
  (hL:Rem L (.row v e size k xs) L1:=by repeat (first|exact Es|apply Eu))(hr:Rd w0 M L a0 news:=by first|exact Rd.of (FZ (by repeat (first|exact F1|apply F4)) Et)|exact G8 (by repeat (first|exact F1|apply F4))|exact FM (by assumption) (λ_ _ h=>h)|assumption|exact Fz|fail)(hn:news.length=m*size:=by first|rfl|(simp only[A0,Ak];first|assumption|omega)|simp;omega|fail)(h1:news.all (·.oneCell')=true:=by first|exact zgz _ (λ_=>rfl) _|rfl|fail)(b1:k+m<=maxLen:=by first|(unfold maxLen;omega)|(unfold maxLen;simp;omega)|fail)(b2:(k+m)*ye.bytes<=140737488355328:=by first|(dsimp only;omega)|omega|simp;omega|fail)(hnil:a0=none->W=0:=by first|intro h;cases h;done|exact λ_=>rfl|assumption|fail){km:Nat}{ys:List Value}(hkm:k+m=km:=by first|exact AZ _|rfl)(hys:xs++news=ys:=by first|exact Af _|rfl):
  OpT P ro N w0 M ds o g L (λH L'=>L'= .row H e size km ys::L1/\∃a c,H= .slice a km c):=by
 subst hkm;subst hys;refine FC (by rw[ho];rfl) λa w X q=>?_;obtain⟨d,i',hd,c0,U,_⟩:=zV Y;rw[hy] at U;have:=zbm U;subst this;obtain⟨de,ie,b9,K,_,a7,a6,_⟩:=zV he;obtain⟨Z,G,V⟩:=Ah.1 hz;unfold za9 at G;rw[K] at G;simp only[Ac,Ah] at G;obtain⟨zv,b6,b4⟩:=G;have b5:zv.cells.size=size:=by rw[<-b4] at V;simpa using V
 have S:=q.perm (hL.append (X:=X)).perm;have C:w.ownsRow 0 e size v k xs:=S.hold.all _ A3;have B:=λb A=>S.hold.mine (.row v e size k xs) A3 b A;have key:∃H Q,(Builtin.append_ #[t,t] o.type #[v,.slice a0 m W]).run P w= .ok H Q/\Q.ownsRow 0 e size H (k+m) (xs++news)/\w.grownBy Q v.ownBlock/\∀b,H.ownBlock=some b->v.ownBlock=some b\/w.heap.size<=b:=by
  cases a0 with
  |none=>
   have a9:news= []:=by
    rcases hr w X q.keep q.hold with h|⟨b,off,h,_⟩
    ·exact h
    ·cases h
   subst a9;have hm:m=0:=by
    simp only[Ce] at hn;rcases Nat.mul_eq_zero.1 hn.symm with h|h
    ·exact h
    ·omega
   subst hm;obtain rfl:=hnil rfl;exact⟨v,w,run_append_owned_none (P:=P) w 0 t o.type e ie size hd K v k xs C,by simpa using C,⟨rfl,rfl,rfl,A6 _,λ_ _ _=>rfl⟩,λb A=> .inl A⟩
  |some ad=>
   refine zlG (P:=P) w hd K b6 (by rw[a7,b3]) a6 b5 T C hn (λj u hj=>?_) (λu hu=>AL.1 h1 u hu) b1 b2;rcases hr w X q.keep q.hold with h|⟨b,off,h,b0⟩
   ·rw[h] at hj;simp at hj
   ·cases h;exact zlR b0 j u hj
 obtain⟨H,Q,b7,J,a8,I⟩:=key;have R:Keep (λb=>v.ownBlock=some b) w Q:=Keep.grown a8;have O:Keep M w0 Q:=q.keep.trans R (λb A=>B b A);refine⟨.value H,H,Q,_,?_,.inl rfl,⟨rfl,?_⟩,O,?_⟩
 ·have e1: #[so,xo].map a.eval= #[v,.slice a0 m W]:=by simp[q.agr.eval hs,q.agr.eval hx]
  simp_all[execOp,resolve,invoke,builtin]
 ·obtain⟨_,⟨h2,h3⟩|⟨b,c,b8,hv,_⟩⟩:=J
  ·simp_all
  ·exact⟨_,c,hv⟩
 ·have Y:=S.hold.tail;refine Holds.cons (L:=L1++X) (Y.keep R (λr F b A E=>(Ag.1 S.hold.apart).1 r F b E A)) J (λr F b A E=>?_) (λb A=>?_)
  ·rcases I b A with h|h
   ·exact(Ag.1 S.hold.apart).1 r F b h E
   ·have:=FA (Y.all r F) E;omega
  ·rcases I b A with h|h
   ·exact B b h
   ·exact .inl (BG q.keep.size h)
def Conv(N:Nat)(w0:World)(M:Nat->Prop)(ds:List Deferred)(L L':List Res):Prop:=∀(g:Nat->Option Value) (a:Act) (w:World) (X:List Res),St N w0 M ds g (L++X) a w->St N w0 M ds g (L'++X) a w
theorem OpT.conv{L':List Res}{post:Value->List Res->Prop}(hc:Conv N w0 M ds L L')(h:OpT P ro N w0 M ds o g L' post):OpT P ro N w0 M ds o g L post:=λa w X next Q m j=>h a w X next Q (hc g a w X m) j
def Fp:=@OpT.conv
theorem zeb{L1:List Res}{b E s n:Nat}{xs:List Value}(hr:Rem L (.blk b E xs) L1)(hx:xs.length=n*s)(hn:n<=maxLen):Conv N w0 M ds L (.row (.slice (some ⟨b,0,none⟩) n n) E s n xs::L1):=by
 intro g a w X C;have m:=C.perm (hr.perm.append_right X);have B:w.heap[b]?=some (.cells xs.toArray E (0,0)):=m.hold.all _ A3;refine⟨m.size,m.agr,m.keep,m.hold.tail.cons ?_ (λr q A j=>?_) (λA j=>m.hold.mine _ A3 A (by cases j;rfl))⟩
 ·exact⟨hx,.inr ⟨b,n,_,rfl,A9 _,B,A6 _,hn,by simpa using hx,by simp[<-hx]⟩⟩
 ·cases j;exact(Ag.1 m.hold.apart).1 r q b rfl
theorem za3(E s:Nat):Conv N w0 M ds L (.row (.slice none 0 0) E s 0 []::L):=λg a w X j=>
 ⟨j.size,j.agr,j.keep,j.hold.cons (World.ownsRow_nil w 0 E s) (λ_ _ b m=>by cases m) (λb m=>by cases m)⟩
theorem Rd.cons{L1:List Res}{r:Res}{a:Option Addr}{B:List Value}(h:Rd w0 M L1 a B):Rd w0 M (r::L1) a B:=λw X m j=>h w X m j.tail
theorem zcf{K:Act->World->Prop}{fr:Fr}{L':List Res}(hc:Conv N w0 M ds L L')(h:SyX N w0 M ds K fr L'):SyX N w0 M ds K fr L:=λa w ⟨m,j,q⟩=>h a w ⟨m,j,hc _ _ _ _ q⟩
theorem zbz{c:Code}{Q:Exit->Act->World->Prop}{fr:Fr}{L':List Res}(hc:Conv N w0 M ds L L')(h:Sy P ro N w0 M ds c Q fr L'):Sy P ro N w0 M ds c Q fr L:=λa w ⟨m,j,q⟩=>h a w ⟨m,j,hc _ _ _ _ q⟩
theorem zlc{L1:List Res}{b E s n c:Nat}{xs J:List Value}(hr:Rem L (.blk b E (xs++J)) L1)(C:(xs++J).length=c*s)(hn:n<=c)(hc:c<=maxLen)(hx:xs.length=n*s):Conv N w0 M ds L (.row (.slice (some ⟨b,0,none⟩) n c) E s n xs::L1):=by
 intro g a w X F;have m:=F.perm (hr.perm.append_right X);have B:w.heap[b]?=some (.cells (xs++J).toArray E (0,0)):=m.hold.all _ A3;refine⟨m.size,m.agr,m.keep,m.hold.tail.cons ?_ (λr q A j=>?_) (λA j=>m.hold.mine _ A3 A (by cases j;rfl))⟩
 ·exact⟨hx,.inr ⟨b,c,_,rfl,A9 _,B,hn,hc,by simpa using C,by simp[hx]⟩⟩
 ·cases j;exact(Ag.1 m.hold.apart).1 r q b rfl
theorem zb4{k m r e size b:Nat}{xs news:List Value}{L1:List Res}{a0:Option Addr}{B:Operand}{w:Operand}(H:o.op= .call { callee:=.builtin .append,args:=#[w,B],argTypes:=#[t,t] } :=by exact rfl)
  (I:ev g w=some (.slice (some ⟨b,0,none⟩) k k):=by exact rfl)(hx:ev g B=some (.slice a0 m r):=by exact rfl)(J:zah P t=some y:=by exact ty rfl)(K:y.desc= .slice e:=by exact rfl)(he:zah P e=some ye:=by exact ty rfl)(q:ye.size=size:=by first|exact(rfl:_=1)|exact(rfl:_=2)|exact(rfl:_=3)|exact(rfl:_=4)|exact(rfl:_=5)|exact rfl)(j:0<size:=by decide)(hz:(za9 P e).map (·.length)=some size:=by (rw[zc rfl];rfl))
  (G:Rem L (.blk b e xs) L1:=by repeat (first|exact Es|apply Eu))(hxn:xs.length=k*size:=by first|rfl|(simp only[A0,Ak];first|assumption|omega)|simp;omega|fail)(hr:Rd w0 M L1 a0 news:=by first|exact Rd.of (FZ (by repeat (first|exact F1|apply F4)) Et)|exact G8 (by repeat (first|exact F1|apply F4))|exact FM (by assumption) (λ_ _ h=>h)|assumption|exact Fz|fail)(hn:news.length=m*size:=by first|rfl|(simp only[A0,Ak];first|assumption|omega)|simp;omega|fail)(h1:news.all (·.oneCell')=true:=by first|exact zgz _ (λ_=>rfl) _|rfl|fail)(E:k+m<=maxLen:=by first|(unfold maxLen;omega)|(unfold maxLen;simp;omega)|fail)(F:(k+m)*ye.bytes<=140737488355328:=by first|(dsimp only;omega)|omega|simp;omega|fail)(hnil:a0=none->r=0:=by first|intro h;cases h;done|exact λ_=>rfl|assumption|fail){km:Nat}{ys:List Value}(hkm:k+m=km:=by first|exact AZ _|rfl)(hys:xs++news=ys:=by first|exact Af _|rfl):
  OpT P ro N w0 M ds o g L (λA C=>C= .row A e size km ys::L1/\∃a c,A= .slice a km c):=
 Fp (zeb G hxn q_o) (zaE H I hx J K he q j hz Es hr.cons hn h1 E F hnil hkm hys)
theorem zgl{m r e size:Nat}{news:List Value}{a0:Option Addr}{B:Operand}{w:Operand}(G:o.op= .call { callee:=.builtin .append,args:=#[w,B],argTypes:=#[t,t] } :=by exact rfl)
    (H:ev g w=some (.slice none 0 0):=by exact rfl)(hx:ev g B=some (.slice a0 m r):=by exact rfl)(I:zah P t=some y:=by exact ty rfl)(J:y.desc= .slice e:=by exact rfl)(he:zah P e=some ye:=by exact ty rfl)(q:ye.size=size:=by first|exact(rfl:_=1)|exact(rfl:_=2)|exact(rfl:_=3)|exact(rfl:_=4)|exact(rfl:_=5)|exact rfl)(j:0<size:=by decide)(hz:(za9 P e).map (·.length)=some size:=by (rw[zc rfl];rfl))
     (hr:Rd w0 M L a0 news:=by first|exact Rd.of (FZ (by repeat (first|exact F1|apply F4)) Et)|exact G8 (by repeat (first|exact F1|apply F4))|exact FM (by assumption) (λ_ _ h=>h)|assumption|exact Fz|fail)(hn:news.length=m*size:=by first|rfl|(simp only[A0,Ak];first|assumption|omega)|simp;omega|fail)(h1:news.all (·.oneCell')=true:=by first|exact zgz _ (λ_=>rfl) _|rfl|fail)(E:0+m<=maxLen:=by first|(unfold maxLen;omega)|(unfold maxLen;simp;omega)|fail)(F:(0+m)*ye.bytes<=140737488355328:=by first|(dsimp only;omega)|omega|simp;omega|fail)(hnil:a0=none->r=0:=by first|intro h;cases h;done|exact λ_=>rfl|assumption|fail):
    OpT P ro N w0 M ds o g L (λA C=>C= .row A e size m news::L/\∃a c,A= .slice a m c):=
  Fp (za3 e size) (zaE G H hx I J he q j hz Es hr.cons hn h1 E F hnil (AZ _) (Af _))
theorem zwu{e n:Nat}{lo co:Operand}{k1 k2:IntKind}{z0:Value}{l c:Int}(I:o.op= .makeSlice t lo co)(W:ev g lo=some (.int k1 l))(hc:ev g co=some (.int k2 c))(Z:zah P t=some y)(hy:y.desc= .slice e)(he:zah P e=some ye)
  (hz:za9 P e=some [z0])(h1:ye.size=1)(B:l=(n:Int))(r:c=(n:Int))(hb:ye.bytes*n<=281474976710656)(hm:n<=maxLen):
  OpT P ro N w0 M ds o g L (λv K=>∃b,v= .slice (some ⟨b,0,none⟩) n n/\K= .blk b e (List.replicate n z0)::L):=
 FC (by rw[I];rfl) λa w X j=>by
  obtain⟨d,i',S,V,q,_⟩:=zV Z;rw[hy] at q;have:=zbm q;subst this;obtain⟨de,J,T,m,_,A,U,_⟩:=zV he;unfold za9 at hz;rw[m] at hz;simp only[Ac,Ah] at hz;obtain⟨H,G,E⟩:=hz;subst B;subst r;obtain⟨Q,R⟩:=zbQ j e (List.replicate n z0);refine⟨_,_,w.alloc (.cells (List.replicate n z0).toArray e),_,?_,.inl rfl,⟨w.heap.size,rfl,rfl⟩,Q,R⟩;have Y:n<=9223372036854775807:=by unfold maxLen at hm;omega
  have F:H.cells= #[z0]:=BA.1 E;have C:=run_make (P:=P) w t e J H S m G k1 k2 n n q_o q_o (by grind) q_o;simp only[Int.toNat_natCast] at C;have O:madeCells H.cells (n*J.size)=(List.replicate n z0).toArray:=by
   rw[A,h1,Ak,F];exact BA.1 (toList_madeCells_one z0 n)
  rw[O] at C;simp[execOp,I,j.agr.eval W,j.agr.eval hc,C]
theorem zwH{e b off E dc F I T:Nat}{a0:Option Addr}{C B:List Value}{R xs:Operand}{L':List Res}(ho:o.op= .call { callee:=.builtin .copy,args:=#[R,xs],argTypes:=#[t,t'] })(Y:ev g R=some (.slice (some ⟨b,off,none⟩) E dc))(hx:ev g xs=some (.slice a0 F I))
  (ht:zah P t=some y)(hy:y.desc= .slice e)(he:zah P e=some ye)(h1:ye.size=1)(hr:Rd w0 M L a0 B)(hn:B.length=Nat.min F E)(hone:B.all (·.oneCell')=true)
  (hL:Upd L (.blk b T C) (.blk b T (zaI C off B)) L')(hC:off+B.length<=C.length):OpT P ro N w0 M ds o g L (Det (.int .i64 B.length) L'):=
 FC (by rw[ho];rfl) λa w X m=>by
  obtain⟨d,i',G,a7,H,_⟩:=zV ht;rw[hy] at H;have:=zbm H;subst this;obtain⟨de,ie,Z,a8,_,a6,_⟩:=zV he;have U:=m.hold.has (r:=.blk b T C) (by obtain⟨A,W,J,_⟩:=hL;subst J;simp[Has]);have hm:=m.hold.mine (.blk b T C) (by obtain⟨A,W,J,_⟩:=hL;subst J;simp) b rfl;have q:=ziN U hC;have V:(Builtin.copy_ #[t,t'] o.type #[.slice (some ⟨b,off,none⟩) E dc,.slice a0 F I]).run P w= .ok (goInt B.length) (w.setCells b off B):=by
   rcases hr w X m.keep m.hold with rfl|⟨S,o',rfl,Q⟩
   ·have:=run_copy_none (P:=P) w t t' o.type e (some ⟨b,off,none⟩) a0 E dc F I G (by simp_all) (by simpa using hn.symm);exact this
   ·exact run_copy_cells (P:=P) w t t' o.type e b off E dc ⟨S,o',none⟩ F I B G (by simp_all) hn (zlR Q) (λj O=>(q j O).1) (λj O=>(q j O).2) (λv hv=>AL.1 hone v hv)
  refine⟨_,_,w.setCells b off B,L',?_,.inl rfl,⟨rfl,rfl⟩,zhd m.keep (FU b B off w) hm,?_⟩
  ·have e1: #[R,xs].map a.eval= #[.slice (some ⟨b,off,none⟩) E dc,.slice a0 F I]:=by simp[m.agr.eval Y,m.agr.eval hx]
   simp_all[execOp,resolve,invoke,builtin,goInt]
  ·exact m.hold.upd hL.append (λS K=> .inl K) (zfe B C off w U hC) ((FU b B off w).mono (λx hx=>by rw[hx];rfl))
theorem zmZ{w:World}{a0:Option Addr}{n c:Nat}{l:List UInt8}(h:SlA w a0 (l.map v8))(hn:l.length=n):(Conv.bytesToString (.slice a0 n c)).run P w= .ok (.string (str l)) w:=by
 have zeK:∀(l:List UInt8) (s:ByteArray),(l.map n8).foldl (λr n=>r.push (UInt8.ofNat n.toNat)) s=⟨s.data++l.toArray⟩:=by
  intro l
  induction l with
  |nil=>intro s;simp
  |cons x l ih=>
   simp_all[n8]
 cases a0 with
 |none=>
  rcases h with h|⟨_,_,h,_⟩
  ·have:l= []:=by simpa using h
   subst this;rfl
  ·cases h
 |some ad=>
  have m:(loadCells ad n).run P w= .ok ((l.map n8).map (Value.int .u8)).toArray w:=by
   rcases h with h|⟨b,off,h,j⟩
   ·have:l= []:=by simpa using h
    subst this;simp only[Ce] at hn;subst hn;rfl
   ·cases h;have:=run_loadCells_list (P:=P) w ⟨b,off,none⟩ (l.map v8) (zlR j)
    simp_all[v8]
  rw[run_bytesToString w ad n c (l.map n8) m,zeK];simp[str,ByteArray.empty,ByteArray.emptyWithCapacity];rfl
theorem zch{e n c:Nat}{a0:Option Addr}{l:List UInt8}(H:o.op= .convert t t' x:=by exact rfl)(hx:ev g x=some (.slice a0 n c):=by exact rfl)(J:zah P t=some y:=by exact ty rfl)(K:y.desc= .slice e:=by exact rfl)(he:zah P e=some ye:=by exact ty rfl)(G:ye.desc= .int .u8:=by exact rfl){I:Ty}(E:zah P t'=some I:=by exact ty rfl)(F:I.desc= .string:=by exact rfl)
  (hr:Rd w0 M L a0 (l.map v8))(hn:l.length=n:=by first|rfl|simp only[A0,AO,AJ,A2];omega|(simp only[A0];first|assumption|omega)|simp;omega|fail):OpT P ro N w0 M ds o g L (Det (.string (str l)) L):=
 F0 (by rw[H];rfl) λa w X m=>by
  obtain⟨d,_,B,_,r,_⟩:=zV J;rw[K] at r;have:=zbm r;subst this;obtain⟨O,_,q,_,j,_⟩:=zV E;rw[F] at j;have:=zfU j;subst this;obtain⟨Q,_,C,_,A,_⟩:=zV he;rw[G] at A;have:=zkz A;subst this;simp[execOp,H,m.agr.eval hx,run_convert_bytes_string w t t' e a0 n c B C q,zmZ (hr w X m.keep m.hold) hn]
end Go.Sy
