/- Lemmas. -/
import Derived.Test.YtdnlngbjpdbffaaGreatDoorZJ01
import Derived.Laws.IdiomCopy
import Derived.Laws.AppendOwn
import Derived.Laws.OwnMore
import Derived.Laws.BytesString
import Derived.Test.YtdnlngbjpdbffaaGreatDoorZJ02
set_option linter.all false
namespace Go.Sy
open Go
variable {P:Program}{ro:Option Nat}{N:Nat}{w0:World}{M:Nat->Prop}{ds:List Deferred}{g:Nat->Option Value}{L:List Res}{o:Oper}{t t':TypeId}{x z:Operand}{y:Ty}
theorem znV{w:World}{u v:Value}{b:Bool}(h:∀d,(Op.equalIn (d+1) t u v).run P w= .ok b w):(Op.equal t u v).run P w= .ok b w:=h 9999
theorem zov{e:Nat}{a0:Option Addr}(m:o.op= .binOp .eql t x z t':=by exact rfl)(hx:ev g x=some (.pointer a0):=by exact rfl)(hz:ev g z=some (.pointer none):=by exact rfl)(E:zah P t=some y:=by exact ty rfl)(F:y.desc= .pointer e:=by exact rfl):OpT P ro N w0 M ds o g L (Det (.bool a0.isNone) L):=
 F4 (by rw[m];rfl) λa w X q=>by
  obtain⟨d,G,r,B,j,_⟩:=zX E;rw[F] at j;have:=zoW j;subst this;have A:(Op.equal t (.pointer a0) (.pointer none)).run P w= .ok a0.isNone w:=znV λd=>by cases a0 <;> simp[Op.equalIn,run_underlying r]
  simp[execOp,m,q.agr.eval hx,q.agr.eval hz,eqGuard,binOp,A]
theorem zm1{e n c n' c':Nat}{a0:Option Addr}(m:o.op= .binOp .eql t x z t':=by exact rfl)(hx:ev g x=some (.slice a0 n c):=by exact rfl)(hz:ev g z=some (.slice none n' c'):=by exact rfl)(E:zah P t=some y:=by exact ty rfl)(F:y.desc= .slice e:=by exact rfl):OpT P ro N w0 M ds o g L (Det (.bool a0.isNone) L):=
 F4 (by rw[m];rfl) λa w X q=>by
  obtain⟨d,G,r,B,j,_⟩:=zX E;rw[F] at j;have:=zbp j;subst this;have A:(Op.equal t (.slice a0 n c) (.slice none n' c')).run P w= .ok a0.isNone w:=znV λd=>by cases a0 <;> simp[Op.equalIn,run_underlying r]
  simp[execOp,m,q.agr.eval hx,q.agr.eval hz,eqGuard,binOp,A]
theorem zjb{a b r:Bool}(m:o.op= .binOp .eql t x z t':=by exact rfl)(hx:ev g x=some (.bool a):=by exact rfl)(hz:ev g z=some (.bool b):=by exact rfl)(E:zah P t=some y:=by exact ty rfl)(F:y.desc= .bool:=by exact rfl)(hr:(a==b)=r:=by exact rfl):OpT P ro N w0 M ds o g L (Det (.bool r) L):=
 F4 (by rw[m];rfl) λ_ w X q=>by
  obtain⟨d,H,A,B,j,_⟩:=zX E;rw[F] at j;have:=zso j;subst this;have G:(Op.equal t (.bool a) (.bool b)).run P w= .ok (a==b) w:=znV λd=>by simp[Op.equalIn,run_underlying A]
  subst hr;simp only[execOp,m,q.agr.eval hx,q.agr.eval hz,eqGuard,binOp,Sem.run_bind,Sem.run_pure];simp_all
def str(l:List UInt8):ByteArray:=⟨l.toArray⟩
theorem zky(l:List UInt8):(str l).size=l.length:=rfl
theorem zk9(l:List UInt8):(str l).toList=l:=by rw[ByteArray.toList_eq];rfl
theorem zbJ{a b:List UInt8}{r:Bool}(j:o.op= .binOp .eql t x z t':=by exact rfl)(hx:ev g x=some (.string (str a)):=by exact rfl)(hz:ev g z=some (.string (str b)):=by exact rfl)(hr:decide (a=b)=r:=by first|exact decide_eq_true (by first|rfl|assumption)|exact decide_eq_false (by assumption)|fail):OpT P ro N w0 M ds o g L (Det (.bool r) L):=
 F4 (by rw[j];rfl) λ_ w X m=>by
  have:(a==b)=r:=by rw[<-hr];by_cases h:a=b <;> simp[h]
  simp[execOp,j,m.agr.eval hx,m.agr.eval hz,eqGuard,binOp,Op.stringOp,zk9,this]
theorem zco{a b:List UInt8}{r:Bool}(j:o.op= .binOp .neq t x z t':=by exact rfl)(hx:ev g x=some (.string (str a)):=by exact rfl)(hz:ev g z=some (.string (str b)):=by exact rfl)(hr:decide (a≠b)=r:=by first|exact decide_eq_true (by assumption)|exact decide_eq_false (by first|exact λh=>h rfl|assumption)|fail):OpT P ro N w0 M ds o g L (Det (.bool r) L):=
 F4 (by rw[j];rfl) λ_ w X m=>by
  have:(!(a==b))=r:=by rw[<-hr];by_cases h:a=b <;> simp[h]
  simp[execOp,j,m.agr.eval hx,m.agr.eval hz,eqGuard,binOp,Op.stringOp,zk9,this]
theorem zgS{parts:Array (Nat×Operand)}{vs:List Value}{C:List Value}(j:o.op= .build t parts)(hv:evs g (parts.toList.map (·.2))=some vs)(hb:P.built t (List.zip (parts.toList.map (·.1)) vs)=some C.toArray):OpT P ro N w0 M ds o g L (Det (.agg C.toArray) L):=
 F4 (by rw[j];rfl) λa w X m=>by
  have e:(parts.map λ(i,x)=>(i,a.eval x)).toList=List.zip (parts.toList.map (·.1)) vs:=by
   rw[Bj,<-m.agr.evals hv,CY,List.zip_map'];rfl
  simp_all[run_build,execOp]
def ze8:Nat->List (Nat×Operand)->Bool
 |_,[]=>true
 |k,p::l=>Nat.beq p.1 k&&ze8 (k+1) l
theorem zm2:∀(l:List Value) (A D:List Value),D.length=l.length->(∀v∈l,v.cells.size=1/\v.cells= #[v])->
  Instr.fill (λi=>some (i*1,1)) (A++D).toArray (l.zipIdx A.length |>.map λp=>(p.2,p.1))=some (A++l).toArray
 | [],A,D,h,_=>by simp_all[Instr.fill]
 |v::l,A,D,h,h1=>by
  obtain⟨d,j,rfl⟩:∃d j,D=d::j:=by cases D with
   |nil=>simp at h
   |cons d j=>exact⟨d,j,rfl⟩
  obtain⟨m,q⟩:=h1 v A3;have r:=zm2 l (A++[v]) j (by simpa using h) (λu hu=>h1 u (A1 _ hu))
  simp_all[Instr.fill]
theorem zmW{v:Value}(h:v.oneCell'=true):v.cells.size=1/\v.cells= #[v]:=by cases v <;> first|exact⟨rfl,rfl⟩|(simp[Value.oneCell'] at h)
theorem zz{len e:Nat}{parts:Array (Nat×Operand)}{vs:List Value}{ye:Ty}(S:o.op= .buildSlice t len parts:=by exact rfl)(hp:ze8 0 parts.toList=true:=by exact rfl)(hv:evs g (parts.toList.map (·.2))=some vs:=by exact rfl)(Q:vs.length=len:=by exact rfl)
  (ht:zah P t=some y:=by exact ty rfl)(hy:y.desc= .slice e:=by exact rfl)(he:zah P e=some ye:=by exact ty rfl)(h1:ye.size=1:=by exact rfl)(hz:(zbd P e).map (·.length)=some 1:=by (rw[zc rfl];rfl))(hc:vs.all (·.oneCell')=true:=by exact rfl)(hs:vs.length<=16777216:=by exact A5 rfl)(B:vs≠[]:=by exact E8 _ _):
  OpT P ro N w0 M ds o g L (λv U=>∃b,v= .slice (some ⟨b,0,none⟩) len len/\U= .blk b e vs::L):=
 FH (by rw[S];rfl) λa w X G=>by
  obtain⟨d,i',Z,a7,F,_⟩:=zX ht;rw[hy] at F;have:=zbp F;subst this;obtain⟨de,T,a6,A,_,q,_⟩:=zX he;obtain⟨I,m,a9⟩:=Ab.1 hz;obtain⟨W,Y⟩:=zbT G e vs;unfold zbd at m;rw[A] at m;simp only[Ac,Ab] at m;obtain⟨r,H,a8⟩:=m;have O:∀u,T.zero=some u->u.cells.size=1:=λu hu=>by grind
  have R:(0:Nat)<len:=by rw[<-Q];exact List.length_pos_iff.2 B
  have j:∀(l:List (Nat×Operand)) (k:Nat),ze8 k l=true->(l.map λp=>(p.1,a.eval p.2))=((l.map λp=>a.eval p.2).zipIdx k).map λp=>(p.2,p.1):=by
   intro l
   induction l with
   |nil=>intro k _;rfl
   |cons p l ih=>
    intro k hk;simp only[ze8,A8] at hk
    grind [Nat.eq_of_beq_eq_true,List.zipIdx_cons]
  have J:(parts.toList.map λp=>a.eval p.2)=vs:=by
   have:=G.agr.evals hv;rw[CY] at this;exact this
  have hf:=zm2 vs [] (List.replicate len (r.cells[0]!)) (by simp[Q]) (λv K=>zmW (AF.1 hc v K));have E:=run_buildSlice (P:=P) w t e len (parts.map λ(i,x)=>(i,a.eval x)) vs.toArray T r Z A H (by rw[q,h1];omega) (by rw[q,h1];omega) (by
   rw[q,h1,Bj];have:=j parts.toList 0 hp;rw[J] at this;have V:(parts.toList.map λ(i,x)=>(i,a.eval x))=parts.toList.map λp=>(p.1,a.eval p.2):=rfl;rw[V,this];have e6:(Array.range (len*1)).map (r.cells[· % r.cells.size]!)=([]++List.replicate len (r.cells[0]!)).toArray:=by
    have b0:r.cells.size=1:=O r H;apply Array.ext
    ·simp
    ·grind
   simp_all)
  refine⟨_,_,w.alloc (.cells vs.toArray e),_,?_,.inl rfl,⟨w.heap.size,rfl,rfl⟩,W,Y⟩;simp[execOp,S,E]
theorem zfH{e:Nat}(r:o.op= .buildSlice t 0 #[]:=by exact rfl)(H:zah P t=some y:=by exact ty rfl)(I:y.desc= .slice e:=by exact rfl){ye:Ty}(he:zah P e=some ye:=by exact ty rfl):
  OpT P ro N w0 M ds o g L (λv A=>∃b,v= .slice (some ⟨b,0,none⟩) 0 0/\A= .blk b e []::L):=
 FH (by rw[r];rfl) λa w X q=>by
  obtain⟨d,J,F,G,m,_⟩:=zX H;rw[I] at m;have:=zbp m;subst this;obtain⟨B,E⟩:=zbT q e [];have j:(Instr.buildSlice t 0 #[]).run P w= .ok (.slice (some ⟨w.heap.size,0,none⟩) 0 0) (w.alloc (.cells #[] e)):=by
   simp[Instr.buildSlice,run_underlying F,zbV he,Instr.fill,newRow];have:Array.map (λ_=>(default:Value)) (Array.range 0)= #[]:=Array.eq_empty_of_size_eq_zero q_p;rw[this]
  refine⟨_,_,w.alloc (.cells #[] e),_,?_,.inl rfl,⟨w.heap.size,rfl,rfl⟩,B,E⟩;simp[execOp,r,j]
inductive Fits(pl:Nat->Option (Nat×Nat)):Nat->Nat->List Value->List Value->Prop
 |nil {i off:Nat} :Fits pl i off [] []
 |cons {i off n:Nat}{v:Value}{cs vs R:List Value}(hv:v.cells=cs.toArray) (hp:pl i=some (off,n)) (hl:cs.length=n) (h:Fits pl (i+1) (off+n) vs R):Fits pl i off (v::vs) (cs++R)
theorem Fits.one{pl:Nat->Option (Nat×Nat)}{i off:Nat}{v:Value}{vs R:List Value}(h1:v.oneCell'=true)(hp:pl i=some (off,1))(h:Fits pl (i+1) (off+1) vs R):Fits pl i off (v::vs) (v::R):=
 Fits.cons (cs:=[v]) (zmW h1).2 hp rfl h
theorem Fits.agg{pl:Nat->Option (Nat×Nat)}{i off n:Nat}{cs vs R:List Value}(hp:pl i=some (off,n))(j:cs.length=n)(h:Fits pl (i+1) (off+n) vs R):Fits pl i off (.agg cs.toArray::vs) (cs++R):=Fits.cons rfl hp j h
theorem zjg:∀(m A D:List Value) (b k:Nat),A.length=b+k->m.length<=D.length->
  ((m.zipIdx k).foldl (λ(a:Array Value) p=>a.setIfInBounds (b+p.2) p.1) (A++D).toArray)=(A++m++D.drop m.length).toArray
 | [],A,D,b,k,_,_=>by simp
 |c::m,A,D,b,k,h,hl=>by
  obtain⟨d,j,rfl⟩:∃d j,D=d::j:=by cases D with
   |nil=>simp at hl
   |cons d j=>exact⟨d,j,rfl⟩
  rw[E9,EO];have e:((A++d::j).toArray.setIfInBounds (b+k) c)=((A++[c])++j).toArray:=by
   rw[<-h];simp
  have:=zjg m (A++[c]) j b (k+1) (by simp;omega) (by simpa using hl);simp only at*;rw[e,this];simp
theorem ziV{pl:Nat->Option (Nat×Nat)} :∀(m:List Value) (i off:Nat) (R A D:List Value),Fits pl i off m R->A.length=off->D.length=R.length->
  Instr.fill pl (A++D).toArray ((m.zipIdx i).map λp=>(p.2,p.1))=some (A++R).toArray
 | [],i,off,R,A,D,h,ha,hd=>by
  cases h;have:D= []:=Av.1 hd;subst this;simp[Instr.fill]
 |v::m,i,off,R,A,D,h,ha,hd=>by
  cases h with
  | @cons _ _ n _ cs _ R' hv hp hl h'=>
   simp only[E9,Au,Instr.fill,hp,hv];rw[A4] at hd;rw[if_neg (by simp;omega)];have e:=zjg cs A D off 0 q_o q_o;have q:(cs.toArray.zipIdx.foldl (λ(a:Array Value) (p:Value×Nat)=>a.setIfInBounds (off+p.2) p.1) (A++D).toArray)=(A++cs++D.drop cs.length).toArray:=by rw[<-e];simp
   have r:(cs.toArray.zipIdx.foldl (λ(a:Array Value) (x:Value×Nat)=>match x with|(c,j)=>a.setIfInBounds (off+j) c) (A++D).toArray)=(A++cs++D.drop cs.length).toArray:=q;rw[r];have w:=ziV m (i+1) (off+n) R' (A++cs) (D.drop cs.length) h' (by simp;omega) (by simp;omega);rw[w];simp
theorem zhA:∀(l:List (Nat×Operand)) (k:Nat) (j:List Value),ze8 k l=true->j.length=l.length->List.zip (l.map (·.1)) j=(j.zipIdx k).map λp=>(p.2,p.1)
 | [],k,j,_,hl=>by have:j= []:=Av.1 hl;subst this;rfl
 |p::l,k,[],_,hl=>by simp at hl
 |p::l,k,v::j,hk,hl=>by
  simp only[ze8,A8] at hk;have:=C6 hk.1;simp only[Au,DG,E9,zhA l (k+1) j hk.2 (by simpa using hl),this]
theorem zqg{g:Nat->Option Value} :∀ {l:List Operand}{j:List Value},evs g l=some j->j.length=l.length:=by
 intro l
 induction l with
 |nil=>simp[evs]
 |cons x l ih=>
  grind [evs]
theorem zmu{n e:Nat}{parts:Array (Nat×Operand)}{vs R Z:List Value}{ye:Ty}(H:o.op= .build t parts:=by exact rfl)(hp:ze8 0 parts.toList=true:=by exact rfl)(hv:evs g (parts.toList.map (·.2))=some vs:=by exact rfl)(I:zah P t=some y:=by exact ty rfl)(J:y.desc= .array n e:=by exact rfl)
  (he:zah P e=some ye:=by exact ty rfl)(hz:zbd P t=some Z:=by exact zc rfl)(F:Fits (λi=>some (i*ye.size,ye.size)) 0 0 vs R:=by repeat (first|exact Fits.nil|exact Fits.last rfl (by first|rfl|simp only[A0,AO,AL,A4];omega|(simp only[A0];first|assumption|omega)|simp;omega|fail)|apply Fits.one rfl rfl|apply Fits.agg rfl (by first|rfl|simp only[A0,AO,AL,A4];omega|(simp only[A0];first|assumption|omega)|simp;omega|fail)|fail))(G:Z.length=R.length:=by first|rfl|simp only[A0,AO,AL,A4];omega|(simp only[A0];first|assumption|omega)|simp;omega|fail):OpT P ro N w0 M ds o g L (Det (.agg R.toArray) L):=by
 refine zgS H hv ?_;obtain⟨d,i,B,w,A,_⟩:=zX I;rw[J] at A;have:=zdk A;subst this;obtain⟨O,Q,E,m,_,j,_⟩:=zX he;unfold zbd at hz;rw[w] at hz;simp only[Ac,Ab] at hz;obtain⟨K,r,q⟩:=hz;rw[zhA _ 0 vs hp (by simpa using zqg hv)];simp only[Program.built,w,B,r,m,j];have:=ziV vs 0 0 R [] Z F rfl G;rw[show K.cells=([]++Z).toArray by rw[<-q];simp];rw[this];rfl
theorem zgb{P:Program} :∀(l:List Field),(l.map λf=>(f.offset,P.cellsOf f.type)).all (λp=>!Nat.beq p.2 0)=true->
  l.mapM (λf=>(P.info? f.type).map λi=>(f.offset,i.size))=some (l.map λf=>(f.offset,P.cellsOf f.type))
 | [],_=>rfl
 |f::l,h=>by
  simp only[Au,BV,A8] at h;obtain⟨j,m⟩:=h;rw[List.mapM_cons,zgb l m];cases hi:P.info? f.type with
  |none=>
   have:P.cellsOf f.type=0:=by simp[Program.cellsOf,hi]
   rw[this] at j;cases j
  |some i=>simp[Program.cellsOf,hi]
theorem zg8{parts:Array (Nat×Operand)}{vs R Z:List Value}(G:o.op= .build t parts:=by exact rfl)(hp:ze8 0 parts.toList=true:=by exact rfl)(hv:evs g (parts.toList.map (·.2))=some vs:=by exact rfl)(H:zah P t=some y:=by exact ty rfl)(I:y.desc= .struct #[]:=by exact rfl)
  (hn:y.flds.all (λp=>!Nat.beq p.2 0)=true:=by exact rfl)(hz:zbd P t=some Z:=by exact zc rfl)(E:Fits (nth y.flds) 0 0 vs R:=by repeat (first|exact Fits.nil|exact Fits.last rfl (by first|rfl|simp only[A0,AO,AL,A4];omega|(simp only[A0];first|assumption|omega)|simp;omega|fail)|apply Fits.one rfl rfl|apply Fits.agg rfl (by first|rfl|simp only[A0,AO,AL,A4];omega|(simp only[A0];first|assumption|omega)|simp;omega|fail)|fail))(F:Z.length=R.length:=by first|rfl|simp only[A0,AO,AL,A4];omega|(simp only[A0];first|assumption|omega)|simp;omega|fail):OpT P ro N w0 M ds o g L (Det (.agg R.toArray) L):=by
 refine zgS G hv ?_;obtain⟨d,i,B,r,w,_,_,j⟩:=zX H;rw[I] at w;obtain⟨A,rfl⟩:=zf3 w;simp only at j;unfold zbd at hz;rw[r] at hz;simp only[Ac,Ab] at hz;obtain⟨J,q,m⟩:=hz;rw[zhA _ 0 vs hp (by simpa using zqg hv)];rw[j] at hn;simp only[Program.built,r,B,q,zgb _ hn];have:=ziV vs 0 0 R [] Z E rfl F;rw[show J.cells=([]++Z).toArray by rw[<-m];simp];rw[show(λx=>(List.map (λf=>(f.offset,P.cellsOf f.type)) A.toList).toArray[x]?)=nth y.flds by funext x;rw[zhU,j];simp];rw[this];rfl
theorem zeY{Z:List Value}(J:o.op= .build t #[])(K:zah P t=some y)(m:(y.desc= .struct #[]/\y.flds.all (λp=>!Nat.beq p.2 0)=true)\/∃n e ye,y.desc= .array n e/\zah P e=some ye)(hz:zbd P t=some Z):OpT P ro N w0 M ds o g L (Det (.agg Z.toArray) L):=by
 refine zgS (vs:=[]) J rfl ?_;obtain⟨d,i,E,A,w,_,_,j⟩:=zX K;unfold zbd at hz;rw[A] at hz;simp only[Ac,Ab] at hz;obtain⟨S,r,q⟩:=hz;rcases m with ⟨m,F⟩|⟨n,e,ye,m,H⟩
 ·rw[m] at w;obtain⟨Q,rfl⟩:=zf3 w;simp only at j;rw[j] at F;simp[Program.built,A,E,r,zgb _ F,Instr.fill,<-q]
 ·rw[m] at w;have:=zdk w;subst this;obtain⟨O,R,G,B,_,I,_⟩:=zX H;simp[Program.built,A,E,r,B,Instr.fill,<-q]
open Go.Wd
def v8(x:UInt8):Value:=.int .u8 (n8 x)
def v32(x:UInt32):Value:=.int .u32 (n32 x)
theorem zgB{α:Type}(f:α->Value)(j:∀x,(f x).oneCell'=true)(l:List α):(l.map f).all (·.oneCell')=true:=by simp_all
variable {ye:Ty}
theorem zvI{K:Act->World->Prop}{fr:Fr}{L1:List Res}{v:Value}{E s n:Nat}{xs:List Value}(hr:Rem L (.row v E s n xs) L1)(hn:0<n)
  (h:∀b c J,v= .slice (some ⟨b,0,none⟩) n c->(xs++J).length=c*s->n<=c->c<=maxLen->xs.length=n*s->SyX N w0 M ds K fr (.blk b E (xs++J)::L1)):SyX N w0 M ds K fr L:=by
 rintro a w ⟨Q,F,Y⟩;have q:=Y.perm (hr.perm.append_right _);have A:w.ownsRow 0 E s v n xs:=q.hold.all _ A3;obtain⟨R,⟨_,Z⟩|⟨b,c,j,O,_,S,T,U,V,W⟩⟩:=A
 ·omega
 ·have B:j.toList=xs++j.toList.drop (n*s):=by rw[<-W,Bc]
  have X:(xs++j.toList.drop (n*s)).length=c*s:=by rw[<-B];simpa using V
  refine h b c (j.toList.drop (n*s)) O X T U R a w ⟨Q,F,q.size,q.agr,q.keep,?_⟩;have I:(Res.row v E s n xs).own b:=by show v.ownBlock=some b;rw[O];rfl
  refine q.hold.tail.cons ?_ (λr G H m=>?_) (λH m=>q.hold.mine _ A3 H (by cases m;exact I))
  ·show w.heap[b]?=_;rw[S,<-B]
  ·cases m;exact(Ah.1 q.hold.apart).1 r G b I
theorem zmh{c:Code}{Q:Exit->Act->World->Prop}{fr:Fr}{L1:List Res}{a:Option Addr}{E s n cp:Nat}{xs:List Value}(hr:Rem L (.row (.slice a n cp) E s n xs) L1)(hn:0<n)
  (h:∀b J,a=some ⟨b,0,none⟩->(xs++J).length=cp*s->n<=cp->cp<=maxLen->xs.length=n*s->Sy P ro N w0 M ds c Q fr (.blk b E (xs++J)::L1)):Sy P ro N w0 M ds c Q fr L:=λj w F=>
 zvI (K:=λj w=>c.wpIn (FW ro) 0 P Q j w) hr hn (λb m J G q r A B=>by cases G;exact h b J rfl q r A B) j w F
theorem zof{b l m:Nat}(h:l<m):zbB (some ⟨b,0,none⟩) l m 1=some ⟨b,l,none⟩:=by simp_all[zjV]
theorem zfC{b off l m:Nat}(h:l<m):zbB (some ⟨b,off,none⟩) l m 1=some ⟨b,off+l,none⟩:=by rw[zjV h,Al]
theorem zce{e n c l h m n' c' es:Nat}{lo q mx:Option Operand}{a0 a':Option Addr}{ye:Ty}(B:o.op= .slice t x lo q mx:=by exact rfl)(hx:ev g x=some (.slice a0 n c):=by exact rfl)(E:zah P t=some y:=by exact ty rfl)(F:y.desc= .slice e:=by exact rfl)(he:zah P e=some ye:=by exact ty rfl)
  (j:ye.size=es:=by first|exact(rfl:_=1)|exact(rfl:_=2)|exact(rfl:_=3)|exact(rfl:_=4)|exact(rfl:_=5)|exact rfl)(A:bnd g lo 0 l:=by first|exact zbN|exact zan rfl rfl|exact zan rfl (zbx _ _)|exact zan rfl (AT q_o).symm|fail)(hh:bnd g q n h:=by first|exact zbN|exact zan rfl rfl|exact zan rfl (zbx _ _)|exact zan rfl (AT q_o).symm|fail)(hm:bnd g mx c m:=by first|exact zbN|exact zan rfl rfl|exact zan rfl (zbx _ _)|exact zan rfl (AT q_o).symm|fail)(h1:l<=h:=by first|omega|simp only[A0,AO];omega|simp;omega|fail)(h2:h<=m:=by first|omega|simp only[A0,AO];omega|simp;omega|fail)(w:m<=c:=by first|omega|simp only[A0,AO];omega|simp;omega|fail)(r:q.isSome=true\/mx=none:=by first|exact .inl rfl|exact .inr rfl)
  (ha:zbB a0 l m es=a':=by first|assumption|exact zmv _ _ _|exact zof q_o|exact zfC q_o|exact zjV q_o|rfl|fail)(hn':h-l=n':=by first|with_reducible exact CD _|with_reducible exact Bk _ _|with_reducible exact Aw _ _|rfl|omega)(hc':m-l=c':=by first|with_reducible exact CD _|with_reducible exact Bk _ _|with_reducible exact Aw _ _|rfl|omega):OpT P ro N w0 M ds o g L (Det (.slice a' n' c') L):=by
 subst j;subst ha;subst hn';subst hc';exact zvB B hx E F he A hh hm h1 h2 w r
theorem zc4{e n l h m n' c' es b off:Nat}{lo q mx:Option Operand}{a':Option Addr}{ye:Ty}(B:o.op= .slice t x lo q mx:=by exact rfl)(hx:ev g x=some (.pointer (some ⟨b,off,none⟩)):=by exact rfl)(E:zah P t=some y:=by exact ty rfl)(F:y.desc= .array n e:=by exact rfl)(he:zah P e=some ye:=by exact ty rfl)
  (j:ye.size=es:=by first|exact(rfl:_=1)|exact(rfl:_=2)|exact(rfl:_=3)|exact(rfl:_=4)|exact(rfl:_=5)|exact rfl)(A:bnd g lo 0 l:=by first|exact zbN|exact zan rfl rfl|exact zan rfl (zbx _ _)|exact zan rfl (AT q_o).symm|fail)(hh:bnd g q n h:=by first|exact zbN|exact zan rfl rfl|exact zan rfl (zbx _ _)|exact zan rfl (AT q_o).symm|fail)(hm:bnd g mx n m:=by first|exact zbN|exact zan rfl rfl|exact zan rfl (zbx _ _)|exact zan rfl (AT q_o).symm|fail)(h1:l<=h:=by first|omega|simp only[A0,AO];omega|simp;omega|fail)(h2:h<=m:=by first|omega|simp only[A0,AO];omega|simp;omega|fail)(w:m<=n:=by first|omega|simp only[A0,AO];omega|simp;omega|fail)(r:q.isSome=true\/mx=none:=by first|exact .inl rfl|exact .inr rfl)
  (ha:zbB (some ⟨b,off,none⟩) l m es=a':=by first|assumption|exact zmv _ _ _|exact zof q_o|exact zfC q_o|exact zjV q_o|rfl|fail)(hn':h-l=n':=by first|with_reducible exact CD _|with_reducible exact Bk _ _|with_reducible exact Aw _ _|rfl|omega)(hc':m-l=c':=by first|with_reducible exact CD _|with_reducible exact Bk _ _|with_reducible exact Aw _ _|rfl|omega):OpT P ro N w0 M ds o g L (Det (.slice a' n' c') L):=by
 subst j;subst ha;subst hn';subst hc';exact zp0 B hx E F he A hh hm h1 h2 w r
theorem zl1{w:World}{b off:Nat}{B:List Value}(h:w.rangeAt b off B):∀j u,B[j]?=some u->w.cell? ((⟨b,off,none⟩:Addr).add j)=some u:=λj u m=>by
 rw[Addr.add_mid];exact h j u m
theorem zl7(w:World){ty e size bytes:Nat}{i:TypeInfo}{zv:Value}(S:P.underlying t=some (.slice e))(T:P.info? e=some i)(hz:i.zero=some zv)(q:i.size=size)(E:i.bytes=bytes)(O:zv.cells.size=size)(B:0<size)
  {v:Value}{k m c:Nat}{xs news:List Value}(A:w.ownsRow 0 e size v k xs){G:Addr}(hn:news.length=m*size)(hc:∀j u,news[j]?=some u->w.cell? (G.add j)=some u)(h1:∀u∈news,u.oneCell'=true)(W:k+m<=maxLen)(X:(k+m)*bytes<=140737488355328):
  ∃Q R,(Builtin.append_ #[t,t] ty #[v,.slice (some G) m c]).run P w= .ok Q R/\R.ownsRow 0 e size Q (k+m) (xs++news)/\w.grownBy R v.ownBlock/\∀b,Q.ownBlock=some b->v.ownBlock=some b\/w.heap.size<=b:=by
 obtain⟨Q,R,V,r2,r3,_⟩:=run_append_own (P:=P) w 0 t ty e i zv size bytes S T hz q E O B v k xs A G m c news hn hc h1 W X (AA _);refine⟨Q,R,V,r2,r3,λb Y=>?_⟩;obtain⟨U,⟨rfl,rfl⟩|⟨g,cap,H,rfl,_,hg,K,I,J,r⟩⟩:=A
 ·have Z:xs= []:=Av.1 (by rw[U];simp);subst Z;obtain⟨a7,a6,s1,s2,_,_⟩:=run_append_own (P:=P) w w.heap.size t ty e i zv size bytes S T hz q E O B (.slice none 0 0) 0 [] (World.ownsRow_nil w _ e size) G m c news hn hc h1 W X (A7 _);rw[V] at s1;cases s1;exact .inr (World.ownsRow.lt s2 b Y).1
 ·by_cases hroom:k+m<=cap
  ·obtain⟨a6,s1,_,_⟩:=run_append_fits (P:=P) w 0 t ty e i size S T q g k cap xs ⟨U,.inr ⟨g,cap,H,rfl,AA _,hg,K,I,J,r⟩⟩ G m c news hn hc h1 hroom;rw[V] at s1;cases s1;exact .inl Y
  ·have F:w.ownsRow 0 e size (.slice (some ⟨g,0,none⟩) k cap) k xs:=⟨U,.inr ⟨g,cap,H,rfl,AA _,hg,K,I,J,r⟩⟩;have s1:=run_append_grow (P:=P) w t ty e i zv S T hz ⟨g,0,none⟩ k cap xs (by rw[q];exact U) (F.cells (g:=g) rfl) G m c news (by rw[q];exact hn) hc q_o (by unfold maxLen at W;omega) (growslice_fits q_o (by rw[E];exact X));rw[V] at s1;cases s1;cases Y;simp
theorem zaz{k m Y e size:Nat}{v:Value}{xs news:List Value}{L1:List Res}{a0:Option Addr}{xo:Operand}{so:Operand}(ho:o.op= .call { callee:=.builtin .append,args:=#[so,xo],argTypes:=#[t,t] } :=by exact rfl)
  (hs:ev g so=some v:=by exact rfl)(hx:ev g xo=some (.slice a0 m Y):=by exact rfl)(Z:zah P t=some y:=by exact ty rfl)(hy:y.desc= .slice e:=by exact rfl)(he:zah P e=some ye:=by exact ty rfl)(b4:ye.size=size:=by first|exact(rfl:_=1)|exact(rfl:_=2)|exact(rfl:_=3)|exact(rfl:_=4)|exact(rfl:_=5)|exact rfl)(U:0<size:=by decide)(hz:(zbd P e).map (·.length)=some size:=by (rw[zc rfl];rfl))
  (hL:Rem L (.row v e size k xs) L1:=by repeat (first|exact Eu|apply Ew))(hr:Rd w0 M L a0 news:=by first|exact Rd.of (Ff (by repeat (first|exact F5|apply F8)) Ex)|exact GA (by repeat (first|exact F5|apply F8))|exact FQ (by assumption) (λ_ _ h=>h)|assumption|exact G9|fail)(hn:news.length=m*size:=by first|rfl|(simp only[A0,Al];first|assumption|omega)|simp;omega|fail)(h1:news.all (·.oneCell')=true:=by first|exact zgB _ (λ_=>rfl) _|rfl|fail)(b1:k+m<=maxLen:=by first|(unfold maxLen;omega)|(unfold maxLen;simp;omega)|fail)(b2:(k+m)*ye.bytes<=140737488355328:=by first|(dsimp only;omega)|omega|simp;omega|fail)(hnil:a0=none->Y=0:=by first|intro h;cases h;done|exact λ_=>rfl|assumption|fail){km:Nat}{ys:List Value}(hkm:k+m=km:=by first|exact Aa _|rfl)(hys:xs++news=ys:=by first|exact Ag _|rfl):
  OpT P ro N w0 M ds o g L (λI L'=>L'= .row I e size km ys::L1/\∃a c,I= .slice a km c):=by
 subst hkm;subst hys;refine FH (by rw[ho];rfl) λa w X q=>?_;obtain⟨d,i',hd,c1,V,_⟩:=zX Z;rw[hy] at V;have:=zbp V;subst this;obtain⟨de,ie,c0,O,_,a8,a7,_⟩:=zX he;obtain⟨a6,H,W⟩:=Ab.1 hz;unfold zbd at H;rw[O] at H;simp only[Ac,Ab] at H;obtain⟨zv,b7,b5⟩:=H;have b6:zv.cells.size=size:=by rw[<-b5] at W;simpa using W
 have T:=q.perm (hL.append (X:=X)).perm;have E:w.ownsRow 0 e size v k xs:=T.hold.all _ A3;have B:=λb A=>T.hold.mine (.row v e size k xs) A3 b A;have key:∃I R,(Builtin.append_ #[t,t] o.type #[v,.slice a0 m Y]).run P w= .ok I R/\R.ownsRow 0 e size I (k+m) (xs++news)/\w.grownBy R v.ownBlock/\∀b,I.ownBlock=some b->v.ownBlock=some b\/w.heap.size<=b:=by
  cases a0 with
  |none=>
   have b0:news= []:=by
    rcases hr w X q.keep q.hold with h|⟨b,off,h,_⟩
    ·exact h
    ·cases h
   subst b0;have hm:m=0:=by
    simp only[Cj] at hn;rcases Nat.mul_eq_zero.1 hn.symm with h|h
    ·exact h
    ·omega
   subst hm;obtain rfl:=hnil rfl;exact⟨v,w,run_append_owned_none (P:=P) w 0 t o.type e ie size hd O v k xs E,by simpa using E,⟨rfl,rfl,rfl,A7 _,λ_ _ _=>rfl⟩,λb A=> .inl A⟩
  |some ad=>
   refine zl7 (P:=P) w hd O b7 (by rw[a8,b4]) a7 b6 U E hn (λj u hj=>?_) (λu hu=>AF.1 h1 u hu) b1 b2;rcases hr w X q.keep q.hold with h|⟨b,off,h,b3⟩
   ·rw[h] at hj;simp at hj
   ·cases h;exact zl1 b3 j u hj
 obtain⟨I,R,b8,K,a9,J⟩:=key;have S:Keep (λb=>v.ownBlock=some b) w R:=Keep.grown a9;have Q:Keep M w0 R:=q.keep.trans S (λb A=>B b A);refine⟨.value I,I,R,_,?_,.inl rfl,⟨rfl,?_⟩,Q,?_⟩
 ·have e1: #[so,xo].map a.eval= #[v,.slice a0 m Y]:=by simp[q.agr.eval hs,q.agr.eval hx]
  simp_all[execOp,resolve,invoke,builtin]
 ·obtain⟨_,⟨h2,h3⟩|⟨b,c,b9,hv,_⟩⟩:=K
  ·simp_all
  ·exact⟨_,c,hv⟩
 ·have Z:=T.hold.tail;refine Holds.cons (L:=L1++X) (Z.keep S (λr G b A F=>(Ah.1 T.hold.apart).1 r G b F A)) K (λr G b A F=>?_) (λb A=>?_)
  ·rcases J b A with h|h
   ·exact(Ah.1 T.hold.apart).1 r G b h F
   ·have:=FD (Z.all r G) F;omega
  ·rcases J b A with h|h
   ·exact B b h
   ·exact .inl (BE q.keep.size h)
def Conv(N:Nat)(w0:World)(M:Nat->Prop)(ds:List Deferred)(L L':List Res):Prop:=∀(g:Nat->Option Value) (a:Act) (w:World) (X:List Res),St N w0 M ds g (L++X) a w->St N w0 M ds g (L'++X) a w
theorem OpT.conv{L':List Res}{post:Value->List Res->Prop}(hc:Conv N w0 M ds L L')(h:OpT P ro N w0 M ds o g L' post):OpT P ro N w0 M ds o g L post:=λa w X next Q m j=>h a w X next Q (hc g a w X m) j
def Fw:=@OpT.conv
theorem zee{L1:List Res}{b E s n:Nat}{xs:List Value}(hr:Rem L (.blk b E xs) L1)(hx:xs.length=n*s)(hn:n<=maxLen):Conv N w0 M ds L (.row (.slice (some ⟨b,0,none⟩) n n) E s n xs::L1):=by
 intro g a w X F;have m:=F.perm (hr.perm.append_right X);have B:w.heap[b]?=some (.cells xs.toArray E (0,0)):=m.hold.all _ A3;refine⟨m.size,m.agr,m.keep,m.hold.tail.cons ?_ (λr q A j=>?_) (λA j=>m.hold.mine _ A3 A (by cases j;rfl))⟩
 ·exact⟨hx,.inr ⟨b,n,_,rfl,AA _,B,A7 _,hn,by simpa using hx,by simp[<-hx]⟩⟩
 ·cases j;exact(Ah.1 m.hold.apart).1 r q b rfl
theorem zaT(E s:Nat):Conv N w0 M ds L (.row (.slice none 0 0) E s 0 []::L):=λg a w X j=>
 ⟨j.size,j.agr,j.keep,j.hold.cons (World.ownsRow_nil w 0 E s) (λ_ _ b m=>by cases m) (λb m=>by cases m)⟩
theorem Rd.cons{L1:List Res}{r:Res}{a:Option Addr}{B:List Value}(h:Rd w0 M L1 a B):Rd w0 M (r::L1) a B:=λw X m j=>h w X m j.tail
theorem zcp{K:Act->World->Prop}{fr:Fr}{L':List Res}(hc:Conv N w0 M ds L L')(h:SyX N w0 M ds K fr L'):SyX N w0 M ds K fr L:=λa w ⟨m,j,q⟩=>h a w ⟨m,j,hc _ _ _ _ q⟩
theorem zbg{c:Code}{Q:Exit->Act->World->Prop}{fr:Fr}{L':List Res}(hc:Conv N w0 M ds L L')(h:Sy P ro N w0 M ds c Q fr L'):Sy P ro N w0 M ds c Q fr L:=λa w ⟨m,j,q⟩=>h a w ⟨m,j,hc _ _ _ _ q⟩
theorem zlg{L1:List Res}{b E s n c:Nat}{xs J:List Value}(hr:Rem L (.blk b E (xs++J)) L1)(F:(xs++J).length=c*s)(hn:n<=c)(hc:c<=maxLen)(hx:xs.length=n*s):Conv N w0 M ds L (.row (.slice (some ⟨b,0,none⟩) n c) E s n xs::L1):=by
 intro g a w X G;have m:=G.perm (hr.perm.append_right X);have B:w.heap[b]?=some (.cells (xs++J).toArray E (0,0)):=m.hold.all _ A3;refine⟨m.size,m.agr,m.keep,m.hold.tail.cons ?_ (λr q A j=>?_) (λA j=>m.hold.mine _ A3 A (by cases j;rfl))⟩
 ·exact⟨hx,.inr ⟨b,c,_,rfl,AA _,B,hn,hc,by simpa using F,by simp[hx]⟩⟩
 ·cases j;exact(Ah.1 m.hold.apart).1 r q b rfl
theorem zb9{k m r e size b:Nat}{xs news:List Value}{L1:List Res}{a0:Option Addr}{B:Operand}{w:Operand}(I:o.op= .call { callee:=.builtin .append,args:=#[w,B],argTypes:=#[t,t] } :=by exact rfl)
  (J:ev g w=some (.slice (some ⟨b,0,none⟩) k k):=by exact rfl)(hx:ev g B=some (.slice a0 m r):=by exact rfl)(K:zah P t=some y:=by exact ty rfl)(O:y.desc= .slice e:=by exact rfl)(he:zah P e=some ye:=by exact ty rfl)(q:ye.size=size:=by first|exact(rfl:_=1)|exact(rfl:_=2)|exact(rfl:_=3)|exact(rfl:_=4)|exact(rfl:_=5)|exact rfl)(j:0<size:=by decide)(hz:(zbd P e).map (·.length)=some size:=by (rw[zc rfl];rfl))
  (H:Rem L (.blk b e xs) L1:=by repeat (first|exact Eu|apply Ew))(hxn:xs.length=k*size:=by first|rfl|(simp only[A0,Al];first|assumption|omega)|simp;omega|fail)(hr:Rd w0 M L1 a0 news:=by first|exact Rd.of (Ff (by repeat (first|exact F5|apply F8)) Ex)|exact GA (by repeat (first|exact F5|apply F8))|exact FQ (by assumption) (λ_ _ h=>h)|assumption|exact G9|fail)(hn:news.length=m*size:=by first|rfl|(simp only[A0,Al];first|assumption|omega)|simp;omega|fail)(h1:news.all (·.oneCell')=true:=by first|exact zgB _ (λ_=>rfl) _|rfl|fail)(F:k+m<=maxLen:=by first|(unfold maxLen;omega)|(unfold maxLen;simp;omega)|fail)(G:(k+m)*ye.bytes<=140737488355328:=by first|(dsimp only;omega)|omega|simp;omega|fail)(hnil:a0=none->r=0:=by first|intro h;cases h;done|exact λ_=>rfl|assumption|fail){km:Nat}{ys:List Value}(hkm:k+m=km:=by first|exact Aa _|rfl)(hys:xs++news=ys:=by first|exact Ag _|rfl):
  OpT P ro N w0 M ds o g L (λA E=>E= .row A e size km ys::L1/\∃a c,A= .slice a km c):=
 Fw (zee H hxn q_o) (zaz I J hx K O he q j hz Eu hr.cons hn h1 F G hnil hkm hys)
theorem zgq{m r e size:Nat}{news:List Value}{a0:Option Addr}{B:Operand}{w:Operand}(H:o.op= .call { callee:=.builtin .append,args:=#[w,B],argTypes:=#[t,t] } :=by exact rfl)
    (I:ev g w=some (.slice none 0 0):=by exact rfl)(hx:ev g B=some (.slice a0 m r):=by exact rfl)(J:zah P t=some y:=by exact ty rfl)(K:y.desc= .slice e:=by exact rfl)(he:zah P e=some ye:=by exact ty rfl)(q:ye.size=size:=by first|exact(rfl:_=1)|exact(rfl:_=2)|exact(rfl:_=3)|exact(rfl:_=4)|exact(rfl:_=5)|exact rfl)(j:0<size:=by decide)(hz:(zbd P e).map (·.length)=some size:=by (rw[zc rfl];rfl))
     (hr:Rd w0 M L a0 news:=by first|exact Rd.of (Ff (by repeat (first|exact F5|apply F8)) Ex)|exact GA (by repeat (first|exact F5|apply F8))|exact FQ (by assumption) (λ_ _ h=>h)|assumption|exact G9|fail)(hn:news.length=m*size:=by first|rfl|(simp only[A0,Al];first|assumption|omega)|simp;omega|fail)(h1:news.all (·.oneCell')=true:=by first|exact zgB _ (λ_=>rfl) _|rfl|fail)(F:0+m<=maxLen:=by first|(unfold maxLen;omega)|(unfold maxLen;simp;omega)|fail)(G:(0+m)*ye.bytes<=140737488355328:=by first|(dsimp only;omega)|omega|simp;omega|fail)(hnil:a0=none->r=0:=by first|intro h;cases h;done|exact λ_=>rfl|assumption|fail):
    OpT P ro N w0 M ds o g L (λA E=>E= .row A e size m news::L/\∃a c,A= .slice a m c):=
  Fw (zaT e size) (zaz H I hx J K he q j hz Eu hr.cons hn h1 F G hnil (Aa _) (Ag _))
theorem zxO{e n:Nat}{lo co:Operand}{k1 k2:IntKind}{z0:Value}{l c:Int}(J:o.op= .makeSlice t lo co)(Y:ev g lo=some (.int k1 l))(hc:ev g co=some (.int k2 c))(ht:zah P t=some y)(hy:y.desc= .slice e)(he:zah P e=some ye)
  (hz:zbd P e=some [z0])(h1:ye.size=1)(B:l=(n:Int))(r:c=(n:Int))(hb:ye.bytes*n<=281474976710656)(hm:n<=maxLen):
  OpT P ro N w0 M ds o g L (λv O=>∃b,v= .slice (some ⟨b,0,none⟩) n n/\O= .blk b e (List.replicate n z0)::L):=
 FH (by rw[J];rfl) λa w X j=>by
  obtain⟨d,i',T,W,q,_⟩:=zX ht;rw[hy] at q;have:=zbp q;subst this;obtain⟨de,K,U,m,_,A,V,_⟩:=zX he;unfold zbd at hz;rw[m] at hz;simp only[Ac,Ab] at hz;obtain⟨I,H,F⟩:=hz;subst B;subst r;obtain⟨R,S⟩:=zbT j e (List.replicate n z0);refine⟨_,_,w.alloc (.cells (List.replicate n z0).toArray e),_,?_,.inl rfl,⟨w.heap.size,rfl,rfl⟩,R,S⟩;have Z:n<=9223372036854775807:=by unfold maxLen at hm;omega
  have G:I.cells= #[z0]:=B9.1 F;have E:=run_make (P:=P) w t e K I T m H k1 k2 n n q_o q_o (by grind) q_o;simp only[Int.toNat_natCast] at E;have Q:madeCells I.cells (n*K.size)=(List.replicate n z0).toArray:=by
   rw[A,h1,Al,G];exact B9.1 (toList_madeCells_one z0 n)
  rw[Q] at E;simp[execOp,J,j.agr.eval Y,j.agr.eval hc,E]
theorem zwM{e b off E dc F I T:Nat}{a0:Option Addr}{C B:List Value}{R xs:Operand}{L':List Res}(ho:o.op= .call { callee:=.builtin .copy,args:=#[R,xs],argTypes:=#[t,t'] })(Y:ev g R=some (.slice (some ⟨b,off,none⟩) E dc))(hx:ev g xs=some (.slice a0 F I))
  (ht:zah P t=some y)(hy:y.desc= .slice e)(he:zah P e=some ye)(h1:ye.size=1)(hr:Rd w0 M L a0 B)(hn:B.length=Nat.min F E)(hone:B.all (·.oneCell')=true)
  (hL:Upd L (.blk b T C) (.blk b T (zaK C off B)) L')(hC:off+B.length<=C.length):OpT P ro N w0 M ds o g L (Det (.int .i64 B.length) L'):=
 FH (by rw[ho];rfl) λa w X m=>by
  obtain⟨d,i',G,a7,H,_⟩:=zX ht;rw[hy] at H;have:=zbp H;subst this;obtain⟨de,ie,Z,a8,_,a6,_⟩:=zX he;have U:=m.hold.has (r:=.blk b T C) (by obtain⟨A,W,J,_⟩:=hL;subst J;simp[Has]);have hm:=m.hold.mine (.blk b T C) (by obtain⟨A,W,J,_⟩:=hL;subst J;simp) b rfl;have q:=zjn U hC;have V:(Builtin.copy_ #[t,t'] o.type #[.slice (some ⟨b,off,none⟩) E dc,.slice a0 F I]).run P w= .ok (goInt B.length) (w.setCells b off B):=by
   rcases hr w X m.keep m.hold with rfl|⟨S,o',rfl,Q⟩
   ·have:=run_copy_none (P:=P) w t t' o.type e (some ⟨b,off,none⟩) a0 E dc F I G (by simp_all) (by simpa using hn.symm);exact this
   ·exact run_copy_cells (P:=P) w t t' o.type e b off E dc ⟨S,o',none⟩ F I B G (by simp_all) hn (zl1 Q) (λj O=>(q j O).1) (λj O=>(q j O).2) (λv hv=>AF.1 hone v hv)
  refine⟨_,_,w.setCells b off B,L',?_,.inl rfl,⟨rfl,rfl⟩,zhc m.keep (FY b B off w) hm,?_⟩
  ·have e1: #[R,xs].map a.eval= #[.slice (some ⟨b,off,none⟩) E dc,.slice a0 F I]:=by simp[m.agr.eval Y,m.agr.eval hx]
   simp_all[execOp,resolve,invoke,builtin,goInt]
  ·exact m.hold.upd hL.append (λS K=> .inl K) (zfg B C off w U hC) ((FY b B off w).mono (λx hx=>by rw[hx];rfl))
theorem znv{w:World}{a0:Option Addr}{n c:Nat}{l:List UInt8}(h:SlA w a0 (l.map v8))(hn:l.length=n):(Conv.bytesToString (.slice a0 n c)).run P w= .ok (.string (str l)) w:=by
 have zeT:∀(l:List UInt8) (s:ByteArray),(l.map n8).foldl (λr n=>r.push (UInt8.ofNat n.toNat)) s=⟨s.data++l.toArray⟩:=by
  intro l
  induction l with
  |nil=>intro s;simp
  |cons x l ih=>
   simp_all[n8]
 cases a0 with
 |none=>
  rcases h with h|⟨_,_,h,_⟩
  ·have:l= []:=by simpa using h
   subst this;rfl
  ·cases h
 |some ad=>
  have m:(loadCells ad n).run P w= .ok ((l.map n8).map (Value.int .u8)).toArray w:=by
   rcases h with h|⟨b,off,h,j⟩
   ·have:l= []:=by simpa using h
    subst this;simp only[Cj] at hn;subst hn;rfl
   ·cases h;have:=run_loadCells_list (P:=P) w ⟨b,off,none⟩ (l.map v8) (zl1 j)
    simp_all[v8]
  rw[run_bytesToString w ad n c (l.map n8) m,zeT];simp[str,ByteArray.empty,ByteArray.emptyWithCapacity];rfl
theorem zcn{e n c:Nat}{a0:Option Addr}{l:List UInt8}(I:o.op= .convert t t' x:=by exact rfl)(hx:ev g x=some (.slice a0 n c):=by exact rfl)(K:zah P t=some y:=by exact ty rfl)(O:y.desc= .slice e:=by exact rfl)(he:zah P e=some ye:=by exact ty rfl)(H:ye.desc= .int .u8:=by exact rfl){J:Ty}(F:zah P t'=some J:=by exact ty rfl)(G:J.desc= .string:=by exact rfl)
  (hr:Rd w0 M L a0 (l.map v8))(hn:l.length=n:=by first|rfl|simp only[A0,AO,AL,A4];omega|(simp only[A0];first|assumption|omega)|simp;omega|fail):OpT P ro N w0 M ds o g L (Det (.string (str l)) L):=
 F4 (by rw[I];rfl) λa w X m=>by
  obtain⟨d,_,B,_,r,_⟩:=zX K;rw[O] at r;have:=zbp r;subst this;obtain⟨Q,_,q,_,j,_⟩:=zX F;rw[G] at j;have:=zf9 j;subst this;obtain⟨R,_,E,_,A,_⟩:=zX he;rw[H] at A;have:=zkw A;subst this;simp[execOp,I,m.agr.eval hx,run_convert_bytes_string w t t' e a0 n c B E q,znv (hr w X m.keep m.hold) hn]
end Go.Sy
