/- Lemmas of this proof. -/
import Derived.Test.YtdnlngbjpdbffaaGreatDoorHJ07
import Derived.Laws.StructEq
import Derived.Laws.Bits64b
import Derived.Lib.Mul64
import Derived.Test.YtdnlngbjpdbffaaGreatDoorProg
set_option maxRecDepth 10000
set_option linter.all false
namespace Go.Sy
open Go
inductive FillTo(pl:Nat->Option (Nat×Nat)):List (Nat×Value)->List Value->List Value->Prop
 |nil {C:List Value} :FillTo pl [] C C
 |cons {i off n:Nat}{v:Value}{cs C C':List Value}{rest:List (Nat×Value)}(hv:v.cells=cs.toArray) (hp:pl i=some (off,n)) (hl:cs.length=n) (hb:off+n<=C.length) (h:FillTo pl rest (zaz C off cs) C'):FillTo pl ((i,v)::rest) C C'
theorem zi2{pl:Nat->Option (Nat×Nat)}{l:List (Nat×Value)}{C C':List Value}(h:FillTo pl l C C'):Instr.fill pl C.toArray l=some C'.toArray:=by
 induction h with
 |nil=>simp[Instr.fill]
 | @cons i off n v cs C C' rest hv hp hl hb h ih=>
  simp only[Instr.fill,hp,hv];rw[if_neg (by simp;omega)];have e:=zh6 cs (C.take off) (C.drop off) off 0 (by simp;omega) (by simp;omega);rw[BV,Cp] at e;have m:(cs.toArray.zipIdx.foldl (λ(a:Array Value) (p:Value×Nat)=>a.setIfInBounds (off+p.2) p.1) C.toArray)=(zaz C off cs).toArray:=by
   unfold zaz;rw[<-e];simp
  have q:(cs.toArray.zipIdx.foldl (λ(a:Array Value) (x:Value×Nat)=>match x with|(c,j)=>a.setIfInBounds (off+j) c) C.toArray)=(zaz C off cs).toArray:=m;rw[q];exact ih
variable {P:Program}{ro:Option Nat}{N:Nat}{w0:World}{M:Nat->Prop}{ds:List Deferred}{o:Oper}{g:Nat->Option Value}{L:List Res}{t:TypeId}{y:Ty}
theorem zgJ{parts:Array (Nat×Operand)}{vs Z C:List Value}(F:FillTo (nth y.flds) (List.zip (parts.toList.map (·.1)) vs) Z C)(G:o.op= .build t parts:=by exact rfl)(hv:evs g (parts.toList.map (·.2))=some vs:=by exact rfl)(H:zag P t=some y:=by exact ty rfl)(I:y.desc= .struct #[]:=by exact rfl)
  (hn:y.flds.all (λp=>!Nat.beq p.2 0)=true:=by exact rfl)(hz:za8 P t=some Z:=by exact zc rfl):OpT P ro N w0 M ds o g L (Det (.agg C.toArray) L):=by
 refine zf8 G hv ?_;obtain⟨d,i,E,r,A,_,_,j⟩:=zU H;rw[I] at A;obtain⟨B,rfl⟩:=zfn A;simp only at j;unfold za8 at hz;rw[r] at hz;simp only[AW,AV] at hz;obtain⟨J,q,m⟩:=hz;rw[j] at hn;simp only[Program.built,r,E,q,zfo _ hn];have:=zi2 F;rw[show J.cells=Z.toArray by rw[<-m]];rw[show(λx=>(List.map (λf=>(f.offset,P.cellsOf f.type)) B.toList).toArray[x]?)=nth y.flds by funext x;rw[zhb,j];simp];rw[this]
end Go.Sy
namespace Go.Nt
section
open Go Go.Sy
def nv(d:Nat):Value:=.int .u64 (d:Int)
def zg(x:Nat):List Value:=(dg 18446744073709551616 16 x).map nv
def zu(x:Nat):Value:=.agg (zg x).toArray
theorem zb(x:Nat):(zg x).length=16:=by unfold zg;rw[A1,zdW]
theorem zbF(x i:Nat)(h:i<16):(zg x)[i]?=some (nv (x/18446744073709551616^i%18446744073709551616)):=by
 unfold zg;rw[Ak,zfE _ _ _ _ h];rfl
theorem zfa(x:Nat):(zg x).all (·.oneCell')=true:=by
 unfold zg;rw[AD];intro v j;obtain⟨d,-,rfl⟩:=C9.1 j;rfl
theorem zxi(l:List Nat):(l.map nv).all (·.oneCell')=true:=by
 rw[AD];intro v j;obtain⟨d,-,rfl⟩:=C9.1 j;rfl
theorem zei(x j e:Nat)(h:x/18446744073709551616^j%18446744073709551616+e<18446744073709551616):(zg x).set j (nv (x/18446744073709551616^j%18446744073709551616+e))=zg (x+e*18446744073709551616^j):=by
 unfold zg;rw[<-Bw,zkb _ _ _ _ _ h]
theorem zh2:∀(j ys:List Nat),j.length=ys.length->((List.range j.length).all λi=>j.getD i 0==ys.getD i 0)=(j==ys)
 | [],[],_=>rfl
 |x::j,y::ys,h=>by
  have m:=zh2 j ys (by simpa using h);rw[AO,List.range_succ_eq_map,BI,List.all_map];simp only[List.getD_cons_zero,Function.comp_def,List.getD_cons_succ,m];simp[List.cons_beq_cons]
 | [],_::_,h=>by simp at h
 |_::_,[],h=>by simp at h
variable {P:Program}(w:World)
theorem zjb(d:Nat)(t e:TypeId)(n:Nat)(B:P.underlying t=some (.array n e))(he:P.underlying e=some (.int .u64))(q:∀w,(sizeOf e).run P w= .ok 1 w)
  (xs ys:List Nat)(hx:xs.length=n)(E:ys.length=n):
  (Op.equalIn (d+2) t (.agg (xs.map nv).toArray) (.agg (ys.map nv).toArray)).run P w= .ok (xs==ys) w:=by
 rw[<-zh2 xs ys (hx.trans E.symm),hx,EM,Op.equalIn];simp only[Sem.run_bind,run_underlying B,Result.andThen_ok,q,Std.Legacy.Range.forIn_eq_forIn_range',Std.Legacy.Range.size,C0,B8,Co];have m:∀i∈List.range' 0 n 1,i<n:=λi r=>by simpa using (List.mem_range'_1.1 r).2
 generalize List.range' 0 n 1=l at m ⊢
 induction l with
 |nil=>simp
 |cons i l ih=>
  have r:i<n:=m i q_p;have G:(part e (xs.map nv).toArray (i*1)).run P w= .ok (nv (xs.getD i 0)) w:=by
   simp[part,isAgg,run_underlying he,List.getD,A2 (show i<xs.length by omega)]
  have H:(part e (ys.map nv).toArray (i*1)).run P w= .ok (nv (ys.getD i 0)) w:=by
   simp[part,isAgg,run_underlying he,List.getD,A2 (show i<ys.length by omega)]
  have F:(Op.equalIn (d+1) e (nv (xs.getD i 0)) (nv (ys.getD i 0))).run P w= .ok (xs.getD i 0==ys.getD i 0) w:=by
   rw[nv,nv,run_equalIn_int w d e .u64 .u64 _ _ he];congr 1;rw[CO];simp;omega
  simp only[List.forIn_cons,Sem.run_bind,G,H,F,Result.andThen_ok,BI];cases hb:(xs.getD i 0==ys.getD i 0)
  ·simp
  ·simp only[DZ,Dp,if_false,Sem.run_pure,Result.andThen_ok,B1];exact ih λj A=>m j (by simp[A])
structure NatTy(P:Program)(t td e n:Nat):Prop where
 und:P.underlying t=some (.struct (P.fieldsOf t))
 stood:P.stoodInHeld t=false
 flds:(P.fieldsOf t).toList.map (λf=>(f.name == "_",f.type,f.offset))= [(false,td,0)]
 arr:∃y,zag P td=some y/\y.desc= .array n e/\y.size=n
 elem:∃y,zag P e=some y/\y.desc= .int .u64/\y.size=1
 guard:P.eqGuardType P.depth t=false
theorem zmm{t td e n:Nat}(H:NatTy P t td e n)(xs ys:List Nat)(hx:xs.length=n)(hy:ys.length=n):
  (Op.equal t (.agg (xs.map nv).toArray) (.agg (ys.map nv).toArray)).run P w= .ok (xs==ys) w:=by
 obtain⟨y,hyt,hyd,hys⟩:=H.arr;obtain⟨ye,het,hed,hes⟩:=H.elem;obtain⟨d,i',hd,hi',hs',_⟩:=zU hyt;rw[hyd] at hs';have:=zcR hs';subst this;obtain⟨de,_,hde,_,hse,_⟩:=zU het;rw[hed] at hse;have:=zjJ hse;subst this;have hmain:=zjb (P:=P) w 9997 td e n hd hde (λw=>by rw[zbN het,hes]) xs ys hx hy;have hpart:∀(l:List Nat),l.length=n->(part td (l.map nv).toArray 0).run P w= .ok (.agg (l.map nv).toArray) w:=λl hl=>by
  have hsz:(sizeOf td).run P w= .ok n w:=by rw[zbN hyt,hys]
  simp only[part,isAgg,Sem.run_bind,run_underlying hd,Result.andThen_ok,Sem.run_pure,if_true,hsz,AU];congr 2;apply B5.1;rw[Array.toList_extract];exact A9 (by simp[hl])
 show(Op.equalIn (9998+1+1) t _ _).run P w=_;rw[run_equalIn_struct w (9998+1) t _ _ H.und H.stood];have hfl:=H.flds;cases hl:(P.fieldsOf t).toList with
 |nil=>rw[hl] at hfl;cases hfl
 |cons f fs=>
  rw[hl] at hfl;simp only[As,Cc,Ea,List.map_eq_nil_iff] at hfl;obtain⟨⟨h1,h2,h3⟩,rfl⟩:=hfl;have h1':f.name≠ "_" :=by simpa using h1
  simp only[Op.eqFields,h1',ne_eq,not_false_eq_true,if_true,Sem.run_bind,h2,h3,hpart xs hx,hpart ys hy,Result.andThen_ok];rw[hmain];simp only[Result.andThen_ok];cases xs==ys <;> simp
end
open Go Go.Sy
variable {P:Program}{ro:Option Nat}{N:Nat}{w0:World}{M:Nat->Prop}{ds:List Deferred}{g:Nat->Option Value}{L:List Res}{o:Oper}{t t':TypeId}{x z:Operand}
theorem zvI(a b:Nat)(ha:a<18446744073709551616^16)(hb:b<18446744073709551616^16):(dg 18446744073709551616 16 a==dg 18446744073709551616 16 b)=decide (a=b):=by
 by_cases h:a=b
 ·subst h;simp
 ·have:dg 18446744073709551616 16 a≠dg 18446744073709551616 16 b:=λe=>h (zw8 _ _ _ _ ha hb e);simp[h,this]
theorem znZ{B e:Nat}{a b:Nat}{r:Bool}(H:NatTy P t B e 16)(ha:a<18446744073709551616^16)(hb:b<18446744073709551616^16)(hr:decide (a=b)=r)(q:o.op= .binOp .eql t x z t':=by exact rfl)(hx:ev g x=some (zu a):=by exact rfl)(hz:ev g z=some (zu b):=by exact rfl):OpT P ro N w0 M ds o g L (Det (.bool r) L):=
 Eu (by rw[q];rfl) λE w X A=>by
  have j:(Op.equal t (zu a) (zu b)).run P w= .ok r w:=by
   have:=zmm w H (dg 18446744073709551616 16 a) (dg 18446744073709551616 16 b) (zdW _ _ _) (zdW _ _ _);rw[zvI a b ha hb,hr] at this;exact this
  have m:=H.guard;simp[execOp,q,A.agr.eval hx,A.agr.eval hz,eqGuard,binOp,m];unfold zu at j ⊢;simp[j,m]
theorem zpM{n e:Nat}{y ye:Ty}{parts:Array (Nat×Operand)}{vs Z C:List Value}(he:zag P e=some ye)(G:FillTo (λi=>some (i*ye.size,ye.size)) (List.zip (parts.toList.map (·.1)) vs) Z C)(H:o.op= .build t parts:=by exact rfl)(hv:evs g (parts.toList.map (·.2))=some vs:=by exact rfl)(I:zag P t=some y:=by exact ty rfl)(J:y.desc= .array n e:=by exact rfl)
  (hz:za8 P t=some Z:=by exact zc rfl):OpT P ro N w0 M ds o g L (Det (.agg C.toArray) L):=by
 refine zf8 H hv ?_;obtain⟨d,i,E,A,B,_⟩:=zU I;rw[J] at B;have:=zcR B;subst this;obtain⟨O,Q,F,m,_,j,_⟩:=zU he;unfold za8 at hz;rw[A] at hz;simp only[AW,AV] at hz;obtain⟨K,r,q⟩:=hz;simp only[Program.built,A,E,r,m,j];have:=zi2 G;rw[show K.cells=Z.toArray by rw[<-q]];rw[this]
theorem zqJ(a n:Nat)(k:IntKind)(h:n<64):Op.shift .shr .u64 (a:Int) k (n:Int)=pure (.int .u64 ((a/2^n:Nat):Int)):=by
 have j:¬((n:Int)<0):=q_o;have m:¬64<=n:=q_o;simp[Op.shift,j,m,IntKind.bits]
theorem zyk(a n:Nat)(k:IntKind)(h:n<64):Op.shift .shl .u64 (a:Int) k (n:Int)=pure (.int .u64 ((a*2^n%18446744073709551616:Nat):Int)):=by
 have j:¬((n:Int)<0):=q_o;have m:¬64<=n:=q_o;simp[Op.shift,j,m,IntKind.bits];rw[Wd.wrap_u64]
theorem zob(a n:Nat)(k:IntKind)(ha:a<18446744073709551616):Op.shift .shr .u64 (a:Int) k (n:Int)=pure (.int .u64 ((a/2^n:Nat):Int)):=by
 rcases AK n 64 with h|h
 ·exact zqJ a n k h
 ·have j:¬((n:Int)<0):=q_o;have m:a/2^n=0:=Ap (AZ (show a<2^64 from ha) (AR q_e h));have q:¬((a:Int)<0):=q_o;simp[Op.shift,j,h,m,q,IntKind.bits];rw[Int.fdiv_eq_ediv_of_nonneg _ q_e,show((a:Int)/18446744073709551616)=0 by omega]
theorem ziI(a n:Nat)(k:IntKind):Op.shift .shl .u64 (a:Int) k (n:Int)=pure (.int .u64 ((a*2^n%18446744073709551616:Nat):Int)):=by
 rcases AK n 64 with h|h
 ·exact zyk a n k h
 ·have j:¬((n:Int)<0):=q_o;have m:a*2^n%18446744073709551616=0:=by
   rw[show n=64+(n-64) by omega,B6,Nat.mul_left_comm];exact Nat.mul_mod_right _ _
  rw[m];simp[Op.shift,j,h,IntKind.bits];rw[Wd.wrap_u64,Int.mul_emod_left]
theorem zqd(r k:Nat)(hk:k<64)(hr:r<2^k):bits .andNot .u64 ((2^k+r:Nat):Int) ((2^k:Nat):Int)=(r:Int):=by
 have F:2^k<=2^63:=AR q_e q_o;have E:2^k+r<2^64:=q_o;have m:(BitVec.ofInt 64 ((2^k+r:Nat):Int)).toNat=2^k+r:=by
  rw[Cn,Du];exact AA E
 have q:(BitVec.ofInt 64 ((2^k:Nat):Int)).toNat=2^k:=by
  rw[Cn,Du];exact AA q_o
 show IntKind.u64.wrap ((BitVec.ofInt 64 ((2^k+r:Nat):Int) &&& ~~~ BitVec.ofInt 64 ((2^k:Nat):Int)).toNat:Int)=_;have A:(2^k+r) &&& (2^64-1-2^k)=r:=by
  apply Nat.eq_of_testBit_eq;intro j;rw[Nat.testBit_and,show 2^64-1-2^k=2^64-(2^k+1) by omega,Nat.testBit_two_pow_sub_succ q_o,EW];have B:2^k+r=2^k ||| r:=by
   have:=Nat.two_pow_add_eq_or_of_lt hr 1;rw[Al] at this;exact this
  rw[B,Nat.testBit_or,EW];by_cases hj:k=j
  ·subst hj;rw[EB hr];simp
  ·by_cases h6:j<64
   ·simp[hj,h6]
   ·rw[EB (AZ (show r<2^64 by omega) (AR q_e q_o))];simp[hj]
 rw[BitVec.toNat_and,BitVec.toNat_not,m,q,A,IntKind.wrap_u64];omega
theorem zjF{a:Nat}(s:Nat)(m:s<=64)(ha:a<18446744073709551616)(j:o.op= .binOp .and t x z t':=by exact rfl)(hx:ev g x=some (nv a):=by exact rfl)(hz:ev g z=some (nv (2^s-1)):=by exact rfl):OpT P ro N w0 M ds o g L (Det (nv (a%2^s)) L):=
 znG j hx hz (by
  have:2^s<=2^64:=AR q_e m;rw[bits_and_u64_nat _ _ ha q_o,DX])
theorem zes{a:Nat}(n:Nat){j:IntKind}(hn:n<64)(m:o.op= .binOp .shr t x z t':=by exact rfl)(hx:ev g x=some (nv a):=by exact rfl)(hz:ev g z=some (.int j (n:Int)):=by exact rfl):OpT P ro N w0 M ds o g L (Det (nv (a/2^n)) L):=
 zcq m hx hz (zqJ a n j hn)
theorem zhg{a b:Nat}(j:o.op= .binOp .mul t x z t':=by exact rfl)(hx:ev g x=some (nv a):=by exact rfl)(hz:ev g z=some (nv b):=by exact rfl):OpT P ro N w0 M ds o g L (Det (nv (a*b%18446744073709551616)) L):=
 zaV j hx hz (by rw[show((a:Nat):Int)*((b:Nat):Int)=((a*b:Nat):Int) by simp,Wd.wrap_u64_nat])
theorem zeD{a b:Nat}(j:o.op= .binOp .add t x z t':=by exact rfl)(hx:ev g x=some (nv a):=by exact rfl)(hz:ev g z=some (nv b):=by exact rfl):OpT P ro N w0 M ds o g L (Det (nv ((a+b)%18446744073709551616)) L):=
 zN j hx hz (by rw[show((a:Nat):Int)+((b:Nat):Int)=((a+b:Nat):Int) by simp,Wd.wrap_u64_nat])
theorem zgw{a n:Nat}{j:IntKind}(ha:a<18446744073709551616)(m:o.op= .binOp .shr t x z t':=by exact rfl)(hx:ev g x=some (nv a):=by exact rfl)(hz:ev g z=some (.int j (n:Int)):=by exact rfl):OpT P ro N w0 M ds o g L (Det (nv (a/2^n)) L):=
 zcq m hx hz (zob a n j ha)
theorem zgL{a n:Nat}{j:IntKind}(m:o.op= .binOp .shl t x z t':=by exact rfl)(hx:ev g x=some (nv a):=by exact rfl)(hz:ev g z=some (.int j (n:Int)):=by exact rfl):OpT P ro N w0 M ds o g L (Det (nv (a*2^n%18446744073709551616)) L):=
 zfz m hx hz (ziI a n j)
theorem zpt{n:Nat}{j:IntKind}(hn:n<64)(m:o.op= .binOp .shl t x z t':=by exact rfl)(hx:ev g x=some (nv 1):=by exact rfl)(hz:ev g z=some (.int j (n:Int)):=by exact rfl):OpT P ro N w0 M ds o g L (Det (nv (2^n)) L):=
 zfz m hx hz (by
  have h:2^n<=2^63:=AR q_e q_o;rw[ziI 1 n j,Bm,AA (show 2^n<18446744073709551616 by omega)])
theorem ziD{a b:Nat}(ha:a<18446744073709551616)(hb:b<18446744073709551616)(j:o.op= .binOp .or t x z t':=by exact rfl)(hx:ev g x=some (nv a):=by exact rfl)(hz:ev g z=some (nv b):=by exact rfl):OpT P ro N w0 M ds o g L (Det (nv (a ||| b)) L):=
 zkx j hx hz (bits_or_u64_nat a b ha hb)
theorem zvo{a b:Nat}(hb:0<b:=by omega)(ha:a<18446744073709551616:=by omega)(j:o.op= .binOp .quo t x z t':=by exact rfl)(hx:ev g x=some (nv a):=by exact rfl)(hz:ev g z=some (nv b):=by exact rfl):OpT P ro N w0 M ds o g L (Det (nv (a/b)) L):=
 zcp j hx hz q_o (by
  have:=C6 a b;rw[Cu q_o,show((a:Int)/(b:Int))=((a/b:Nat):Int) from rfl];generalize a/b=q at*;exact IntWalk.u64_in _ q_o)
theorem zvc{a b:Nat}(hb:0<b:=by omega)(j:o.op= .binOp .rem t x z t':=by exact rfl)(hx:ev g x=some (nv a):=by exact rfl)(hz:ev g z=some (nv b):=by exact rfl):OpT P ro N w0 M ds o g L (Det (nv (a%b)) L):=
 zcU j hx hz q_o (by rw[Dv q_o];rfl)
theorem zqX{r k:Nat}(hk:k<64)(hr:r<2^k)(j:o.op= .binOp .andNot t x z t':=by exact rfl)(hx:ev g x=some (nv (2^k+r)):=by exact rfl)(hz:ev g z=some (nv (2^k)):=by exact rfl):OpT P ro N w0 M ds o g L (Det (nv r) L):=
 zrx j hx hz (zqd r k hk hr)
end Go.Nt
namespace Go.Sy
open Go
variable {P:Program}{ro:Option Nat}{N:Nat}{w0:World}{M:Nat->Prop}{ds:List Deferred}{g:Nat->Option Value}{L:List Res}{o:Oper}
theorem zt5{t n b off k c e:Nat}{x:Operand}{y:Ty}(m:o.op= .sliceToArrayPointer t x:=by exact rfl)(hx:ev g x=some (.slice (some ⟨b,off,none⟩) k c):=by exact rfl)(hk:n<=k:=by decide)(hn:n≠0:=by decide)(B:zag P t=some y:=by exact ty rfl)(E:y.desc= .array n e:=by exact rfl):OpT P ro N w0 M ds o g L (Det (.pointer (some ⟨b,off,none⟩)) L):=
 Eu (by rw[m];rfl) λa w X A=>by
  obtain⟨d,i,r,F,j,_⟩:=zU B;rw[E] at j;have:=zcR j;subst this;have q:¬k<n:=q_o;simp[execOp,m,A.agr.eval hx,Instr.arrayAt,run_underlying r,q,hn]
end Go.Sy
namespace Go.Proofs.YtdnlngbjpdbffaaGreatDoor
open Go Go.Sy
def zy:Ty:=⟨.func #[] #[] false,1,8,[]⟩
def tyTbl:List Ty:=[
 ⟨.tuple #[],1,0,[]⟩,zy,⟨.int .i64,1,8,[]⟩,⟨.int .i64,1,8,[]⟩,⟨.bool,1,1,[]⟩,⟨.int .u8,1,1,[]⟩,⟨.int .u8,1,1,[]⟩,⟨.struct #[],4,24,[(0,1),(1,1),(2,1),(3,1)]⟩,⟨.struct #[],4,24,[(0,1),(1,1),(2,1),(3,1)]⟩,⟨.string,1,16,[]⟩,⟨.string,1,16,[]⟩,⟨.string,1,16,[]⟩,⟨.int .u64,1,8,[]⟩,⟨.struct #[],2,24,[(0,1),(1,1)]⟩,⟨.struct #[],2,24,[(0,1),(1,1)]⟩,⟨.pointer 350,1,8,[]⟩,⟨.pointer 353,1,8,[]⟩,⟨.pointer 361,1,8,[]⟩,⟨.struct #[],1,8,[(0,1)]⟩,⟨.struct #[],1,8,[(0,1)]⟩,⟨.interface #[],1,16,[]⟩,⟨.int .i32,1,4,[]⟩,⟨.slice 45,1,24,[]⟩,⟨.slice 5,1,24,[]⟩,zy,zy,⟨.int .i64,1,8,[]⟩,⟨.tuple #[23,26],1,0,[]⟩,zy,zy,zy,⟨.tuple #[22,26],1,0,[]⟩,zy,⟨.tuple #[22,3],1,0,[]⟩,zy,zy,zy,⟨.slice 65,1,24,[]⟩,⟨.slice 67,1,24,[]⟩,⟨.array 3 3,3,24,[]⟩,zy,⟨.slice 9,1,24,[]⟩,⟨.struct #[],2,40,[(0,1),(1,1)]⟩,⟨.struct #[],2,40,[(0,1),(1,1)]⟩,⟨.struct #[],11,168,[(0,1),(1,2),(3,2),(5,1),(6,1),(7,1),(8,1),(9,1),(10,1)]⟩,⟨.struct #[],11,168,[(0,1),(1,2),(3,2),(5,1),(6,1),(7,1),(8,1),(9,1),(10,1)]⟩,⟨.tuple #[45,26],1,0,[]⟩,zy,zy,zy,zy,zy,⟨.tuple #[3,26],1,0,[]⟩,zy,zy,zy,⟨.tuple #[45,3],1,0,[]⟩,zy,zy,zy,⟨.tuple #[3,3],1,0,[]⟩,zy,zy,zy,⟨.struct #[],4,72,[(0,2),(2,1),(3,1)]⟩,⟨.struct #[],4,72,[(0,2),(2,1),(3,1)]⟩,⟨.struct #[],3,48,[(0,2),(2,1)]⟩,⟨.struct #[],3,48,[(0,2),(2,1)]⟩,zy,zy,zy,zy,zy,zy,zy,⟨.slice 23,1,24,[]⟩,zy,zy,zy,zy,⟨.pointer 190,1,8,[]⟩,⟨.struct #[],1,8,[(0,1)]⟩,⟨.struct #[],1,8,[(0,1)]⟩,zy,zy,zy,zy,zy,zy,zy,zy,zy,zy,zy,zy,zy,⟨.struct #[],2,32,[(0,1),(1,1)]⟩,⟨.struct #[],2,32,[(0,1),(1,1)]⟩,⟨.tuple #[97,4],1,0,[]⟩,zy,zy,zy,zy,⟨.map 3 4,1,8,[]⟩,zy,⟨.tuple #[23,3],1,0,[]⟩,zy,zy,zy,zy,zy,zy,zy,zy,zy,zy,⟨.struct #[],1,8,[(0,1)]⟩,⟨.struct #[],1,8,[(0,1)]⟩,⟨.tuple #[117,4],1,0,[]⟩,zy,zy,zy,zy,zy,⟨.tuple #[3,23,3],1,0,[]⟩,zy,zy,zy,zy,⟨.int .u64,1,8,[]⟩,⟨.array 16 129,16,128,[]⟩,⟨.array 16 129,16,128,[]⟩,⟨.struct #[],16,128,[(0,16)]⟩,⟨.struct #[],16,128,[(0,16)]⟩,⟨.tuple #[133,4],1,0,[]⟩,zy,⟨.tuple #[133,26],1,0,[]⟩,zy,zy,zy,zy,zy,zy,zy,zy,zy,zy,zy,⟨.tuple #[4,26],1,0,[]⟩,zy,⟨.slice 133,1,24,[]⟩,zy,zy,zy,zy,zy,zy,zy,zy,zy,⟨.slice 102,1,24,[]⟩,zy,zy,⟨.slice 3,1,24,[]⟩,⟨.tuple #[163,4],1,0,[]⟩,zy,zy,zy,zy,zy,zy,zy,zy,zy,zy,zy,zy,zy,zy,zy,zy,zy,zy,zy,zy,⟨.tuple #[80,26],1,0,[]⟩,zy,⟨.struct #[],2,32,[(0,1),(1,1)]⟩,⟨.struct #[],2,32,[(0,1),(1,1)]⟩,⟨.struct #[],3,40,[(0,2),(2,1)]⟩,⟨.struct #[],3,40,[(0,2),(2,1)]⟩,zy,⟨.int .u64,1,8,[]⟩,⟨.struct #[],33,264,[(0,16),(16,16),(32,1)]⟩,⟨.struct #[],33,264,[(0,16),(16,16),(32,1)]⟩,⟨.tuple #[194,26],1,0,[]⟩,zy,zy,zy,⟨.array 32 5,32,32,[]⟩,zy,zy,zy,zy,zy,zy,zy,zy,zy,zy,zy,zy,zy,⟨.tuple #[43,26],1,0,[]⟩,zy,zy,zy,zy,zy,zy,zy,zy,⟨.slice 25,1,24,[]⟩,zy,zy,zy,⟨.struct #[],16,128,[(0,16)]⟩,⟨.struct #[],16,128,[(0,16)]⟩,zy,zy,zy,zy,zy,⟨.tuple #[163,163],1,0,[]⟩,zy,⟨.slice 4,1,24,[]⟩,zy,zy,zy,zy,zy,zy,⟨.pointer 188,1,8,[]⟩,zy,⟨.array 4 9,4,64,[]⟩,zy,zy,⟨.int .u32,1,4,[]⟩,⟨.array 8 247,8,32,[]⟩,⟨.array 8 247,8,32,[]⟩,zy,zy,zy,zy,⟨.tuple #[80,4,26],1,0,[]⟩,zy,zy,⟨.int .i8,1,1,[]⟩,zy,zy,⟨.tuple #[26,4],1,0,[]⟩,zy,zy,zy,⟨.tuple #[9,26],1,0,[]⟩,zy,zy,zy,zy,⟨.tuple #[4,4],1,0,[]⟩,zy,zy,zy,⟨.array 2 3,2,16,[]⟩,zy,⟨.array 8 3,8,64,[]⟩,zy,zy,zy,zy,⟨.tuple #[80,4],1,0,[]⟩,zy,zy,zy,zy,zy,zy,⟨.array 256 4,256,256,[]⟩,⟨.array 256 4,256,256,[]⟩,⟨.tuple #[288,4],1,0,[]⟩,zy,zy,⟨.pointer 288,1,8,[]⟩,⟨.tuple #[133,133,26],1,0,[]⟩,zy,zy,zy,⟨.pointer 249,1,8,[]⟩,⟨.array 64 247,64,256,[]⟩,zy,zy,zy,⟨.tuple #[3,4],1,0,[]⟩,zy,zy,⟨.tuple #[3,3,26],1,0,[]⟩,zy,⟨.tuple #[23,4],1,0,[]⟩,zy,⟨.tuple #[129,129],1,0,[]⟩,zy,zy,⟨.array 64 3,64,512,[]⟩,zy,zy,zy,⟨.tuple #[21,3],1,0,[]⟩,zy,zy,zy,zy,zy,⟨.tuple #[131,131],1,0,[]⟩,zy,⟨.tuple #[131,4],1,0,[]⟩,zy,zy,zy,⟨.tuple #[9,4],1,0,[]⟩,⟨.array 4 3,4,32,[]⟩,⟨.array 17 129,17,136,[]⟩,zy,zy,zy,⟨.slice 129,1,24,[]⟩,zy,⟨.array 32 129,32,256,[]⟩,zy,⟨.array 256 5,256,256,[]⟩,⟨.struct #[],2,2,[(0,1),(1,1)]⟩,⟨.struct #[],2,2,[(0,1),(1,1)]⟩,⟨.array 16 340,32,32,[]⟩,zy,⟨.interface #[],1,16,[]⟩,⟨.interface #[],1,16,[]⟩,⟨.tuple #[247,247],1,0,[]⟩,zy,⟨.pointer 363,1,8,[]⟩,zy,⟨.struct #[],4,40,[(0,1),(1,1),(2,1),(3,1)]⟩,⟨.struct #[],4,40,[(0,1),(1,1),(2,1),(3,1)]⟩,⟨.array 0 16,0,0,[]⟩,⟨.struct #[],0,0,[(0,0)]⟩,⟨.struct #[],0,0,[(0,0)]⟩,⟨.int .u8,1,1,[]⟩,⟨.int .u8,1,1,[]⟩,zy,⟨.pointer 5,1,8,[]⟩,⟨.int .i32,1,4,[]⟩,⟨.int .i32,1,4,[]⟩,⟨.struct #[],11,48,[(0,1),(1,1),(2,1),(3,1),(4,1),(5,1),(6,1),(7,1),(8,1),(9,1),(10,1)]⟩,⟨.struct #[],11,48,[(0,1),(1,1),(2,1),(3,1),(4,1),(5,1),(6,1),(7,1),(8,1),(9,1),(10,1)]⟩,⟨.struct #[],1,16,[(0,1)]⟩,⟨.struct #[],1,16,[(0,1)]⟩,⟨.unsafePointer,1,8,[]⟩]
theorem ztX:(List.range tyTbl.length).map (zag Tryz.prog)=tyTbl.map some:=by kernel_rfl
theorem ty{t:Nat}{y:Ty}(j:nth tyTbl t=some y):zag Tryz.prog t=some y:=zsN ztX j
theorem tyU{t:Nat}{y:Ty}(j:nth tyTbl t=some y):Tryz.prog.underlying t=some ((Tryz.prog.underlying t).getD .invalid):=by obtain⟨d,_,h,_⟩:=zU (ty j);rw[h];rfl
theorem tyI{t:Nat}{y:Ty}{k:IntKind}(q:nth tyTbl t=some y)(h:y.desc= .int k):Tryz.prog.underlying t=some (.int k):=by obtain⟨d,_,m,_,j,_⟩:=zU (ty q);rw[h] at j;rw[m,zjJ j]
theorem mixed:Tryz.prog.follows .mixedOrders=true:=by kernel_rfl
def zTbl:List (Nat×List Value):=[
 (3,[.int .i64 0]),(4,[.bool false]),(5,[.int .u8 0]),(9,[.string ByteArray.empty]),(22,[.slice none 0 0]),(23,[.slice none 0 0]),(25,[.nilFunc]),(26,[.int .i64 0]),(43,[.slice none 0 0]++[.string ByteArray.empty]),(45,[.int .i64 0]++[.slice none 0 0]++[.string ByteArray.empty]++[.slice none 0 0]++[.string ByteArray.empty]++[.int .i64 0,.int .i64 0]++[.bool false]++[.int .i64 0]++[.slice none 0 0,.slice none 0 0]),(65,[.slice none 0 0]++[.string ByteArray.empty]++[.int .i64 0]++[.slice none 0 0]),(67,[.slice none 0 0]++[.string ByteArray.empty]++[.int .i64 0]),(80,[.pointer none]),(82,[.pointer none]),(97,[.int .i64 0]++[.slice none 0 0]),(102,[.nilFunc]),(117,[.int .i64 0]),(129,[.int .u64 0]),(131,List.replicate 16 (.int .u64 0:Value)),(133,List.replicate 16 (.int .u64 0:Value)),(150,[.slice none 0 0]),(188,[.slice none 0 0]++[.int .i64 0]),(190,[.slice none 0 0]++[.int .i64 0]++[.bool false]),(194,List.replicate 32 (.int .u64 0:Value)++[.int .i64 0]),(199,List.replicate 32 (.int .u8 0:Value)),(227,List.replicate 16 (.int .u64 0:Value)),(244,[.string ByteArray.empty,.string ByteArray.empty,.string ByteArray.empty,.string ByteArray.empty]),(248,List.replicate 8 (.int .u32 0:Value)),(249,List.replicate 8 (.int .u32 0:Value)),(273,[.int .i64 0,.int .i64 0]),(275,List.replicate 8 (.int .i64 0:Value)),(288,List.replicate 256 (.bool false:Value)),(298,List.replicate 64 (.int .u32 0:Value)),(312,List.replicate 64 (.int .i64 0:Value)),(326,[.nilFunc]),(329,[.int .i64 0,.int .i64 0,.int .i64 0,.int .i64 0]),(330,List.replicate 17 (.int .u64 0:Value)),(336,List.replicate 32 (.int .u64 0:Value)),(340,[.int .u8 0,.int .u8 0]),(341,List.replicate 32 (.int .u8 0:Value))]
theorem zvW:zTbl.map (λp=>za8 Tryz.prog p.1)=zTbl.map (λp=>some p.2):=by kernel_rfl
theorem zc{t:Nat}{C:List Value}(h:zmv zTbl t=some C):za8 Tryz.prog t=some C:=znd zTbl zvW h
def zun(P:Program)(k:Nat):Bool:=match P.funcs[k]? with|some f=>f.body.isSome && !(f.name == "runtime.NumGoroutine")|none=>false
theorem zxZ{P:Program}{k:Nat}(h:zun P k=true):∀(args:Array Value) (w:World),(callFunc k args).run P w= .ok (.enter k args) w:=by
 unfold zun at h;split at h
 ·rename_i f m;simp only[A5,Aw,Option.isSome_iff_exists] at h;obtain⟨⟨c,j⟩,q⟩:=h;exact enters_of m q j
 ·cases h
def enTbl:List Bool:=[false,false,false,true,true,true,true,true,true,true,true,true,true,true,true,true,true,true,true,true,true,true,true,true,true,true,true,true,true,true,true,true,true,true,true,true,true,true,true,true,true,true,true,true,true,true,true,true,true,true,true,true,true,true,true,true,true,true,true,true,true,true,true,true,true,true,true,true,true,true,true,true,true,true,true,true,true,true,true,true,true,true,true,true,true,true,true,true,true,true,true,true,true,true,true,true,true,true,true,true,true,true,true,true,true,true,true,true,true,true,true,true,true,true,true,true,true,true,true,true,true,true,true,true,true,true,true,true,true,true,true,true,true,true,true,true,true,true,true,true,true,true,true,true,true,true,true,true,true,true,true,true,true,true,true,true,true,true,true,true,true,true,true,true,true,true,true,true,true,true,true,true,true,true,true,true,true,true,true,true,true,true,true,true,true,true,true,true,true,true,true,true,true,true,true,true,true,true,true,true,true,true,true,true,true,true,true,true,true,true,true,true,true,true,true,true,true,true,true,true,true,true,true,true,true,true,true,true,true,true,true,true,true,true,true,true,true,true,true,true,true,true,true,true,true,true,true,true,true,false,true,true,true,true,true,true,true,true,true,true,true,true,true,true,true,true,true,true,true,true,true,true,true,true,true,true,true,true,true,true,true,true,true,true,true,true,true,true,true,true,true,true,true,true,true,true,true,true,true,true,true,true,true,true,true,true,false,true,false,true,true,true,true,true,true,true,true,true,true,true,true,true,true,true,true,true,true,true,true,true,true,true,true,true,true,false,true,true,false,true,false,false,false,false,false,false,false,false,false,false,false,false,false,false,false,false,false,false,false,false,false,false,false,false,false,false,true]
theorem zsO:((List.range 367).zip enTbl).all (λp=>!p.2 || zun Tryz.prog p.1)=true:=by kernel_rfl
theorem en{k:Nat}(h:nth enTbl k=some true):∀(args:Array Value) (w:World),(callFunc k args).run Tryz.prog w= .ok (.enter k args) w:=by
 refine zxZ ?_;rw[zhb] at h;have q:enTbl.length=367:=rfl;have m:k<367:=by rw[<-q];exact(AL.1 h).1
 have j:((List.range 367).zip enTbl)[k]?=some (k,true):=by rw[List.getElem?_zip_eq_some];exact⟨EX m,h⟩
 have:=AD.1 zsO _ (BE j);simpa using this
end Go.Proofs.YtdnlngbjpdbffaaGreatDoor
