/- Plain laws of numbers modulo a number: congruence, Euclid's algorithm, powers, Fermat's little theorem. -/
import Derived.Test.YtdnlngbjpdbffaaGreatDoorLJ07
import Derived.Test.YtdnlngbjpdbffaaGreatDoorLJ05
import Derived.Laws.StructEq
import Derived.Laws.Bits64b
import Derived.Lib.Mul64
import Derived.Test.YtdnlngbjpdbffaaGreatDoorProg
import Derived.Shelf.Abstract
import Derived.KernelRfl
set_option maxRecDepth 10000
set_option linter.all false
section
namespace Go.Nt
def Cg (m a b:Nat):Prop:=∃k:Int,(a:Int) - b=m*k
theorem zi6 (m a b:Nat):Cg m a b↔a % m=b % m:=by
 constructor
 ·rintro ⟨k,h⟩;have h1:(a:Int) % m=(b:Int) % m:=by
   rw [show (a:Int)=b+m*k by omega,Int.add_mul_emod_self_left]
  have h2:((a % m:Nat):Int)=((b % m:Nat):Int):=by rw [Int.natCast_emod,Int.natCast_emod,h1]
  exact Int.ofNat.inj h2
 ·intro h;have h1:=Nat.div_add_mod a m;have h2:=Nat.div_add_mod b m;refine ⟨((a / m:Nat):Int) - ((b / m:Nat):Int),?_⟩;rw [Int.mul_sub,<-Int.natCast_mul,<-Int.natCast_mul];omega
theorem zci (m a:Nat):Cg m (a % m) a:=(zi6 _ _ _).2 (Nat.mod_mod _ _)
theorem Cg.refl (m a:Nat):Cg m a a:=⟨0,by omega⟩
theorem Cg.symm {m a b:Nat} :Cg m a b->Cg m b a:=λ⟨k,h⟩=>⟨-k,by rw [Int.mul_neg];omega⟩
theorem Cg.trans {m a b c:Nat} :Cg m a b->Cg m b c->Cg m a c:=λ⟨k,h⟩ ⟨l,h'⟩=>⟨k+l,by rw [Int.mul_add];omega⟩
theorem Cg.add {m a b c d:Nat} :Cg m a b->Cg m c d->Cg m (a+c) (b+d):=λ⟨k,h⟩ ⟨l,h'⟩=>⟨k+l,by rw [Int.mul_add];omega⟩
theorem Cg.mul {m a b c d:Nat} :Cg m a b->Cg m c d->Cg m (a*c) (b*d):=λ⟨k,h⟩ ⟨l,h'⟩=>⟨k*c+b*l,by rw [Int.natCast_mul,Int.natCast_mul];grind⟩
theorem Cg.pow {m a b:Nat}(h:Cg m a b): ∀n:Nat,Cg m (a ^ n) (b ^ n)
 |0=>by rw [Nat.pow_zero,Nat.pow_zero];exact Cg.refl _ _
 |n+1=>by rw [Nat.pow_succ,Nat.pow_succ];exact (Cg.pow h n).mul h
theorem Cg.mod {m a b:Nat}(h:Cg m a b):a % m=b % m:=(zi6 _ _ _).1 h
def dm (m a b:Nat):Nat:=(a+(m - b % m)) % m
theorem zpF {m:Nat}(a b:Nat) (h:0 < m):dm m a b < m:=Nat.mod_lt _ h
theorem zld {m:Nat}(a b:Nat) (h:0 < m):Cg m (dm m a b+b) a:=by
 refine ((zci m _).add (Cg.refl m b)).trans ?_;have h1:=Nat.mod_lt b h;have h2:=Nat.div_add_mod b m;refine ⟨1+((b / m:Nat):Int),?_⟩;rw [Int.mul_add,<-Int.natCast_mul];omega
theorem zr9 {m a b c:Nat}(h:0 < m) (hc:c < m) (e:Cg m (c+b) a):dm m a b=c:=by
 have h1:=(zld a b h).trans e.symm;obtain ⟨k,hk⟩:=h1;have h3:Cg m (dm m a b) c:=⟨k,by omega⟩;have h4:=h3.mod;rwa [Nat.mod_eq_of_lt (zpF a b h),Nat.mod_eq_of_lt hc] at h4
theorem zr1 {m a b c d:Nat}(h:0 < m) (e1:Cg m a c) (e2:Cg m b d):dm m a b=dm m c d:=
 zr9 h (zpF _ _ h) ((Cg.add (Cg.refl _ _) e2).trans ((zld c d h).trans e1.symm))
def pmod (m:Nat):Nat->Nat->Nat->Nat
 |0,_,_=>1 % m
 |n+1,b,e=>bif Nat.beq (e % 2) 1 then b*pmod m n (b*b % m) (e / 2) % m else pmod m n (b*b % m) (e / 2)
theorem zk3 (m:Nat): ∀n b e,e < 2 ^ n->pmod m n b e=b ^ e % m
 |0,b,e,h=>by
  rw [Nat.pow_zero] at h;obtain rfl:e=0:=q_o;rfl
 |n+1,b,e,h=>by
  rw [Nat.pow_succ] at h;have ih:=zk3 m n (b*b % m) (e / 2) q_o;have h1:(b*b % m) ^ (e / 2) % m=(b*b) ^ (e / 2) % m:=((zci m (b*b)).pow _).mod;rw [h1,<-Nat.pow_two,<-Nat.pow_mul] at ih;rw [pmod,<-Nat.pow_two,ih];rcases (show e % 2=0\/e % 2=1 by omega) with h2|h2
  ·rw [h2,show Nat.beq 0 1=false from rfl,cond_false,show 2*(e / 2)=e by omega]
  ·rw [h2,show Nat.beq 1 1=true from rfl,cond_true,Nat.mul_mod_mod]
   conv=>rhs;rw [show e=2*(e / 2)+1 by omega,Nat.pow_succ,Nat.mul_comm]
def gP:Nat->Nat
 |1=>2879
 |2=>71850239
 |3=>2444789759
 |_=>1552518092300708935130918131258481755631334049434514313202351194902966239949102107258669453876591642442910007680288864229150803718918046342632727613031282983744380820890196288509170691316593175367469551763119843371637221007210577919
def gQ (i:Nat):Nat:=gP i / 2
def gL:Nat->Nat
 |1=>2
 |2=>4
 |3=>4
 |_=>96
theorem zbl {p:Nat->Prop}(h1:p 1) (h2:p 2) (h3:p 3) (h4:p 4) (i:Nat) (h0:1<=i) (h5:i<=4):p i:=by
 rcases (show i=1\/i=2\/i=3\/i=4 by omega) with rfl|rfl|rfl|rfl
 ·exact h1
 ·exact h2
 ·exact h3
 ·exact h4
def gE:Nat->Nat
 |0=>0
 |_=>768
theorem zsk:pmod (gP 1) (gE 1) 4 (gQ 1)=1:=by decide +kernel
theorem zsg:pmod (gP 2) (gE 2) 4 (gQ 2)=1:=by decide +kernel
theorem zsf:pmod (gP 3) (gE 3) 4 (gQ 3)=1:=by decide +kernel
theorem zsj:pmod (gP 4) (gE 4) 4 (gQ 4)=1:=by decide +kernel
theorem zr6 (i:Nat) (h0:1<=i) (h5:i<=4):gQ i < 2 ^ gE i:=zbl (p:=λi=>gQ i < 2 ^ gE i) (by decide +kernel) (by decide +kernel) (by decide +kernel) (by decide +kernel) i h0 h5
theorem zgW (i:Nat) (h0:1<=i) (h5:i<=4):nd 256 (gP i)=gL i:=
 zbh _ _ _ q_e (zbl (p:=λi=>gP i < 256 ^ gL i) (by decide +kernel) (by decide +kernel) (by decide +kernel) (by decide +kernel) i h0 h5)
  λ_=>zbl (p:=λi=>256 ^ (gL i - 1)<=gP i) (by decide +kernel) (by decide +kernel) (by decide +kernel) (by decide +kernel) i h0 h5
theorem zmu (i:Nat) (h0:1<=i) (h5:i<=4):gP i=2*gQ i+1:=zbl (p:=λi=>gP i=2*gQ i+1) (by decide +kernel) (by decide +kernel) (by decide +kernel) (by decide +kernel) i h0 h5
theorem zaB (i:Nat) (h0:1<=i) (h5:i<=4):1439<=gQ i:=zbl (p:=λi=>1439<=gQ i) (by decide +kernel) (by decide +kernel) (by decide +kernel) (by decide +kernel) i h0 h5
theorem g4 (i:Nat) (h0:1<=i) (h5:i<=4):4 ^ gQ i % gP i=1:=by
 rw [<-zk3 (gP i) (gE i) 4 (gQ i) (zr6 i h0 h5)];exact zbl (p:=λi=>pmod (gP i) (gE i) 4 (gQ i)=1) zsk zsg zsf zsj i h0 h5
theorem zhO {m b q e:Nat}(h:Cg m (b ^ q) 1):Cg m (b ^ (e % q)) (b ^ e):=by
 conv=>rhs;rw [<-Nat.div_add_mod e q,Nat.pow_add,Nat.pow_mul]
 have h1:=(h.pow (e / q)).mul (Cg.refl m (b ^ (e % q)));rw [Nat.one_pow,Nat.one_mul] at h1;exact h1.symm
def mem (i x:Nat):Prop:=0 < x/\x < gP i/\x ^ gQ i % gP i=1
theorem zaI (i:Nat) (h0:1<=i) (h5:i<=4):1 < gP i:=by
 have:=zmu i h0 h5;have:=zaB i h0 h5;omega
theorem zfx {i x:Nat}(h0:1<=i) (h5:i<=4) (h:x ^ gQ i % gP i=1):Cg (gP i) (x ^ gQ i) 1:=
 (zi6 _ _ _).2 (by rw [h,Nat.mod_eq_of_lt (zaI i h0 h5)])
theorem zjP {i x:Nat}(h0:1<=i) (h5:i<=4) (h:Cg (gP i) (x ^ gQ i) 1):mem i (x % gP i):=by
 have h1:=zaI i h0 h5;have h2:=zaB i h0 h5;have h3:(x % gP i) ^ gQ i % gP i=1:=by
  rw [((zci (gP i) x).pow (gQ i)).mod,h.mod,Nat.mod_eq_of_lt h1]
 refine ⟨?_,Nat.mod_lt _ q_o,h3⟩;rcases Nat.eq_zero_or_pos (x % gP i) with h4|h4
 ·rw [h4,Nat.zero_pow q_o,Nat.zero_mod] at h3;omega
 ·exact h4
theorem zes {i:Nat}(h0:1<=i) (h5:i<=4) (e:Nat):mem i (4 ^ e % gP i):=by
 refine zjP h0 h5 ?_;have h:=(zfx h0 h5 (g4 i h0 h5)).pow e;rw [Nat.one_pow,<-Nat.pow_mul,Nat.mul_comm,Nat.pow_mul] at h;exact h
end Go.Nt
end
section
namespace Go.Sy
open Go Go.Wd
section
variable {P:Program}{ro:Option Nat}{N:Nat}{w0:World}{M:Nat->Prop}{ds:List Deferred}{g:Nat->Option Value}{L:List Res}{o:Oper}
end
end Go.Sy
end
section
namespace Go.Sy
open Go
inductive FillTo (pl:Nat->Option (Nat×Nat)):List (Nat×Value)->List Value->List Value->Prop
 |nil {C:List Value} :FillTo pl [] C C
 |cons {i off n:Nat}{v:Value}{cs C C':List Value}{rest:List (Nat×Value)}(hv:v.cells=cs.toArray) (hp:pl i=some (off,n)) (hl:cs.length=n) (hb:off+n<=C.length) (h:FillTo pl rest (setSeg C off cs) C'):FillTo pl ((i,v)::rest) C C'
theorem zfU {pl:Nat->Option (Nat×Nat)}{l:List (Nat×Value)}{C C':List Value}(h:FillTo pl l C C'):Instr.fill pl C.toArray l=some C'.toArray:=by
 induction h with
 |nil=>simp [Instr.fill]
 | @cons i off n v cs C C' rest hv hp hl hb h ih=>
  simp only [Instr.fill,hp,hv];rw [if_neg (by simp;omega)];have e:=zfR cs (C.take off) (C.drop off) off 0 (by simp;omega) (by simp;omega);rw [List.take_append_drop,List.drop_drop] at e;have e2:(cs.toArray.zipIdx.foldl (λ(a:Array Value) (p:Value×Nat)=>a.setIfInBounds (off+p.2) p.1) C.toArray)=(setSeg C off cs).toArray:=by
   unfold setSeg;rw [<-e];simp
  have e3:(cs.toArray.zipIdx.foldl (λ(a:Array Value) (x:Value×Nat)=>match x with|(c,j)=>a.setIfInBounds (off+j) c) C.toArray)=(setSeg C off cs).toArray:=e2;rw [e3];exact ih
section
variable {P:Program}{ro:Option Nat}{N:Nat}{w0:World}{M:Nat->Prop}{ds:List Deferred}{o:Oper}{g:Nat->Option Value}{L:List Res}{t:TypeId}{y:Ty}
theorem zed {parts:Array (Nat×Operand)}{vs Z C:List Value}(hf:FillTo (nth y.flds) (List.zip (parts.toList.map (·.1)) vs) Z C) (ho:o.op= .build t parts:=by exact rfl) (hv:evs g (parts.toList.map (·.2))=some vs:=by exact rfl) (ht:tyOf P t=some y:=by exact ty rfl) (hy:y.desc= .struct #[]:=by exact rfl)
  (hn:y.flds.all (λp=>!Nat.beq p.2 0)=true:=by exact rfl) (hz:zeroC P t=some Z:=by exact zc rfl):OpT P ro N w0 M ds o g L (Det (.agg C.toArray) L):=by
 refine zdP ho hv ?_;obtain ⟨d,i,hd,hi,hs,_,_,hfl⟩:=zN ht;rw [hy] at hs;obtain ⟨fs,rfl⟩:=zdm hs;simp only at hfl;unfold zeroC at hz;rw [hi] at hz;simp only [Option.bind_some,Option.map_eq_some_iff] at hz;obtain ⟨zv,hzv,hze⟩:=hz;rw [hfl] at hn;simp only [Program.built,hi,hd,hzv,zdk _ hn];have:=zfU hf;rw [show zv.cells=Z.toArray by rw [<-hze]];rw [show (λx=>(List.map (λf=>(f.offset,P.cellsOf f.type)) fs.toList).toArray[x]?)=nth y.flds by funext x;rw [zer,hfl];simp];rw [this]
end
end Go.Sy
end
section
namespace Go.Nt
open Go Go.Sy
def nv (d:Nat):Value:=.int .u64 (d:Int)
def iv (d:Nat):Value:=.int .i64 (d:Int)
def natC (x:Nat):List Value:=(dg 18446744073709551616 16 x).map nv
def natV (x:Nat):Value:=.agg (natC x).toArray
def refC (x:Nat):List Value:=(cd 65536 x).map iv
theorem ze (x:Nat):(natC x).length=16:=by unfold natC;rw [List.length_map,zbo]
theorem zaK (x i:Nat) (h:i < 16):(natC x)[i]?=some (nv (x / 18446744073709551616 ^ i % 18446744073709551616)):=by
 unfold natC;rw [List.getElem?_map,zcL _ _ _ _ h];rfl
theorem zcY (x:Nat):(natC x).all (·.oneCell')=true:=by
 unfold natC;rw [List.all_eq_true];intro v hv;obtain ⟨d,-,rfl⟩:=List.mem_map.1 hv;rfl
theorem zrW (l:List Nat):(l.map nv).all (·.oneCell')=true:=by
 rw [List.all_eq_true];intro v hv;obtain ⟨d,-,rfl⟩:=List.mem_map.1 hv;rfl
theorem zrF (l:List Nat):(l.map iv).all (·.oneCell')=true:=by
 rw [List.all_eq_true];intro v hv;obtain ⟨d,-,rfl⟩:=List.mem_map.1 hv;rfl
theorem zcs (x j e:Nat) (h:x / 18446744073709551616 ^ j % 18446744073709551616+e < 18446744073709551616):(natC x).set j (nv (x / 18446744073709551616 ^ j % 18446744073709551616+e))=natC (x+e*18446744073709551616 ^ j):=by
 unfold natC;rw [<-List.map_set,zeQ _ _ _ _ _ h]
theorem zfb: ∀(xs ys:List Nat),xs.length=ys.length->((List.range xs.length).all λi=>xs.getD i 0 == ys.getD i 0)=(xs == ys)
 | [],[],_=>rfl
 |x::xs,y::ys,h=>by
  have ih:=zfb xs ys (by simpa using h);rw [List.length_cons,List.range_succ_eq_map,List.all_cons,List.all_map];simp only [List.getD_cons_zero,Function.comp_def,List.getD_cons_succ,ih];simp [List.cons_beq_cons]
 | [],_::_,h=>by simp at h
 |_::_,[],h=>by simp at h
section
variable {P:Program}(w:World)
theorem zf9 (d:Nat) (t e:TypeId) (n:Nat) (ht:P.underlying t=some (.array n e)) (he:P.underlying e=some (.int .u64)) (hsz: ∀w,(sizeOf e).run P w= .ok 1 w)
  (xs ys:List Nat) (hx:xs.length=n) (hy:ys.length=n):
  (Op.equalIn (d+2) t (.agg (xs.map nv).toArray) (.agg (ys.map nv).toArray)).run P w= .ok (xs == ys) w:=by
 rw [<-zfb xs ys (hx.trans hy.symm),hx,List.range_eq_range',Op.equalIn];simp only [Sem.run_bind,run_underlying ht,Result.andThen_ok,hsz,Std.Legacy.Range.forIn_eq_forIn_range',Std.Legacy.Range.size,Nat.sub_zero,Nat.add_sub_cancel,Nat.div_one];have hl: ∀i∈List.range' 0 n 1,i < n:=λi hi=>by simpa using (List.mem_range'_1.1 hi).2
 generalize List.range' 0 n 1=l at hl ⊢
 induction l with
 |nil=>simp
 |cons i l ih=>
  have hi:i < n:=hl i q_p;have px:(part e (xs.map nv).toArray (i*1)).run P w= .ok (nv (xs.getD i 0)) w:=by
   simp [part,isAgg,run_underlying he,List.getD,List.getElem?_eq_getElem (show i < xs.length by omega)]
  have py:(part e (ys.map nv).toArray (i*1)).run P w= .ok (nv (ys.getD i 0)) w:=by
   simp [part,isAgg,run_underlying he,List.getD,List.getElem?_eq_getElem (show i < ys.length by omega)]
  have pe:(Op.equalIn (d+1) e (nv (xs.getD i 0)) (nv (ys.getD i 0))).run P w= .ok (xs.getD i 0 == ys.getD i 0) w:=by
   rw [nv,nv,run_equalIn_int w d e .u64 .u64 _ _ he];congr 1;rw [Bool.eq_iff_iff];simp;omega
  simp only [List.forIn_cons,Sem.run_bind,px,py,pe,Result.andThen_ok,List.all_cons];cases hb:(xs.getD i 0 == ys.getD i 0)
  ·simp
  ·simp only [Bool.not_true,Bool.false_eq_true,if_false,Sem.run_pure,Result.andThen_ok,Bool.true_and];exact ih λj hj=>hl j (by simp [hj])
structure NatTy (P:Program) (t td e n:Nat):Prop where
 und:P.underlying t=some (.struct (P.fieldsOf t))
 stood:P.stoodInHeld t=false
 flds:(P.fieldsOf t).toList.map (λf=>(f.name == "_",f.type,f.offset))= [(false,td,0)]
 arr: ∃y,tyOf P td=some y/\y.desc= .array n e/\y.size=n
 elem: ∃y,tyOf P e=some y/\y.desc= .int .u64/\y.size=1
 guard:P.eqGuardType P.depth t=false
theorem ziC {t td e n:Nat}(H:NatTy P t td e n) (xs ys:List Nat) (hx:xs.length=n) (hy:ys.length=n):
  (Op.equal t (.agg (xs.map nv).toArray) (.agg (ys.map nv).toArray)).run P w= .ok (xs == ys) w:=by
 obtain ⟨y,hyt,hyd,hys⟩:=H.arr;obtain ⟨ye,het,hed,hes⟩:=H.elem;obtain ⟨d,i',hd,hi',hs',_⟩:=zN hyt;rw [hyd] at hs';have:=zbF hs';subst this;obtain ⟨de,_,hde,_,hse,_⟩:=zN het;rw [hed] at hse;have:=ziP hse;subst this;have hmain:=zf9 (P:=P) w 9997 td e n hd hde (λw=>by rw [zaX het,hes]) xs ys hx hy;have hpart: ∀(l:List Nat),l.length=n->(part td (l.map nv).toArray 0).run P w= .ok (.agg (l.map nv).toArray) w:=λl hl=>by
  have hsz:(sizeOf td).run P w= .ok n w:=by rw [zaX hyt,hys]
  simp only [part,isAgg,Sem.run_bind,run_underlying hd,Result.andThen_ok,Sem.run_pure,if_true,hsz,Nat.zero_add];congr 2;apply Array.toList_inj.1;rw [Array.toList_extract];exact List.take_of_length_le (by simp [hl])
 show (Op.equalIn (9998+1+1) t _ _).run P w=_;rw [run_equalIn_struct w (9998+1) t _ _ H.und H.stood];have hfl:=H.flds;cases hl:(P.fieldsOf t).toList with
 |nil=>rw [hl] at hfl;cases hfl
 |cons f fs=>
  rw [hl] at hfl;simp only [List.map_cons,List.cons.injEq,Prod.mk.injEq,List.map_eq_nil_iff] at hfl;obtain ⟨⟨h1,h2,h3⟩,rfl⟩:=hfl;have h1':f.name≠ "_" :=by simpa using h1
  simp only [Op.eqFields,h1',ne_eq,not_false_eq_true,if_true,Sem.run_bind,h2,h3,hpart xs hx,hpart ys hy,Result.andThen_ok];rw [hmain];simp only [Result.andThen_ok];cases xs == ys <;> simp
end
section
variable {P:Program}{ro:Option Nat}{N:Nat}{w0:World}{M:Nat->Prop}{ds:List Deferred}{g:Nat->Option Value}{L:List Res}{o:Oper}{t t':TypeId}{x z:Operand}
theorem zqj (a b:Nat) (ha:a < 18446744073709551616 ^ 16) (hb:b < 18446744073709551616 ^ 16):(dg 18446744073709551616 16 a == dg 18446744073709551616 16 b)=decide (a=b):=by
 by_cases h:a=b
 ·subst h;simp
 ·have:dg 18446744073709551616 16 a≠dg 18446744073709551616 16 b:=λe=>h (zrg _ _ _ _ ha hb e);simp [h,this]
theorem zjb {td e:Nat}{a b:Nat}{r:Bool}(H:NatTy P t td e 16) (ha:a < 18446744073709551616 ^ 16) (hb:b < 18446744073709551616 ^ 16) (hr:decide (a=b)=r) (ho:o.op= .binOp .eql t x z t':=by exact rfl) (hx:ev g x=some (natV a):=by exact rfl) (hz:ev g z=some (natV b):=by exact rfl):OpT P ro N w0 M ds o g L (Det (.bool r) L):=
 OpT.still (by rw [ho];rfl) λac w X hs=>by
  have he:(Op.equal t (natV a) (natV b)).run P w= .ok r w:=by
   have:=ziC w H (dg 18446744073709551616 16 a) (dg 18446744073709551616 16 b) (zbo _ _ _) (zbo _ _ _);rw [zqj a b ha hb,hr] at this;exact this
  have hg:=H.guard;simp [execOp,ho,hs.agr.eval hx,hs.agr.eval hz,eqGuard,binOp,hg];unfold natV at he ⊢;simp [he,hg]
theorem zlL {n e:Nat}{y ye:Ty}{parts:Array (Nat×Operand)}{vs Z C:List Value}(he:tyOf P e=some ye) (hf:FillTo (λi=>some (i*ye.size,ye.size)) (List.zip (parts.toList.map (·.1)) vs) Z C) (ho:o.op= .build t parts:=by exact rfl) (hv:evs g (parts.toList.map (·.2))=some vs:=by exact rfl) (ht:tyOf P t=some y:=by exact ty rfl) (hy:y.desc= .array n e:=by exact rfl)
  (hz:zeroC P t=some Z:=by exact zc rfl):OpT P ro N w0 M ds o g L (Det (.agg C.toArray) L):=by
 refine zdP ho hv ?_;obtain ⟨d,i,hd,hi,hs,_⟩:=zN ht;rw [hy] at hs;have:=zbF hs;subst this;obtain ⟨de,ie,hde,hie,_,hez,_⟩:=zN he;unfold zeroC at hz;rw [hi] at hz;simp only [Option.bind_some,Option.map_eq_some_iff] at hz;obtain ⟨zv,hzv,hze⟩:=hz;simp only [Program.built,hi,hd,hzv,hie,hez];have:=zfU hf;rw [show zv.cells=Z.toArray by rw [<-hze]];rw [this]
end
theorem shrN (a n:Nat) (k:IntKind) (h:n < 64):Op.shift .shr .u64 (a:Int) k (n:Int)=pure (.int .u64 ((a / 2 ^ n:Nat):Int)):=by
 have h1: ¬((n:Int) < 0):=q_o;have h2: ¬64<=n:=q_o;simp [Op.shift,h1,h2,IntKind.bits]
theorem shlN (a n:Nat) (k:IntKind) (h:n < 64):Op.shift .shl .u64 (a:Int) k (n:Int)=pure (.int .u64 ((a*2 ^ n % 18446744073709551616:Nat):Int)):=by
 have h1: ¬((n:Int) < 0):=q_o;have h2: ¬64<=n:=q_o;simp [Op.shift,h1,h2,IntKind.bits];rw [Wd.wrap_u64]
theorem shrN64 (a n:Nat) (k:IntKind) (ha:a < 18446744073709551616):Op.shift .shr .u64 (a:Int) k (n:Int)=pure (.int .u64 ((a / 2 ^ n:Nat):Int)):=by
 rcases Nat.lt_or_ge n 64 with h|h
 ·exact shrN a n k h
 ·have h1: ¬((n:Int) < 0):=q_o;have h2:a / 2 ^ n=0:=Nat.div_eq_of_lt (Nat.lt_of_lt_of_le (show a < 2 ^ 64 from ha) (Nat.pow_le_pow_right q_e h));have h3: ¬((a:Int) < 0):=q_o;simp [Op.shift,h1,h,h2,h3,IntKind.bits];rw [Int.fdiv_eq_ediv_of_nonneg _ q_e,show ((a:Int) / 18446744073709551616)=0 by omega]
theorem shlN64 (a n:Nat) (k:IntKind):Op.shift .shl .u64 (a:Int) k (n:Int)=pure (.int .u64 ((a*2 ^ n % 18446744073709551616:Nat):Int)):=by
 rcases Nat.lt_or_ge n 64 with h|h
 ·exact shlN a n k h
 ·have h1: ¬((n:Int) < 0):=q_o;have h2:a*2 ^ n % 18446744073709551616=0:=by
   rw [show n=64+(n - 64) by omega,Nat.pow_add,Nat.mul_left_comm];exact Nat.mul_mod_right _ _
  rw [h2];simp [Op.shift,h1,h,IntKind.bits];rw [Wd.wrap_u64,Int.mul_emod_left]
theorem zlX (r k:Nat) (hk:k < 64) (hr:r < 2 ^ k):bits .andNot .u64 ((2 ^ k+r:Nat):Int) ((2 ^ k:Nat):Int)=(r:Int):=by
 have hp:2 ^ k<=2 ^ 63:=Nat.pow_le_pow_right q_e q_o;have hq:2 ^ k+r < 2 ^ 64:=q_o;have h1:(BitVec.ofInt 64 ((2 ^ k+r:Nat):Int)).toNat=2 ^ k+r:=by
  rw [BitVec.ofInt_natCast,BitVec.toNat_ofNat];exact Nat.mod_eq_of_lt hq
 have h2:(BitVec.ofInt 64 ((2 ^ k:Nat):Int)).toNat=2 ^ k:=by
  rw [BitVec.ofInt_natCast,BitVec.toNat_ofNat];exact Nat.mod_eq_of_lt q_o
 show IntKind.u64.wrap ((BitVec.ofInt 64 ((2 ^ k+r:Nat):Int) &&& ~~~ BitVec.ofInt 64 ((2 ^ k:Nat):Int)).toNat:Int)=_;have h3:(2 ^ k+r) &&& (2 ^ 64 - 1 - 2 ^ k)=r:=by
  apply Nat.eq_of_testBit_eq;intro j;rw [Nat.testBit_and,show 2 ^ 64 - 1 - 2 ^ k=2 ^ 64 - (2 ^ k+1) by omega,Nat.testBit_two_pow_sub_succ q_o,Nat.testBit_two_pow];have h4:2 ^ k+r=2 ^ k ||| r:=by
   have:=Nat.two_pow_add_eq_or_of_lt hr 1;rw [Nat.mul_one] at this;exact this
  rw [h4,Nat.testBit_or,Nat.testBit_two_pow];by_cases hj:k=j
  ·subst hj;rw [Nat.testBit_lt_two_pow hr];simp
  ·by_cases h6:j < 64
   ·simp [hj,h6]
   ·rw [Nat.testBit_lt_two_pow (Nat.lt_of_lt_of_le (show r < 2 ^ 64 by omega) (Nat.pow_le_pow_right q_e q_o))];simp [hj]
 rw [BitVec.toNat_and,BitVec.toNat_not,h1,h2,h3,IntKind.wrap_u64];omega
section
variable {P:Program}{ro:Option Nat}{N:Nat}{w0:World}{M:Nat->Prop}{ds:List Deferred}{g:Nat->Option Value}{L:List Res}{o:Oper}{t t':TypeId}{x z:Operand}
theorem zgn {a:Nat}(s:Nat) (hs:s<=64) (ha:a < 18446744073709551616) (ho:o.op= .binOp .and t x z t':=by exact rfl) (hx:ev g x=some (nv a):=by exact rfl) (hz:ev g z=some (nv (2 ^ s - 1)):=by exact rfl):OpT P ro N w0 M ds o g L (Det (nv (a % 2 ^ s)) L):=
 zdq ho hx hz (by
  have:2 ^ s<=2 ^ 64:=Nat.pow_le_pow_right q_e hs;rw [bits_and_u64_nat _ _ ha q_o,Nat.and_two_pow_sub_one_eq_mod])
theorem zcz {a:Nat}(n:Nat) {k':IntKind}(hn:n < 64) (ho:o.op= .binOp .shr t x z t':=by exact rfl) (hx:ev g x=some (nv a):=by exact rfl) (hz:ev g z=some (.int k' (n:Int)):=by exact rfl):OpT P ro N w0 M ds o g L (Det (nv (a / 2 ^ n)) L):=
 zaJ ho hx hz (shrN a n k' hn)
theorem zeF {a b:Nat}(ho:o.op= .binOp .mul t x z t':=by exact rfl) (hx:ev g x=some (nv a):=by exact rfl) (hz:ev g z=some (nv b):=by exact rfl):OpT P ro N w0 M ds o g L (Det (nv (a*b % 18446744073709551616)) L):=
 zah ho hx hz (by rw [show ((a:Nat):Int)*((b:Nat):Int)=((a*b:Nat):Int) by simp,Wd.wrap_u64_nat])
theorem zcI {a b:Nat}(ho:o.op= .binOp .add t x z t':=by exact rfl) (hx:ev g x=some (nv a):=by exact rfl) (hz:ev g z=some (nv b):=by exact rfl):OpT P ro N w0 M ds o g L (Det (nv ((a+b) % 18446744073709551616)) L):=
 zu ho hx hz (by rw [show ((a:Nat):Int)+((b:Nat):Int)=((a+b:Nat):Int) by simp,Wd.wrap_u64_nat])
theorem zd2 {a n:Nat}{k':IntKind}(ha:a < 18446744073709551616) (ho:o.op= .binOp .shr t x z t':=by exact rfl) (hx:ev g x=some (nv a):=by exact rfl) (hz:ev g z=some (.int k' (n:Int)):=by exact rfl):OpT P ro N w0 M ds o g L (Det (nv (a / 2 ^ n)) L):=
 zaJ ho hx hz (shrN64 a n k' ha)
theorem zd4 {a n:Nat}{k':IntKind}(ho:o.op= .binOp .shl t x z t':=by exact rfl) (hx:ev g x=some (nv a):=by exact rfl) (hz:ev g z=some (.int k' (n:Int)):=by exact rfl):OpT P ro N w0 M ds o g L (Det (nv (a*2 ^ n % 18446744073709551616)) L):=
 zdW ho hx hz (shlN64 a n k')
theorem zlv {n:Nat}{k':IntKind}(hn:n < 64) (ho:o.op= .binOp .shl t x z t':=by exact rfl) (hx:ev g x=some (nv 1):=by exact rfl) (hz:ev g z=some (.int k' (n:Int)):=by exact rfl):OpT P ro N w0 M ds o g L (Det (nv (2 ^ n)) L):=
 zdW ho hx hz (by
  have h:2 ^ n<=2 ^ 63:=Nat.pow_le_pow_right q_e q_o;rw [shlN64 1 n k',Nat.one_mul,Nat.mod_eq_of_lt (show 2 ^ n < 18446744073709551616 by omega)])
theorem zfF {a b:Nat}(ha:a < 18446744073709551616) (hb:b < 18446744073709551616) (ho:o.op= .binOp .or t x z t':=by exact rfl) (hx:ev g x=some (nv a):=by exact rfl) (hz:ev g z=some (nv b):=by exact rfl):OpT P ro N w0 M ds o g L (Det (nv (a ||| b)) L):=
 zpK ho hx hz (bits_or_u64_nat a b ha hb)
theorem zqU {a b:Nat}(hb:0 < b:=by omega) (ha:a < 18446744073709551616:=by omega) (ho:o.op= .binOp .quo t x z t':=by exact rfl) (hx:ev g x=some (nv a):=by exact rfl) (hz:ev g z=some (nv b):=by exact rfl):OpT P ro N w0 M ds o g L (Det (nv (a / b)) L):=
 zaz ho hx hz q_o (by
  have:=Nat.div_le_self a b;rw [Int.tdiv_eq_ediv_of_nonneg q_o,show ((a:Int) / (b:Int))=((a / b:Nat):Int) from rfl];generalize a / b=q at *;exact IntWalk.u64_in _ q_o)
theorem zqg {a b:Nat}(hb:0 < b:=by omega) (ho:o.op= .binOp .rem t x z t':=by exact rfl) (hx:ev g x=some (nv a):=by exact rfl) (hz:ev g z=some (nv b):=by exact rfl):OpT P ro N w0 M ds o g L (Det (nv (a % b)) L):=
 zap ho hx hz q_o (by rw [Int.tmod_eq_emod_of_nonneg q_o];rfl)
theorem znG {r k:Nat}(hk:k < 64) (hr:r < 2 ^ k) (ho:o.op= .binOp .andNot t x z t':=by exact rfl) (hx:ev g x=some (nv (2 ^ k+r)):=by exact rfl) (hz:ev g z=some (nv (2 ^ k)):=by exact rfl):OpT P ro N w0 M ds o g L (Det (nv r) L):=
 zm4 ho hx hz (zlX r k hk hr)
end
end Go.Nt
namespace Go.Sy
open Go
section
variable {P:Program}{ro:Option Nat}{N:Nat}{w0:World}{M:Nat->Prop}{ds:List Deferred}{g:Nat->Option Value}{L:List Res}{o:Oper}
theorem zo4 {t n b off k c e:Nat}{x:Operand}{y:Ty}(ho:o.op= .sliceToArrayPointer t x:=by exact rfl) (hx:ev g x=some (.slice (some ⟨b,off,none⟩) k c):=by exact rfl) (hk:n<=k:=by decide) (hn:n≠0:=by decide) (ht:tyOf P t=some y:=by exact ty rfl) (hy:y.desc= .array n e:=by exact rfl):OpT P ro N w0 M ds o g L (Det (.pointer (some ⟨b,off,none⟩)) L):=
 OpT.still (by rw [ho];rfl) λa w X hs=>by
  obtain ⟨d,i,hd,hi,hs',_⟩:=zN ht;rw [hy] at hs';have:=zbF hs';subst this;have h2: ¬k < n:=q_o;simp [execOp,ho,hs.agr.eval hx,Instr.arrayAt,run_underlying hd,h2,hn]
end
end Go.Sy
end
section
namespace Go.Proofs.YtdnlngbjpdbffaaGreatDoor
open Go Go.Sy
def zo:Ty:=⟨.func #[] #[] false,1,8,[]⟩
def tyTbl:List Ty:=[
 ⟨.tuple #[],1,0,[]⟩,
 zo,
 ⟨.int .i64,1,8,[]⟩,
 ⟨.int .i64,1,8,[]⟩,
 ⟨.bool,1,1,[]⟩,
 ⟨.int .u8,1,1,[]⟩,
 ⟨.int .u8,1,1,[]⟩,
 ⟨.struct #[],4,24,[(0,1),(1,1),(2,1),(3,1)]⟩,
 ⟨.struct #[],4,24,[(0,1),(1,1),(2,1),(3,1)]⟩,
 ⟨.string,1,16,[]⟩,
 ⟨.string,1,16,[]⟩,
 ⟨.string,1,16,[]⟩,
 ⟨.int .u64,1,8,[]⟩,
 ⟨.struct #[],2,24,[(0,1),(1,1)]⟩,
 ⟨.struct #[],2,24,[(0,1),(1,1)]⟩,
 ⟨.pointer 350,1,8,[]⟩,
 ⟨.pointer 353,1,8,[]⟩,
 ⟨.pointer 361,1,8,[]⟩,
 ⟨.struct #[],1,8,[(0,1)]⟩,
 ⟨.struct #[],1,8,[(0,1)]⟩,
 ⟨.interface #[],1,16,[]⟩,
 ⟨.int .i32,1,4,[]⟩,
 ⟨.slice 45,1,24,[]⟩,
 ⟨.slice 5,1,24,[]⟩,
 zo,
 zo,
 ⟨.int .i64,1,8,[]⟩,
 ⟨.tuple #[23,26],1,0,[]⟩,
 zo,
 zo,
 zo,
 ⟨.tuple #[22,26],1,0,[]⟩,
 zo,
 ⟨.tuple #[22,3],1,0,[]⟩,
 zo,
 zo,
 zo,
 ⟨.slice 65,1,24,[]⟩,
 ⟨.slice 67,1,24,[]⟩,
 ⟨.array 3 3,3,24,[]⟩,
 zo,
 ⟨.slice 9,1,24,[]⟩,
 ⟨.struct #[],2,40,[(0,1),(1,1)]⟩,
 ⟨.struct #[],2,40,[(0,1),(1,1)]⟩,
 ⟨.struct #[],11,168,[(0,1),(1,2),(3,2),(5,1),(6,1),(7,1),(8,1),(9,1),(10,1)]⟩,
 ⟨.struct #[],11,168,[(0,1),(1,2),(3,2),(5,1),(6,1),(7,1),(8,1),(9,1),(10,1)]⟩,
 ⟨.tuple #[45,26],1,0,[]⟩,
 zo,
 zo,
 zo,
 zo,
 zo,
 ⟨.tuple #[3,26],1,0,[]⟩,
 zo,
 zo,
 zo,
 ⟨.tuple #[45,3],1,0,[]⟩,
 zo,
 zo,
 zo,
 ⟨.tuple #[3,3],1,0,[]⟩,
 zo,
 zo,
 zo,
 ⟨.struct #[],4,72,[(0,2),(2,1),(3,1)]⟩,
 ⟨.struct #[],4,72,[(0,2),(2,1),(3,1)]⟩,
 ⟨.struct #[],3,48,[(0,2),(2,1)]⟩,
 ⟨.struct #[],3,48,[(0,2),(2,1)]⟩,
 zo,
 zo,
 zo,
 zo,
 zo,
 zo,
 zo,
 ⟨.slice 23,1,24,[]⟩,
 zo,
 zo,
 zo,
 zo,
 ⟨.pointer 190,1,8,[]⟩,
 ⟨.struct #[],1,8,[(0,1)]⟩,
 ⟨.struct #[],1,8,[(0,1)]⟩,
 zo,
 zo,
 zo,
 zo,
 zo,
 zo,
 zo,
 zo,
 zo,
 zo,
 zo,
 zo,
 zo,
 ⟨.struct #[],2,32,[(0,1),(1,1)]⟩,
 ⟨.struct #[],2,32,[(0,1),(1,1)]⟩,
 ⟨.tuple #[97,4],1,0,[]⟩,
 zo,
 zo,
 zo,
 zo,
 ⟨.map 3 4,1,8,[]⟩,
 zo,
 ⟨.tuple #[23,3],1,0,[]⟩,
 zo,
 zo,
 zo,
 zo,
 zo,
 zo,
 zo,
 zo,
 zo,
 zo,
 ⟨.struct #[],1,8,[(0,1)]⟩,
 ⟨.struct #[],1,8,[(0,1)]⟩,
 ⟨.tuple #[117,4],1,0,[]⟩,
 zo,
 zo,
 zo,
 zo,
 zo,
 ⟨.tuple #[3,23,3],1,0,[]⟩,
 zo,
 zo,
 zo,
 zo,
 ⟨.int .u64,1,8,[]⟩,
 ⟨.array 16 129,16,128,[]⟩,
 ⟨.array 16 129,16,128,[]⟩,
 ⟨.struct #[],16,128,[(0,16)]⟩,
 ⟨.struct #[],16,128,[(0,16)]⟩,
 ⟨.tuple #[133,4],1,0,[]⟩,
 zo,
 ⟨.tuple #[133,26],1,0,[]⟩,
 zo,
 zo,
 zo,
 zo,
 zo,
 zo,
 zo,
 zo,
 zo,
 zo,
 zo,
 ⟨.tuple #[4,26],1,0,[]⟩,
 zo,
 ⟨.slice 133,1,24,[]⟩,
 zo,
 zo,
 zo,
 zo,
 zo,
 zo,
 zo,
 zo,
 zo,
 ⟨.slice 102,1,24,[]⟩,
 zo,
 zo,
 ⟨.slice 3,1,24,[]⟩,
 ⟨.tuple #[163,4],1,0,[]⟩,
 zo,
 zo,
 zo,
 zo,
 zo,
 zo,
 zo,
 zo,
 zo,
 zo,
 zo,
 zo,
 zo,
 zo,
 zo,
 zo,
 zo,
 zo,
 zo,
 zo,
 ⟨.tuple #[80,26],1,0,[]⟩,
 zo,
 ⟨.struct #[],2,32,[(0,1),(1,1)]⟩,
 ⟨.struct #[],2,32,[(0,1),(1,1)]⟩,
 ⟨.struct #[],3,40,[(0,2),(2,1)]⟩,
 ⟨.struct #[],3,40,[(0,2),(2,1)]⟩,
 zo,
 ⟨.int .u64,1,8,[]⟩,
 ⟨.struct #[],33,264,[(0,16),(16,16),(32,1)]⟩,
 ⟨.struct #[],33,264,[(0,16),(16,16),(32,1)]⟩,
 ⟨.tuple #[194,26],1,0,[]⟩,
 zo,
 zo,
 zo,
 ⟨.array 32 5,32,32,[]⟩,
 zo,
 zo,
 zo,
 zo,
 zo,
 zo,
 zo,
 zo,
 zo,
 zo,
 zo,
 zo,
 zo,
 ⟨.tuple #[43,26],1,0,[]⟩,
 zo,
 zo,
 zo,
 zo,
 zo,
 zo,
 zo,
 zo,
 ⟨.slice 25,1,24,[]⟩,
 zo,
 zo,
 zo,
 ⟨.struct #[],16,128,[(0,16)]⟩,
 ⟨.struct #[],16,128,[(0,16)]⟩,
 zo,
 zo,
 zo,
 zo,
 zo,
 ⟨.tuple #[163,163],1,0,[]⟩,
 zo,
 ⟨.slice 4,1,24,[]⟩,
 zo,
 zo,
 zo,
 zo,
 zo,
 zo,
 ⟨.pointer 188,1,8,[]⟩,
 zo,
 ⟨.array 4 9,4,64,[]⟩,
 zo,
 zo,
 ⟨.int .u32,1,4,[]⟩,
 ⟨.array 8 247,8,32,[]⟩,
 ⟨.array 8 247,8,32,[]⟩,
 zo,
 zo,
 zo,
 zo,
 ⟨.tuple #[80,4,26],1,0,[]⟩,
 zo,
 zo,
 ⟨.int .i8,1,1,[]⟩,
 zo,
 zo,
 ⟨.tuple #[26,4],1,0,[]⟩,
 zo,
 zo,
 zo,
 ⟨.tuple #[9,26],1,0,[]⟩,
 zo,
 zo,
 zo,
 zo,
 ⟨.tuple #[4,4],1,0,[]⟩,
 zo,
 zo,
 zo,
 ⟨.array 2 3,2,16,[]⟩,
 zo,
 ⟨.array 8 3,8,64,[]⟩,
 zo,
 zo,
 zo,
 zo,
 ⟨.tuple #[80,4],1,0,[]⟩,
 zo,
 zo,
 zo,
 zo,
 zo,
 zo,
 ⟨.array 256 4,256,256,[]⟩,
 ⟨.array 256 4,256,256,[]⟩,
 ⟨.tuple #[288,4],1,0,[]⟩,
 zo,
 zo,
 ⟨.pointer 288,1,8,[]⟩,
 ⟨.tuple #[133,133,26],1,0,[]⟩,
 zo,
 zo,
 zo,
 ⟨.pointer 249,1,8,[]⟩,
 ⟨.array 64 247,64,256,[]⟩,
 zo,
 zo,
 zo,
 ⟨.tuple #[3,4],1,0,[]⟩,
 zo,
 zo,
 ⟨.tuple #[3,3,26],1,0,[]⟩,
 zo,
 ⟨.tuple #[23,4],1,0,[]⟩,
 zo,
 ⟨.tuple #[129,129],1,0,[]⟩,
 zo,
 zo,
 ⟨.array 64 3,64,512,[]⟩,
 zo,
 zo,
 zo,
 ⟨.tuple #[21,3],1,0,[]⟩,
 zo,
 zo,
 zo,
 zo,
 zo,
 ⟨.tuple #[131,131],1,0,[]⟩,
 zo,
 ⟨.tuple #[131,4],1,0,[]⟩,
 zo,
 zo,
 zo,
 ⟨.tuple #[9,4],1,0,[]⟩,
 ⟨.array 4 3,4,32,[]⟩,
 ⟨.array 17 129,17,136,[]⟩,
 zo,
 zo,
 zo,
 ⟨.slice 129,1,24,[]⟩,
 zo,
 ⟨.array 32 129,32,256,[]⟩,
 zo,
 ⟨.array 256 5,256,256,[]⟩,
 ⟨.struct #[],2,2,[(0,1),(1,1)]⟩,
 ⟨.struct #[],2,2,[(0,1),(1,1)]⟩,
 ⟨.array 16 340,32,32,[]⟩,
 zo,
 ⟨.interface #[],1,16,[]⟩,
 ⟨.interface #[],1,16,[]⟩,
 ⟨.tuple #[247,247],1,0,[]⟩,
 zo,
 ⟨.pointer 363,1,8,[]⟩,
 zo,
 ⟨.struct #[],4,40,[(0,1),(1,1),(2,1),(3,1)]⟩,
 ⟨.struct #[],4,40,[(0,1),(1,1),(2,1),(3,1)]⟩,
 ⟨.array 0 16,0,0,[]⟩,
 ⟨.struct #[],0,0,[(0,0)]⟩,
 ⟨.struct #[],0,0,[(0,0)]⟩,
 ⟨.int .u8,1,1,[]⟩,
 ⟨.int .u8,1,1,[]⟩,
 zo,
 ⟨.pointer 5,1,8,[]⟩,
 ⟨.int .i32,1,4,[]⟩,
 ⟨.int .i32,1,4,[]⟩,
 ⟨.struct #[],11,48,[(0,1),(1,1),(2,1),(3,1),(4,1),(5,1),(6,1),(7,1),(8,1),(9,1),(10,1)]⟩,
 ⟨.struct #[],11,48,[(0,1),(1,1),(2,1),(3,1),(4,1),(5,1),(6,1),(7,1),(8,1),(9,1),(10,1)]⟩,
 ⟨.struct #[],1,16,[(0,1)]⟩,
 ⟨.struct #[],1,16,[(0,1)]⟩,
 ⟨.unsafePointer,1,8,[]⟩]
theorem zog:(List.range tyTbl.length).map (tyOf Tryz.prog)=tyTbl.map some:=by kernel_rfl
theorem ty {t:Nat}{y:Ty}(hy:nth tyTbl t=some y):tyOf Tryz.prog t=some y:=zo1 zog hy
theorem tyU {t:Nat}{y:Ty}(hy:nth tyTbl t=some y):Tryz.prog.underlying t=some ((Tryz.prog.underlying t).getD .invalid):=by obtain ⟨d,_,h,_⟩:=zN (ty hy);rw [h];rfl
theorem tyI {t:Nat}{y:Ty}{k:IntKind}(hy:nth tyTbl t=some y) (h:y.desc= .int k):Tryz.prog.underlying t=some (.int k):=by obtain ⟨d,_,h1,_,h2,_⟩:=zN (ty hy);rw [h] at h2;rw [h1,ziP h2]
theorem mixed:Tryz.prog.follows .mixedOrders=true:=by kernel_rfl
def zTbl:List (Nat×List Value):=[
 (3,[.int .i64 0]),
 (4,[.bool false]),
 (5,[.int .u8 0]),
 (9,[.string ByteArray.empty]),
 (22,[.slice none 0 0]),
 (23,[.slice none 0 0]),
 (25,[.nilFunc]),
 (26,[.int .i64 0]),
 (43,[.slice none 0 0] ++ [.string ByteArray.empty]),
 (45,[.int .i64 0] ++ [.slice none 0 0] ++ [.string ByteArray.empty] ++ [.slice none 0 0] ++ [.string ByteArray.empty] ++ [.int .i64 0,.int .i64 0] ++ [.bool false] ++ [.int .i64 0] ++ [.slice none 0 0,.slice none 0 0]),
 (65,[.slice none 0 0] ++ [.string ByteArray.empty] ++ [.int .i64 0] ++ [.slice none 0 0]),
 (67,[.slice none 0 0] ++ [.string ByteArray.empty] ++ [.int .i64 0]),
 (80,[.pointer none]),
 (82,[.pointer none]),
 (97,[.int .i64 0] ++ [.slice none 0 0]),
 (102,[.nilFunc]),
 (117,[.int .i64 0]),
 (129,[.int .u64 0]),
 (131,List.replicate 16 (.int .u64 0:Value)),
 (133,List.replicate 16 (.int .u64 0:Value)),
 (150,[.slice none 0 0]),
 (188,[.slice none 0 0] ++ [.int .i64 0]),
 (190,[.slice none 0 0] ++ [.int .i64 0] ++ [.bool false]),
 (194,List.replicate 32 (.int .u64 0:Value) ++ [.int .i64 0]),
 (199,List.replicate 32 (.int .u8 0:Value)),
 (227,List.replicate 16 (.int .u64 0:Value)),
 (244,[.string ByteArray.empty,.string ByteArray.empty,.string ByteArray.empty,.string ByteArray.empty]),
 (248,List.replicate 8 (.int .u32 0:Value)),
 (249,List.replicate 8 (.int .u32 0:Value)),
 (273,[.int .i64 0,.int .i64 0]),
 (275,List.replicate 8 (.int .i64 0:Value)),
 (288,List.replicate 256 (.bool false:Value)),
 (298,List.replicate 64 (.int .u32 0:Value)),
 (312,List.replicate 64 (.int .i64 0:Value)),
 (326,[.nilFunc]),
 (329,[.int .i64 0,.int .i64 0,.int .i64 0,.int .i64 0]),
 (330,List.replicate 17 (.int .u64 0:Value)),
 (336,List.replicate 32 (.int .u64 0:Value)),
 (340,[.int .u8 0,.int .u8 0]),
 (341,List.replicate 32 (.int .u8 0:Value))]
theorem zqa:zTbl.map (λp=>zeroC Tryz.prog p.1)=zTbl.map (λp=>some p.2):=by kernel_rfl
theorem zc {t:Nat}{C:List Value}(h:zfind zTbl t=some C):zeroC Tryz.prog t=some C:=zjA zTbl zqa h
def enOk (P:Program) (k:Nat):Bool:=match P.funcs[k]? with|some f=>f.body.isSome && !(f.name == "runtime.NumGoroutine")|none=>false
theorem zr5 {P:Program}{k:Nat}(h:enOk P k=true): ∀(args:Array Value) (w:World),(callFunc k args).run P w= .ok (.enter k args) w:=by
 unfold enOk at h;split at h
 ·rename_i f hf;simp only [Bool.and_eq_true,Bool.not_eq_true',Option.isSome_iff_exists] at h;obtain ⟨⟨c,hc⟩,hn⟩:=h;exact enters_of hf hn hc
 ·cases h
def enTbl:List Bool:=[false,false,false,true,true,true,true,true,true,true,true,true,true,true,true,true,true,true,true,true,true,true,true,true,true,true,true,true,true,true,true,true,true,true,true,true,true,true,true,true,true,true,true,true,true,true,true,true,true,true,true,true,true,true,true,true,true,true,true,true,true,true,true,true,true,true,true,true,true,true,true,true,true,true,true,true,true,true,true,true,true,true,true,true,true,true,true,true,true,true,true,true,true,true,true,true,true,true,true,true,true,true,true,true,true,true,true,true,true,true,true,true,true,true,true,true,true,true,true,true,true,true,true,true,true,true,true,true,true,true,true,true,true,true,true,true,true,true,true,true,true,true,true,true,true,true,true,true,true,true,true,true,true,true,true,true,true,true,true,true,true,true,true,true,true,true,true,true,true,true,true,true,true,true,true,true,true,true,true,true,true,true,true,true,true,true,true,true,true,true,true,true,true,true,true,true,true,true,true,true,true,true,true,true,true,true,true,true,true,true,true,true,true,true,true,true,true,true,true,true,true,true,true,true,true,true,true,true,true,true,true,true,true,true,true,true,true,true,true,true,true,true,true,true,true,true,true,true,true,false,true,true,true,true,true,true,true,true,true,true,true,true,true,true,true,true,true,true,true,true,true,true,true,true,true,true,true,true,true,true,true,true,true,true,true,true,true,true,true,true,true,true,true,true,true,true,true,true,true,true,true,true,true,true,true,true,false,true,false,true,true,true,true,true,true,true,true,true,true,true,true,true,true,true,true,true,true,true,true,true,true,true,true,true,true,false,true,true,false,true,false,false,false,false,false,false,false,false,false,false,false,false,false,false,false,false,false,false,false,false,false,false,false,false,false,false,true]
theorem zo7:((List.range 367).zip enTbl).all (λp=>!p.2 || enOk Tryz.prog p.1)=true:=by kernel_rfl
theorem en {k:Nat}(h:nth enTbl k=some true): ∀(args:Array Value) (w:World),(callFunc k args).run Tryz.prog w= .ok (.enter k args) w:=by
 refine zr5 ?_;rw [zer] at h;have hl:enTbl.length=367:=rfl;have hk:k < 367:=by rw [<-hl];exact (List.getElem?_eq_some_iff.1 h).1
 have h2:((List.range 367).zip enTbl)[k]?=some (k,true):=by rw [List.getElem?_zip_eq_some];exact ⟨List.getElem?_range hk,h⟩
 have:=List.all_eq_true.1 zo7 _ (List.mem_of_getElem? h2);simpa using this
end Go.Proofs.YtdnlngbjpdbffaaGreatDoor
end
