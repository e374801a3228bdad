/- Plain laws of numbers modulo a number: congruence, Euclid's algorithm, powers, Fermat's little theorem. -/
import Derived.Test.YtcpjfilcilcekaaGreatDoorYJ06
import Derived.Test.YtcpjfilcilcekaaGreatDoorYJ04
import Derived.Laws.StructEq
import Derived.Laws.Bits64b
import Derived.Lib.Mul64
set_option linter.all false
section
namespace Go.Nt
def Cg (m a b:Nat):Prop:=∃k:Int,(a:Int) - b=m*k
theorem zji (m a b:Nat):Cg m a b↔a % m=b % m:=by
 constructor
 ·rintro ⟨k,h⟩
  have h1:(a:Int) % m=(b:Int) % m:=by
   rw [show (a:Int)=b+m*k by omega,Int.add_mul_emod_self_left]
  have h2:((a % m:Nat):Int)=((b % m:Nat):Int):=by rw [Int.natCast_emod,Int.natCast_emod,h1]
  exact Int.ofNat.inj h2
 ·intro h
  have h1:=Nat.div_add_mod a m
  have h2:=Nat.div_add_mod b m
  refine ⟨((a / m:Nat):Int) - ((b / m:Nat):Int),?_⟩
  rw [Int.mul_sub,<-Int.natCast_mul,<-Int.natCast_mul]
  omega
theorem zbG (m a:Nat):Cg m (a % m) a:=(zji _ _ _).2 (Nat.mod_mod _ _)
theorem Cg.refl (m a:Nat):Cg m a a:=⟨0,by omega⟩
theorem Cg.symm {m a b:Nat} :Cg m a b->Cg m b a:=λ⟨k,h⟩=>⟨-k,by rw [Int.mul_neg];omega⟩
theorem Cg.trans {m a b c:Nat} :Cg m a b->Cg m b c->Cg m a c:=λ⟨k,h⟩ ⟨l,h'⟩=>⟨k+l,by rw [Int.mul_add];omega⟩
theorem Cg.add {m a b c d:Nat} :Cg m a b->Cg m c d->Cg m (a+c) (b+d):=λ⟨k,h⟩ ⟨l,h'⟩=>⟨k+l,by rw [Int.mul_add];omega⟩
theorem Cg.mul {m a b c d:Nat} :Cg m a b->Cg m c d->Cg m (a*c) (b*d):=λ⟨k,h⟩ ⟨l,h'⟩=>⟨k*c+b*l,by rw [Int.natCast_mul,Int.natCast_mul];grind⟩
theorem Cg.pow {m a b:Nat}(h:Cg m a b): ∀n:Nat,Cg m (a ^ n) (b ^ n)
 |0=>by rw [Nat.pow_zero,Nat.pow_zero];exact Cg.refl _ _
 |n+1=>by rw [Nat.pow_succ,Nat.pow_succ];exact (Cg.pow h n).mul h
theorem Cg.mod {m a b:Nat}(h:Cg m a b):a % m=b % m:=(zji _ _ _).1 h
def dm (m a b:Nat):Nat:=(a+(m - b % m)) % m
theorem ziS {m:Nat}(a b:Nat) (h:0 < m):dm m a b < m:=Nat.mod_lt _ h
theorem zpP {m:Nat}(a b:Nat) (h:0 < m):Cg m (dm m a b+b) a:=by
 refine ((zbG m _).add (Cg.refl m b)).trans ?_
 have h1:=Nat.mod_lt b h
 have h2:=Nat.div_add_mod b m
 refine ⟨1+((b / m:Nat):Int),?_⟩
 rw [Int.mul_add,<-Int.natCast_mul]
 omega
def euc (m r s x y:Nat):Nat×Nat:=if h:s=0 then (r,x) else euc m s (r % s) y (dm m x (r / s*y % m))
termination_by s
decreasing_by exact Nat.mod_lt _ (Nat.pos_of_ne_zero h)
theorem zdW (m r x y:Nat):euc m r 0 x y=(r,x):=by rw [euc];simp
theorem zeC (m r s x y:Nat) (h:0 < s):euc m r s x y=euc m s (r % s) y (dm m x (r / s*y % m)):=by
 conv=>lhs;rw [euc]
 rw [dif_neg (by omega)]
theorem zof {m r s x y a:Nat}(hm:0 < m) (h1:Cg m (x*a) r) (h2:Cg m (y*a) s):Cg m (dm m x (r / s*y % m)*a) (r % s):=by
 have h3:=zpP x (r / s*y % m) hm
 generalize dm m x (r / s*y % m)=z at *
 have h4:Cg m (z+r / s*y) x:=((Cg.refl m z).add (zbG m _).symm).trans h3
 have h5:=Nat.div_add_mod r s
 generalize r / s=q at *
 generalize r % s=t at *
 obtain ⟨k1,e1⟩:=h1
 obtain ⟨k2,e2⟩:=h2
 obtain ⟨k4,e4⟩:=h4
 refine ⟨k4*a+k1 - q*k2,?_⟩
 have h5:(r:Int)=s*q+t:=by rw [<-h5,Int.natCast_add,Int.natCast_mul]
 simp only [Int.natCast_add,Int.natCast_mul] at *
 grind
theorem zqW (m a:Nat) (hm:0 < m): ∀s r x y,Cg m (x*a) r->Cg m (y*a) s->(euc m r s x y).1=Nat.gcd r s/\Cg m ((euc m r s x y).2*a) (euc m r s x y).1:=by
 intro s
 induction s using Nat.strongRecOn with
 |_ s ih=>
  intro r x y h1 h2
  rcases Nat.eq_zero_or_pos s with h0|h0
  ·subst h0
   rw [zdW,Nat.gcd_zero_right]
   exact ⟨rfl,h1⟩
  ·rw [zeC m r s x y h0]
   have h:=ih (r % s) (Nat.mod_lt _ h0) s y (dm m x (r / s*y % m)) h2 (zof hm h1 h2)
   refine ⟨?_,h.2⟩
   rw [h.1,Nat.gcd_comm r s,Nat.gcd_rec s r,Nat.gcd_comm]
theorem zm6 (m:Nat) (hm:0 < m): ∀s r x y,x < m->y < m->(euc m r s x y).2 < m:=by
 intro s
 induction s using Nat.strongRecOn with
 |_ s ih=>
  intro r x y h1 h2
  rcases Nat.eq_zero_or_pos s with h0|h0
  ·subst h0;rw [zdW];exact h1
  ·rw [zeC m r s x y h0]
   exact ih (r % s) (Nat.mod_lt _ h0) s y _ h2 (ziS _ _ hm)
def inv (m a:Nat):Nat×Nat:=euc m m (a % m) 0 (1 % m)
theorem zgY (m a:Nat) (hm:0 < m):(inv m a).1=Nat.gcd a m/\Cg m ((inv m a).2*a) (inv m a).1:=by
 have h:=zqW m a hm (a % m) m 0 (1 % m) (by rw [Nat.zero_mul];exact ⟨-1,by omega⟩) (by
  refine ((zbG m 1).mul (Cg.refl m a)).trans ?_
  rw [Nat.one_mul];exact (zbG m a).symm)
 refine ⟨?_,h.2⟩
 show (euc m m (a % m) 0 (1 % m)).1=_
 rw [h.1,Nat.gcd_comm m (a % m),<-Nat.gcd_rec m a,Nat.gcd_comm]
theorem zq6 (m a:Nat) (hm:0 < m):(inv m a).2 < m:=zm6 m hm _ _ _ _ hm (Nat.mod_lt _ hm)
end Go.Nt
end
section
namespace Go.Nt
def pmod (m:Nat):Nat->Nat->Nat->Nat
 |0,_,_=>1 % m
 |n+1,b,e=>bif Nat.beq (e % 2) 1 then b*pmod m n (b*b % m) (e / 2) % m else pmod m n (b*b % m) (e / 2)
theorem zf3 (m:Nat): ∀n b e,e < 2 ^ n->pmod m n b e=b ^ e % m
 |0,b,e,h=>by
  rw [Nat.pow_zero] at h
  obtain rfl:e=0:=by omega
  rfl
 |n+1,b,e,h=>by
  rw [Nat.pow_succ] at h
  have ih:=zf3 m n (b*b % m) (e / 2) (by omega)
  have h1:(b*b % m) ^ (e / 2) % m=(b*b) ^ (e / 2) % m:=((zbG m (b*b)).pow _).mod
  rw [h1,<-Nat.pow_two,<-Nat.pow_mul] at ih
  rw [pmod,<-Nat.pow_two,ih]
  rcases (show e % 2=0\/e % 2=1 by omega) with h2|h2
  ·rw [h2,show Nat.beq 0 1=false from rfl,cond_false,show 2*(e / 2)=e by omega]
  ·rw [h2,show Nat.beq 1 1=true from rfl,cond_true,Nat.mul_mod_mod]
   conv=>rhs;rw [show e=2*(e / 2)+1 by omega,Nat.pow_succ,Nat.mul_comm]
def gP:Nat->Nat
 |1=>2879
 |2=>71850239
 |3=>2444789759
 |_=>1552518092300708935130918131258481755631334049434514313202351194902966239949102107258669453876591642442910007680288864229150803718918046342632727613031282983744380820890196288509170691316593175367469551763119843371637221007210577919
def gQ (i:Nat):Nat:=gP i / 2
def gL:Nat->Nat
 |1=>2
 |2=>4
 |3=>4
 |_=>96
theorem zbx {p:Nat->Prop}(h1:p 1) (h2:p 2) (h3:p 3) (h4:p 4) (i:Nat) (h0:1<=i) (h5:i<=4):p i:=by
 rcases (show i=1\/i=2\/i=3\/i=4 by omega) with rfl|rfl|rfl|rfl
 ·exact h1
 ·exact h2
 ·exact h3
 ·exact h4
def gE:Nat->Nat
 |0=>0
 |_=>768
theorem zrG:pmod (gP 1) (gE 1) 4 (gQ 1)=1:=by decide +kernel
theorem zrD:pmod (gP 2) (gE 2) 4 (gQ 2)=1:=by decide +kernel
theorem zrE:pmod (gP 3) (gE 3) 4 (gQ 3)=1:=by decide +kernel
theorem zrC:pmod (gP 4) (gE 4) 4 (gQ 4)=1:=by decide +kernel
theorem zlB (i:Nat) (h0:1<=i) (h5:i<=4):gQ i < 2 ^ gE i:=zbx (p:=λi=>gQ i < 2 ^ gE i) (by decide +kernel) (by decide +kernel) (by decide +kernel) (by decide +kernel) i h0 h5
theorem zhb (i:Nat) (h0:1<=i) (h5:i<=4):nd 256 (gP i)=gL i:=
 zbz _ _ _ (by decide) (zbx (p:=λi=>gP i < 256 ^ gL i) (by decide +kernel) (by decide +kernel) (by decide +kernel) (by decide +kernel) i h0 h5)
  λ_=>zbx (p:=λi=>256 ^ (gL i - 1)<=gP i) (by decide +kernel) (by decide +kernel) (by decide +kernel) (by decide +kernel) i h0 h5
theorem zml (i:Nat) (h0:1<=i) (h5:i<=4):gP i=2*gQ i+1:=zbx (p:=λi=>gP i=2*gQ i+1) (by decide +kernel) (by decide +kernel) (by decide +kernel) (by decide +kernel) i h0 h5
theorem zaF (i:Nat) (h0:1<=i) (h5:i<=4):1439<=gQ i:=zbx (p:=λi=>1439<=gQ i) (by decide +kernel) (by decide +kernel) (by decide +kernel) (by decide +kernel) i h0 h5
theorem g4 (i:Nat) (h0:1<=i) (h5:i<=4):4 ^ gQ i % gP i=1:=by
 rw [<-zf3 (gP i) (gE i) 4 (gQ i) (zlB i h0 h5)]
 exact zbx (p:=λi=>pmod (gP i) (gE i) 4 (gQ i)=1) zrG zrD zrE zrC i h0 h5
theorem zqJ {m x y g:Nat}(h:Cg m x y) (h1:g∣m) (h2:g∣x):g∣y:=by
 obtain ⟨k,e⟩:=h
 have h1':(g:Int)∣m:=Int.ofNat_dvd.2 h1
 have h2':(g:Int)∣x:=Int.ofNat_dvd.2 h2
 have h3:(g:Int)∣(y:Int):=by
  rw [show (y:Int)=x - m*k by omega]
  exact Int.dvd_sub h2' (Int.dvd_mul_of_dvd_left h1')
 exact Int.ofNat_dvd.1 h3
theorem zi9 {m x q:Nat}(hq:0 < q) (h:Cg m (x ^ q) 1):Nat.gcd x m=1:=by
 have h1:Nat.gcd x m∣x ^ q:=by
  obtain ⟨n,rfl⟩: ∃n,q=n+1:=⟨q - 1,by omega⟩
  rw [Nat.pow_succ]
  exact Nat.dvd_mul_left_of_dvd (Nat.gcd_dvd_left x m) _
 exact Nat.dvd_one.1 (zqJ h (Nat.gcd_dvd_right x m) h1)
def mem (i x:Nat):Prop:=0 < x/\x < gP i/\x ^ gQ i % gP i=1
theorem zav (i:Nat) (h0:1<=i) (h5:i<=4):1 < gP i:=by
 have:=zml i h0 h5
 have:=zaF i h0 h5
 omega
theorem zd4 {i x:Nat}(h0:1<=i) (h5:i<=4) (h:x ^ gQ i % gP i=1):Cg (gP i) (x ^ gQ i) 1:=
 (zji _ _ _).2 (by rw [h,Nat.mod_eq_of_lt (zav i h0 h5)])
theorem zg6 {i x:Nat}(h0:1<=i) (h5:i<=4) (h:Cg (gP i) (x ^ gQ i) 1):mem i (x % gP i):=by
 have h1:=zav i h0 h5
 have h2:=zaF i h0 h5
 have h3:(x % gP i) ^ gQ i % gP i=1:=by
  rw [((zbG (gP i) x).pow (gQ i)).mod,h.mod,Nat.mod_eq_of_lt h1]
 refine ⟨?_,Nat.mod_lt _ (by omega),h3⟩
 rcases Nat.eq_zero_or_pos (x % gP i) with h4|h4
 ·rw [h4,Nat.zero_pow (by omega),Nat.zero_mod] at h3;omega
 ·exact h4
theorem zqm {i:Nat}(h0:1<=i) (h5:i<=4) (e:Nat):mem i (4 ^ e % gP i):=by
 refine zg6 h0 h5 ?_
 have h:=(zd4 h0 h5 (g4 i h0 h5)).pow e
 rw [Nat.one_pow,<-Nat.pow_mul,Nat.mul_comm,Nat.pow_mul] at h
 exact h
theorem zqi {i x:Nat}(h0:1<=i) (h5:i<=4) (h:mem i x):Nat.gcd x (gP i)=1:=
 zi9 (by have:=zaF i h0 h5;omega) (zd4 h0 h5 h.2.2)
end Go.Nt
end
section
namespace Go.Sy
open Go Go.Wd
section
variable {P:Program}{ro:Option Nat}{N:Nat}{w0:World}{M:Nat->Prop}{ds:List Deferred}{g:Nat->Option Value}{L:List Res}{o:Oper}
theorem zol {t:TypeId}{x:Operand}{b off j:Nat}{B:List Value}{v:Value}{y:Ty}(h:Reads w0 M L b off B) (hv:B[j]?=some v) (ho:o.op= .load t x:=by exact rfl) (hx:ev g x=some (.pointer (some ⟨b,off+j,none⟩)):=by exact rfl) (ht:tyOf P t=some y:=by exact ty rfl) (hr:y.desc.isRow=false:=by exact rfl):OpT P ro N w0 M ds o g L (Det v L):=
 OpT.still (by rw [ho];rfl) λa w X hs=>by
  have hc:=h w X hs.keep hs.hold j v hv
  simp [execOp,ho,hs.agr.eval hx,zdX ht hr w _ hc]
end
end Go.Sy
end
section
namespace Go.Sy
open Go
inductive FillTo (pl:Nat->Option (Nat×Nat)):List (Nat×Value)->List Value->List Value->Prop
 |nil {C:List Value} :FillTo pl [] C C
 |cons {i off n:Nat}{v:Value}{cs C C':List Value}{rest:List (Nat×Value)}(hv:v.cells=cs.toArray) (hp:pl i=some (off,n)) (hl:cs.length=n) (hb:off+n<=C.length) (h:FillTo pl rest (setSeg C off cs) C'):FillTo pl ((i,v)::rest) C C'
theorem zhQ {pl:Nat->Option (Nat×Nat)}{l:List (Nat×Value)}{C C':List Value}(h:FillTo pl l C C'):Instr.fill pl C.toArray l=some C'.toArray:=by
 induction h with
 |nil=>simp [Instr.fill]
 | @cons i off n v cs C C' rest hv hp hl hb h ih=>
  simp only [Instr.fill,hp,hv]
  rw [if_neg (by simp;omega)]
  have e:=zfL cs (C.take off) (C.drop off) off 0 (by simp;omega) (by simp;omega)
  rw [List.take_append_drop,List.drop_drop] at e
  have e2:(cs.toArray.zipIdx.foldl (λ(a:Array Value) (p:Value×Nat)=>a.setIfInBounds (off+p.2) p.1) C.toArray)=(setSeg C off cs).toArray:=by
   unfold setSeg;rw [<-e];simp
  have e3:(cs.toArray.zipIdx.foldl (λ(a:Array Value) (x:Value×Nat)=>match x with|(c,j)=>a.setIfInBounds (off+j) c) C.toArray)=(setSeg C off cs).toArray:=e2
  rw [e3];exact ih
section
variable {P:Program}{ro:Option Nat}{N:Nat}{w0:World}{M:Nat->Prop}{ds:List Deferred}{o:Oper}{g:Nat->Option Value}{L:List Res}{t:TypeId}{y:Ty}
theorem zce {parts:Array (Nat×Operand)}{vs Z C:List Value}(hf:FillTo (nth y.flds) (List.zip (parts.toList.map (·.1)) vs) Z C) (ho:o.op= .build t parts:=by exact rfl) (hv:evs g (parts.toList.map (·.2))=some vs:=by exact rfl) (ht:tyOf P t=some y:=by exact ty rfl) (hy:y.desc= .struct #[]:=by exact rfl)
  (hn:y.flds.all (λp=>!Nat.beq p.2 0)=true:=by exact rfl) (hz:zeroC P t=some Z:=by exact zc rfl):OpT P ro N w0 M ds o g L (Det (.agg C.toArray) L):=by
 refine zd6 ho hv ?_
 obtain ⟨d,i,hd,hi,hs,_,_,hfl⟩:=zF ht
 rw [hy] at hs
 obtain ⟨fs,rfl⟩:=zdg hs
 simp only at hfl
 unfold zeroC at hz
 rw [hi] at hz
 simp only [Option.bind_some,Option.map_eq_some_iff] at hz
 obtain ⟨zv,hzv,hze⟩:=hz
 rw [hfl] at hn
 simp only [Program.built,hi,hd,hzv,zde _ hn]
 have:=zhQ hf
 rw [show zv.cells=Z.toArray by rw [<-hze]]
 rw [show (λx=>(List.map (λf=>(f.offset,P.cellsOf f.type)) fs.toList).toArray[x]?)=nth y.flds by funext x;rw [zeE,hfl];simp]
 rw [this]
end
end Go.Sy
end
section
namespace Go.Nt
open Go Go.Sy
def nv (d:Nat):Value:=.int .u64 (d:Int)
def iv (d:Nat):Value:=.int .i64 (d:Int)
def natC (x:Nat):List Value:=(dg 18446744073709551616 16 x).map nv
def natV (x:Nat):Value:=.agg (natC x).toArray
def refC (x:Nat):List Value:=(cd 65536 x).map iv
theorem ze (x:Nat):(natC x).length=16:=by unfold natC;rw [List.length_map,za4]
theorem zaQ (x i:Nat) (h:i < 16):(natC x)[i]?=some (nv (x / 18446744073709551616 ^ i % 18446744073709551616)):=by
 unfold natC;rw [List.getElem?_map,zcJ _ _ _ _ h];rfl
theorem zbX (x:Nat):(natC x).all (·.oneCell')=true:=by
 unfold natC
 rw [List.all_eq_true]
 intro v hv
 obtain ⟨d,-,rfl⟩:=List.mem_map.1 hv
 rfl
theorem zre (l:List Nat):(l.map nv).all (·.oneCell')=true:=by
 rw [List.all_eq_true]
 intro v hv
 obtain ⟨d,-,rfl⟩:=List.mem_map.1 hv
 rfl
theorem zqN (l:List Nat):(l.map iv).all (·.oneCell')=true:=by
 rw [List.all_eq_true]
 intro v hv
 obtain ⟨d,-,rfl⟩:=List.mem_map.1 hv
 rfl
theorem zcs (x j e:Nat) (h:x / 18446744073709551616 ^ j % 18446744073709551616+e < 18446744073709551616):(natC x).set j (nv (x / 18446744073709551616 ^ j % 18446744073709551616+e))=natC (x+e*18446744073709551616 ^ j):=by
 unfold natC;rw [<-List.map_set,ze2 _ _ _ _ _ h]
theorem zfi: ∀(xs ys:List Nat),xs.length=ys.length->((List.range xs.length).all λi=>xs.getD i 0 == ys.getD i 0)=(xs == ys)
 | [],[],_=>rfl
 |x::xs,y::ys,h=>by
  have ih:=zfi xs ys (by simpa using h)
  rw [List.length_cons,List.range_succ_eq_map,List.all_cons,List.all_map]
  simp only [List.getD_cons_zero,Function.comp_def,List.getD_cons_succ,ih]
  simp [List.cons_beq_cons]
 | [],_::_,h=>by simp at h
 |_::_,[],h=>by simp at h
section
variable {P:Program}(w:World)
theorem zgi (d:Nat) (t e:TypeId) (n:Nat) (ht:P.underlying t=some (.array n e)) (he:P.underlying e=some (.int .u64)) (hsz: ∀w,(sizeOf e).run P w= .ok 1 w)
  (xs ys:List Nat) (hx:xs.length=n) (hy:ys.length=n):
  (Op.equalIn (d+2) t (.agg (xs.map nv).toArray) (.agg (ys.map nv).toArray)).run P w= .ok (xs == ys) w:=by
 rw [<-zfi xs ys (hx.trans hy.symm),hx,List.range_eq_range',Op.equalIn]
 simp only [Sem.run_bind,run_underlying ht,Result.andThen_ok,hsz,Std.Legacy.Range.forIn_eq_forIn_range',Std.Legacy.Range.size,Nat.sub_zero,Nat.add_sub_cancel,Nat.div_one]
 have hl: ∀i∈List.range' 0 n 1,i < n:=λi hi=>by simpa using (List.mem_range'_1.1 hi).2
 generalize List.range' 0 n 1=l at hl ⊢
 induction l with
 |nil=>simp
 |cons i l ih=>
  have hi:i < n:=hl i (by simp)
  have px:(part e (xs.map nv).toArray (i*1)).run P w= .ok (nv (xs.getD i 0)) w:=by
   simp [part,isAgg,run_underlying he,List.getD,List.getElem?_eq_getElem (show i < xs.length by omega)]
  have py:(part e (ys.map nv).toArray (i*1)).run P w= .ok (nv (ys.getD i 0)) w:=by
   simp [part,isAgg,run_underlying he,List.getD,List.getElem?_eq_getElem (show i < ys.length by omega)]
  have pe:(Op.equalIn (d+1) e (nv (xs.getD i 0)) (nv (ys.getD i 0))).run P w= .ok (xs.getD i 0 == ys.getD i 0) w:=by
   rw [nv,nv,run_equalIn_int w d e .u64 .u64 _ _ he]
   congr 1
   rw [Bool.eq_iff_iff]
   simp
   omega
  simp only [List.forIn_cons,Sem.run_bind,px,py,pe,Result.andThen_ok,List.all_cons]
  cases hb:(xs.getD i 0 == ys.getD i 0)
  ·simp
  ·simp only [Bool.not_true,Bool.false_eq_true,if_false,Sem.run_pure,Result.andThen_ok,Bool.true_and]
   exact ih λj hj=>hl j (by simp [hj])
structure NatTy (P:Program) (t td e n:Nat):Prop where
 und:P.underlying t=some (.struct (P.fieldsOf t))
 stood:P.stoodInHeld t=false
 flds:(P.fieldsOf t).toList.map (λf=>(f.name == "_",f.type,f.offset))= [(false,td,0)]
 arr: ∃y,tyOf P td=some y/\y.desc= .array n e/\y.size=n
 elem: ∃y,tyOf P e=some y/\y.desc= .int .u64/\y.size=1
 guard:P.eqGuardType P.depth t=false
theorem zfg {t td e n:Nat}(H:NatTy P t td e n) (xs ys:List Nat) (hx:xs.length=n) (hy:ys.length=n):
  (Op.equal t (.agg (xs.map nv).toArray) (.agg (ys.map nv).toArray)).run P w= .ok (xs == ys) w:=by
 obtain ⟨y,hyt,hyd,hys⟩:=H.arr
 obtain ⟨ye,het,hed,hes⟩:=H.elem
 obtain ⟨d,i',hd,hi',hs',_⟩:=zF hyt
 rw [hyd] at hs'
 have:=zbH hs';subst this
 obtain ⟨de,_,hde,_,hse,_⟩:=zF het
 rw [hed] at hse
 have:=zeM hse;subst this
 have hmain:=zgi (P:=P) w 9997 td e n hd hde (λw=>by rw [zaT het,hes]) xs ys hx hy
 have hpart: ∀(l:List Nat),l.length=n->(part td (l.map nv).toArray 0).run P w= .ok (.agg (l.map nv).toArray) w:=λl hl=>by
  have hsz:(sizeOf td).run P w= .ok n w:=by rw [zaT hyt,hys]
  simp only [part,isAgg,Sem.run_bind,run_underlying hd,Result.andThen_ok,Sem.run_pure,if_true,hsz,Nat.zero_add]
  congr 2
  apply Array.toList_inj.1
  rw [Array.toList_extract]
  exact List.take_of_length_le (by simp [hl])
 show (Op.equalIn (9998+1+1) t _ _).run P w=_
 rw [run_equalIn_struct w (9998+1) t _ _ H.und H.stood]
 have hfl:=H.flds
 cases hl:(P.fieldsOf t).toList with
 |nil=>rw [hl] at hfl;cases hfl
 |cons f fs=>
  rw [hl] at hfl
  simp only [List.map_cons,List.cons.injEq,Prod.mk.injEq,List.map_eq_nil_iff] at hfl
  obtain ⟨⟨h1,h2,h3⟩,rfl⟩:=hfl
  have h1':f.name≠ "_" :=by simpa using h1
  simp only [Op.eqFields,h1',ne_eq,not_false_eq_true,if_true,Sem.run_bind,h2,h3,hpart xs hx,hpart ys hy,Result.andThen_ok]
  rw [hmain]
  simp only [Result.andThen_ok]
  cases xs == ys <;> simp
end
section
variable {P:Program}{ro:Option Nat}{N:Nat}{w0:World}{M:Nat->Prop}{ds:List Deferred}{g:Nat->Option Value}{L:List Res}{o:Oper}{t t':TypeId}{x z:Operand}
theorem zk3 (a b:Nat) (ha:a < 18446744073709551616 ^ 16) (hb:b < 18446744073709551616 ^ 16):(dg 18446744073709551616 16 a == dg 18446744073709551616 16 b)=decide (a=b):=by
 by_cases h:a=b
 ·subst h;simp
 ·have:dg 18446744073709551616 16 a≠dg 18446744073709551616 16 b:=λe=>h (zq8 _ _ _ _ ha hb e)
  simp [h,this]
theorem zeT {td e:Nat}{a b:Nat}{r:Bool}(H:NatTy P t td e 16) (ha:a < 18446744073709551616 ^ 16) (hb:b < 18446744073709551616 ^ 16) (hr:decide (a=b)=r) (ho:o.op= .binOp .eql t x z t':=by exact rfl) (hx:ev g x=some (natV a):=by exact rfl) (hz:ev g z=some (natV b):=by exact rfl):OpT P ro N w0 M ds o g L (Det (.bool r) L):=
 OpT.still (by rw [ho];rfl) λac w X hs=>by
  have he:(Op.equal t (natV a) (natV b)).run P w= .ok r w:=by
   have:=zfg w H (dg 18446744073709551616 16 a) (dg 18446744073709551616 16 b) (za4 _ _ _) (za4 _ _ _)
   rw [zk3 a b ha hb,hr] at this
   exact this
  have hg:=H.guard
  simp [execOp,ho,hs.agr.eval hx,hs.agr.eval hz,eqGuard,binOp,hg]
  unfold natV at he ⊢
  simp [he,hg]
theorem zjy {td e:Nat}{a b:Nat}{r:Bool}(H:NatTy P t td e 16) (ha:a < 18446744073709551616 ^ 16) (hb:b < 18446744073709551616 ^ 16) (hr:decide (a≠b)=r) (ho:o.op= .binOp .neq t x z t':=by exact rfl) (hx:ev g x=some (natV a):=by exact rfl) (hz:ev g z=some (natV b):=by exact rfl):OpT P ro N w0 M ds o g L (Det (.bool r) L):=
 OpT.still (by rw [ho];rfl) λac w X hs=>by
  have he:(Op.equal t (natV a) (natV b)).run P w= .ok (!r) w:=by
   have:=zfg w H (dg 18446744073709551616 16 a) (dg 18446744073709551616 16 b) (za4 _ _ _) (za4 _ _ _)
   rw [zk3 a b ha hb] at this
   rw [show natV a= .agg ((dg 18446744073709551616 16 a).map nv).toArray from rfl,show natV b= .agg ((dg 18446744073709551616 16 b).map nv).toArray from rfl,this,<-hr]
   by_cases h:a=b <;> simp [h]
  have hg:=H.guard
  simp [execOp,ho,hs.agr.eval hx,hs.agr.eval hz,eqGuard,binOp,hg]
  unfold natV at he ⊢
  simp [he,hg]
theorem zlW {n e:Nat}{y ye:Ty}{parts:Array (Nat×Operand)}{vs Z C:List Value}(he:tyOf P e=some ye) (hf:FillTo (λi=>some (i*ye.size,ye.size)) (List.zip (parts.toList.map (·.1)) vs) Z C) (ho:o.op= .build t parts:=by exact rfl) (hv:evs g (parts.toList.map (·.2))=some vs:=by exact rfl) (ht:tyOf P t=some y:=by exact ty rfl) (hy:y.desc= .array n e:=by exact rfl)
  (hz:zeroC P t=some Z:=by exact zc rfl):OpT P ro N w0 M ds o g L (Det (.agg C.toArray) L):=by
 refine zd6 ho hv ?_
 obtain ⟨d,i,hd,hi,hs,_⟩:=zF ht
 rw [hy] at hs
 have:=zbH hs;subst this
 obtain ⟨de,ie,hde,hie,_,hez,_⟩:=zF he
 unfold zeroC at hz
 rw [hi] at hz
 simp only [Option.bind_some,Option.map_eq_some_iff] at hz
 obtain ⟨zv,hzv,hze⟩:=hz
 simp only [Program.built,hi,hd,hzv,hie,hez]
 have:=zhQ hf
 rw [show zv.cells=Z.toArray by rw [<-hze]]
 rw [this]
end
end Go.Nt
namespace Go.Nt
open Go Go.Sy
theorem shrN (a n:Nat) (k:IntKind) (h:n < 64):Op.shift .shr .u64 (a:Int) k (n:Int)=pure (.int .u64 ((a / 2 ^ n:Nat):Int)):=by
 have h1: ¬((n:Int) < 0):=by omega
 have h2: ¬64<=n:=by omega
 simp [Op.shift,h1,h2,IntKind.bits]
theorem shlN (a n:Nat) (k:IntKind) (h:n < 64):Op.shift .shl .u64 (a:Int) k (n:Int)=pure (.int .u64 ((a*2 ^ n % 18446744073709551616:Nat):Int)):=by
 have h1: ¬((n:Int) < 0):=by omega
 have h2: ¬64<=n:=by omega
 simp [Op.shift,h1,h2,IntKind.bits]
 rw [Wd.wrap_u64]
theorem shrN64 (a n:Nat) (k:IntKind) (ha:a < 18446744073709551616):Op.shift .shr .u64 (a:Int) k (n:Int)=pure (.int .u64 ((a / 2 ^ n:Nat):Int)):=by
 rcases Nat.lt_or_ge n 64 with h|h
 ·exact shrN a n k h
 ·have h1: ¬((n:Int) < 0):=by omega
  have h2:a / 2 ^ n=0:=Nat.div_eq_of_lt (Nat.lt_of_lt_of_le (show a < 2 ^ 64 from ha) (Nat.pow_le_pow_right (by decide) h))
  have h3: ¬((a:Int) < 0):=by omega
  simp [Op.shift,h1,h,h2,h3,IntKind.bits]
  rw [Int.fdiv_eq_ediv_of_nonneg _ (by decide),show ((a:Int) / 18446744073709551616)=0 by omega]
theorem shlN64 (a n:Nat) (k:IntKind):Op.shift .shl .u64 (a:Int) k (n:Int)=pure (.int .u64 ((a*2 ^ n % 18446744073709551616:Nat):Int)):=by
 rcases Nat.lt_or_ge n 64 with h|h
 ·exact shlN a n k h
 ·have h1: ¬((n:Int) < 0):=by omega
  have h2:a*2 ^ n % 18446744073709551616=0:=by
   rw [show n=64+(n - 64) by omega,Nat.pow_add,Nat.mul_left_comm]
   exact Nat.mul_mod_right _ _
  rw [h2]
  simp [Op.shift,h1,h,IntKind.bits]
  rw [Wd.wrap_u64,Int.mul_emod_left]
theorem zlI (r k:Nat) (hk:k < 64) (hr:r < 2 ^ k):bits .andNot .u64 ((2 ^ k+r:Nat):Int) ((2 ^ k:Nat):Int)=(r:Int):=by
 have hp:2 ^ k<=2 ^ 63:=Nat.pow_le_pow_right (by decide) (by omega)
 have hq:2 ^ k+r < 2 ^ 64:=by omega
 have h1:(BitVec.ofInt 64 ((2 ^ k+r:Nat):Int)).toNat=2 ^ k+r:=by
  rw [BitVec.ofInt_natCast,BitVec.toNat_ofNat];exact Nat.mod_eq_of_lt hq
 have h2:(BitVec.ofInt 64 ((2 ^ k:Nat):Int)).toNat=2 ^ k:=by
  rw [BitVec.ofInt_natCast,BitVec.toNat_ofNat];exact Nat.mod_eq_of_lt (by omega)
 show IntKind.u64.wrap ((BitVec.ofInt 64 ((2 ^ k+r:Nat):Int) &&& ~~~ BitVec.ofInt 64 ((2 ^ k:Nat):Int)).toNat:Int)=_
 have h3:(2 ^ k+r) &&& (2 ^ 64 - 1 - 2 ^ k)=r:=by
  apply Nat.eq_of_testBit_eq
  intro j
  rw [Nat.testBit_and,show 2 ^ 64 - 1 - 2 ^ k=2 ^ 64 - (2 ^ k+1) by omega,Nat.testBit_two_pow_sub_succ (by omega),Nat.testBit_two_pow]
  have h4:2 ^ k+r=2 ^ k ||| r:=by
   have:=Nat.two_pow_add_eq_or_of_lt hr 1
   rw [Nat.mul_one] at this;exact this
  rw [h4,Nat.testBit_or,Nat.testBit_two_pow]
  by_cases hj:k=j
  ·subst hj
   rw [Nat.testBit_lt_two_pow hr];simp
  ·by_cases h6:j < 64
   ·simp [hj,h6]
   ·rw [Nat.testBit_lt_two_pow (Nat.lt_of_lt_of_le (show r < 2 ^ 64 by omega) (Nat.pow_le_pow_right (by decide) (by omega)))];simp [hj]
 rw [BitVec.toNat_and,BitVec.toNat_not,h1,h2,h3,IntKind.wrap_u64]
 omega
section
variable {P:Program}{ro:Option Nat}{N:Nat}{w0:World}{M:Nat->Prop}{ds:List Deferred}{g:Nat->Option Value}{L:List Res}{o:Oper}{t t':TypeId}{x z:Operand}
theorem zgH {a:Nat}(s:Nat) (hs:s<=64) (ha:a < 18446744073709551616) (ho:o.op= .binOp .and t x z t':=by exact rfl) (hx:ev g x=some (nv a):=by exact rfl) (hz:ev g z=some (nv (2 ^ s - 1)):=by exact rfl):OpT P ro N w0 M ds o g L (Det (nv (a % 2 ^ s)) L):=
 zdt ho hx hz (by
  have:2 ^ s<=2 ^ 64:=Nat.pow_le_pow_right (by decide) hs
  rw [bits_and_u64_nat _ _ ha (by omega),Nat.and_two_pow_sub_one_eq_mod])
theorem zcz {a:Nat}(n:Nat) {k':IntKind}(hn:n < 64) (ho:o.op= .binOp .shr t x z t':=by exact rfl) (hx:ev g x=some (nv a):=by exact rfl) (hz:ev g z=some (.int k' (n:Int)):=by exact rfl):OpT P ro N w0 M ds o g L (Det (nv (a / 2 ^ n)) L):=
 zat ho hx hz (shrN a n k' hn)
theorem zeK {a b:Nat}(ho:o.op= .binOp .mul t x z t':=by exact rfl) (hx:ev g x=some (nv a):=by exact rfl) (hz:ev g z=some (nv b):=by exact rfl):OpT P ro N w0 M ds o g L (Det (nv (a*b % 18446744073709551616)) L):=
 zan ho hx hz (by rw [show ((a:Nat):Int)*((b:Nat):Int)=((a*b:Nat):Int) by simp,Wd.wrap_u64_nat])
theorem zcA {a b:Nat}(ho:o.op= .binOp .add t x z t':=by exact rfl) (hx:ev g x=some (nv a):=by exact rfl) (hz:ev g z=some (nv b):=by exact rfl):OpT P ro N w0 M ds o g L (Det (nv ((a+b) % 18446744073709551616)) L):=
 zL ho hx hz (by rw [show ((a:Nat):Int)+((b:Nat):Int)=((a+b:Nat):Int) by simp,Wd.wrap_u64_nat])
theorem zep {a n:Nat}{k':IntKind}(ha:a < 18446744073709551616) (ho:o.op= .binOp .shr t x z t':=by exact rfl) (hx:ev g x=some (nv a):=by exact rfl) (hz:ev g z=some (.int k' (n:Int)):=by exact rfl):OpT P ro N w0 M ds o g L (Det (nv (a / 2 ^ n)) L):=
 zat ho hx hz (shrN64 a n k' ha)
theorem zeg {a n:Nat}{k':IntKind}(ho:o.op= .binOp .shl t x z t':=by exact rfl) (hx:ev g x=some (nv a):=by exact rfl) (hz:ev g z=some (.int k' (n:Int)):=by exact rfl):OpT P ro N w0 M ds o g L (Det (nv (a*2 ^ n % 18446744073709551616)) L):=
 zec ho hx hz (shlN64 a n k')
theorem zk5 {n:Nat}{k':IntKind}(hn:n < 64) (ho:o.op= .binOp .shl t x z t':=by exact rfl) (hx:ev g x=some (nv 1):=by exact rfl) (hz:ev g z=some (.int k' (n:Int)):=by exact rfl):OpT P ro N w0 M ds o g L (Det (nv (2 ^ n)) L):=
 zec ho hx hz (by
  have h:2 ^ n<=2 ^ 63:=Nat.pow_le_pow_right (by decide) (by omega)
  rw [shlN64 1 n k',Nat.one_mul,Nat.mod_eq_of_lt (show 2 ^ n < 18446744073709551616 by omega)])
theorem zfS {a b:Nat}(ha:a < 18446744073709551616) (hb:b < 18446744073709551616) (ho:o.op= .binOp .or t x z t':=by exact rfl) (hx:ev g x=some (nv a):=by exact rfl) (hz:ev g z=some (nv b):=by exact rfl):OpT P ro N w0 M ds o g L (Det (nv (a ||| b)) L):=
 zlz ho hx hz (bits_or_u64_nat a b ha hb)
theorem zpT {a b:Nat}(hb:0 < b:=by omega) (ha:a < 18446744073709551616:=by omega) (ho:o.op= .binOp .quo t x z t':=by exact rfl) (hx:ev g x=some (nv a):=by exact rfl) (hz:ev g z=some (nv b):=by exact rfl):OpT P ro N w0 M ds o g L (Det (nv (a / b)) L):=
 zaS ho hx hz (by omega) (by
  have:=Nat.div_le_self a b
  rw [Int.tdiv_eq_ediv_of_nonneg (by omega),show ((a:Int) / (b:Int))=((a / b:Nat):Int) from rfl]
  generalize a / b=q at *
  exact IntWalk.u64_in _ (by omega))
theorem zqb {a b:Nat}(hb:0 < b:=by omega) (ho:o.op= .binOp .rem t x z t':=by exact rfl) (hx:ev g x=some (nv a):=by exact rfl) (hz:ev g z=some (nv b):=by exact rfl):OpT P ro N w0 M ds o g L (Det (nv (a % b)) L):=
 zau ho hx hz (by omega) (by rw [Int.tmod_eq_emod_of_nonneg (by omega)];rfl)
theorem zmT {r k:Nat}(hk:k < 64) (hr:r < 2 ^ k) (ho:o.op= .binOp .andNot t x z t':=by exact rfl) (hx:ev g x=some (nv (2 ^ k+r)):=by exact rfl) (hz:ev g z=some (nv (2 ^ k)):=by exact rfl):OpT P ro N w0 M ds o g L (Det (nv r) L):=
 zmW ho hx hz (zlI r k hk hr)
end
end Go.Nt
namespace Go.Sy
open Go
section
variable {P:Program}{ro:Option Nat}{N:Nat}{w0:World}{M:Nat->Prop}{ds:List Deferred}{g:Nat->Option Value}{L:List Res}{o:Oper}
theorem zoP {t n b off k c e:Nat}{x:Operand}{y:Ty}(ho:o.op= .sliceToArrayPointer t x:=by exact rfl) (hx:ev g x=some (.slice (some ⟨b,off,none⟩) k c):=by exact rfl) (hk:n<=k:=by decide) (hn:n≠0:=by decide) (ht:tyOf P t=some y:=by exact ty rfl) (hy:y.desc= .array n e:=by exact rfl):OpT P ro N w0 M ds o g L (Det (.pointer (some ⟨b,off,none⟩)) L):=
 OpT.still (by rw [ho];rfl) λa w X hs=>by
  obtain ⟨d,i,hd,hi,hs',_⟩:=zF ht
  rw [hy] at hs'
  have:=zbH hs';subst this
  have h2: ¬k < n:=by omega
  simp [execOp,ho,hs.agr.eval hx,Instr.arrayAt,run_underlying hd,h2,hn]
end
end Go.Sy
end
