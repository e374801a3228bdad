/- Lemmas. -/
import Derived.Test.YtdnlngbjpdbffaaGreatDoorZJ07
import Derived.Test.YtdnlngbjpdbffaaGreatDoorZJ05
import Derived.Laws.StructEq
import Derived.Laws.Bits64b
import Derived.Lib.Mul64
import Derived.Test.YtdnlngbjpdbffaaGreatDoorProg
set_option maxRecDepth 10000
set_option linter.all false
namespace Go.Nt
def Cg(m a b:Nat):Prop:=∃k:Int,(a:Int)-b=m*k
theorem znL(m a b:Nat):Cg m a b↔a%m=b%m:=by
 constructor
 ·rintro⟨k,h⟩;have j:(a:Int)%m=(b:Int)%m:=by
   rw[show(a:Int)=b+m*k by omega,Int.add_mul_emod_self_left]
  have q:((a%m:Nat):Int)=((b%m:Nat):Int):=by rw[Int.natCast_emod,Int.natCast_emod,j]
  exact Int.ofNat.inj q
 ·intro h;have j:=Ad a m;have q:=Ad b m;refine⟨((a/m:Nat):Int)-((b/m:Nat):Int),?_⟩;rw[Int.mul_sub,<-Bg,<-Bg];omega
theorem zeB(m a:Nat):Cg m (a%m) a:=(znL _ _ _).2 (Er _ _)
theorem Cg.refl(m a:Nat):Cg m a a:=⟨0,by omega⟩
def Fq:=@Cg.refl
theorem Cg.symm{m a b:Nat} :Cg m a b->Cg m b a:=λ⟨k,h⟩=>⟨-k,by rw[Int.mul_neg];omega⟩
theorem Cg.trans{m a b c:Nat} :Cg m a b->Cg m b c->Cg m a c:=λ⟨k,h⟩ ⟨l,j⟩=>⟨k+l,by rw[Es];omega⟩
theorem Cg.add{m a b c d:Nat} :Cg m a b->Cg m c d->Cg m (a+c) (b+d):=λ⟨k,h⟩ ⟨l,j⟩=>⟨k+l,by rw[Es];omega⟩
theorem Cg.mul{m a b c d:Nat} :Cg m a b->Cg m c d->Cg m (a*c) (b*d):=λ⟨k,h⟩ ⟨l,j⟩=>⟨k*c+b*l,by rw[Bg,Bg];grind⟩
theorem Cg.pow{m a b:Nat}(h:Cg m a b):∀n:Nat,Cg m (a^n) (b^n)
 |0=>by rw[Nat.pow_zero,Nat.pow_zero];exact Fq _ _
 |n+1=>by rw[AN,AN];exact(Cg.pow h n).mul h
theorem Cg.mod{m a b:Nat}(h:Cg m a b):a%m=b%m:=(znL _ _ _).1 h
def dm(m a b:Nat):Nat:=(a+(m-b%m))%m
theorem zwo{m:Nat}(a b:Nat)(h:0<m):dm m a b<m:=AC _ h
theorem zp5{m:Nat}(a b:Nat)(h:0<m):Cg m (dm m a b+b) a:=by
 refine((zeB m _).add (Fq m b)).trans ?_;have j:=AC b h;have q:=Ad b m;refine⟨1+((b/m:Nat):Int),?_⟩;rw[Es,<-Bg];omega
theorem zz0{m a b c:Nat}(h:0<m)(hc:c<m)(e:Cg m (c+b) a):dm m a b=c:=by
 have j:=(zp5 a b h).trans e.symm;obtain⟨k,A⟩:=j;have q:Cg m (dm m a b) c:=⟨k,by omega⟩;have r:=q.mod;rwa[A9 (zwo a b h),A9 hc] at r
theorem zz6{m a b c d:Nat}(h:0<m)(j:Cg m a c)(q:Cg m b d):dm m a b=dm m c d:=
 zz0 h (zwo _ _ h) ((Cg.add (Fq _ _) q).trans ((zp5 c d h).trans j.symm))
def ziG(m:Nat):Nat->Nat->Nat->Nat
 |0,_,_=>1%m
 |n+1,b,e=>bif Nat.beq (e%2) 1 then b*ziG m n (b*b%m) (e/2)%m else ziG m n (b*b%m) (e/2)
theorem zqo(m:Nat):∀n b e,e<2^n->ziG m n b e=b^e%m
 |0,b,e,h=>by
  rw[Ao] at h;obtain rfl:e=0:=q_o;rfl
 |n+1,b,e,h=>by
  rw[AN] at h;have q:=zqo m n (b*b%m) (e/2) q_o;have r:(b*b%m)^(e/2)%m=(b*b)^(e/2)%m:=((zeB m (b*b)).pow _).mod;rw[r,<-Nat.pow_two,<-BG] at q;rw[ziG,<-Nat.pow_two,q];rcases(show e%2=0\/e%2=1 by omega) with j|j
  ·rw[j,show Nat.beq 0 1=false from rfl,cond_false,show 2*(e/2)=e by omega]
  ·rw[j,show Nat.beq 1 1=true from rfl,cond_true,Nat.mul_mod_mod]
   conv=>rhs;rw[show e=2*(e/2)+1 by omega,AN,AM]
def gP:Nat->Nat
 |1=>2879
 |2=>71850239
 |3=>2444789759
 |_=>1552518092300708935130918131258481755631334049434514313202351194902966239949102107258669453876591642442910007680288864229150803718918046342632727613031282983744380820890196288509170691316593175367469551763119843371637221007210577919
def gQ(i:Nat):Nat:=gP i/2
def gL:Nat->Nat
 |1=>2
 |2=>4
 |3=>4
 |_=>96
theorem zcK{p:Nat->Prop}(h1:p 1)(h2:p 2)(j:p 3)(m:p 4)(i:Nat)(h0:1<=i)(q:i<=4):p i:=by
 rcases(show i=1\/i=2\/i=3\/i=4 by omega) with rfl|rfl|rfl|rfl
 ·exact h1
 ·exact h2
 ·exact j
 ·exact m
def gE:Nat->Nat
 |0=>0
 |_=>768
theorem zAl:ziG (gP 1) (gE 1) 4 (gQ 1)=1:=by decide +kernel
theorem zAn:ziG (gP 2) (gE 2) 4 (gQ 2)=1:=by decide +kernel
theorem zAm:ziG (gP 3) (gE 3) 4 (gQ 3)=1:=by decide +kernel
theorem zAq:ziG (gP 4) (gE 4) 4 (gQ 4)=1:=by decide +kernel
theorem zz4(i:Nat)(h0:1<=i)(j:i<=4):gQ i<2^gE i:=zcK (p:=λi=>gQ i<2^gE i) (by decide +kernel) (by decide +kernel) (by decide +kernel) (by decide +kernel) i h0 j
theorem zlE(i:Nat)(h0:1<=i)(j:i<=4):nd 256 (gP i)=gL i:=
 zcD _ _ _ q_e (zcK (p:=λi=>gP i<256^gL i) (by decide +kernel) (by decide +kernel) (by decide +kernel) (by decide +kernel) i h0 j)
  λ_=>zcK (p:=λi=>256^(gL i-1)<=gP i) (by decide +kernel) (by decide +kernel) (by decide +kernel) (by decide +kernel) i h0 j
theorem zsl(i:Nat)(h0:1<=i)(j:i<=4):gP i=2*gQ i+1:=zcK (p:=λi=>gP i=2*gQ i+1) (by decide +kernel) (by decide +kernel) (by decide +kernel) (by decide +kernel) i h0 j
theorem zbL(i:Nat)(h0:1<=i)(j:i<=4):1439<=gQ i:=zcK (p:=λi=>1439<=gQ i) (by decide +kernel) (by decide +kernel) (by decide +kernel) (by decide +kernel) i h0 j
theorem g4(i:Nat)(h0:1<=i)(j:i<=4):4^gQ i%gP i=1:=by
 rw[<-zqo (gP i) (gE i) 4 (gQ i) (zz4 i h0 j)];exact zcK (p:=λi=>ziG (gP i) (gE i) 4 (gQ i)=1) zAl zAn zAm zAq i h0 j
theorem zlV{m b q e:Nat}(h:Cg m (b^q) 1):Cg m (b^(e%q)) (b^e):=by
 conv=>rhs;rw[<-Ad e q,Ax,BG]
 have j:=(h.pow (e/q)).mul (Fq m (b^(e%q)));rw[Ea,Bu] at j;exact j.symm
def mem(i x:Nat):Prop:=0<x/\x<gP i/\x^gQ i%gP i=1
theorem zbS(i:Nat)(h0:1<=i)(j:i<=4):1<gP i:=by
 have:=zsl i h0 j;have:=zbL i h0 j;omega
theorem zjz{i x:Nat}(h0:1<=i)(j:i<=4)(h:x^gQ i%gP i=1):Cg (gP i) (x^gQ i) 1:=
 (znL _ _ _).2 (by rw[h,A9 (zbS i h0 j)])
theorem znX{i x:Nat}(h0:1<=i)(q:i<=4)(h:Cg (gP i) (x^gQ i) 1):mem i (x%gP i):=by
 have r:=zbS i h0 q;have A:=zbL i h0 q;have m:(x%gP i)^gQ i%gP i=1:=by
  rw[((zeB (gP i) x).pow (gQ i)).mod,h.mod,A9 r]
 refine⟨?_,AC _ q_o,m⟩;rcases AE (x%gP i) with j|j
 ·rw[j,Nat.zero_pow q_o,CF] at m;omega
 ·exact j
theorem zjS{i:Nat}(h0:1<=i)(j:i<=4)(e:Nat):mem i (4^e%gP i):=by
 refine znX h0 j ?_;have h:=(zjz h0 j (g4 i h0 j)).pow e;rw[Ea,<-BG,AM,BG] at h;exact h
end Go.Nt
namespace Go.Sy
open Go
inductive FillTo(pl:Nat->Option (Nat×Nat)):List (Nat×Value)->List Value->List Value->Prop
 |nil {C:List Value} :FillTo pl [] C C
 |cons {i off n:Nat}{v:Value}{cs C C':List Value}{rest:List (Nat×Value)}(hv:v.cells=cs.toArray) (hp:pl i=some (off,n)) (hl:cs.length=n) (hb:off+n<=C.length) (h:FillTo pl rest (zaK C off cs) C'):FillTo pl ((i,v)::rest) C C'
theorem zjK{pl:Nat->Option (Nat×Nat)}{l:List (Nat×Value)}{C C':List Value}(h:FillTo pl l C C'):Instr.fill pl C.toArray l=some C'.toArray:=by
 induction h with
 |nil=>simp[Instr.fill]
 | @cons i off n v cs C C' rest hv hp hl hb h ih=>
  simp only[Instr.fill,hp,hv];rw[if_neg (by simp;omega)];have e:=zjg cs (C.take off) (C.drop off) off 0 (by simp;omega) (by simp;omega);rw[Bc,Cw] at e;have m:(cs.toArray.zipIdx.foldl (λ(a:Array Value) (p:Value×Nat)=>a.setIfInBounds (off+p.2) p.1) C.toArray)=(zaK C off cs).toArray:=by
   unfold zaK;rw[<-e];simp
  have q:(cs.toArray.zipIdx.foldl (λ(a:Array Value) (x:Value×Nat)=>match x with|(c,j)=>a.setIfInBounds (off+j) c) C.toArray)=(zaK C off cs).toArray:=m;rw[q];exact ih
variable {P:Program}{ro:Option Nat}{N:Nat}{w0:World}{M:Nat->Prop}{ds:List Deferred}{o:Oper}{g:Nat->Option Value}{L:List Res}{t:TypeId}{y:Ty}
theorem zgg{parts:Array (Nat×Operand)}{vs Z C:List Value}(F:FillTo (nth y.flds) (List.zip (parts.toList.map (·.1)) vs) Z C)(G:o.op= .build t parts:=by exact rfl)(hv:evs g (parts.toList.map (·.2))=some vs:=by exact rfl)(H:zah P t=some y:=by exact ty rfl)(I:y.desc= .struct #[]:=by exact rfl)
  (hn:y.flds.all (λp=>!Nat.beq p.2 0)=true:=by exact rfl)(hz:zbd P t=some Z:=by exact zc rfl):OpT P ro N w0 M ds o g L (Det (.agg C.toArray) L):=by
 refine zgS G hv ?_;obtain⟨d,i,E,r,A,_,_,j⟩:=zX H;rw[I] at A;obtain⟨B,rfl⟩:=zf3 A;simp only at j;unfold zbd at hz;rw[r] at hz;simp only[Ac,Ab] at hz;obtain⟨J,q,m⟩:=hz;rw[j] at hn;simp only[Program.built,r,E,q,zgb _ hn];have:=zjK F;rw[show J.cells=Z.toArray by rw[<-m]];rw[show(λx=>(List.map (λf=>(f.offset,P.cellsOf f.type)) B.toList).toArray[x]?)=nth y.flds by funext x;rw[zhU,j];simp];rw[this]
end Go.Sy
namespace Go.Nt
section
open Go Go.Sy
def nv(d:Nat):Value:=.int .u64 (d:Int)
def iv(d:Nat):Value:=.int .i64 (d:Int)
def zg(x:Nat):List Value:=(dg 18446744073709551616 16 x).map nv
def zu(x:Nat):Value:=.agg (zg x).toArray
def zac(x:Nat):List Value:=(cd 65536 x).map iv
theorem zd(x:Nat):(zg x).length=16:=by unfold zg;rw[A0,zc3]
theorem zbO(x i:Nat)(h:i<16):(zg x)[i]?=some (nv (x/18446744073709551616^i%18446744073709551616)):=by
 unfold zg;rw[AW,zfd _ _ _ _ h];rfl
theorem zfG(x:Nat):(zg x).all (·.oneCell')=true:=by
 unfold zg;rw[AF];intro v j;obtain⟨d,-,rfl⟩:=Bv.1 j;rfl
theorem zyO(l:List Nat):(l.map nv).all (·.oneCell')=true:=by
 rw[AF];intro v j;obtain⟨d,-,rfl⟩:=Bv.1 j;rfl
theorem zyN(l:List Nat):(l.map iv).all (·.oneCell')=true:=by
 rw[AF];intro v j;obtain⟨d,-,rfl⟩:=Bv.1 j;rfl
theorem zeQ(x j e:Nat)(h:x/18446744073709551616^j%18446744073709551616+e<18446744073709551616):(zg x).set j (nv (x/18446744073709551616^j%18446744073709551616+e))=zg (x+e*18446744073709551616^j):=by
 unfold zg;rw[<-Bw,ziC _ _ _ _ _ h]
theorem ziO:∀(j ys:List Nat),j.length=ys.length->((List.range j.length).all λi=>j.getD i 0==ys.getD i 0)=(j==ys)
 | [],[],_=>rfl
 |x::j,y::ys,h=>by
  have m:=ziO j ys (by simpa using h);rw[AQ,List.range_succ_eq_map,BV,List.all_map];simp only[List.getD_cons_zero,Function.comp_def,List.getD_cons_succ,m];simp[List.cons_beq_cons]
 | [],_::_,h=>by simp at h
 |_::_,[],h=>by simp at h
variable {P:Program}(w:World)
theorem zj9(d:Nat)(t e:TypeId)(n:Nat)(B:P.underlying t=some (.array n e))(he:P.underlying e=some (.int .u64))(q:∀w,(sizeOf e).run P w= .ok 1 w)
  (xs ys:List Nat)(hx:xs.length=n)(E:ys.length=n):
  (Op.equalIn (d+2) t (.agg (xs.map nv).toArray) (.agg (ys.map nv).toArray)).run P w= .ok (xs==ys) w:=by
 rw[<-ziO xs ys (hx.trans E.symm),hx,Eb,Op.equalIn];simp only[Sem.run_bind,run_underlying B,Result.andThen_ok,q,Std.Legacy.Range.forIn_eq_forIn_range',Std.Legacy.Range.size,CD,Aw,CH];have m:∀i∈List.range' 0 n 1,i<n:=λi r=>by simpa using (List.mem_range'_1.1 r).2
 generalize List.range' 0 n 1=l at m ⊢
 induction l with
 |nil=>simp
 |cons i l ih=>
  have r:i<n:=m i q_p;have G:(part e (xs.map nv).toArray (i*1)).run P w= .ok (nv (xs.getD i 0)) w:=by
   simp[part,isAgg,run_underlying he,List.getD,A2 (show i<xs.length by omega)]
  have H:(part e (ys.map nv).toArray (i*1)).run P w= .ok (nv (ys.getD i 0)) w:=by
   simp[part,isAgg,run_underlying he,List.getD,A2 (show i<ys.length by omega)]
  have F:(Op.equalIn (d+1) e (nv (xs.getD i 0)) (nv (ys.getD i 0))).run P w= .ok (xs.getD i 0==ys.getD i 0) w:=by
   rw[nv,nv,run_equalIn_int w d e .u64 .u64 _ _ he];congr 1;rw[CN];simp;omega
  simp only[List.forIn_cons,Sem.run_bind,G,H,F,Result.andThen_ok,BV];cases hb:(xs.getD i 0==ys.getD i 0)
  ·simp
  ·simp only[Dc,Dw,if_false,Sem.run_pure,Result.andThen_ok,B2];exact ih λj A=>m j (by simp[A])
structure NatTy(P:Program)(t td e n:Nat):Prop where
 und:P.underlying t=some (.struct (P.fieldsOf t))
 stood:P.stoodInHeld t=false
 flds:(P.fieldsOf t).toList.map (λf=>(f.name == "_",f.type,f.offset))= [(false,td,0)]
 arr:∃y,zah P td=some y/\y.desc= .array n e/\y.size=n
 elem:∃y,zah P e=some y/\y.desc= .int .u64/\y.size=1
 guard:P.eqGuardType P.depth t=false
theorem znq{t td e n:Nat}(H:NatTy P t td e n)(xs ys:List Nat)(hx:xs.length=n)(hy:ys.length=n):
  (Op.equal t (.agg (xs.map nv).toArray) (.agg (ys.map nv).toArray)).run P w= .ok (xs==ys) w:=by
 obtain⟨y,hyt,hyd,hys⟩:=H.arr;obtain⟨ye,het,hed,hes⟩:=H.elem;obtain⟨d,i',hd,hi',hs',_⟩:=zX hyt;rw[hyd] at hs';have:=zdk hs';subst this;obtain⟨de,_,hde,_,hse,_⟩:=zX het;rw[hed] at hse;have:=zkw hse;subst this;have hmain:=zj9 (P:=P) w 9997 td e n hd hde (λw=>by rw[zbV het,hes]) xs ys hx hy;have hpart:∀(l:List Nat),l.length=n->(part td (l.map nv).toArray 0).run P w= .ok (.agg (l.map nv).toArray) w:=λl hl=>by
  have hsz:(sizeOf td).run P w= .ok n w:=by rw[zbV hyt,hys]
  simp only[part,isAgg,Sem.run_bind,run_underlying hd,Result.andThen_ok,Sem.run_pure,if_true,hsz,Aa];congr 2;apply B9.1;rw[Array.toList_extract];exact A6 (by simp[hl])
 show(Op.equalIn (9998+1+1) t _ _).run P w=_;rw[run_equalIn_struct w (9998+1) t _ _ H.und H.stood];have hfl:=H.flds;cases hl:(P.fieldsOf t).toList with
 |nil=>rw[hl] at hfl;cases hfl
 |cons f fs=>
  rw[hl] at hfl;simp only[Au,Dh,Em,List.map_eq_nil_iff] at hfl;obtain⟨⟨h1,h2,h3⟩,rfl⟩:=hfl;have h1':f.name≠ "_" :=by simpa using h1
  simp only[Op.eqFields,h1',ne_eq,not_false_eq_true,if_true,Sem.run_bind,h2,h3,hpart xs hx,hpart ys hy,Result.andThen_ok];rw[hmain];simp only[Result.andThen_ok];cases xs==ys <;> simp
end
open Go Go.Sy
variable {P:Program}{ro:Option Nat}{N:Nat}{w0:World}{M:Nat->Prop}{ds:List Deferred}{g:Nat->Option Value}{L:List Res}{o:Oper}{t t':TypeId}{x z:Operand}
theorem zxu(a b:Nat)(ha:a<18446744073709551616^16)(hb:b<18446744073709551616^16):(dg 18446744073709551616 16 a==dg 18446744073709551616 16 b)=decide (a=b):=by
 by_cases h:a=b
 ·subst h;simp
 ·have:dg 18446744073709551616 16 a≠dg 18446744073709551616 16 b:=λe=>h (zzr _ _ _ _ ha hb e);simp[h,this]
theorem zop{B e:Nat}{a b:Nat}{r:Bool}(H:NatTy P t B e 16)(ha:a<18446744073709551616^16)(hb:b<18446744073709551616^16)(hr:decide (a=b)=r)(q:o.op= .binOp .eql t x z t':=by exact rfl)(hx:ev g x=some (zu a):=by exact rfl)(hz:ev g z=some (zu b):=by exact rfl):OpT P ro N w0 M ds o g L (Det (.bool r) L):=
 F4 (by rw[q];rfl) λE w X A=>by
  have j:(Op.equal t (zu a) (zu b)).run P w= .ok r w:=by
   have:=znq w H (dg 18446744073709551616 16 a) (dg 18446744073709551616 16 b) (zc3 _ _ _) (zc3 _ _ _);rw[zxu a b ha hb,hr] at this;exact this
  have m:=H.guard;simp[execOp,q,A.agr.eval hx,A.agr.eval hz,eqGuard,binOp,m];unfold zu at j ⊢;simp[j,m]
theorem zrb{n e:Nat}{y ye:Ty}{parts:Array (Nat×Operand)}{vs Z C:List Value}(he:zah P e=some ye)(G:FillTo (λi=>some (i*ye.size,ye.size)) (List.zip (parts.toList.map (·.1)) vs) Z C)(H:o.op= .build t parts:=by exact rfl)(hv:evs g (parts.toList.map (·.2))=some vs:=by exact rfl)(I:zah P t=some y:=by exact ty rfl)(J:y.desc= .array n e:=by exact rfl)
  (hz:zbd P t=some Z:=by exact zc rfl):OpT P ro N w0 M ds o g L (Det (.agg C.toArray) L):=by
 refine zgS H hv ?_;obtain⟨d,i,E,A,B,_⟩:=zX I;rw[J] at B;have:=zdk B;subst this;obtain⟨O,Q,F,m,_,j,_⟩:=zX he;unfold zbd at hz;rw[A] at hz;simp only[Ac,Ab] at hz;obtain⟨K,r,q⟩:=hz;simp only[Program.built,A,E,r,m,j];have:=zjK G;rw[show K.cells=Z.toArray by rw[<-q]];rw[this]
theorem zr3(a n:Nat)(k:IntKind)(h:n<64):Op.shift .shr .u64 (a:Int) k (n:Int)=pure (.int .u64 ((a/2^n:Nat):Int)):=by
 have j:¬((n:Int)<0):=q_o;have m:¬64<=n:=q_o;simp[Op.shift,j,m,IntKind.bits]
theorem zAz(a n:Nat)(k:IntKind)(h:n<64):Op.shift .shl .u64 (a:Int) k (n:Int)=pure (.int .u64 ((a*2^n%18446744073709551616:Nat):Int)):=by
 have j:¬((n:Int)<0):=q_o;have m:¬64<=n:=q_o;simp[Op.shift,j,m,IntKind.bits];rw[Wd.wrap_u64]
theorem zpr(a n:Nat)(k:IntKind)(ha:a<18446744073709551616):Op.shift .shr .u64 (a:Int) k (n:Int)=pure (.int .u64 ((a/2^n:Nat):Int)):=by
 rcases AG n 64 with h|h
 ·exact zr3 a n k h
 ·have j:¬((n:Int)<0):=q_o;have m:a/2^n=0:=An (AK (show a<2^64 from ha) (AB q_e h));have q:¬((a:Int)<0):=q_o;simp[Op.shift,j,h,m,q,IntKind.bits];rw[Int.fdiv_eq_ediv_of_nonneg _ q_e,show((a:Int)/18446744073709551616)=0 by omega]
theorem zjE(a n:Nat)(k:IntKind):Op.shift .shl .u64 (a:Int) k (n:Int)=pure (.int .u64 ((a*2^n%18446744073709551616:Nat):Int)):=by
 rcases AG n 64 with h|h
 ·exact zAz a n k h
 ·have j:¬((n:Int)<0):=q_o;have m:a*2^n%18446744073709551616=0:=by
   rw[show n=64+(n-64) by omega,Ax,Nat.mul_left_comm];exact Nat.mul_mod_right _ _
  rw[m];simp[Op.shift,j,h,IntKind.bits];rw[Wd.wrap_u64,Int.mul_emod_left]
theorem zrk(r k:Nat)(hk:k<64)(hr:r<2^k):bits .andNot .u64 ((2^k+r:Nat):Int) ((2^k:Nat):Int)=(r:Int):=by
 have F:2^k<=2^63:=AB q_e q_o;have E:2^k+r<2^64:=q_o;have m:(BitVec.ofInt 64 ((2^k+r:Nat):Int)).toNat=2^k+r:=by
  rw[Cr,Dy];exact A9 E
 have q:(BitVec.ofInt 64 ((2^k:Nat):Int)).toNat=2^k:=by
  rw[Cr,Dy];exact A9 q_o
 show IntKind.u64.wrap ((BitVec.ofInt 64 ((2^k+r:Nat):Int) &&& ~~~ BitVec.ofInt 64 ((2^k:Nat):Int)).toNat:Int)=_;have A:(2^k+r) &&& (2^64-1-2^k)=r:=by
  apply Nat.eq_of_testBit_eq;intro j;rw[Nat.testBit_and,show 2^64-1-2^k=2^64-(2^k+1) by omega,Nat.testBit_two_pow_sub_succ q_o,Eh];have B:2^k+r=2^k ||| r:=by
   have:=Nat.two_pow_add_eq_or_of_lt hr 1;rw[Al] at this;exact this
  rw[B,Nat.testBit_or,Eh];by_cases hj:k=j
  ·subst hj;rw[EJ hr];simp
  ·by_cases h6:j<64
   ·simp[hj,h6]
   ·rw[EJ (AK (show r<2^64 by omega) (AB q_e q_o))];simp[hj]
 rw[BitVec.toNat_and,BitVec.toNat_not,m,q,A,IntKind.wrap_u64];omega
theorem zkI{a:Nat}(s:Nat)(m:s<=64)(ha:a<18446744073709551616)(j:o.op= .binOp .and t x z t':=by exact rfl)(hx:ev g x=some (nv a):=by exact rfl)(hz:ev g z=some (nv (2^s-1)):=by exact rfl):OpT P ro N w0 M ds o g L (Det (nv (a%2^s)) L):=
 zn2 j hx hz (by
  have:2^s<=2^64:=AB q_e m;rw[bits_and_u64_nat _ _ ha q_o,DZ])
theorem ze5{a:Nat}(n:Nat){j:IntKind}(hn:n<64)(m:o.op= .binOp .shr t x z t':=by exact rfl)(hx:ev g x=some (nv a):=by exact rfl)(hz:ev g z=some (.int j (n:Int)):=by exact rfl):OpT P ro N w0 M ds o g L (Det (nv (a/2^n)) L):=
 zcl m hx hz (zr3 a n j hn)
theorem zhY{a b:Nat}(j:o.op= .binOp .mul t x z t':=by exact rfl)(hx:ev g x=some (nv a):=by exact rfl)(hz:ev g z=some (nv b):=by exact rfl):OpT P ro N w0 M ds o g L (Det (nv (a*b%18446744073709551616)) L):=
 zaM j hx hz (by rw[show((a:Nat):Int)*((b:Nat):Int)=((a*b:Nat):Int) by simp,Wd.wrap_u64_nat])
theorem ze1{a b:Nat}(j:o.op= .binOp .add t x z t':=by exact rfl)(hx:ev g x=some (nv a):=by exact rfl)(hz:ev g z=some (nv b):=by exact rfl):OpT P ro N w0 M ds o g L (Det (nv ((a+b)%18446744073709551616)) L):=
 zD j hx hz (by rw[show((a:Nat):Int)+((b:Nat):Int)=((a+b:Nat):Int) by simp,Wd.wrap_u64_nat])
theorem zhp{a n:Nat}{j:IntKind}(ha:a<18446744073709551616)(m:o.op= .binOp .shr t x z t':=by exact rfl)(hx:ev g x=some (nv a):=by exact rfl)(hz:ev g z=some (.int j (n:Int)):=by exact rfl):OpT P ro N w0 M ds o g L (Det (nv (a/2^n)) L):=
 zcl m hx hz (zpr a n j ha)
theorem zhs{a n:Nat}{j:IntKind}(m:o.op= .binOp .shl t x z t':=by exact rfl)(hx:ev g x=some (nv a):=by exact rfl)(hz:ev g z=some (.int j (n:Int)):=by exact rfl):OpT P ro N w0 M ds o g L (Det (nv (a*2^n%18446744073709551616)) L):=
 zeD m hx hz (zjE a n j)
theorem zqL{n:Nat}{j:IntKind}(hn:n<64)(m:o.op= .binOp .shl t x z t':=by exact rfl)(hx:ev g x=some (nv 1):=by exact rfl)(hz:ev g z=some (.int j (n:Int)):=by exact rfl):OpT P ro N w0 M ds o g L (Det (nv (2^n)) L):=
 zeD m hx hz (by
  have h:2^n<=2^63:=AB q_e q_o;rw[zjE 1 n j,Bu,A9 (show 2^n<18446744073709551616 by omega)])
theorem zjk{a b:Nat}(ha:a<18446744073709551616)(hb:b<18446744073709551616)(j:o.op= .binOp .or t x z t':=by exact rfl)(hx:ev g x=some (nv a):=by exact rfl)(hz:ev g z=some (nv b):=by exact rfl):OpT P ro N w0 M ds o g L (Det (nv (a ||| b)) L):=
 zj3 j hx hz (bits_or_u64_nat a b ha hb)
theorem zya{a b:Nat}(hb:0<b:=by omega)(ha:a<18446744073709551616:=by omega)(j:o.op= .binOp .quo t x z t':=by exact rfl)(hx:ev g x=some (nv a):=by exact rfl)(hz:ev g z=some (nv b):=by exact rfl):OpT P ro N w0 M ds o g L (Det (nv (a/b)) L):=
 zbz j hx hz q_o (by
  have:=Bz a b;rw[Cx q_o,show((a:Int)/(b:Int))=((a/b:Nat):Int) from rfl];generalize a/b=q at*;exact IntWalk.u64_in _ q_o)
theorem zxl{a b:Nat}(hb:0<b:=by omega)(j:o.op= .binOp .rem t x z t':=by exact rfl)(hx:ev g x=some (nv a):=by exact rfl)(hz:ev g z=some (nv b):=by exact rfl):OpT P ro N w0 M ds o g L (Det (nv (a%b)) L):=
 zbI j hx hz q_o (by rw[Dz q_o];rfl)
theorem ztY{r k:Nat}(hk:k<64)(hr:r<2^k)(j:o.op= .binOp .andNot t x z t':=by exact rfl)(hx:ev g x=some (nv (2^k+r)):=by exact rfl)(hz:ev g z=some (nv (2^k)):=by exact rfl):OpT P ro N w0 M ds o g L (Det (nv r) L):=
 zsW j hx hz (zrk r k hk hr)
end Go.Nt
namespace Go.Sy
open Go
variable {P:Program}{ro:Option Nat}{N:Nat}{w0:World}{M:Nat->Prop}{ds:List Deferred}{g:Nat->Option Value}{L:List Res}{o:Oper}
theorem zu5{t n b off k c e:Nat}{x:Operand}{y:Ty}(m:o.op= .sliceToArrayPointer t x:=by exact rfl)(hx:ev g x=some (.slice (some ⟨b,off,none⟩) k c):=by exact rfl)(hk:n<=k:=by decide)(hn:n≠0:=by decide)(B:zah P t=some y:=by exact ty rfl)(E:y.desc= .array n e:=by exact rfl):OpT P ro N w0 M ds o g L (Det (.pointer (some ⟨b,off,none⟩)) L):=
 F4 (by rw[m];rfl) λa w X A=>by
  obtain⟨d,i,r,F,j,_⟩:=zX B;rw[E] at j;have:=zdk j;subst this;have q:¬k<n:=q_o;simp[execOp,m,A.agr.eval hx,Instr.arrayAt,run_underlying r,q,hn]
end Go.Sy
namespace Go.Proofs.YtdnlngbjpdbffaaGreatDoor
open Go Go.Sy
def zy:Ty:=⟨.func #[] #[] false,1,8,[]⟩
def tyTbl:List Ty:=[
 ⟨.tuple #[],1,0,[]⟩,zy,⟨.int .i64,1,8,[]⟩,⟨.int .i64,1,8,[]⟩,⟨.bool,1,1,[]⟩,⟨.int .u8,1,1,[]⟩,⟨.int .u8,1,1,[]⟩,⟨.struct #[],4,24,[(0,1),(1,1),(2,1),(3,1)]⟩,⟨.struct #[],4,24,[(0,1),(1,1),(2,1),(3,1)]⟩,⟨.string,1,16,[]⟩,⟨.string,1,16,[]⟩,⟨.string,1,16,[]⟩,⟨.int .u64,1,8,[]⟩,⟨.struct #[],2,24,[(0,1),(1,1)]⟩,⟨.struct #[],2,24,[(0,1),(1,1)]⟩,⟨.pointer 350,1,8,[]⟩,⟨.pointer 353,1,8,[]⟩,⟨.pointer 361,1,8,[]⟩,⟨.struct #[],1,8,[(0,1)]⟩,⟨.struct #[],1,8,[(0,1)]⟩,⟨.interface #[],1,16,[]⟩,⟨.int .i32,1,4,[]⟩,⟨.slice 45,1,24,[]⟩,⟨.slice 5,1,24,[]⟩,zy,zy,⟨.int .i64,1,8,[]⟩,⟨.tuple #[23,26],1,0,[]⟩,zy,zy,zy,⟨.tuple #[22,26],1,0,[]⟩,zy,⟨.tuple #[22,3],1,0,[]⟩,zy,zy,zy,⟨.slice 65,1,24,[]⟩,⟨.slice 67,1,24,[]⟩,⟨.array 3 3,3,24,[]⟩,zy,⟨.slice 9,1,24,[]⟩,⟨.struct #[],2,40,[(0,1),(1,1)]⟩,⟨.struct #[],2,40,[(0,1),(1,1)]⟩,⟨.struct #[],11,168,[(0,1),(1,2),(3,2),(5,1),(6,1),(7,1),(8,1),(9,1),(10,1)]⟩,⟨.struct #[],11,168,[(0,1),(1,2),(3,2),(5,1),(6,1),(7,1),(8,1),(9,1),(10,1)]⟩,⟨.tuple #[45,26],1,0,[]⟩,zy,zy,zy,zy,zy,⟨.tuple #[3,26],1,0,[]⟩,zy,zy,zy,⟨.tuple #[45,3],1,0,[]⟩,zy,zy,zy,⟨.tuple #[3,3],1,0,[]⟩,zy,zy,zy,⟨.struct #[],4,72,[(0,2),(2,1),(3,1)]⟩,⟨.struct #[],4,72,[(0,2),(2,1),(3,1)]⟩,⟨.struct #[],3,48,[(0,2),(2,1)]⟩,⟨.struct #[],3,48,[(0,2),(2,1)]⟩,zy,zy,zy,zy,zy,zy,zy,⟨.slice 23,1,24,[]⟩,zy,zy,zy,zy,⟨.pointer 190,1,8,[]⟩,⟨.struct #[],1,8,[(0,1)]⟩,⟨.struct #[],1,8,[(0,1)]⟩,zy,zy,zy,zy,zy,zy,zy,zy,zy,zy,zy,zy,zy,⟨.struct #[],2,32,[(0,1),(1,1)]⟩,⟨.struct #[],2,32,[(0,1),(1,1)]⟩,⟨.tuple #[97,4],1,0,[]⟩,zy,zy,zy,zy,⟨.map 3 4,1,8,[]⟩,zy,⟨.tuple #[23,3],1,0,[]⟩,zy,zy,zy,zy,zy,zy,zy,zy,zy,zy,⟨.struct #[],1,8,[(0,1)]⟩,⟨.struct #[],1,8,[(0,1)]⟩,⟨.tuple #[117,4],1,0,[]⟩,zy,zy,zy,zy,zy,⟨.tuple #[3,23,3],1,0,[]⟩,zy,zy,zy,zy,⟨.int .u64,1,8,[]⟩,⟨.array 16 129,16,128,[]⟩,⟨.array 16 129,16,128,[]⟩,⟨.struct #[],16,128,[(0,16)]⟩,⟨.struct #[],16,128,[(0,16)]⟩,⟨.tuple #[133,4],1,0,[]⟩,zy,⟨.tuple #[133,26],1,0,[]⟩,zy,zy,zy,zy,zy,zy,zy,zy,zy,zy,zy,⟨.tuple #[4,26],1,0,[]⟩,zy,⟨.slice 133,1,24,[]⟩,zy,zy,zy,zy,zy,zy,zy,zy,zy,⟨.slice 102,1,24,[]⟩,zy,zy,⟨.slice 3,1,24,[]⟩,⟨.tuple #[163,4],1,0,[]⟩,zy,zy,zy,zy,zy,zy,zy,zy,zy,zy,zy,zy,zy,zy,zy,zy,zy,zy,zy,zy,⟨.tuple #[80,26],1,0,[]⟩,zy,⟨.struct #[],2,32,[(0,1),(1,1)]⟩,⟨.struct #[],2,32,[(0,1),(1,1)]⟩,⟨.struct #[],3,40,[(0,2),(2,1)]⟩,⟨.struct #[],3,40,[(0,2),(2,1)]⟩,zy,⟨.int .u64,1,8,[]⟩,⟨.struct #[],33,264,[(0,16),(16,16),(32,1)]⟩,⟨.struct #[],33,264,[(0,16),(16,16),(32,1)]⟩,⟨.tuple #[194,26],1,0,[]⟩,zy,zy,zy,⟨.array 32 5,32,32,[]⟩,zy,zy,zy,zy,zy,zy,zy,zy,zy,zy,zy,zy,zy,⟨.tuple #[43,26],1,0,[]⟩,zy,zy,zy,zy,zy,zy,zy,zy,⟨.slice 25,1,24,[]⟩,zy,zy,zy,⟨.struct #[],16,128,[(0,16)]⟩,⟨.struct #[],16,128,[(0,16)]⟩,zy,zy,zy,zy,zy,⟨.tuple #[163,163],1,0,[]⟩,zy,⟨.slice 4,1,24,[]⟩,zy,zy,zy,zy,zy,zy,⟨.pointer 188,1,8,[]⟩,zy,⟨.array 4 9,4,64,[]⟩,zy,zy,⟨.int .u32,1,4,[]⟩,⟨.array 8 247,8,32,[]⟩,⟨.array 8 247,8,32,[]⟩,zy,zy,zy,zy,⟨.tuple #[80,4,26],1,0,[]⟩,zy,zy,⟨.int .i8,1,1,[]⟩,zy,zy,⟨.tuple #[26,4],1,0,[]⟩,zy,zy,zy,⟨.tuple #[9,26],1,0,[]⟩,zy,zy,zy,zy,⟨.tuple #[4,4],1,0,[]⟩,zy,zy,zy,⟨.array 2 3,2,16,[]⟩,zy,⟨.array 8 3,8,64,[]⟩,zy,zy,zy,zy,⟨.tuple #[80,4],1,0,[]⟩,zy,zy,zy,zy,zy,zy,⟨.array 256 4,256,256,[]⟩,⟨.array 256 4,256,256,[]⟩,⟨.tuple #[288,4],1,0,[]⟩,zy,zy,⟨.pointer 288,1,8,[]⟩,⟨.tuple #[133,133,26],1,0,[]⟩,zy,zy,zy,⟨.pointer 249,1,8,[]⟩,⟨.array 64 247,64,256,[]⟩,zy,zy,zy,⟨.tuple #[3,4],1,0,[]⟩,zy,zy,⟨.tuple #[3,3,26],1,0,[]⟩,zy,⟨.tuple #[23,4],1,0,[]⟩,zy,⟨.tuple #[129,129],1,0,[]⟩,zy,zy,⟨.array 64 3,64,512,[]⟩,zy,zy,zy,⟨.tuple #[21,3],1,0,[]⟩,zy,zy,zy,zy,zy,⟨.tuple #[131,131],1,0,[]⟩,zy,⟨.tuple #[131,4],1,0,[]⟩,zy,zy,zy,⟨.tuple #[9,4],1,0,[]⟩,⟨.array 4 3,4,32,[]⟩,⟨.array 17 129,17,136,[]⟩,zy,zy,zy,⟨.slice 129,1,24,[]⟩,zy,⟨.array 32 129,32,256,[]⟩,zy,⟨.array 256 5,256,256,[]⟩,⟨.struct #[],2,2,[(0,1),(1,1)]⟩,⟨.struct #[],2,2,[(0,1),(1,1)]⟩,⟨.array 16 340,32,32,[]⟩,zy,⟨.interface #[],1,16,[]⟩,⟨.interface #[],1,16,[]⟩,⟨.tuple #[247,247],1,0,[]⟩,zy,⟨.pointer 363,1,8,[]⟩,zy,⟨.struct #[],4,40,[(0,1),(1,1),(2,1),(3,1)]⟩,⟨.struct #[],4,40,[(0,1),(1,1),(2,1),(3,1)]⟩,⟨.array 0 16,0,0,[]⟩,⟨.struct #[],0,0,[(0,0)]⟩,⟨.struct #[],0,0,[(0,0)]⟩,⟨.int .u8,1,1,[]⟩,⟨.int .u8,1,1,[]⟩,zy,⟨.pointer 5,1,8,[]⟩,⟨.int .i32,1,4,[]⟩,⟨.int .i32,1,4,[]⟩,⟨.struct #[],11,48,[(0,1),(1,1),(2,1),(3,1),(4,1),(5,1),(6,1),(7,1),(8,1),(9,1),(10,1)]⟩,⟨.struct #[],11,48,[(0,1),(1,1),(2,1),(3,1),(4,1),(5,1),(6,1),(7,1),(8,1),(9,1),(10,1)]⟩,⟨.struct #[],1,16,[(0,1)]⟩,⟨.struct #[],1,16,[(0,1)]⟩,⟨.unsafePointer,1,8,[]⟩]
theorem zvv:(List.range tyTbl.length).map (zah Tryz.prog)=tyTbl.map some:=by kernel_rfl
theorem ty{t:Nat}{y:Ty}(j:nth tyTbl t=some y):zah Tryz.prog t=some y:=zvV zvv j
theorem tyU{t:Nat}{y:Ty}(j:nth tyTbl t=some y):Tryz.prog.underlying t=some ((Tryz.prog.underlying t).getD .invalid):=by obtain⟨d,_,h,_⟩:=zX (ty j);rw[h];rfl
theorem tyI{t:Nat}{y:Ty}{k:IntKind}(q:nth tyTbl t=some y)(h:y.desc= .int k):Tryz.prog.underlying t=some (.int k):=by obtain⟨d,_,m,_,j,_⟩:=zX (ty q);rw[h] at j;rw[m,zkw j]
theorem mixed:Tryz.prog.follows .mixedOrders=true:=by kernel_rfl
def zTbl:List (Nat×List Value):=[
 (3,[.int .i64 0]),(4,[.bool false]),(5,[.int .u8 0]),(9,[.string ByteArray.empty]),(22,[.slice none 0 0]),(23,[.slice none 0 0]),(25,[.nilFunc]),(26,[.int .i64 0]),(43,[.slice none 0 0]++[.string ByteArray.empty]),(45,[.int .i64 0]++[.slice none 0 0]++[.string ByteArray.empty]++[.slice none 0 0]++[.string ByteArray.empty]++[.int .i64 0,.int .i64 0]++[.bool false]++[.int .i64 0]++[.slice none 0 0,.slice none 0 0]),(65,[.slice none 0 0]++[.string ByteArray.empty]++[.int .i64 0]++[.slice none 0 0]),(67,[.slice none 0 0]++[.string ByteArray.empty]++[.int .i64 0]),(80,[.pointer none]),(82,[.pointer none]),(97,[.int .i64 0]++[.slice none 0 0]),(102,[.nilFunc]),(117,[.int .i64 0]),(129,[.int .u64 0]),(131,List.replicate 16 (.int .u64 0:Value)),(133,List.replicate 16 (.int .u64 0:Value)),(150,[.slice none 0 0]),(188,[.slice none 0 0]++[.int .i64 0]),(190,[.slice none 0 0]++[.int .i64 0]++[.bool false]),(194,List.replicate 32 (.int .u64 0:Value)++[.int .i64 0]),(199,List.replicate 32 (.int .u8 0:Value)),(227,List.replicate 16 (.int .u64 0:Value)),(244,[.string ByteArray.empty,.string ByteArray.empty,.string ByteArray.empty,.string ByteArray.empty]),(248,List.replicate 8 (.int .u32 0:Value)),(249,List.replicate 8 (.int .u32 0:Value)),(273,[.int .i64 0,.int .i64 0]),(275,List.replicate 8 (.int .i64 0:Value)),(288,List.replicate 256 (.bool false:Value)),(298,List.replicate 64 (.int .u32 0:Value)),(312,List.replicate 64 (.int .i64 0:Value)),(326,[.nilFunc]),(329,[.int .i64 0,.int .i64 0,.int .i64 0,.int .i64 0]),(330,List.replicate 17 (.int .u64 0:Value)),(336,List.replicate 32 (.int .u64 0:Value)),(340,[.int .u8 0,.int .u8 0]),(341,List.replicate 32 (.int .u8 0:Value))]
theorem zxX:zTbl.map (λp=>zbd Tryz.prog p.1)=zTbl.map (λp=>some p.2):=by kernel_rfl
theorem zc{t:Nat}{C:List Value}(h:znE zTbl t=some C):zbd Tryz.prog t=some C:=zpg zTbl zxX h
def zv2(P:Program)(k:Nat):Bool:=match P.funcs[k]? with|some f=>f.body.isSome && !(f.name == "runtime.NumGoroutine")|none=>false
theorem zz8{P:Program}{k:Nat}(h:zv2 P k=true):∀(args:Array Value) (w:World),(callFunc k args).run P w= .ok (.enter k args) w:=by
 unfold zv2 at h;split at h
 ·rename_i f m;simp only[A8,B4,Option.isSome_iff_exists] at h;obtain⟨⟨c,j⟩,q⟩:=h;exact enters_of m q j
 ·cases h
def enTbl:List Bool:=[false,false,false,true,true,true,true,true,true,true,true,true,true,true,true,true,true,true,true,true,true,true,true,true,true,true,true,true,true,true,true,true,true,true,true,true,true,true,true,true,true,true,true,true,true,true,true,true,true,true,true,true,true,true,true,true,true,true,true,true,true,true,true,true,true,true,true,true,true,true,true,true,true,true,true,true,true,true,true,true,true,true,true,true,true,true,true,true,true,true,true,true,true,true,true,true,true,true,true,true,true,true,true,true,true,true,true,true,true,true,true,true,true,true,true,true,true,true,true,true,true,true,true,true,true,true,true,true,true,true,true,true,true,true,true,true,true,true,true,true,true,true,true,true,true,true,true,true,true,true,true,true,true,true,true,true,true,true,true,true,true,true,true,true,true,true,true,true,true,true,true,true,true,true,true,true,true,true,true,true,true,true,true,true,true,true,true,true,true,true,true,true,true,true,true,true,true,true,true,true,true,true,true,true,true,true,true,true,true,true,true,true,true,true,true,true,true,true,true,true,true,true,true,true,true,true,true,true,true,true,true,true,true,true,true,true,true,true,true,true,true,true,true,true,true,true,true,true,true,false,true,true,true,true,true,true,true,true,true,true,true,true,true,true,true,true,true,true,true,true,true,true,true,true,true,true,true,true,true,true,true,true,true,true,true,true,true,true,true,true,true,true,true,true,true,true,true,true,true,true,true,true,true,true,true,true,false,true,false,true,true,true,true,true,true,true,true,true,true,true,true,true,true,true,true,true,true,true,true,true,true,true,true,true,true,false,true,true,false,true,false,false,false,false,false,false,false,false,false,false,false,false,false,false,false,false,false,false,false,false,false,false,false,false,false,false,true]
theorem zue:((List.range 367).zip enTbl).all (λp=>!p.2 || zv2 Tryz.prog p.1)=true:=by kernel_rfl
theorem en{k:Nat}(h:nth enTbl k=some true):∀(args:Array Value) (w:World),(callFunc k args).run Tryz.prog w= .ok (.enter k args) w:=by
 refine zz8 ?_;rw[zhU] at h;have q:enTbl.length=367:=rfl;have m:k<367:=by rw[<-q];exact(AR.1 h).1
 have j:((List.range 367).zip enTbl)[k]?=some (k,true):=by rw[List.getElem?_zip_eq_some];exact⟨Ei m,h⟩
 have:=AF.1 zue _ (BB j);simpa using this
end Go.Proofs.YtdnlngbjpdbffaaGreatDoor
