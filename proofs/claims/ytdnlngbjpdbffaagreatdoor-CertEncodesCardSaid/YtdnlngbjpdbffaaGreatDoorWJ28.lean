/- Lemmas of this proof. -/
import Derived.Test.YtdnlngbjpdbffaaGreatDoorWJ26
import Derived.Test.YtdnlngbjpdbffaaGreatDoorWJ27
import Derived.ArgAppend
import Derived.RecoverIn
set_option maxRecDepth 10000
set_option linter.all false
namespace Go.Ct
open Go Go.Sy Go.RowKit
def zT(l:List UInt8):Value:=.string (str l)
structure PrinIn(W:World)(C:List Value)(p:Prin):Prop where
 ex:∃a c,C= [.slice a p.parts.length c,zT p.realm]/\p.parts.length<=c/\c<=maxLen/\SlA W a (p.parts.map zT)/\(a=none->c=0)
 len:p.realm.length<=maxLen/\∀x∈p.parts,x.length<=maxLen
theorem PrinIn.keep{w w':World}{C:List Value}{p:Prin}(h:PrinIn w C p)(hk:Keep No w w'):PrinIn w' C p:=by
 obtain⟨⟨a,c,j,m,q,r,A⟩,B⟩:=h;exact⟨⟨a,c,j,m,q,r.keep hk (λ_ _ h=>h),A⟩,B⟩
def BytIn(W:World)(v:Value)(l:List UInt8):Prop:=∃a c,v= .slice a l.length c/\l.length<=c/\c<=maxLen/\SlA W a (l.map v8)/\(a=none->c=0)
structure CertIn(W:World)(C:List Value)(c:Cert):Prop where
 ex:∃I S vp vs,C= .int .i64 c.serial::(I++(S++[.int .i64 c.fr,.int .i64 c.til,.bool c.auth,.int .i64 c.group,vp,vs]))/\PrinIn W I c.issuer/\PrinIn W S c.subject/\BytIn W vp c.pub/\BytIn W vs c.sig
 rng:(Lit.int .i64 c.serial).wf=true/\(Lit.int .i64 c.fr).wf=true/\(Lit.int .i64 c.til).wf=true/\(Lit.int .i64 c.group).wf=true
variable {H:Type}{enc:TypeId×Value->H}{P:Program}{W:World}
theorem ztx{t e:TypeId}{C:List Value}(h:Rdb enc P W t C)(r:P.underlying t=some (.slice e))(he:P.underlying e=some (.int .u8))(hc:P.cellsOf e=1):∃v l,C= [v]/\BytIn W v l:=by
 obtain⟨s,m,j,q⟩:=h.bytes r he hc;exact⟨s.val,s.l,m,s.a,s.c,by rw[j.len];rfl,by rw[j.len];exact j.cap,q,j.sla,j.nil⟩
structure PrinTy(P:Program)(t:TypeId):Prop where
 ex:∃ts te tr,∃f0 f1:Field,P.underlying t=some (.struct #[f0,f1])/\f0.type=ts/\f0.offset=0/\f1.type=tr/\f1.offset=1/\P.cellsOf t=2/\P.underlying ts=some (.slice te)/\P.underlying te=some .string/\P.cellsOf te=1/\P.cellsOf ts=1/\P.underlying tr=some .string/\P.cellsOf tr=1
theorem zpJ{t:TypeId}{C:List Value}(h:Rdb enc P W t C)(ht:PrinTy P t):∃p,PrinIn W C p:=by
 obtain⟨ts,te,tr,f0,f1,hs,O,o0,S,o1,hn,U,V,X,Y,Z,h6⟩:=ht.ex;obtain⟨j,K⟩:=h.struct hs;rw[hn] at j
 match C,j with
 | [x,y],_=>
  have G:=K f0 q_p;have I:=K f1 q_p;rw[O,o0,Y] at G;rw[S,o1,h6] at I;simp only[BJ,By,Bu,Dm] at G I;obtain⟨l,e,j⟩:=I.string Z;obtain⟨a,n,c,E,J,r,F,hc,q,m,w⟩:=G.list (Ψ:=λB (l:List UInt8)=>B= [zT l]/\l.length<=maxLen) U X q_e (λB hB=>by
   obtain⟨l,e,j⟩:=hB.string V;exact⟨l,e,j⟩)
  simp only[Dj,and_true] at e J;subst e;subst J;have T:E.flatMap (·.1)=(E.map (·.2)).map zT:=by
   have:∀ys:List (List Value×List UInt8),(∀x∈ys,x.1.length=1/\x.1= [zT x.2]/\x.2.length<=maxLen)->ys.flatMap (·.1)=(ys.map (·.2)).map zT:=by
    intro ys
    induction ys with
    |nil=>intro _;rfl
    |cons y ys ih=>
     intro A;rw[E5,ih (λz hz=>A z (A4 _ hz)),(A y A3).2.1];rfl
   exact this E w
  rw[T] at q;refine⟨⟨E.map (·.2),l⟩,⟨a,c,?_,?_,hc,q,m⟩,j,λx hx=>?_⟩
  ·simp only[A0,r];rfl
  ·simp only[A0,r];exact F
  ·obtain⟨y,A,rfl⟩:=C4.1 hx;exact(w y A).2.2
theorem PrinIn.two{C:List Value}{p:Prin}(h:PrinIn W C p):C.length=2:=by
 obtain⟨a,c,e,_⟩:=h.ex;rw[e];rfl
structure CertTy(P:Program)(t tp ti tb ty te:TypeId):Prop where
 str:∃f:Nat->Field,P.underlying t=some (.struct #[f 0,f 1,f 2,f 3,f 4,f 5,f 6,f 7,f 8])/\(f 0).type=ti/\(f 0).offset=0/\(f 1).type=tp/\(f 1).offset=1/\(f 2).type=tp/\(f 2).offset=3/\
  (f 3).type=ti/\(f 3).offset=5/\(f 4).type=ti/\(f 4).offset=6/\(f 5).type=tb/\(f 5).offset=7/\(f 6).type=ti/\(f 6).offset=8/\(f 7).type=ty/\(f 7).offset=9/\(f 8).type=ty/\(f 8).offset=10
 cells:P.cellsOf t=11
 prin:PrinTy P tp
 pc:P.cellsOf tp=2
 int:P.underlying ti=some (.int .i64)
 ic:P.cellsOf ti=1
 bool:P.underlying tb=some .bool
 bc:P.cellsOf tb=1
 byt:P.underlying ty=some (.slice te)
 yc:P.cellsOf ty=1
 u8:P.underlying te=some (.int .u8)
 ec:P.cellsOf te=1
theorem zxm{t tp ti tb ty te:TypeId}{C:List Value}(h:Rdb enc P W t C)(T:CertTy P t tp ti tb ty te):∃c,CertIn W C c:=by
 obtain⟨f,hs,a0,b0,a1,b1,a2,b2,a3,b3,a4,b4,a5,b5,Y,b6,Z,b7,a8,b8⟩:=T.str;obtain⟨X,j⟩:=h.struct hs;rw[T.cells] at X
 match C,X with
 | [x0,x1,x2,x3,x4,x5,x6,x7,x8,x9,x10],_=>
  have m:=j (f 0) q_p;have q:=j (f 1) q_p;have r:=j (f 2) q_p;have w:=j (f 3) q_p;have A:=j (f 4) q_p;have B:=j (f 5) q_p;have E:=j (f 6) q_p;have F:=j (f 7) q_p;have G:=j (f 8) q_p;rw[a0,b0,T.ic] at m;rw[a1,b1,T.pc] at q;rw[a2,b2,T.pc] at r;rw[a3,b3,T.ic] at w;rw[a4,b4,T.ic] at A;rw[a5,b5,T.bc] at B;rw[Y,b6,T.ic] at E;rw[Z,b7,T.yc] at F;rw[a8,b8,T.yc] at G;simp only[BJ,By,Bu,Dm] at m q r w A B E F G;obtain⟨i0,I,w0⟩:=m.int T.int;obtain⟨p1,h1⟩:=zpJ q T.prin;obtain⟨p2,h2⟩:=zpJ r T.prin;obtain⟨i3,J,w3⟩:=w.int T.int;obtain⟨i4,K,w4⟩:=A.int T.int;obtain⟨b,O⟩:=B.bool T.bool;obtain⟨i6,S,w6⟩:=E.int T.int;obtain⟨v7,l7,U,h7⟩:=ztx F T.byt T.u8 T.ec;obtain⟨v8,l8,V,h8⟩:=ztx G T.byt T.u8 T.ec;simp only[Dj,and_true] at I J K O S U V;subst I;subst J;subst K;subst O;subst S;subst U;subst V;exact⟨⟨i0,p1,p2,i3,i4,b,i6,l7,l8⟩,⟨_,_,_,_,rfl,h1,h2,h7,h8⟩,w0,w3,w4,w6⟩
end Go.Ct
namespace Go.Proofs.YtdnlngbjpdbffaaGreatDoor
open Go Go.Sy Go.Ct Go.RowKit
attribute [local irreducible] Sy SyL SyX Sy.Fn callFunc
def btw(v a b:Int):Bool:=decide (a<=v)&&decide (v<=b)
theorem zi0(v a b:Int)(w:World):q_G 219 [.int .i64 v,.int .i64 a,.int .i64 b] w (.bool (btw v a b)):=by
 refine zt Tryz.func219 Tryz.ntmps219 ?_;unfold btw;by_cases h1:a<=v
 ·rw[decide_eq_true h1,B6];have j:decide (a<=v)=true:=decide_eq_true h1;by_cases h2:v<=b
  ·rw[decide_eq_true h2];repeat' (first|refine s_0 ?_|refine q_k 0 ?_|refine q_k 1 ?_;refine q_x zaF ?_;refine q_x zaF ?_)
   exact q_r
  ·rw[decide_eq_false h2];repeat' (first|refine s_0 ?_|refine q_k 0 ?_|refine q_k 1 ?_;refine q_x zaF ?_;refine q_x zaF ?_)
   exact q_r
 ·rw[decide_eq_false h1,BZ];repeat' (first|refine s_0 ?_|refine q_k 0 ?_|refine q_k 1 ?_;refine q_x zaF ?_)
  exact q_r
theorem ztp(v:Int)(w:World):q_G 217 [.int .i64 v] w (.bool (btw v 0 1099511627776)):=by
 refine zt Tryz.func217 Tryz.ntmps217 ?_;repeat' (first|refine s_0 ?_|refine q_k 0 ?_|refine q_k 1 ?_;refine q_v (za (hc:=λ_ _ _ _=>(zi0 v 0 1099511627776 _))) ?_;refine zb ?_)
 exact q_r
theorem ztc(v:Int)(w:World):q_G 218 [.int .i64 v] w (.bool (btw v 0 86400)):=by
 refine zt Tryz.func218 Tryz.ntmps218 ?_;repeat' (first|refine s_0 ?_|refine q_k 0 ?_|refine q_k 1 ?_;refine q_v (za (hc:=λ_ _ _ _=>(zi0 v 0 86400 _))) ?_;refine zb ?_)
 exact q_r
theorem zhL(b:Bool)(e:Int)(w:World):q_G 62 [.bool b,.int .i64 e] w (.int .i64 (if b then e else 0)):=by
 refine zt Tryz.func62 Tryz.ntmps62 ?_;cases b
 ·repeat' (first|refine s_0 ?_|refine zD [0,1,3] ?_;refine zb ?_)
  exact q_r
 ·repeat' (first|refine s_0 ?_|refine zD [0,1,2] ?_;refine zb ?_)
  exact q_r
theorem zos(l:List UInt8)(w:World):q_G 235 [zT l] w (.bool (decide (1<=l.length)&&decide (l.length<=32))):=by
 refine zt Tryz.func235 Tryz.ntmps235 ?_;unfold zT;have j:((str l).size:Int)=(l.length:Int):=rfl;by_cases h1:1<=l.length
 ·rw[decide_eq_true h1,B6];by_cases h2:l.length<=32
  ·rw[decide_eq_true h2];repeat' (first|refine s_0 ?_|refine q_k 0 ?_|refine q_k 1 ?_;refine q_x zP ?_;refine q_x zaF ?_)
   exact q_r
  ·rw[decide_eq_false h2];repeat' (first|refine s_0 ?_|refine q_k 0 ?_|refine q_k 1 ?_;refine q_x zP ?_;refine q_x zaF ?_)
   exact q_r
 ·rw[decide_eq_false h1,BZ];repeat' (first|refine s_0 ?_|refine q_k 0 ?_|refine q_k 1 ?_;refine q_x zP ?_)
  exact q_r
end Go.Proofs.YtdnlngbjpdbffaaGreatDoor
namespace Go.Sy
open Go
variable {P:Program}{ro:Option Nat}{N:Nat}{w0:World}{M:Nat->Prop}{ds:List Deferred}{g:Nat->Option Value}{L:List Res}{o:Oper}{t t':TypeId}{x z:Operand}{y ye:Ty}
theorem Holds.fresh{B:Nat}{w w':World}{r:Res}(h:Holds B M L w)(hk:Keep No w w')(hr:r.holds w')(q:∀b,r.own b->b=w.heap.size)(F:B<=w.heap.size):Holds B M (r::L) w':=
 (h.keep hk (λ_ _ _ _ h=>h)).cons hr (λx A b j m=>by
  have C:=q b j;have E:=FA (h.all x A) m;omega) (λb j=> .inl (by have:=q b j;omega))
def zzc(E b:Nat)(C:List Value):Res:=.obj b (.cells C.toArray E (C.length,C.length+1))
theorem zj3{e:Nat}{l:List UInt8}(S:o.op= .convert t t' x:=by exact rfl)(hx:ev g x=some (.string (str l)):=by exact rfl)(ht:zah P t=some y:=by exact ty rfl){T:Ty}(I:zah P t'=some T:=by exact ty rfl)(K:T.desc= .slice e:=by exact rfl)(he:zah P e=some ye:=by exact ty rfl)(O:ye.desc= .int .u8:=by exact rfl):
  OpT P ro N w0 M ds o g L (λv U=>∃b J,v= .slice (some ⟨b,0,none⟩) l.length (l.length+J.length)/\U=zzc e b (l.map v8++J)::L):=
 FC (by rw[S];rfl) λa w X m=>by
  obtain⟨d,i,Z,hi,hs,_⟩:=zV ht;obtain⟨d',i',F,a6,C,_⟩:=zV I;rw[K] at C;have:=zbm C;subst this;obtain⟨d2,i2,G,a7,q,_⟩:=zV he;rw[O] at q;have A:d2= .int .u8:=by
   cases d2 <;> simp[zdZ] at q;exact congrArg _ q
  subst A;have B:=Lib.run_convert_string_bytes w t t' e (str l) Z F G;have E:Keep No w (Lib.bytesWorld w e (str l)):=⟨rfl,rfl,rfl,by rw[Lib.bytesWorld_size];omega,λk E _=>Lib.bytesWorld_at_old w e (str l) k E⟩;have V:w0.heap.size<=w.heap.size:=m.keep.size;have r:l.length<=grownCap w (str l).size 0 e:=by have:=grownCap_ge w (str l).size 0 e;rw[zkb] at this ⊢;exact this
  have j:Lib.bytesCells w e (str l)=(l.map v8++List.replicate (grownCap w (str l).size 0 e-(str l).size) (Value.int .u8 0)).toArray:=by
   apply BA.1;simp[Lib.bytesCells,str,v8,Wd.n8]
  refine⟨_,_,Lib.bytesWorld w e (str l),_,?_,.inl rfl,⟨w.heap.size,List.replicate (grownCap w (str l).size 0 e-(str l).size) (Value.int .u8 0),rfl,rfl⟩,m.keep.trans E (λ_ h=>h.elim),?_⟩
  ·simp only[execOp,S,m.agr.eval hx,Sem.run_bind,B,Result.andThen_ok];rw[zkb] at r ⊢;rw[AJ,show l.length+(grownCap w l.length 0 e-l.length)=grownCap w l.length 0 e by omega];rfl
  ·refine Holds.fresh m.hold E ?_ (λb Y=>Y.symm) V;show(Lib.bytesWorld w e (str l)).heap[w.heap.size]?=_;rw[Lib.bytesWorld_at_new,j,DP]
end Go.Sy
namespace Go.Ct
open Go Go.Sy Go.RowKit
theorem zzd(v:Int)(k:Nat)(j:IntKind)(h:k<64):Op.shift .shr .i64 v j (k:Int)=pure (.int .i64 (v/2^k)):=by
 rw[shift_shr_any _ _ _ _ (Bm _)];congr 2;rw[Bj,show min k IntKind.i64.bits=k from BM (BP h)]
theorem zvJ(x k:Nat)(j:IntKind)(h:k<64):Op.shift .shr .i64 (x:Int) j (k:Int)=pure (.int .i64 ((x/2^k:Nat):Int)):=by
 rw[shift_shr_any _ _ _ _ (Bm _)];congr 2;rw[Bj,show min k IntKind.i64.bits=k from BM (BP h),E7,EU];rfl
theorem u8Z(v:Int):IntKind.u8.wrap v=Wd.n8 (UInt8.ofNat (v%256).toNat):=by
 rw[IntKind.wrap_u8,Wd.n8_of_nat];have j:0<=v%256:=Int.emod_nonneg _ q_e;have m:v%256<256:=Int.emod_lt_of_pos _ q_e;omega
theorem u8N(x:Nat):IntKind.u8.wrap (x:Int)=Wd.n8 (UInt8.ofNat x):=by rw[Wd.wrap_u8_nat,Wd.n8_of_nat]
theorem zwW(v:Int)(m i:Nat)(h:i<m):SetAt (List.replicate (m-i) (Value.int .u8 0)++(beZ v i).map v8) (m-1-i) (.int .u8 (Wd.n8 (UInt8.ofNat (v/256^i%256).toNat))) (List.replicate (m-(i+1)) (Value.int .u8 0)++(beZ v (i+1)).map v8):=by
 refine⟨by simp only[A2,AJ];omega,?_⟩;obtain⟨j,w⟩:∃j,m-i=j+1:=⟨m-i-1,by omega⟩;have q:m-1-i=j:=q_o;have r:m-(i+1)=j:=q_o;rw[w,q,r,Ed,AH,CS _ _ q_p,AJ,C5];rfl
theorem zkn{v:Int}(h: -128<=v/\v<=127):zbg v=1:=by rw[zbg,dif_pos h]
theorem zn6{v:Int}(h:¬(-128<=v/\v<=127)):zbg v=zbg (v/256)+1:=by rw[zbg,dif_neg h]
theorem zn2:∀(k:Nat) (v:Int),-(128*256^k)<=v->v<128*256^k->zbg v<=k+1
 |0,v,h1,h2=>by rw[zkn q_o];exact A6 _
 |k+1,v,h1,h2=>by
  by_cases h: -128<=v/\v<=127
  ·rw[zkn h];omega
  ·rw[zn6 h];have:=zn2 k (v/256) (by rw[Int.pow_succ] at h1;omega) (by rw[Int.pow_succ] at h2;omega);omega
theorem zl4{v:Int}(h1: -zbV<=v)(h2:v<=zbV):zbg v<=8:=zn2 7 v (by unfold zbV at*;omega) (by unfold zbV at*;omega)
theorem zwt(i:Nat):(2:Int)^(8*i)=256^i:=by rw[Int.pow_mul];rfl
theorem zpX(n:Nat):(zbW n).map v8=if n<128 then [.int .u8 (Wd.n8 (UInt8.ofNat n))] else if n<256 then [.int .u8 129,.int .u8 (Wd.n8 (UInt8.ofNat n))] else if n<65536 then [.int .u8 130,.int .u8 (Wd.n8 (UInt8.ofNat (n/2^8))),.int .u8 (Wd.n8 (UInt8.ofNat n))] else [.int .u8 131,.int .u8 (Wd.n8 (UInt8.ofNat (n/2^16))),.int .u8 (Wd.n8 (UInt8.ofNat (n/2^8))),.int .u8 (Wd.n8 (UInt8.ofNat n))]:=by
 unfold zbW;split
 ·rfl
 ·split
  ·rfl
  ·split
   ·rfl
   ·rfl
theorem zjL{j:Nat}{w:World}{M:Nat->Prop}{E b n:Nat}{l:List UInt8}{L:List Res}(hh:Holds j M L w)(m:l.length=n)(hL:Has L (.blk b E (l.map v8))):(⟨some ⟨b,0,none⟩,n,n,l⟩:Bs).ok w:=
 ⟨m,A6 _,.inr ⟨b,0,rfl,zp (hh.has hL) Et⟩,λh=>by cases h⟩
theorem zaz{j:Nat}{w:World}{M:Nat->Prop}{E n c:Nat}{a:Option Addr}{l:List UInt8}{L:List Res}(hh:Holds j M L w)(m:l.length=n)(hL:Has L (.row (.slice a n c) E 1 n (l.map v8))):(⟨a,n,c,l⟩:Bs).ok w:=
 ⟨m,FJ hh hL,(Sy.Fd (Mi:=No) hh hL (λ_ h=>h.elim)).sla,λh=>(Fl hh hL h).1⟩
theorem zv3{w w':World}{L X:List Res}{E b n c:Nat}{M:Nat->Prop}{l:List UInt8}{J:List Value}(hk:Keep M w w')(hh:Holds w.heap.size M (L++X) w')(q:l.length=n)(hc:n<=c)(hL:Has L (zzc E b (l.map v8++J))):(⟨some ⟨b,0,none⟩,n,c,l⟩:Bs).ok w':=
 ⟨q,hc,.inr ⟨b,0,rfl,(Reads.obj hL (λj v m=>by rw[AZ,BO (AU.1 m).1];exact m)) w' X hk hh⟩,λh=>by cases h⟩
theorem cat1(s:Bs):Bs.cat [s]=s.l:=by unfold Bs.cat;simp
theorem zco{t:Nat}{l:List UInt8}{k:Nat}(h:l.length<=k):(tlv t l).length<=k+5:=by have:=(zX t l).2;omega
end Go.Ct
namespace Go.Sy
open Go Go.RowKit
def pch(v:Value):List PanicEntry:=[{ v,recovered:=false }]
def ziq(w:World)(M:Nat->Prop)(post pan:Value->List Res->Prop)(e:Ending)(w':World):Prop:=
 ∃v R,((e= .returned v/\post v R)\/(e= .panicked (pch v)/\pan v R))/\Keep M w w'/\Holds w.heap.size M R w'
def FnP(P:Program)(f:FuncId)(args:List Value)(w:World)(M:Nat->Prop)(post pan:Value->List Res->Prop):Prop:=
 Calls P f args.toArray w (ziq w M post pan)
theorem FnP.mono{P:Program}{f:FuncId}{args:List Value}{w:World}{M:Nat->Prop}{post pan post' pan':Value->List Res->Prop}(h:FnP P f args w M post pan)(hv:∀v R,post v R->post' v R)(hp:∀v R,pan v R->pan' v R):FnP P f args w M post' pan':=
 Calls.mono h λ_ _ ⟨v,R,e,m,j⟩=>⟨v,R,e.imp (λ⟨e,h⟩=>⟨e,hv v R h⟩) (λ⟨e,h⟩=>⟨e,hp v R h⟩),m,j⟩
variable {P:Program}{ro:Option Nat}{N:Nat}{w0:World}{M:Nat->Prop}{ds:List Deferred}{fr:Fr}{L:List Res}{Q:Exit->Act->World->Prop}
theorem zK{K:Act->World->Prop}{c:List PanicEntry}(h:SyX N w0 M ds (Q (.panic c)) fr L):SyX N w0 M ds (Exit.then K Q (.panic c)) fr L:=h
theorem zcV{id:Nat}{c:List PanicEntry}(h:SyX N w0 M ds (Q (.panic c)) fr L):SyX N w0 M ds (Exit.inBlock id Q (.panic c)) fr L:=h
theorem zmt{g:Nat->Option Value}{o:Oper}{fo:Operand}{args:Array Operand}{a7:Array TypeId}{f:Nat}{vs:List Value}{cap:List Value}{C L1:List Res}{M':Nat->Prop}{post pan:Value->List Res->Prop}
  (ho:o.op= .call { callee:=.value fo,args:=args,argTypes:=a7 })(hf:ev g fo=some (.func (.func f) #[] cap.toArray))(ha:evs g args.toList=some vs)
  (he:∀args w,(callFunc f args).run P w= .ok (.enter f args) w)(hC:RemL L C L1)(hM:∀b,M' b->OwnOf C b)
  (hc:∀w X,Keep M w0 w->Holds w0.heap.size M (L++X) w->FnP P f (vs++cap) w M' post pan)
  {a:Act}{w:World}{X:List Res}{next:Act->World->Prop}(T:St N w0 M ds g (L++X) a w)
  (hn:∀v j R,post v R->Keep M w0 j->Holds w0.heap.size M ((R++L1)++X) j->next (a.put o.dst v) j)
  (hp:∀v j R,pan v R->Keep M w0 j->Holds w0.heap.size M ((R++L1)++X) j->Q (.panic (pch v)) a j):o.wpIn (FW ro) 0 P a w next Q:=by
 refine⟨λ_ _=>trivial,?_⟩;rw[Oper.semAt_plain (FW ro) _ _ (λc hc=>by rw[ho] at hc;cases hc)];have I:args.map a.eval=vs.toArray:=BA.1 (by rw[Bg,T.agr.evals ha]);have Y:(execOp a.eval o).run P w= .ok (.enter f (vs++cap).toArray) w:=by
  simp only[execOp,ho,resolve,T.agr.eval hf,Deferred.ofValue,I,Sem.run_bind,Sem.run_pure,Result.andThen_ok,invoke];rw[show(#[]++vs.toArray++cap.toArray:Array Value)=(vs++cap).toArray by simp];exact he _ w
 rw[Y];refine⟨λh=>(by cases h),?_⟩;have J:=hc w X T.keep T.hold;have a6:CallsIn (FW ro) (0-1) P f (vs++cap).toArray w (ziq w M' post pan):=(callsIn_wide (n:=0-1)).2 J;refine CallsIn.mono a6 ?_;rintro e j ⟨v,R,K,hk,Z⟩;have O:(L++X).Perm (C++(L1++X)):=by rw[<-AH];exact Aj X hC
 have hold:=T.hold.perm O;have q:Holds w0.heap.size M (L1++X) w:=hold.sublist (CT C (L1++X));have m:∀b,M' b->w0.heap.size<=b\/M b:=λb A=>by
  obtain⟨r,E,S⟩:=hM b A;exact hold.mine r (AM _ E) b S
 have U:∀r∈L1++X,∀b,r.own b->¬M' b:=λr E b A B=>by
  obtain⟨r',F,S⟩:=hM b B;exact(Bl.1 hold.apart).2.2 r' F r E b S A
 have V:Keep M w0 j:=T.keep.trans hk (λb A=>m b A);have hL:=q.keep hk U;have G:Holds w0.heap.size M ((R++L1)++X) j:=by
  rw[AH];refine⟨λr E=>?_,?_,λr E b A=>?_⟩
  ·rcases Ao.1 E with h|h
   ·exact Z.all r h
   ·exact hL.all r h
  ·refine Bl.2 ⟨Z.apart,hL.apart,λr E r' F b A B=>?_⟩;rcases Z.mine r E b A with h|h
   ·have:=FA (q.all r' F) B;omega
   ·exact U r' F b B h
  ·rcases Ao.1 E with h|h
   ·rcases Z.mine r h b A with h'|h'
    ·exact .inl (BG T.keep.size h')
    ·exact m b h'
   ·exact hL.mine r h b A
 rcases K with ⟨rfl,hv⟩|⟨rfl,hv⟩
 ·exact hn v j R hv V G
 ·exact hp v j R hv V G
theorem zd6{ops:Array Oper}{rest:List Oper}{o:Oper}{d:Nat}{F:Operand}{args:Array Operand}{B:Array TypeId}{f:Nat}{vs:List Value}{cap:List Value}{C L1:List Res}{M':Nat->Prop}{post pan:Value->List Res->Prop}
  (hC:RemL L C L1)(hM:∀b,M' b->OwnOf C b)
  (hc:∀w X,Keep M w0 w->Holds w0.heap.size M (L++X) w->FnP P f (vs++cap) w M' post pan)
  (hr:∀v R,post v R->SyL P ro N w0 M ds ops Q rest ((d,v)::fr) (R++L1))
  (hp:∀v R,pan v R->SyX N w0 M ds (Q (.panic (pch v))) fr (R++L1))
  (K:o.op= .call { callee:=.value F,args:=args,argTypes:=B } :=by exact rfl)(J:ev (get fr) F=some (.func (.func f) #[] cap.toArray):=by exact rfl)(ha:evs (get fr) args.toList=some vs:=by exact rfl)
  (he:∀args w,(callFunc f args).run P w= .ok (.enter f args) w:=by exact en rfl)
  (O:zal ops o (get fr)=some true:=by exact rfl)(I:o.dst=some d:=by exact rfl)(G:Nat.blt d N=true:=by exact rfl):SyL P ro N w0 M ds ops Q (o::rest) fr L:=by
 rintro a w ⟨E,j,m⟩;refine zec (zbu m.agr O) (zmt K J ha he hC hM hc m (λv S R A r q=>?_) (λv S R A r q=>?_))
 ·rw[I];exact hr v R A _ _ ⟨E,j,m.put (A5 G) v r q⟩
 ·exact hp v R A _ _ ⟨E,j,m.size,m.agr,r,q⟩
theorem zbY{ops:Array Oper}{rest:List Oper}{o:Oper}{x:Operand}{t:TypeId}{v:Value}(h:SyX N w0 M ds (Q (.panic (pch (.iface t v)))) fr L)
  (A:o.op= .panic x:=by exact rfl)(hx:ev (get fr) x=some (.iface t v):=by exact rfl)(C:zal ops o (get fr)=some true:=by exact rfl):SyL P ro N w0 M ds ops Q (o::rest) fr L:=by
 rintro a w ⟨B,m,q⟩;refine zec (zbu q.agr C) ⟨λ_ _=>trivial,?_⟩;rw[Oper.semAt_plain (FW ro) _ _ (λc r=>by rw[A] at r;cases r)];have j:(execOp a.eval o).run P w= .halt (.panic (.iface t v)) w:=by
  simp only[execOp,A,q.agr.eval hx];rfl
 rw[j];exact h a w ⟨B,m,q⟩
def zzY:TypeDesc->Bool
 | .interface _=>false
 |_=>true
theorem zmr{t:TypeId}(h:(P.underlying t).map zzY=some true):∃d,P.underlying t=some d/\∀j,d≠ .interface j:=by
 obtain⟨d,m,q⟩:=Ah.1 h;exact⟨d,m,λj e=>by subst e;cases q⟩
theorem zbo{g:Nat->Option Value}{o:Oper}{t:TypeId}{x:Operand}{v:Value}{d:TypeDesc}(m:P.underlying t=some d)(hn:∀r,d≠ .interface r)(j:o.op= .makeInterface t x:=by exact rfl)(hx:ev g x=some v:=by exact rfl):OpT P ro N w0 M ds o g L (Det (.iface t v) L):=
 F0 (by rw[j];rfl) λa w X q=>by
  have h:(Instr.makeInterface t v).run P w= .ok (.iface t v) w:=by
   simp only[Instr.makeInterface,Sem.run_bind,run_underlying m,Result.andThen_ok];cases d <;> first|rfl|exact absurd rfl (hn _)
  simp[execOp,j,q.agr.eval hx,h]
def dfn(f:Nat)(cap:List Value):Deferred:={ target:=.fn (.func f) cap.toArray,args:=#[] }
theorem zmh{ops:Array Oper}{rest:List Oper}{o:Oper}{B:Operand}{A:Array TypeId}{f:Nat}{cap:List Value}
  (h:∀m:List Nat,SyL P none N w0 M (dfn f cap::(m.map col++ds)) ops Q rest fr (L++m.map dob))
  (G:o.op= .defer { callee:=.value B,args:=#[],argTypes:=A } :=by exact rfl)(F:ev (get fr) B=some (.func (.func f) #[] cap.toArray):=by exact rfl)
  (I:zal ops o (get fr)=some true:=by exact rfl)(C:o.dst=none:=by exact rfl):SyL P none N w0 M ds ops Q (o::rest) fr L:=by
 rintro a w ⟨E,r,j⟩;refine zec (zbu j.agr I) ⟨λ_ _=>trivial,?_⟩;rw[show(FW none).round=none from rfl,Oper.semAt_none];have q:(execOp a.eval o).run P w= .ok (.defer (dfn f cap)) w:=by
  simp only[execOp,G,resolve,j.agr.eval F,Deferred.ofValue,Sem.run_bind,Sem.run_pure,Result.andThen_ok];simp[dfn]
 rw[q];refine h E _ w ⟨[],?_,?_⟩
 ·rw[C];show dfn f cap::a.defers=_;rw[r];rfl
 ·rw[C];exact⟨j.size,j.agr,j.keep,by simpa using j.hold⟩
theorem zaK{f:Nat}{fn:Func}{c:Code}{args:List Value}{w:World}{M':Nat->Prop}{post pan:Value->List Res->Prop}{L0:List Res}(m:P.funcs[f]?=some fn)(hb:fn.body=some c)(hn:fn.ntmps=N)(q:args.length<=N)
  (hL:Holds w.heap.size M' L0 w)(h:Sy P none N w M' [] c (bodyPostM Fence.wide 0 P fn (ziq w M' post pan)) (zd1 0 args) L0):FnP P f args w M' post pan:=by
 refine(callsIn_wide (n:=0)).1 (callsIn_of_wp_marks m hb trivial ?_ rfl);refine h _ w ⟨[],rfl,by simp;omega,λt v r=>?_,Fh _ _,by simpa using hL⟩;have:=zgZ args 0 t v r;simp only[CD] at this;have j:t<args.length:=(AU.1 this.2).1;rw[E3 (by simpa using j)];simpa using this.2
theorem zdL{fn:Func}{g:Nat->Option Value}{R:Ending->World->Prop}{tail:List Deferred}{u:FrameMode}(hu:u≠ .run):∀(m:List Nat) (a:Act) (w:World),St N w0 M ds g (L++m.map dob) a w->
  (∀A,St N w0 M ds g L a A->LeavesInM Fence.wide 0 P fn a.tmps R tail u A)->LeavesInM Fence.wide 0 P fn a.tmps R (m.map col++tail) u w
 | [],a,w,hs,h=>h w (by simpa using hs)
 |D::m,a,w,hs,h=>by
  have j:=hs.perm (L':=dob D::(L++m.map dob)) (by simpa using List.perm_middle);have B:w.heap[D]?=some (.deferred (some [])):=j.hold.all _ A3;refine⟨hu,.inl ⟨D,_,rfl,run_takeDeferred B,zdL hu m a _ ⟨j.size,j.agr,?_,?_⟩ h⟩⟩
  ·exact j.keep.trans FB (λx F=>by subst F;exact j.hold.mine _ A3 x rfl)
  ·exact j.hold.tail.keep FB (λr E b C q=>by subst q;exact(Ag.1 j.hold.apart).1 r E b rfl C)
variable {post pan:Value->List Res->Prop}{R:List Res}{fn:Func}{v:Value}
theorem zqy(m:∀a w,St N w0 M [] (get fr) L a w->(results fn a.tmps).run P w= .ok v w)(r:SubR R L)(hp:post v R)(e:Exit)(he:e= .ret\/e= .normal):
  SyX N w0 M [] (bodyPostM Fence.wide 0 P fn (ziq w0 M post pan) e) fr L:=by
 rintro a w ⟨q,A,B⟩;have key:LeavesInM Fence.wide 0 P fn a.tmps (ziq w0 M post pan) a.defers .returning w:=by
  rw[A];exact zdL q_p q a w B λC j=>⟨v,m a C j,v,R,.inl ⟨rfl,hp⟩,j.keep,j.hold.subR r⟩
 rcases he with rfl|rfl
 ·exact key
 ·exact key
theorem zax(q:SubR R L)(hp:pan v R):SyX N w0 M [] (bodyPostM Fence.wide 0 P fn (ziq w0 M post pan) (.panic (pch v))) fr L:=by
 rintro a w ⟨m,r,A⟩;show LeavesInM Fence.wide 0 P fn a.tmps (ziq w0 M post pan) a.defers (.panicking (pch v)) w;rw[r];exact zdL q_p m a w A λB j=>⟨v,R,.inr ⟨rfl,hp⟩,j.keep,j.hold.subR q⟩
theorem zfg(h:fn.results= #[])(j:SubR R L)(hp:post (.tuple #[]) R):SyX N w0 M [] (bodyPostM Fence.wide 0 P fn (ziq w0 M post pan) .normal) fr L:=zqy (λa w _=>results0 h a w) j hp _ (.inr rfl)
theorem zeo{r:ResultVar}{v:Value}(h:fn.results= #[r])(h1:zdq P N w0 M [] fr L r v)(j:SubR R L)(hp:post v R):SyX N w0 M [] (bodyPostM Fence.wide 0 P fn (ziq w0 M post pan) .ret) fr L:=zqy (results1 h h1) j hp _ (.inl rfl)
def FnD(P:Program)(f:FuncId)(args:List Value)(u:FrameMode)(w:World)(M:Nat->Prop)(post:FrameMode->List Res->Prop):Prop:=
 CallsDIn Fence.wide 0 P f args.toArray u w λe u' w'=>∃v R,e= .returned v/\post u' R/\Keep M w w'/\Holds w.heap.size M R w'
theorem znk{f:Nat}{cap:List Value}{j:List Nat}{C L1:List Res}{M':Nat->Prop}{u:FrameMode}{m:FrameMode->List Res->Prop}{W:Ending->World->Prop}
  (hu:u≠ .run)(he:∀args w,(callFunc f args).run P w= .ok (.enter f args) w)(hC:RemL L C L1)(hM:∀b,M' b->OwnOf C b)
  (hc:∀w X,Keep M w0 w->Holds w0.heap.size M (L++X) w->FnD P f cap u w M' m)
  (hW:∀Z S,m Z S->settle Z= .returning/\∀a w,St N w0 M [] (get fr) (S++L1) a w->∃v,(results fn a.tmps).run P w= .ok v w/\W (.returned v) w)
  {a:Act}{w:World}(B:StD N w0 M (dfn f cap::(j.map col++[])) (get fr) (L++j.map dob) a w):LeavesInM Fence.wide 0 P fn a.tmps W a.defers u w:=by
 obtain⟨Ds,hd,B⟩:=B;rw[hd];refine zdL hu Ds a w B λw B=>?_;refine⟨hu,.inr ⟨λh=>(by cases h),.func f,cap.toArray,f,cap.toArray,rfl,?_,λ_ _=>trivial,?_⟩⟩
 ·show(invoke (.fn (.func f) cap.toArray) #[]).run P w=_;simp only[invoke];rw[show(#[]++cap.toArray:Array Value)=cap.toArray by simp];exact he _ w
 have J:=hc w (j.map dob) B.keep B.hold;refine CallsDIn.mono J ?_;rintro e Z w' ⟨v,S,rfl,hp,hk,hh⟩;have K:(L++j.map dob).Perm (C++(L1++j.map dob)):=by rw[<-AH];exact Aj _ hC
 have hold:=B.hold.perm K;have A:Holds w0.heap.size M (L1++j.map dob) w:=hold.sublist (CT C (L1++j.map dob));have q:∀b,M' b->w0.heap.size<=b\/M b:=λb E=>by
  obtain⟨r,G,O⟩:=hM b E;exact hold.mine r (AM _ G) b O
 have T:∀r∈L1++j.map dob,∀b,r.own b->¬M' b:=λr G b E F=>by
  obtain⟨r',I,O⟩:=hM b F;exact(Bl.1 hold.apart).2.2 r' I r G b O E
 have a6:Keep M w0 w':=B.keep.trans hk (λb E=>q b E);have hL:=A.keep hk T;have U:Holds w0.heap.size M ((S++L1)++j.map dob) w':=by
  rw[AH];refine⟨λr G=>?_,?_,λr G b E=>?_⟩
  ·rcases Ao.1 G with h|h
   ·exact hh.all r h
   ·exact hL.all r h
  ·refine Bl.2 ⟨hh.apart,hL.apart,λr G r' I b E F=>?_⟩;rcases hh.mine r G b E with h|h
   ·have:=FA (A.all r' I) F;omega
   ·exact T r' I b F h
  ·rcases Ao.1 G with h|h
   ·rcases hh.mine r h b E with h'|h'
    ·exact .inl (BG B.keep.size h')
    ·exact q b h'
   ·exact hL.mine r h b E
 obtain⟨Y,V⟩:=hW Z S hp;show LeavesInM Fence.wide 0 P fn a.tmps W (j.map col++[]) (settle Z) w';rw[Y];refine zdL (ds:=[]) q_p j a w' ⟨B.size,B.agr,a6,U⟩ λw2 a7=>?_;exact V a w2 a7
theorem zmp{p q:Nat->Bool}{i:Nat}(j:∀k,q k=true->p k=true)(hp:p i=true)(hn:q i=false):∀ {l:List Nat},i∈l->l.countP q<l.countP p
 |x::l,h=>by
  have m:l.countP q<=l.countP p:=List.countP_mono_left λk _=>j k;rcases AS.1 h with rfl|h
  ·rw[EF (by rw[hn];decide),DJ hp];omega
  ·have r:=zmp j hp hn h;by_cases hx:q x=true
   ·rw[DJ hx,DJ (j x hx)];omega
   ·rw[EF hx];have:=List.countP_cons (p:=p) (a:=x) (l:=l);rw[this];omega
def zrx(l:List Oper):Bool:=(List.range l.length).all λi=>match l[i]? with
 |none=>true
 |some o=>(pre o).all λj=>Nat.blt j i
def zzL(P:Program)(ro:Option Nat)(N:Nat)(w0:World)(M:Nat->Prop)(ds:List Deferred)(ops:Array Oper)(Q:Exit->Act->World->Prop)(o:Oper)(fr:Fr)(L:List Res)(J:Fr->List Res->Prop):Prop:=
 ∀a w (K:Act->World->Prop),StD N w0 M ds (get fr) L a w->(∀fr' L' a' w',J fr' L'->StD N w0 M ds (get fr') L' a' w'->K a' w')->
  (if Region.wanted o (yielded ops a.tmps) then o.wpIn (FW ro) 0 P a w K Q else (∀f,o.about P w a.eval=some f->(FW ro).fn f)/\K (a.put o.dst undef) w)
theorem zod{id:Nat}{l:List Oper}(J:(Nat->Bool)->Fr->List Res->Prop)(hm:P.follows .mixedOrders=true)(a7:zrx l=true)(h0:J (λ_=>false) fr L)
  (step:∀b fr L i o,l[i]?=some o->b i=false->(pre o).all b=true->J b fr L->zzL P ro N w0 M ds l.toArray Q o fr L (λK X=>J (λk=>b k || Nat.beq k i) K X))
  (G:∀b fr L,(∀i,i<l.length->b i=true)->J b fr L->SyX N w0 M ds (Q .normal) fr L):Sy P ro N w0 M ds (.region id l.toArray true) Q fr L:=by
 rintro a w ⟨Ds,a8,B⟩;refine wpIn_region_any hm ?_;have Z:∀i o,l[i]?=some o->∀j∈pre o,j<i:=λi o I j hj=>by
  have A:=(AU.1 I).1;have:=AL.1 a7 i (Ay.2 A);rw[I] at this;exact zaQ.1 (AL.1 this j hj)
 have done:∀listed:Array Bool,listed.size=l.length->Region.ready .any l.toArray listed= []->∀i,i<l.length->listed.getD i false=true:=by
  intro listed E m i
  induction i using Nat.strongRecOn with
  |_ i ih=>
   intro A;cases hb:listed.getD i false with
   |true=>rfl
   |false=>
    exfalso;have:i∈Region.ready .any l.toArray listed:=mem_ready.2 ⟨by
     simp only[Az] at hb ⊢;rw[B8 q_o] at hb ⊢;simpa using hb,l[i],by simp[A],λe he a6=>by
     have hp:=Z i l[i] (A1 A) e.on (zdT.2 ⟨e,he,a6,rfl⟩);exact ih e.on hp q_o⟩
    rw[m] at this;cases this
 have key:∀(f:Nat) (listed:Array Bool) (fr:Fr) (L:List Res) (a:Act) (w:World),listed.size=l.length->(List.range l.length).countP (λk=>!listed.getD k false)<=f->J (λk=>listed.getD k false) fr L->StD N w0 M ds (get fr) L a w->
   wpAnyIn (FW ro) 0 P .any l.toArray Q f listed a w:=by
  intro f
  induction f with
  |zero=>
   intro listed fr L a w E hc V C;have F:∀i,i<l.length->listed.getD i false=true:=λi A=>by
    have S:(List.range l.length).countP (λk=>!listed.getD k false)=0:=Nat.le_zero.1 hc;have:=List.countP_eq_zero.1 S i (Ay.2 A);simpa using this
   refine⟨?_,G _ fr L F V a w C⟩;refine DX.2 λi A=>?_;obtain⟨S,o,I,_⟩:=mem_ready.1 A;have O:i<l.length:=by simpa using (Ae.1 I).1
   have:=zbM S;rw[F i O] at this;cases this
  |succ f ih=>
   intro listed fr L a w E hc V C;refine⟨λm=>G _ fr L (done listed E m) V a w C,λi A=>?_⟩;obtain⟨S,o,I,he⟩:=mem_ready.1 A;have O:i<l.length:=by simpa using (Ae.1 I).1
   have a9:l[i]?=some o:=by simpa using I
   have hf:=zbM S;have T:(pre o).all (λk=>listed.getD k false)=true:=AL.2 λj hj=>by
    obtain⟨e,h2,h3,rfl⟩:=zdT.1 hj;exact he e h2 h3
   have q:∀k,(listed.setIfInBounds i true).getD k false=(listed.getD k false || Nat.beq k i):=λk=>by
    by_cases e:i=k
    ·subst e;have:i<listed.size:=q_o;simp[Az,this]
    ·rw[getD_set_ne false e];simp[zaV.2 (λe'=>e e'.symm:k≠i)]
   unfold wpOpIn;rw[I];refine step _ fr L i o a9 hf T V a w _ C λK X a' w' Y U=>?_;refine ih _ K X a' w' (by simpa using E) ?_ (by simpa only[q] using Y) U;have:(List.range l.length).countP (λk=>!(listed.setIfInBounds i true).getD k false)<(List.range l.length).countP (λk=>!listed.getD k false):=
    zmp (i:=i) (λk hk=>by rw[q] at hk;simp only[Bool.not_or,AA] at hk;exact hk.1) (by rw[hf];rfl) (by rw[q];simp) (Ay.2 O)
   omega
 refine key _ _ fr L a _ q_p ?_ ?_ ⟨Ds,a8,B.size,B.agr,⟨B.keep.os,B.keep.tape,B.keep.output,B.keep.size,B.keep.block⟩,⟨λr hr=>FK (B.hold.all r hr) (λ_ _=>rfl),B.hold.apart,B.hold.mine⟩⟩
 ·refine BG List.countP_le_length ?_;simp
 ·have e:(λk=>(Array.replicate l.toArray.size false).getD k false)=λ_=>false:=by
   funext k
   simp only[Az,DD];split <;> rfl
  rw[e];exact h0
end Go.Sy
