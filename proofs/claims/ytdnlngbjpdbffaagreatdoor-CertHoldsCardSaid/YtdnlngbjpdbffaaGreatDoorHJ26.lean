/- Lemmas of this proof. -/
import Derived.Test.YtdnlngbjpdbffaaGreatDoorHJ24
import Derived.Test.YtdnlngbjpdbffaaGreatDoorHJ25
import Derived.ArgAppend
set_option maxRecDepth 10000
set_option linter.all false
namespace Go.Ct
open Go Go.Sy Go.RowKit
def zW(l:List UInt8):Value:=.string (str l)
structure PrinIn(W:World)(C:List Value)(p:Prin):Prop where
 ex:∃a c,C= [.slice a p.parts.length c,zW p.realm]/\p.parts.length<=c/\c<=maxLen/\SlA W a (p.parts.map zW)/\(a=none->c=0)
 len:p.realm.length<=maxLen/\∀x∈p.parts,x.length<=maxLen
theorem PrinIn.keep{w w':World}{C:List Value}{p:Prin}(h:PrinIn w C p)(hk:Keep No w w'):PrinIn w' C p:=by
 obtain⟨⟨a,c,j,m,q,r,A⟩,B⟩:=h;exact⟨⟨a,c,j,m,q,r.keep hk (λ_ _ h=>h),A⟩,B⟩
def BytIn(W:World)(v:Value)(l:List UInt8):Prop:=∃a c,v= .slice a l.length c/\l.length<=c/\c<=maxLen/\SlA W a (l.map v8)/\(a=none->c=0)
structure CertIn(W:World)(C:List Value)(c:Cert):Prop where
 ex:∃I S vp vs,C= .int .i64 c.serial::(I++(S++[.int .i64 c.fr,.int .i64 c.til,.bool c.auth,.int .i64 c.group,vp,vs]))/\PrinIn W I c.issuer/\PrinIn W S c.subject/\BytIn W vp c.pub/\BytIn W vs c.sig
 rng:(Lit.int .i64 c.serial).wf=true/\(Lit.int .i64 c.fr).wf=true/\(Lit.int .i64 c.til).wf=true/\(Lit.int .i64 c.group).wf=true
structure AnchIn(W:World)(C:List Value)(a:Anch):Prop where
 ex:∃N vp,C=N++[.int .i64 a.group,vp]/\PrinIn W N a.name/\BytIn W vp a.pub
 rng:(Lit.int .i64 a.group).wf=true
structure RevoIn(W:World)(C:List Value)(r:Revo):Prop where
 ex:∃N,C=N++[.int .i64 r.serial]/\PrinIn W N r.issuer
 rng:(Lit.int .i64 r.serial).wf=true
variable {H:Type}{enc:TypeId×Value->H}{P:Program}{W:World}
theorem zm5{t e:TypeId}{C:List Value}(h:Rdb enc P W t C)(r:P.underlying t=some (.slice e))(he:P.underlying e=some (.int .u8))(hc:P.cellsOf e=1):∃v l,C= [v]/\BytIn W v l:=by
 obtain⟨s,m,j,q⟩:=h.bytes r he hc;exact⟨s.val,s.l,m,s.a,s.c,by rw[j.len];rfl,by rw[j.len];exact j.cap,q,j.sla,j.nil⟩
structure PrinTy(P:Program)(t:TypeId):Prop where
 ex:∃ts te tr,∃f0 f1:Field,P.underlying t=some (.struct #[f0,f1])/\f0.type=ts/\f0.offset=0/\f1.type=tr/\f1.offset=1/\P.cellsOf t=2/\P.underlying ts=some (.slice te)/\P.underlying te=some .string/\P.cellsOf te=1/\P.cellsOf ts=1/\P.underlying tr=some .string/\P.cellsOf tr=1
theorem ziR{t:TypeId}{C:List Value}(h:Rdb enc P W t C)(ht:PrinTy P t):∃p,PrinIn W C p:=by
 obtain⟨ts,te,tr,f0,f1,hs,O,o0,Q,o1,hn,S,T,U,V,X,Y⟩:=ht.ex;obtain⟨j,K⟩:=h.struct hs;rw[hn] at j
 match C,j with
 | [x,y],_=>
  have G:=K f0 q_p;have I:=K f1 q_p;rw[O,o0,V] at G;rw[Q,o1,Y] at I;simp only[B9,Br,Bb,Cy] at G I;obtain⟨l,e,j⟩:=I.string X;obtain⟨a,n,c,E,J,r,F,hc,q,m,w⟩:=G.list (Ψ:=λB (l:List UInt8)=>B= [zW l]/\l.length<=maxLen) S U q_e (λB Z=>by
   obtain⟨l,e,j⟩:=Z.string T;exact⟨l,e,j⟩)
  simp only[Cc,and_true] at e J;subst e;subst J;have R:E.flatMap (·.1)=(E.map (·.2)).map zW:=by
   have:∀ys:List (List Value×List UInt8),(∀x∈ys,x.1.length=1/\x.1= [zW x.2]/\x.2.length<=maxLen)->ys.flatMap (·.1)=(ys.map (·.2)).map zW:=by
    intro ys
    induction ys with
    |nil=>intro _;rfl
    |cons y ys ih=>
     intro A;rw[Dz,ih (λz hz=>A z (A0 _ hz)),(A y A4).2.1];rfl
   exact this E w
  rw[R] at q;refine⟨⟨E.map (·.2),l⟩,⟨a,c,?_,?_,hc,q,m⟩,j,λx hx=>?_⟩
  ·simp only[A1,r];rfl
  ·simp only[A1,r];exact F
  ·obtain⟨y,A,rfl⟩:=C9.1 hx;exact(w y A).2.2
theorem PrinIn.two{C:List Value}{p:Prin}(h:PrinIn W C p):C.length=2:=by
 obtain⟨a,c,e,_⟩:=h.ex;rw[e];rfl
structure CertTy(P:Program)(t tp ti tb ty te:TypeId):Prop where
 str:∃f:Nat->Field,P.underlying t=some (.struct #[f 0,f 1,f 2,f 3,f 4,f 5,f 6,f 7,f 8])/\(f 0).type=ti/\(f 0).offset=0/\(f 1).type=tp/\(f 1).offset=1/\(f 2).type=tp/\(f 2).offset=3/\
  (f 3).type=ti/\(f 3).offset=5/\(f 4).type=ti/\(f 4).offset=6/\(f 5).type=tb/\(f 5).offset=7/\(f 6).type=ti/\(f 6).offset=8/\(f 7).type=ty/\(f 7).offset=9/\(f 8).type=ty/\(f 8).offset=10
 cells:P.cellsOf t=11
 prin:PrinTy P tp
 pc:P.cellsOf tp=2
 int:P.underlying ti=some (.int .i64)
 ic:P.cellsOf ti=1
 bool:P.underlying tb=some .bool
 bc:P.cellsOf tb=1
 byt:P.underlying ty=some (.slice te)
 yc:P.cellsOf ty=1
 u8:P.underlying te=some (.int .u8)
 ec:P.cellsOf te=1
theorem zvz{t tp ti tb ty te:TypeId}{C:List Value}(h:Rdb enc P W t C)(T:CertTy P t tp ti tb ty te):∃c,CertIn W C c:=by
 obtain⟨f,hs,a0,Z,a1,b1,a2,b2,a3,b3,a4,b4,a5,b5,V,b6,X,b7,Y,b8⟩:=T.str;obtain⟨U,j⟩:=h.struct hs;rw[T.cells] at U
 match C,U with
 | [x0,x1,x2,x3,x4,x5,x6,x7,x8,x9,x10],_=>
  have m:=j (f 0) q_p;have q:=j (f 1) q_p;have r:=j (f 2) q_p;have w:=j (f 3) q_p;have A:=j (f 4) q_p;have B:=j (f 5) q_p;have E:=j (f 6) q_p;have F:=j (f 7) q_p;have G:=j (f 8) q_p;rw[a0,Z,T.ic] at m;rw[a1,b1,T.pc] at q;rw[a2,b2,T.pc] at r;rw[a3,b3,T.ic] at w;rw[a4,b4,T.ic] at A;rw[a5,b5,T.bc] at B;rw[V,b6,T.ic] at E;rw[X,b7,T.yc] at F;rw[Y,b8,T.yc] at G;simp only[B9,Br,Bb,Cy] at m q r w A B E F G;obtain⟨i0,I,w0⟩:=m.int T.int;obtain⟨p1,h1⟩:=ziR q T.prin;obtain⟨p2,h2⟩:=ziR r T.prin;obtain⟨i3,J,w3⟩:=w.int T.int;obtain⟨i4,K,w4⟩:=A.int T.int;obtain⟨b,O⟩:=B.bool T.bool;obtain⟨i6,Q,w6⟩:=E.int T.int;obtain⟨v7,l7,R,h7⟩:=zm5 F T.byt T.u8 T.ec;obtain⟨v8,l8,S,h8⟩:=zm5 G T.byt T.u8 T.ec;simp only[Cc,and_true] at I J K O Q R S;subst I;subst J;subst K;subst O;subst Q;subst R;subst S;exact⟨⟨i0,p1,p2,i3,i4,b,i6,l7,l8⟩,⟨_,_,_,_,rfl,h1,h2,h7,h8⟩,w0,w3,w4,w6⟩
def zsy{α:Type}(k:Nat)(Ψ:World->List Value->α->Prop)(W:World)(v:Value)(xs:List α):Prop:=∃a c,∃Cs:List (List Value),v= .slice a xs.length c/\xs.length<=c/\c<=maxLen/\SlA W a Cs.flatten/\(a=none->c=0)/\Cs.length=xs.length/\
 ∀(i:Nat) (C:List Value) (x:α),Cs[i]?=some C->xs[i]?=some x->C.length=k/\Ψ W C x
theorem zv0{α:Type}{k:Nat}{Ψ:World->List Value->α->Prop}{t e:TypeId}{C:List Value}(h:Rdb enc P W t C)(J:P.underlying t=some (.slice e))(hc:P.cellsOf e=k)(hk:0<k)(K:∀B,Rdb enc P W e B->∃y,Ψ W B y):∃v q,C= [v]/\zsy k Ψ W v q:=by
 obtain⟨a,n,c,q,I,G,A,w,E,m,F⟩:=h.list (Ψ:=Ψ W) J hc hk K;refine⟨_,q.map (·.2),I,a,c,q.map (·.1),by rw[A1,G],by rw[A1,G];exact A,w,?_,m,by simp,λi B y j r=>?_⟩
 ·rw[<-E8];exact E
 ·rw[Ak] at j r;cases hi:q[i]? with
  |none=>rw[hi] at j;cases j
  |some z=>
   rw[hi] at j r;simp only[CP,Bt] at j r;subst j;subst r;exact F z (BE hi)
structure AnchTy(P:Program)(t tp ti ty te:TypeId):Prop where
 str:∃f:Nat->Field,P.underlying t=some (.struct #[f 0,f 1,f 2])/\(f 0).type=tp/\(f 0).offset=0/\(f 1).type=ti/\(f 1).offset=2/\(f 2).type=ty/\(f 2).offset=3
 cells:P.cellsOf t=4
theorem zvP{t s I G tb ty F:TypeId}{C:List Value}(h:Rdb enc P W s C)(T:CertTy P t I G tb ty F)(A:AnchTy P s I G ty F):∃c,AnchIn W C c:=by
 obtain⟨f,R,a0,J,a1,K,a2,O⟩:=A.str;obtain⟨E,j⟩:=h.struct R;rw[A.cells] at E
 match C,E with
 | [x0,x1,x2,x3],_=>
  have m:=j (f 0) q_p;have q:=j (f 1) q_p;have r:=j (f 2) q_p;rw[a0,J,T.pc] at m;rw[a1,K,T.ic] at q;rw[a2,O,T.yc] at r;simp only[B9,Br,Bb,Cy] at m q r;obtain⟨U,h0⟩:=ziR m T.prin;obtain⟨i1,w,V⟩:=q.int T.int;obtain⟨X,S,B,Q⟩:=zm5 r T.byt T.u8 T.ec;simp only[Cc,and_true] at w B;subst w;subst B;exact⟨⟨U,i1,S⟩,⟨[x0,x1],_,rfl,h0,Q⟩,V⟩
structure RevoTy(P:Program)(t tp ti:TypeId):Prop where
 str:∃f:Nat->Field,P.underlying t=some (.struct #[f 0,f 1])/\(f 0).type=tp/\(f 0).offset=0/\(f 1).type=ti/\(f 1).offset=2
 cells:P.cellsOf t=3
theorem zwq{t s E B tb ty K:TypeId}{C:List Value}(h:Rdb enc P W s C)(T:CertTy P t E B tb ty K)(A:RevoTy P s E B):∃c,RevoIn W C c:=by
 obtain⟨f,I,a0,F,a1,G⟩:=A.str;obtain⟨w,r⟩:=h.struct I;rw[A.cells] at w
 match C,w with
 | [x0,x1,x2],_=>
  have j:=r (f 0) q_p;have m:=r (f 1) q_p;rw[a0,F,T.pc] at j;rw[a1,G,T.ic] at m;simp only[B9,Br,Bb,Cy] at j m;obtain⟨J,h0⟩:=ziR j T.prin;obtain⟨i1,q,O⟩:=m.int T.int;simp only[Cc,and_true] at q;subst q;exact⟨⟨J,i1⟩,⟨[x0,x1],rfl,h0⟩,O⟩
end Go.Ct
namespace Go.Proofs.YtdnlngbjpdbffaaGreatDoor
open Go Go.Sy Go.Ct Go.RowKit
attribute [local irreducible] Sy SyL SyX Sy.Fn callFunc
def btw(v a b:Int):Bool:=decide (a<=v)&&decide (v<=b)
theorem zia(v a b:Int)(w:World):q_G 219 [.int .i64 v,.int .i64 a,.int .i64 b] w (.bool (btw v a b)):=by
 refine zz Tryz.func219 Tryz.ntmps219 ?_;unfold btw;by_cases h1:a<=v
 ·rw[decide_eq_true h1,B1];have j:decide (a<=v)=true:=decide_eq_true h1;by_cases h2:v<=b
  ·rw[decide_eq_true h2];repeat' (first|refine s_0 ?_|refine q_k 0 ?_|refine q_k 1 ?_;refine q_x zaP ?_;refine q_x zaP ?_)
   exact q_r
  ·rw[decide_eq_false h2];repeat' (first|refine s_0 ?_|refine q_k 0 ?_|refine q_k 1 ?_;refine q_x zaP ?_;refine q_x zaP ?_)
   exact q_r
 ·rw[decide_eq_false h1,BC];repeat' (first|refine s_0 ?_|refine q_k 0 ?_|refine q_k 1 ?_;refine q_x zaP ?_)
  exact q_r
theorem zqR(v:Int)(w:World):q_G 217 [.int .i64 v] w (.bool (btw v 0 1099511627776)):=by
 refine zz Tryz.func217 Tryz.ntmps217 ?_;repeat' (first|refine s_0 ?_|refine q_k 0 ?_|refine q_k 1 ?_;refine q_v (za (hc:=λ_ _ _ _=>(zia v 0 1099511627776 _))) ?_;refine zf ?_)
 exact q_r
theorem zrv(v:Int)(w:World):q_G 218 [.int .i64 v] w (.bool (btw v 0 86400)):=by
 refine zz Tryz.func218 Tryz.ntmps218 ?_;repeat' (first|refine s_0 ?_|refine q_k 0 ?_|refine q_k 1 ?_;refine q_v (za (hc:=λ_ _ _ _=>(zia v 0 86400 _))) ?_;refine zf ?_)
 exact q_r
theorem zg7(b:Bool)(e:Int)(w:World):q_G 62 [.bool b,.int .i64 e] w (.int .i64 (if b then e else 0)):=by
 refine zz Tryz.func62 Tryz.ntmps62 ?_;cases b
 ·repeat' (first|refine s_0 ?_|refine zL [0,1,3] ?_;refine zf ?_)
  exact q_r
 ·repeat' (first|refine s_0 ?_|refine zL [0,1,2] ?_;refine zf ?_)
  exact q_r
theorem zmz(l:List UInt8)(w:World):q_G 235 [zW l] w (.bool (decide (1<=l.length)&&decide (l.length<=32))):=by
 refine zz Tryz.func235 Tryz.ntmps235 ?_;unfold zW;have j:((str l).size:Int)=(l.length:Int):=rfl;by_cases h1:1<=l.length
 ·rw[decide_eq_true h1,B1];by_cases h2:l.length<=32
  ·rw[decide_eq_true h2];repeat' (first|refine s_0 ?_|refine q_k 0 ?_|refine q_k 1 ?_;refine q_x zai ?_;refine q_x zaP ?_)
   exact q_r
  ·rw[decide_eq_false h2];repeat' (first|refine s_0 ?_|refine q_k 0 ?_|refine q_k 1 ?_;refine q_x zai ?_;refine q_x zaP ?_)
   exact q_r
 ·rw[decide_eq_false h1,BC];repeat' (first|refine s_0 ?_|refine q_k 0 ?_|refine q_k 1 ?_;refine q_x zai ?_)
  exact q_r
end Go.Proofs.YtdnlngbjpdbffaaGreatDoor
namespace Go.Sy
open Go
variable {P:Program}{ro:Option Nat}{N:Nat}{w0:World}{M:Nat->Prop}{ds:List Deferred}{g:Nat->Option Value}{L:List Res}{o:Oper}{t t':TypeId}{x z:Operand}{y ye:Ty}
theorem Holds.fresh{B:Nat}{w w':World}{r:Res}(h:Holds B M L w)(hk:Keep No w w')(hr:r.holds w')(q:∀b,r.own b->b=w.heap.size)(G:B<=w.heap.size):Holds B M (r::L) w':=
 (h.keep hk (λ_ _ _ _ h=>h)).cons hr (λx A b j m=>by
  have E:=q b j;have F:=F2 (h.all x A) m;omega) (λb j=> .inl (by have:=q b j;omega))
def zxK(E b:Nat)(C:List Value):Res:=.obj b (.cells C.toArray E (C.length,C.length+1))
theorem zjm{e:Nat}{l:List UInt8}(R:o.op= .convert t t' x:=by exact rfl)(hx:ev g x=some (.string (str l)):=by exact rfl)(ht:zag P t=some y:=by exact ty rfl){S:Ty}(K:zag P t'=some S:=by exact ty rfl)(O:S.desc= .slice e:=by exact rfl)(he:zag P e=some ye:=by exact ty rfl)(Q:ye.desc= .int .u8:=by exact rfl):
  OpT P ro N w0 M ds o g L (λv T=>∃b J,v= .slice (some ⟨b,0,none⟩) l.length (l.length+J.length)/\T=zxK e b (l.map v8++J)::L):=
 F5 (by rw[R];rfl) λa w X m=>by
  obtain⟨d,i,Y,hi,hs,_⟩:=zU ht;obtain⟨d',i',G,Z,E,_⟩:=zU K;rw[O] at E;have:=zbg E;subst this;obtain⟨d2,i2,I,a6,q,_⟩:=zU he;rw[Q] at q;have A:d2= .int .u8:=by
   cases d2 <;> simp[zdF] at q;exact congrArg _ q
  subst A;have B:=Lib.run_convert_string_bytes w t t' e (str l) Y G I;have F:Keep No w (Lib.bytesWorld w e (str l)):=⟨rfl,rfl,rfl,by rw[Lib.bytesWorld_size];omega,λk F _=>Lib.bytesWorld_at_old w e (str l) k F⟩;have U:w0.heap.size<=w.heap.size:=m.keep.size;have r:l.length<=grownCap w (str l).size 0 e:=by have:=grownCap_ge w (str l).size 0 e;rw[zjP] at this ⊢;exact this
  have j:Lib.bytesCells w e (str l)=(l.map v8++List.replicate (grownCap w (str l).size 0 e-(str l).size) (Value.int .u8 0)).toArray:=by
   apply B5.1;simp[Lib.bytesCells,str,v8,Wd.n8]
  refine⟨_,_,Lib.bytesWorld w e (str l),_,?_,.inl rfl,⟨w.heap.size,List.replicate (grownCap w (str l).size 0 e-(str l).size) (Value.int .u8 0),rfl,rfl⟩,m.keep.trans F (λ_ h=>h.elim),?_⟩
  ·simp only[execOp,R,m.agr.eval hx,Sem.run_bind,B,Result.andThen_ok];rw[zjP] at r ⊢;rw[AJ,show l.length+(grownCap w l.length 0 e-l.length)=grownCap w l.length 0 e by omega];rfl
  ·refine Holds.fresh m.hold F ?_ (λb V=>V.symm) U;show(Lib.bytesWorld w e (str l)).heap[w.heap.size]?=_;rw[Lib.bytesWorld_at_new,j,DM]
end Go.Sy
namespace Go.Ct
open Go Go.Sy Go.RowKit
theorem zxo(v:Int)(k:Nat)(j:IntKind)(h:k<64):Op.shift .shr .i64 v j (k:Int)=pure (.int .i64 (v/2^k)):=by
 rw[shift_shr_any _ _ _ _ (Be _)];congr 2;rw[Bc,show min k IntKind.i64.bits=k from BX (Bh h)]
theorem zuv(x k:Nat)(j:IntKind)(h:k<64):Op.shift .shr .i64 (x:Int) j (k:Int)=pure (.int .i64 ((x/2^k:Nat):Int)):=by
 rw[shift_shr_any _ _ _ _ (Be _)];congr 2;rw[Bc,show min k IntKind.i64.bits=k from BX (Bh h),E2,EJ];rfl
theorem u8Z(v:Int):IntKind.u8.wrap v=Wd.n8 (UInt8.ofNat (v%256).toNat):=by
 rw[IntKind.wrap_u8,Wd.n8_of_nat];have j:0<=v%256:=Int.emod_nonneg _ q_e;have m:v%256<256:=Int.emod_lt_of_pos _ q_e;omega
theorem u8N(x:Nat):IntKind.u8.wrap (x:Int)=Wd.n8 (UInt8.ofNat x):=by rw[Wd.wrap_u8_nat,Wd.n8_of_nat]
theorem zvj(v:Int)(m i:Nat)(h:i<m):SetAt (List.replicate (m-i) (Value.int .u8 0)++(beZ v i).map v8) (m-1-i) (.int .u8 (Wd.n8 (UInt8.ofNat (v/256^i%256).toNat))) (List.replicate (m-(i+1)) (Value.int .u8 0)++(beZ v (i+1)).map v8):=by
 refine⟨by simp only[A3,AJ];omega,?_⟩;obtain⟨j,w⟩:∃j,m-i=j+1:=⟨m-i-1,by omega⟩;have q:m-1-i=j:=q_o;have r:m-(i+1)=j:=q_o;rw[w,q,r,ET,AF,CJ _ _ q_p,AJ,C5];rfl
theorem zju{v:Int}(h: -128<=v/\v<=127):zba v=1:=by rw[zba,dif_pos h]
theorem znh{v:Int}(h:¬(-128<=v/\v<=127)):zba v=zba (v/256)+1:=by rw[zba,dif_neg h]
theorem znN:∀(k:Nat) (v:Int),-(128*256^k)<=v->v<128*256^k->zba v<=k+1
 |0,v,h1,h2=>by rw[zju q_o];exact A8 _
 |k+1,v,h1,h2=>by
  by_cases h: -128<=v/\v<=127
  ·rw[zju h];omega
  ·rw[znh h];have:=znN k (v/256) (by rw[Int.pow_succ] at h1;omega) (by rw[Int.pow_succ] at h2;omega);omega
theorem zlA{v:Int}(h1: -zbQ<=v)(h2:v<=zbQ):zba v<=8:=znN 7 v (by unfold zbQ at*;omega) (by unfold zbQ at*;omega)
theorem zve(i:Nat):(2:Int)^(8*i)=256^i:=by rw[Int.pow_mul];rfl
theorem zoY(n:Nat):(zce n).map v8=if n<128 then [.int .u8 (Wd.n8 (UInt8.ofNat n))] else if n<256 then [.int .u8 129,.int .u8 (Wd.n8 (UInt8.ofNat n))] else if n<65536 then [.int .u8 130,.int .u8 (Wd.n8 (UInt8.ofNat (n/2^8))),.int .u8 (Wd.n8 (UInt8.ofNat n))] else [.int .u8 131,.int .u8 (Wd.n8 (UInt8.ofNat (n/2^16))),.int .u8 (Wd.n8 (UInt8.ofNat (n/2^8))),.int .u8 (Wd.n8 (UInt8.ofNat n))]:=by
 unfold zce;split
 ·rfl
 ·split
  ·rfl
  ·split
   ·rfl
   ·rfl
theorem zhO{j:Nat}{w:World}{M:Nat->Prop}{E b n:Nat}{l:List UInt8}{L:List Res}(hh:Holds j M L w)(m:l.length=n)(hL:Has L (.blk b E (l.map v8))):(⟨some ⟨b,0,none⟩,n,n,l⟩:Bs).ok w:=
 ⟨m,A8 _,.inr ⟨b,0,rfl,zq (hh.has hL) Em⟩,λh=>by cases h⟩
theorem zau{j:Nat}{w:World}{M:Nat->Prop}{E n c:Nat}{a:Option Addr}{l:List UInt8}{L:List Res}(hh:Holds j M L w)(m:l.length=n)(hL:Has L (.row (.slice a n c) E 1 n (l.map v8))):(⟨a,n,c,l⟩:Bs).ok w:=
 ⟨m,FD hh hL,(GZ (Mi:=No) hh hL (λ_ h=>h.elim)).sla,λh=>(FV hh hL h).1⟩
theorem zuL{w w':World}{L X:List Res}{E b n c:Nat}{M:Nat->Prop}{l:List UInt8}{J:List Value}(hk:Keep M w w')(hh:Holds w.heap.size M (L++X) w')(q:l.length=n)(hc:n<=c)(hL:Has L (zxK E b (l.map v8++J))):(⟨some ⟨b,0,none⟩,n,c,l⟩:Bs).ok w':=
 ⟨q,hc,.inr ⟨b,0,rfl,(Reads.obj hL (λj v m=>by rw[AU,B4 (AL.1 m).1];exact m)) w' X hk hh⟩,λh=>by cases h⟩
theorem cat1(s:Bs):Bs.cat [s]=s.l:=by unfold Bs.cat;simp
theorem zcv{t:Nat}{l:List UInt8}{k:Nat}(h:l.length<=k):(tlv t l).length<=k+5:=by have:=(zae t l).2;omega
end Go.Ct
