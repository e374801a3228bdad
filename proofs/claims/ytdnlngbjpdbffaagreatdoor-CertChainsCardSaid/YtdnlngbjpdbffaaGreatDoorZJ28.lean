/- Lemmas. -/
import Derived.Test.YtdnlngbjpdbffaaGreatDoorZJ27
import Derived.Test.YtdnlngbjpdbffaaGreatDoorZJ26
import Derived.ArgAppend
set_option maxRecDepth 10000
set_option linter.all false
namespace Go.Ct
def Prin.same(a b:Prin):Bool:=a.realm==b.realm&&a.parts==b.parts
theorem Prin.same_iff{a b:Prin} :a.same b=true↔a=b:=by
 cases a;cases b;simp only[Prin.same,A8,beq_iff_eq,Prin.mk.injEq];exact And.comm
def FI:=@Prin.same_iff
def Cert.same(a b:Cert):Bool:=decide (a.serial=b.serial)&&a.issuer.same b.issuer&&a.subject.same b.subject&&decide (a.fr=b.fr)&&decide (a.til=b.til)&&(a.auth==b.auth)&&decide (a.group=b.group)&&(a.pub==b.pub)&&(a.sig==b.sig)
theorem Cert.same_iff{a b:Cert} :a.same b=true↔a=b:=by
 cases a;cases b;simp only[Cert.same,A8,decide_eq_true_eq,beq_iff_eq,FI,Cert.mk.injEq,and_assoc]
-- sv: which public keys are valid; sf: which signatures are right.
variable (sv:Int->List UInt8->Bool)(sf:Int->List UInt8->List UInt8->List UInt8->Bool)
def Cert.ok(c:Cert):Bool:=decide (0<=c.serial)&&decide (c.serial<=4611686018427387904)&&c.issuer.ok&&c.subject.ok&&decide (0<=c.fr)&&decide (c.fr<=c.til)&&decide (c.til<=1099511627776)&&decide (c.sig.length<=192)&&sv c.group c.pub
structure KeyLaw:Prop where
 g0:∀g p,sv g p=true->0<=g
 g1:∀g p,sv g p=true->g<1000
 len:∀g p,sv g p=true->p.length<1000
section
variable (sv:Int->List UInt8->Bool)(sf:Int->List UInt8->List UInt8->List UInt8->Bool)
variable {sv}
theorem Cert.ok_small(hk:KeyLaw sv){c:Cert}(h:c.ok sv=true):c.small:=by
 simp only[Cert.ok,A8,decide_eq_true_eq] at h;obtain⟨⟨⟨⟨⟨⟨⟨⟨m,q⟩,r⟩,w⟩,A⟩,E⟩,B⟩,F⟩,j⟩:=h;have a:=hk.g0 _ _ j;have b:=hk.g1 _ _ j;have d:=hk.len _ _ j;exact⟨m,q,r,w,A,by omega,by omega,B,a,by omega,by omega,by omega⟩
def FA:=@Cert.ok_small
end
section
variable (sv:Int->List UInt8->Bool)(sf:Int->List UInt8->List UInt8->List UInt8->Bool)
def zay(l:List Cert):Bool:=decide (1<=l.length)&&decide (l.length<=5)&&l.all (Cert.ok sv)
def za3(l:List Cert):List UInt8:=zdc (l.map Cert.der)
def zeu(b:List UInt8):Option (List Cert×List UInt8):=rdW 0x30 (λs=>(za8 s 5).map λl=>(l,[])) b
def zbX(b:List UInt8):Option (List Cert):=match zeu b with
 |some (l,[])=>if zay sv l=true/\za3 l=b then some l else none
 |_=>none
def zfS(b:List UInt8):List Cert:=((zbW (zaN b)).take 6).map zhJ
def zlK(b:List UInt8):Option (List Cert):=if zay sv (zfS b)=true/\za3 (zfS b)=b then some (zfS b) else none
end
section
variable (sv:Int->List UInt8->Bool)(sf:Int->List UInt8->List UInt8->List UInt8->Bool)
variable {sv}
theorem Cert.der_len{c:Cert}(h:c.small):c.der.length<=700+c.pub.length+c.sig.length:=by
 have j:=FP h;have a1:=zY 0x30 c.flat;have a2:=zY 0xa0 (tlv 0x30 c.flat);have a3:=zeH c.sig;have a4:=zY 0xa1 (za9 c.sig);have a5:=zY 0x30 (tlv 0xa0 (tlv 0x30 c.flat)++tlv 0xa1 (za9 c.sig));rw[Fa];simp only[A4] at*;omega
theorem zeX(hk:KeyLaw sv){l:List Cert}(h:zay sv l=true):(l.map Cert.der).flatten.length<=10000:=by
 simp only[zay,A8,decide_eq_true_eq,AF] at h;have:=flat_len 1950 (l.map Cert.der) (λx q=>by
  obtain⟨c,m,rfl⟩:=Bv.1 q;have j:=h.2 c m;have r:=Cert.der_len (FA hk j);simp only[Cert.ok,A8,decide_eq_true_eq] at j;have w:=hk.len _ _ j.2;have A:=j.1.2;omega)
 rw[A0] at this;have:=h.1.2;omega
theorem zlp:∀l:List Cert,(∀c∈l,c.small)->zbW (l.map Cert.der).flatten=l.map Cert.der
 | [],_=>by rw[Ep,CA,zhm]
 |c::l,h=>by
  have h0:=h c A3;have m:=FP h0;have q:=h0.pub;have r:=h0.sig;have a1:=zY 0x30 c.flat;have a2:=zY 0xa0 (tlv 0x30 c.flat);have a3:=zeH c.sig;have a4:=zY 0xa1 (za9 c.sig);rw[Au,BM];have e:=Fa c;rw[e,zch _ _ _ (by simp only[A4];omega),zlp l (λd j=>h d (A1 _ j))]
theorem zna(hk:KeyLaw sv)(b:List UInt8)(l:List Cert):zbX sv b=some l↔zay sv l=true/\za3 l=b:=by
 constructor
 ·intro h;unfold zbX at h;split at h
  ·split at h
   ·rename_i q;cases h;exact q
   ·cases h
  ·cases h
 ·rintro⟨h,rfl⟩;have A:=zeX hk h;have j:=h;simp only[zay,A8,decide_eq_true_eq,AF] at j;have e:=zkh l 5 j.1.2 (λc w=>FA hk (j.2 c w));have m:zeu (za3 l)=some (l,[]):=by
   have:=zdC (tag:=0x30) (f:=λs=>(za8 s 5).map λl=>(l,[])) (l:=(l.map Cert.der).flatten) (r:=[]) (v:=l) q_e q_o (by rw[e];rfl);rwa[AJ] at this
  rw[zbX,m];simp[h]
theorem zmS(hk:KeyLaw sv)(b:List UInt8)(l:List Cert):zlK sv b=some l↔zay sv l=true/\za3 l=b:=by
 constructor
 ·intro h;unfold zlK at h;split at h
  ·rename_i r;cases h;exact r
  ·cases h
 ·rintro⟨h,rfl⟩;have A:=zeX hk h;have j:=h;simp only[zay,A8,decide_eq_true_eq,AF] at j;have e:zfS (za3 l)=l:=by
   rw[zfS,za3,zdc,zbF _ _ q_o,zlp l (λc q=>FA hk (j.2 c q)),A6 (by rw[A0];omega),CY];have:∀c∈l,(zhJ ∘ Cert.der) c=c:=λc q=>by
    have m:=j.2 c q;have w:=FA hk m;simp only[Cert.ok,A8] at m;exact zvU w (by have:=hk.g1 _ _ m.2;omega)
   rw[Ej this,List.map_id'' (λ_=>rfl)]
  rw[zlK,e];simp[h]
theorem zx3(hk:KeyLaw sv)(b:List UInt8):zbX sv b=zlK sv b:=by
 cases h:zlK sv b with
 |some c=>exact(zna hk b c).2 ((zmS hk b c).1 h)
 |none=>
  cases h2:zbX sv b with
  |none=>rfl
  |some c=>rw[(zmS hk b c).2 ((zna hk b c).1 h2)] at h;cases h
structure Anch where
 name:Prin
 group:Int
 pub:List UInt8
structure Revo where
 issuer:Prin
 serial:Int
def zgp(rs:List Revo)(c:Cert):Bool:=rs.any λr=>r.issuer.same c.issuer&&decide (r.serial=c.serial)
def zfW(c:Cert)(a:Anch)(rs:List Revo)(now:Int)(first:Bool):Int:=
 if !c.issuer.same a.name then 220 else if !sf a.group a.pub c.body c.sig then 221 else if now<c.fr\/c.til<now then 222 else if zgp rs c then 223 else if !first && !c.auth then 224 else 0
def zgx(rs:List Revo)(now:Int):List Cert->Anch->Int×Int
 | [],_=>(0,0)
 |c::l,a=>if zfW sf c a rs now l.isEmpty=0 then zgx rs now l ⟨c.subject,c.group,c.pub⟩ else ((l.length:Int),zfW sf c a rs now l.isEmpty)
def noAnch:Anch:=⟨⟨[],[]⟩,0,[]⟩
def zeU(aq:List Anch)(p:Prin):Anch:=(aq.find? λa=>a.name.same p).getD noAnch
def Anch.ok(sv:Int->List UInt8->Bool)(a:Anch):Bool:=a.name.ok&&sv a.group a.pub
def ziM(sv:Int->List UInt8->Bool)(l:List Cert)(aq:List Anch)(rs:List Revo)(now:Int):Bool:=zay sv l&&decide (aq.length<=64)&&aq.all (Anch.ok sv)&&decide (rs.length<=64)&&decide (0<=now)&&decide (now<=1099511627776)
def verify(sv:Int->List UInt8->Bool)(l:List Cert)(aq:List Anch)(rs:List Revo)(now:Int):Int×Int:=
 if ziM sv l aq rs now=true then zgx sf rs now l.reverse (zeU aq (match l.reverse with| []=>noAnch.name|c::_=>c.issuer)) else (0,2)
end
open Go Go.Sy Go.RowKit
def zT(l:List UInt8):Value:=.string (str l)
structure PrinIn(W:World)(C:List Value)(p:Prin):Prop where
 ex:∃a c,C= [.slice a p.parts.length c,zT p.realm]/\p.parts.length<=c/\c<=maxLen/\SlA W a (p.parts.map zT)/\(a=none->c=0)
 len:p.realm.length<=maxLen/\∀x∈p.parts,x.length<=maxLen
theorem PrinIn.keep{w w':World}{C:List Value}{p:Prin}(h:PrinIn w C p)(hk:Keep No w w'):PrinIn w' C p:=by
 obtain⟨⟨a,c,j,m,q,r,A⟩,B⟩:=h;exact⟨⟨a,c,j,m,q,r.keep hk (λ_ _ h=>h),A⟩,B⟩
def BytIn(W:World)(v:Value)(l:List UInt8):Prop:=∃a c,v= .slice a l.length c/\l.length<=c/\c<=maxLen/\SlA W a (l.map v8)/\(a=none->c=0)
structure CertIn(W:World)(C:List Value)(c:Cert):Prop where
 ex:∃I S vp vs,C= .int .i64 c.serial::(I++(S++[.int .i64 c.fr,.int .i64 c.til,.bool c.auth,.int .i64 c.group,vp,vs]))/\PrinIn W I c.issuer/\PrinIn W S c.subject/\BytIn W vp c.pub/\BytIn W vs c.sig
 rng:(Lit.int .i64 c.serial).wf=true/\(Lit.int .i64 c.fr).wf=true/\(Lit.int .i64 c.til).wf=true/\(Lit.int .i64 c.group).wf=true
variable {H:Type}{enc:TypeId×Value->H}{P:Program}{W:World}
theorem zsN{t e:TypeId}{C:List Value}(h:Rdb enc P W t C)(r:P.underlying t=some (.slice e))(he:P.underlying e=some (.int .u8))(hc:P.cellsOf e=1):∃v l,C= [v]/\BytIn W v l:=by
 obtain⟨s,m,j,q⟩:=h.bytes r he hc;exact⟨s.val,s.l,m,s.a,s.c,by rw[j.len];rfl,by rw[j.len];exact j.cap,q,j.sla,j.nil⟩
structure PrinTy(P:Program)(t:TypeId):Prop where
 ex:∃ts te tr,∃f0 f1:Field,P.underlying t=some (.struct #[f0,f1])/\f0.type=ts/\f0.offset=0/\f1.type=tr/\f1.offset=1/\P.cellsOf t=2/\P.underlying ts=some (.slice te)/\P.underlying te=some .string/\P.cellsOf te=1/\P.cellsOf ts=1/\P.underlying tr=some .string/\P.cellsOf tr=1
theorem zqK{t:TypeId}{C:List Value}(h:Rdb enc P W t C)(ht:PrinTy P t):∃p,PrinIn W C p:=by
 obtain⟨ts,te,tr,f0,f1,hs,O,o0,Q,o1,hn,S,T,U,V,X,Y⟩:=ht.ex;obtain⟨j,K⟩:=h.struct hs;rw[hn] at j
 match C,j with
 | [x,y],_=>
  have G:=K f0 q_p;have I:=K f1 q_p;rw[O,o0,V] at G;rw[Q,o1,Y] at I;simp only[BL,C4,By,Dm] at G I;obtain⟨l,e,j⟩:=I.string X;obtain⟨a,n,c,E,J,r,F,hc,q,m,w⟩:=G.list (Ψ:=λB (l:List UInt8)=>B= [zT l]/\l.length<=maxLen) S U q_e (λB Z=>by
   obtain⟨l,e,j⟩:=Z.string T;exact⟨l,e,j⟩)
  simp only[Dh,and_true] at e J;subst e;subst J;have R:E.flatMap (·.1)=(E.map (·.2)).map zT:=by
   have:∀ys:List (List Value×List UInt8),(∀x∈ys,x.1.length=1/\x.1= [zT x.2]/\x.2.length<=maxLen)->ys.flatMap (·.1)=(ys.map (·.2)).map zT:=by
    intro ys
    induction ys with
    |nil=>intro _;rfl
    |cons y ys ih=>
     intro A;rw[E4,ih (λz hz=>A z (A1 _ hz)),(A y A3).2.1];rfl
   exact this E w
  rw[R] at q;refine⟨⟨E.map (·.2),l⟩,⟨a,c,?_,?_,hc,q,m⟩,j,λx hx=>?_⟩
  ·simp only[A0,r];rfl
  ·simp only[A0,r];exact F
  ·obtain⟨y,A,rfl⟩:=Bv.1 hx;exact(w y A).2.2
theorem PrinIn.two{C:List Value}{p:Prin}(h:PrinIn W C p):C.length=2:=by
 obtain⟨a,c,e,_⟩:=h.ex;rw[e];rfl
structure CertTy(P:Program)(t tp ti tb ty te:TypeId):Prop where
 str:∃f:Nat->Field,P.underlying t=some (.struct #[f 0,f 1,f 2,f 3,f 4,f 5,f 6,f 7,f 8])/\(f 0).type=ti/\(f 0).offset=0/\(f 1).type=tp/\(f 1).offset=1/\(f 2).type=tp/\(f 2).offset=3/\
  (f 3).type=ti/\(f 3).offset=5/\(f 4).type=ti/\(f 4).offset=6/\(f 5).type=tb/\(f 5).offset=7/\(f 6).type=ti/\(f 6).offset=8/\(f 7).type=ty/\(f 7).offset=9/\(f 8).type=ty/\(f 8).offset=10
 cells:P.cellsOf t=11
 prin:PrinTy P tp
 pc:P.cellsOf tp=2
 int:P.underlying ti=some (.int .i64)
 ic:P.cellsOf ti=1
 bool:P.underlying tb=some .bool
 bc:P.cellsOf tb=1
 byt:P.underlying ty=some (.slice te)
 yc:P.cellsOf ty=1
 u8:P.underlying te=some (.int .u8)
 ec:P.cellsOf te=1
theorem zxH{t tp ti tb ty te:TypeId}{C:List Value}(h:Rdb enc P W t C)(T:CertTy P t tp ti tb ty te):∃c,CertIn W C c:=by
 obtain⟨f,hs,a0,Z,a1,b1,a2,b2,a3,b3,a4,b4,a5,b5,V,b6,X,b7,Y,b8⟩:=T.str;obtain⟨U,j⟩:=h.struct hs;rw[T.cells] at U
 match C,U with
 | [x0,x1,x2,x3,x4,x5,x6,x7,x8,x9,x10],_=>
  have m:=j (f 0) q_p;have q:=j (f 1) q_p;have r:=j (f 2) q_p;have w:=j (f 3) q_p;have A:=j (f 4) q_p;have B:=j (f 5) q_p;have E:=j (f 6) q_p;have F:=j (f 7) q_p;have G:=j (f 8) q_p;rw[a0,Z,T.ic] at m;rw[a1,b1,T.pc] at q;rw[a2,b2,T.pc] at r;rw[a3,b3,T.ic] at w;rw[a4,b4,T.ic] at A;rw[a5,b5,T.bc] at B;rw[V,b6,T.ic] at E;rw[X,b7,T.yc] at F;rw[Y,b8,T.yc] at G;simp only[BL,C4,By,Dm] at m q r w A B E F G;obtain⟨i0,I,w0⟩:=m.int T.int;obtain⟨p1,h1⟩:=zqK q T.prin;obtain⟨p2,h2⟩:=zqK r T.prin;obtain⟨i3,J,w3⟩:=w.int T.int;obtain⟨i4,K,w4⟩:=A.int T.int;obtain⟨b,O⟩:=B.bool T.bool;obtain⟨i6,Q,w6⟩:=E.int T.int;obtain⟨v7,l7,R,h7⟩:=zsN F T.byt T.u8 T.ec;obtain⟨v8,l8,S,h8⟩:=zsN G T.byt T.u8 T.ec;simp only[Dh,and_true] at I J K O Q R S;subst I;subst J;subst K;subst O;subst Q;subst R;subst S;exact⟨⟨i0,p1,p2,i3,i4,b,i6,l7,l8⟩,⟨_,_,_,_,rfl,h1,h2,h7,h8⟩,w0,w3,w4,w6⟩
def zua{α:Type}(k:Nat)(Ψ:World->List Value->α->Prop)(W:World)(v:Value)(xs:List α):Prop:=∃a c,∃Cs:List (List Value),v= .slice a xs.length c/\xs.length<=c/\c<=maxLen/\SlA W a Cs.flatten/\(a=none->c=0)/\Cs.length=xs.length/\
 ∀(i:Nat) (C:List Value) (x:α),Cs[i]?=some C->xs[i]?=some x->C.length=k/\Ψ W C x
theorem zyq{α:Type}{k:Nat}{Ψ:World->List Value->α->Prop}{t e:TypeId}{C:List Value}(h:Rdb enc P W t C)(J:P.underlying t=some (.slice e))(hc:P.cellsOf e=k)(hk:0<k)(K:∀B,Rdb enc P W e B->∃y,Ψ W B y):∃v q,C= [v]/\zua k Ψ W v q:=by
 obtain⟨a,n,c,q,I,G,A,w,E,m,F⟩:=h.list (Ψ:=Ψ W) J hc hk K;refine⟨_,q.map (·.2),I,a,c,q.map (·.1),by rw[A0,G],by rw[A0,G];exact A,w,?_,m,by simp,λi B y j r=>?_⟩
 ·rw[<-EE];exact E
 ·rw[AW] at j r;cases hi:q[i]? with
  |none=>rw[hi] at j;cases j
  |some z=>
   rw[hi] at j r;simp only[CG,Bm] at j r;subst j;subst r;exact F z (BB hi)
end Go.Ct
namespace Go.Proofs.YtdnlngbjpdbffaaGreatDoor
open Go Go.Sy Go.Ct Go.RowKit
attribute [local irreducible] Sy SyL SyX Sy.Fn callFunc
def btw(v a b:Int):Bool:=decide (a<=v)&&decide (v<=b)
theorem zjl(v a b:Int)(w:World):q_G 219 [.int .i64 v,.int .i64 a,.int .i64 b] w (.bool (btw v a b)):=by
 refine zt Tryz.func219 Tryz.ntmps219 ?_;unfold btw;by_cases h1:a<=v
 ·rw[decide_eq_true h1,B2];have j:decide (a<=v)=true:=decide_eq_true h1;by_cases h2:v<=b
  ·rw[decide_eq_true h2];repeat' first|refine s_0 ?_|refine q_k 0 ?_|refine q_k 1 ?_;refine q_x zaA ?_;refine q_x zaA ?_
   exact q_r
  ·rw[decide_eq_false h2];repeat' first|refine s_0 ?_|refine q_k 0 ?_|refine q_k 1 ?_;refine q_x zaA ?_;refine q_x zaA ?_
   exact q_r
 ·rw[decide_eq_false h1,BX];repeat' first|refine s_0 ?_|refine q_k 0 ?_|refine q_k 1 ?_;refine q_x zaA ?_
  exact q_r
theorem zs6(v:Int)(w:World):q_G 217 [.int .i64 v] w (.bool (btw v 0 1099511627776)):=by
 refine zt Tryz.func217 Tryz.ntmps217 ?_;repeat' first|refine s_0 ?_|refine q_k 0 ?_|refine q_k 1 ?_;refine q_v (za (hc:=λ_ _ _ _=>(zjl v 0 1099511627776 _))) ?_;refine zb ?_
 exact q_r
theorem zsX(v:Int)(w:World):q_G 218 [.int .i64 v] w (.bool (btw v 0 86400)):=by
 refine zt Tryz.func218 Tryz.ntmps218 ?_;repeat' first|refine s_0 ?_|refine q_k 0 ?_|refine q_k 1 ?_;refine q_v (za (hc:=λ_ _ _ _=>(zjl v 0 86400 _))) ?_;refine zb ?_
 exact q_r
theorem zhT(b:Bool)(e:Int)(w:World):q_G 62 [.bool b,.int .i64 e] w (.int .i64 (if b then e else 0)):=by
 refine zt Tryz.func62 Tryz.ntmps62 ?_;cases b
 ·repeat' first|refine s_0 ?_|refine zA [0,1,3] ?_;refine zb ?_
  exact q_r
 ·repeat' first|refine s_0 ?_|refine zA [0,1,2] ?_;refine zb ?_
  exact q_r
theorem zoL(l:List UInt8)(w:World):q_G 235 [zT l] w (.bool (decide (1<=l.length)&&decide (l.length<=32))):=by
 refine zt Tryz.func235 Tryz.ntmps235 ?_;unfold zT;have j:((str l).size:Int)=(l.length:Int):=rfl;by_cases h1:1<=l.length
 ·rw[decide_eq_true h1,B2];by_cases h2:l.length<=32
  ·rw[decide_eq_true h2];repeat' first|refine s_0 ?_|refine q_k 0 ?_|refine q_k 1 ?_;refine q_x zO ?_;refine q_x zaA ?_
   exact q_r
  ·rw[decide_eq_false h2];repeat' first|refine s_0 ?_|refine q_k 0 ?_|refine q_k 1 ?_;refine q_x zO ?_;refine q_x zaA ?_
   exact q_r
 ·rw[decide_eq_false h1,BX];repeat' first|refine s_0 ?_|refine q_k 0 ?_|refine q_k 1 ?_;refine q_x zO ?_
  exact q_r
end Go.Proofs.YtdnlngbjpdbffaaGreatDoor
namespace Go.Sy
open Go
variable {P:Program}{ro:Option Nat}{N:Nat}{w0:World}{M:Nat->Prop}{ds:List Deferred}{g:Nat->Option Value}{L:List Res}{o:Oper}{t t':TypeId}{x z:Operand}{y ye:Ty}
theorem Holds.fresh{B:Nat}{w w':World}{r:Res}(h:Holds B M L w)(hk:Keep No w w')(hr:r.holds w')(q:∀b,r.own b->b=w.heap.size)(G:B<=w.heap.size):Holds B M (r::L) w':=
 (h.keep hk (λ_ _ _ _ h=>h)).cons hr (λx A b j m=>by
  have E:=q b j;have F:=FD (h.all x A) m;omega) (λb j=> .inl (by have:=q b j;omega))
def zzt(E b:Nat)(C:List Value):Res:=.obj b (.cells C.toArray E (C.length,C.length+1))
theorem zkp{e:Nat}{l:List UInt8}(R:o.op= .convert t t' x:=by exact rfl)(hx:ev g x=some (.string (str l)):=by exact rfl)(ht:zah P t=some y:=by exact ty rfl){S:Ty}(K:zah P t'=some S:=by exact ty rfl)(O:S.desc= .slice e:=by exact rfl)(he:zah P e=some ye:=by exact ty rfl)(Q:ye.desc= .int .u8:=by exact rfl):
  OpT P ro N w0 M ds o g L (λv T=>∃b J,v= .slice (some ⟨b,0,none⟩) l.length (l.length+J.length)/\T=zzt e b (l.map v8++J)::L):=
 FH (by rw[R];rfl) λa w X m=>by
  obtain⟨d,i,Y,hi,hs,_⟩:=zX ht;obtain⟨d',i',G,Z,E,_⟩:=zX K;rw[O] at E;have:=zbp E;subst this;obtain⟨d2,i2,I,a6,q,_⟩:=zX he;rw[Q] at q;have A:d2= .int .u8:=by
   cases d2 <;> simp[zd2] at q;exact congrArg _ q
  subst A;have B:=Lib.run_convert_string_bytes w t t' e (str l) Y G I;have F:Keep No w (Lib.bytesWorld w e (str l)):=⟨rfl,rfl,rfl,by rw[Lib.bytesWorld_size];omega,λk F _=>Lib.bytesWorld_at_old w e (str l) k F⟩;have U:w0.heap.size<=w.heap.size:=m.keep.size;have r:l.length<=grownCap w (str l).size 0 e:=by have:=grownCap_ge w (str l).size 0 e;rw[zky] at this ⊢;exact this
  have j:Lib.bytesCells w e (str l)=(l.map v8++List.replicate (grownCap w (str l).size 0 e-(str l).size) (Value.int .u8 0)).toArray:=by
   apply B9.1;simp[Lib.bytesCells,str,v8,Wd.n8]
  refine⟨_,_,Lib.bytesWorld w e (str l),_,?_,.inl rfl,⟨w.heap.size,List.replicate (grownCap w (str l).size 0 e-(str l).size) (Value.int .u8 0),rfl,rfl⟩,m.keep.trans F (λ_ h=>h.elim),?_⟩
  ·simp only[execOp,R,m.agr.eval hx,Sem.run_bind,B,Result.andThen_ok];rw[zky] at r ⊢;rw[AL,show l.length+(grownCap w l.length 0 e-l.length)=grownCap w l.length 0 e by omega];rfl
  ·refine Holds.fresh m.hold F ?_ (λb V=>V.symm) U;show(Lib.bytesWorld w e (str l)).heap[w.heap.size]?=_;rw[Lib.bytesWorld_at_new,j,DR]
end Go.Sy
namespace Go.Ct
open Go Go.Sy Go.RowKit
theorem zzN(v:Int)(k:Nat)(j:IntKind)(h:k<64):Op.shift .shr .i64 v j (k:Int)=pure (.int .i64 (v/2^k)):=by
 rw[shift_shr_any _ _ _ _ (Bq _)];congr 2;rw[Bn,show min k IntKind.i64.bits=k from BP (BT h)]
theorem zv7(x k:Nat)(j:IntKind)(h:k<64):Op.shift .shr .i64 (x:Int) j (k:Int)=pure (.int .i64 ((x/2^k:Nat):Int)):=by
 rw[shift_shr_any _ _ _ _ (Bq _)];congr 2;rw[Bn,show min k IntKind.i64.bits=k from BP (BT h),E7,EV];rfl
theorem u8Z(v:Int):IntKind.u8.wrap v=Wd.n8 (UInt8.ofNat (v%256).toNat):=by
 rw[IntKind.wrap_u8,Wd.n8_of_nat];have j:0<=v%256:=Int.emod_nonneg _ q_e;have m:v%256<256:=Int.emod_lt_of_pos _ q_e;omega
theorem u8N(x:Nat):IntKind.u8.wrap (x:Int)=Wd.n8 (UInt8.ofNat x):=by rw[Wd.wrap_u8_nat,Wd.n8_of_nat]
theorem zxi(v:Int)(m i:Nat)(h:i<m):SetAt (List.replicate (m-i) (Value.int .u8 0)++(beZ v i).map v8) (m-1-i) (.int .u8 (Wd.n8 (UInt8.ofNat (v/256^i%256).toNat))) (List.replicate (m-(i+1)) (Value.int .u8 0)++(beZ v (i+1)).map v8):=by
 refine⟨by simp only[A4,AL];omega,?_⟩;obtain⟨j,w⟩:∃j,m-i=j+1:=⟨m-i-1,by omega⟩;have q:m-1-i=j:=q_o;have r:m-(i+1)=j:=q_o;rw[w,q,r,Ef,AI,CV _ _ q_p,AL,C7];rfl
theorem zku{v:Int}(h: -128<=v/\v<=127):zbl v=1:=by rw[zbl,dif_pos h]
theorem zoJ{v:Int}(h:¬(-128<=v/\v<=127)):zbl v=zbl (v/256)+1:=by rw[zbl,dif_neg h]
theorem znZ:∀(k:Nat) (v:Int),-(128*256^k)<=v->v<128*256^k->zbl v<=k+1
 |0,v,h1,h2=>by rw[zku q_o];exact A7 _
 |k+1,v,h1,h2=>by
  by_cases h: -128<=v/\v<=127
  ·rw[zku h];omega
  ·rw[zoJ h];have:=znZ k (v/256) (by rw[Int.pow_succ] at h1;omega) (by rw[Int.pow_succ] at h2;omega);omega
theorem zm0{v:Int}(h1: -zb1<=v)(h2:v<=zb1):zbl v<=8:=znZ 7 v (by unfold zb1 at*;omega) (by unfold zb1 at*;omega)
theorem zwF(i:Nat):(2:Int)^(8*i)=256^i:=by rw[Int.pow_mul];rfl
theorem zqD(n:Nat):(zb0 n).map v8=if n<128 then [.int .u8 (Wd.n8 (UInt8.ofNat n))] else if n<256 then [.int .u8 129,.int .u8 (Wd.n8 (UInt8.ofNat n))] else if n<65536 then [.int .u8 130,.int .u8 (Wd.n8 (UInt8.ofNat (n/2^8))),.int .u8 (Wd.n8 (UInt8.ofNat n))] else [.int .u8 131,.int .u8 (Wd.n8 (UInt8.ofNat (n/2^16))),.int .u8 (Wd.n8 (UInt8.ofNat (n/2^8))),.int .u8 (Wd.n8 (UInt8.ofNat n))]:=by
 unfold zb0;split
 ·rfl
 ·split
  ·rfl
  ·split
   ·rfl
   ·rfl
theorem zj6{j:Nat}{w:World}{M:Nat->Prop}{E b n:Nat}{l:List UInt8}{L:List Res}(hh:Holds j M L w)(m:l.length=n)(hL:Has L (.blk b E (l.map v8))):(⟨some ⟨b,0,none⟩,n,n,l⟩:Bs).ok w:=
 ⟨m,A7 _,.inr ⟨b,0,rfl,zp (hh.has hL) Ex⟩,λh=>by cases h⟩
theorem zaC{j:Nat}{w:World}{M:Nat->Prop}{E n c:Nat}{a:Option Addr}{l:List UInt8}{L:List Res}(hh:Holds j M L w)(m:l.length=n)(hL:Has L (.row (.slice a n c) E 1 n (l.map v8))):(⟨a,n,c,l⟩:Bs).ok w:=
 ⟨m,FF hh hL,(Fc (Mi:=No) hh hL (λ_ h=>h.elim)).sla,λh=>(Fj hh hL h).1⟩
theorem zwz{w w':World}{L X:List Res}{E b n c:Nat}{M:Nat->Prop}{l:List UInt8}{J:List Value}(hk:Keep M w w')(hh:Holds w.heap.size M (L++X) w')(q:l.length=n)(hc:n<=c)(hL:Has L (zzt E b (l.map v8++J))):(⟨some ⟨b,0,none⟩,n,c,l⟩:Bs).ok w':=
 ⟨q,hc,.inr ⟨b,0,rfl,(Reads.obj hL (λj v m=>by rw[Aa,BH (AR.1 m).1];exact m)) w' X hk hh⟩,λh=>by cases h⟩
theorem cat1(s:Bs):Bs.cat [s]=s.l:=by unfold Bs.cat;simp
theorem zcw{t:Nat}{l:List UInt8}{k:Nat}(h:l.length<=k):(tlv t l).length<=k+5:=by have:=(zY t l).2;omega
end Go.Ct
