/- Lemmas of this proof. -/
import Derived.Test.YtdnlngbjpdbffaaGreatDoorKJ30
import Derived.ArgAppend
import Derived.RecoverIn
set_option maxRecDepth 10000
set_option linter.all false
namespace Go.Ct
def beN(v:Nat):Nat->List UInt8
 |0=>[]
 |k+1=>UInt8.ofNat (v/256^k)::beN v k
theorem zcg(v:Nat):∀k,(beN v k).length=k
 |0=>rfl
 |k+1=>by rw[beN,Ac,zcg v k]
def zcF(v:Nat):Nat:=if h:v<128 then 1 else zcF (v/256)+1
decreasing_by omega
theorem zdH{v:Nat}(h:v<128):zcF v=1:=by rw[zcF,dif_pos h]
theorem zhp{v:Nat}(h:128<=v):zcF v=zcF (v/256)+1:=by rw[zcF,dif_neg q_o]
theorem zj9:∀(k v:Nat),v<128*256^k->zcF v<=k+1
 |0,v,h=>by rw[zdH q_o];exact A4 _
 |k+1,v,h=>by
  rcases AH v 128 with j|j
  ·rw[zdH j];omega
  ·rw[zhp j];have:=zj9 k (v/256) (by rw[AW q_e,Ao,<-AJ];exact h);omega
theorem zjk:∀(d v:Nat),v<256^(d+1)->(d=0\/256^d<=v)->zcF v=if 128<=v/256^d then d+2 else d+1
 |0,v,h,_=>by
  rw[Ad,C7];rcases AH v 128 with j|j
  ·rw[zdH j,if_neg q_o]
  ·rw[zhp j,if_pos j,zdH q_o]
 |d+1,v,h,h2=>by
  have m:256^(d+1)<=v:=q_o;have A:256<=256^(d+1):=by rw[AJ];exact BZ _ (AP q_e)
  have q:v/256<256^(d+1):=by rw[AW q_e,<-AJ];exact h
  have r:256^d<=v/256:=by rw[CF q_e,<-AJ];exact m
  have w:v/256/256^d=v/256^(d+1):=by rw[Ak,AJ,A8]
  rw[zhp q_o,zjk d (v/256) q (.inr r),w];split <;> rfl
def ze3(n:Nat):List UInt8:=
 if n<128 then [UInt8.ofNat n] else if n<256 then [0x81,UInt8.ofNat n] else if n<65536 then [0x82,UInt8.ofNat (n/256),UInt8.ofNat n] else [0x83,UInt8.ofNat (n/65536),UInt8.ofNat (n/256),UInt8.ofNat n]
theorem zju(n:Nat):1<=(ze3 n).length/\(ze3 n).length<=4:=by
 unfold ze3;split
 ·exact⟨A4 1,(by show 1<=4;decide)⟩
 ·split
  ·exact⟨(by show 1<=2;decide),(by show 2<=4;decide)⟩
  ·split
   ·exact⟨(by show 1<=3;decide),(by show 3<=4;decide)⟩
   ·exact⟨(by show 1<=4;decide),A4 4⟩
def tlv(tag:Nat)(l:List UInt8):List UInt8:=UInt8.ofNat tag::(ze3 l.length++l)
theorem zae(tag:Nat)(l:List UInt8):l.length+2<=(tlv tag l).length/\(tlv tag l).length<=l.length+5:=by
 have:=zju l.length;unfold tlv;rw[Ac,A2];omega
def zbs(v:Nat):List UInt8:=tlv 2 (beN v (zcF v))
def zbA(v:Nat):List UInt8:=tlv 0x18 (beN v 6)
def zdf(b:Bool):List UInt8:=tlv 1 [if b then 255 else 0]
def zbQ(l:List UInt8):List UInt8:=tlv 4 l
def zaD(l:List UInt8):List UInt8:=tlv 0x1b l
def zdl(l:List (List UInt8)):List UInt8:=tlv 0x30 l.flatten
def zan(n:Nat)(l:List UInt8):List UInt8:=tlv (0xa0+n) l
def zce(c:UInt8):Bool:=(decide (65<=c.toNat)&&decide (c.toNat<=90)) || (decide (48<=c.toNat)&&decide (c.toNat<=57)) || decide (c.toNat=45)
def zcj:Bool->List UInt8->Bool
 |p,[]=>!p
 |p,c::r=>if c=46 then !p&&zcj true r else zce c&&zcj false r
def zbk(s:List UInt8):Bool:=decide (1<=s.length)&&decide (s.length<=32)&&zcj true s
theorem zgR:∀(l r:List UInt8) (p:Bool),(∀c∈l,c≠46)->zcj p (l++r)=(l.all zce&&zcj (p&&l.isEmpty) r)
 | [],r,p,_=>by simp
 |c::l,r,p,h=>by
  have j:c≠46:=h c A5;have q:=zgR l r false (λx m=>h x (A9 _ m));rw[An,zcj,if_neg j,q,BP,Em];simp
theorem zrA(l r:List UInt8)(h:∀c∈l,c≠46):zcj true (l++46::r)=(!l.isEmpty&&l.all zce&&zcj true r):=by
 rw[zgR l _ true h,zcj,if_pos rfl,Ax];cases l.isEmpty <;> cases l.all zce <;> simp
theorem zpt(l:List UInt8)(h:∀c∈l,c≠46):zcj true l=(!l.isEmpty&&l.all zce):=by
 have:=zgR l [] true h;rw[AZ] at this;rw[this,zcj,Ax,Bool.and_comm]
def ze7(c:UInt8):Bool:=decide (0x21<=c.toNat)&&decide (c.toNat<=0x7e)
def zbO(s:List UInt8):Bool:=decide (1<=s.length)&&decide (s.length<=32)&&s.all ze7
structure Prin where
 parts:List (List UInt8)
 realm:List UInt8
def Prin.ok(p:Prin):Bool:=decide (1<=p.parts.length)&&decide (p.parts.length<=4)&&zbk p.realm&&p.parts.all zbO
def Prin.der(p:Prin):List UInt8:=zdl [zan 0 (zdl (p.parts.map zaD)),zan 1 (zaD p.realm)]
structure Cert where
 serial:Int
 issuer:Prin
 subject:Prin
 fr:Int
 til:Int
 auth:Bool
 group:Int
 pub:List UInt8
 sig:List UInt8
def Cert.body(c:Cert):List UInt8:=zdl [zan 0 (zbs c.serial.toNat),zan 1 c.issuer.der,zan 2 c.subject.der,zan 3 (zbA c.fr.toNat),zan 4 (zbA c.til.toNat),zan 5 (zdf c.auth),zan 6 (zbs c.group.toNat),zan 7 (zbQ c.pub)]
def Cert.der(c:Cert):List UInt8:=zdl [zan 0 c.body,zan 1 (zbQ c.sig)]
def zbD(v:Int):Nat:=if h: -128<=v/\v<=127 then 1 else zbD (v/256)+1
termination_by v.natAbs
decreasing_by omega
def beZ(v:Int):Nat->List UInt8
 |0=>[]
 |k+1=>UInt8.ofNat (v/256^k%256).toNat::beZ v k
theorem zkZ(v:Int):∀k,(beZ v k).length=k
 |0=>rfl
 |k+1=>by rw[beZ,Ac,zkZ v k]
theorem zqr(v:Nat):zbD (v:Int)=zcF v:=by
 induction v using Nat.strongRecOn with
 |_ v j=>
  rw[zbD,zcF];by_cases h:v<128
  ·rw[dif_pos q_o,dif_pos h]
  ·rw[dif_neg q_o,dif_neg h,<-j (v/256) q_o];simp
theorem zkW(v:Nat):∀k,beZ (v:Int) k=beN v k
 |0=>rfl
 |k+1=>by
  rw[beZ,beN,zkW v k];congr 1;have:((v:Int)/256^k%256)=((v/256^k%256:Nat):Int):=by push_cast;rfl
  rw[this,B6];apply C4.1;simp
def ziC:Int:=4611686018427387904
theorem zob{v:Nat}(h:v<=4611686018427387904):zcF v<=8:=zj9 7 v q_o
theorem Prin.ok_parts{p:Prin}(h:p.ok=true):p.parts.length<=4/\(∀x∈p.parts,x.length<=32)/\p.realm.length<=32:=by
 simp only[Prin.ok,AB,decide_eq_true_eq,AT,zbO,zbk] at h;exact⟨h.1.1.2,λx j=>((h.2 x j).1).2,h.1.2.1.2⟩
def Ff:=@Prin.ok_parts
theorem flat_len(m:Nat):∀l:List (List UInt8),(∀x∈l,x.length<=m)->l.flatten.length<=l.length*m
 | [],_=>by simp
 |x::l,h=>by
  have q:=flat_len m l (λy j=>h y (A9 _ j));have r:=h x A5;rw[Ck,A2,Ac,AM];omega
theorem Prin.strs_len{p:Prin}(h:p.ok=true):(p.parts.map zaD).flatten.length<=148:=by
 obtain⟨r,j,w⟩:=Ff h;have:=flat_len 37 (p.parts.map zaD) (λx m=>by
  obtain⟨y,q,rfl⟩:=C0.1 m;have:=(zae 0x1b y).2;have:=j y q;unfold zaD;omega)
 rw[A0] at this;omega
def Fl:=@Prin.strs_len
theorem Prin.der_len{p:Prin}(h:p.ok=true):p.der.length<=205:=by
 obtain⟨j,m,q⟩:=Ff h;have r:=Fl h;have a1:=(zae 0x30 (p.parts.map zaD).flatten).2;have a2:=(zae 0xa0 (tlv 0x30 (p.parts.map zaD).flatten)).2;have a3:=(zae 0x1b p.realm).2;have a4:=(zae 0xa1 (tlv 0x1b p.realm)).2;have a5:=(zae 0x30 [tlv 0xa0 (tlv 0x30 (p.parts.map zaD).flatten),tlv 0xa1 (tlv 0x1b p.realm)].flatten).2;simp only[Ck,DJ,AZ,A2] at a5;have e:p.der.length=(tlv 0x30 (tlv 0xa0 (tlv 0x30 (p.parts.map zaD).flatten)++tlv 0xa1 (tlv 0x1b p.realm))).length:=by
  simp only[Prin.der,zdl,zan,zaD,Ck,DJ,AZ]
 rw[e];omega
def FT:=@Prin.der_len
structure Cert.small(c:Cert):Prop where
 s0:0<=c.serial
 s1:c.serial<=4611686018427387904
 iss:c.issuer.ok=true
 sub:c.subject.ok=true
 f0:0<=c.fr
 f1:c.fr<=1099511627776
 t0:0<=c.til
 t1:c.til<=1099511627776
 g0:0<=c.group
 g1:c.group<=4611686018427387904
 pub:c.pub.length<1000000
 sig:c.sig.length<1000000
theorem zeP{v:Nat}(h:v<=4611686018427387904):2<=(zbs v).length/\(zbs v).length<=13:=by
 have:=zae 2 (beN v (zcF v));have:=zob h;rw[zcg] at*;unfold zbs;omega
theorem znd(v:Nat):(zbA v).length<=11:=by
 have:=(zae 0x18 (beN v 6)).2;rw[zcg] at this;unfold zbA;omega
theorem zmn(l:List UInt8):(zbQ l).length<=l.length+5:=(zae 4 l).2
def Cert.flat(c:Cert):List UInt8:=tlv 0xa0 (zbs c.serial.toNat)++(tlv 0xa1 c.issuer.der++(tlv 0xa2 c.subject.der++(tlv 0xa3 (zbA c.fr.toNat)++(tlv 0xa4 (zbA c.til.toNat)++(tlv 0xa5 (zdf c.auth)++(tlv 0xa6 (zbs c.group.toNat)++tlv 0xa7 (zbQ c.pub)))))))
theorem Cert.body_flat(c:Cert):c.body=tlv 0x30 c.flat:=by
 simp only[Cert.body,zdl,zan,Cert.flat,Ck,DJ,AZ]
def Fd:=@Cert.body_flat
theorem Cert.flat_len{c:Cert}(h:c.small):c.flat.length<=600+c.pub.length:=by
 have a0:=(zae 0xa0 (zbs c.serial.toNat)).2;have a1:=(zae 0xa1 c.issuer.der).2;have a2:=(zae 0xa2 c.subject.der).2;have a3:=(zae 0xa3 (zbA c.fr.toNat)).2;have a4:=(zae 0xa4 (zbA c.til.toNat)).2;have a5:=(zae 0xa5 (zdf c.auth)).2;have j:=(zae 0xa6 (zbs c.group.toNat)).2;have m:=(zae 0xa7 (zbQ c.pub)).2;have q:=zeP (v:=c.serial.toNat) (by have:=h.s1;omega);have r:=FT h.iss;have w:=FT h.sub;have A:=znd c.fr.toNat;have B:=znd c.til.toNat;have C:(zdf c.auth).length<=3:=by cases c.auth <;> decide
 have E:=zeP (v:=c.group.toNat) (by have:=h.g1;omega);have F:=zmn c.pub;simp only[Cert.flat,A2];omega
def Fm:=@Cert.flat_len
theorem Cert.der_flat(c:Cert):c.der=tlv 0x30 (tlv 0xa0 (tlv 0x30 c.flat)++tlv 0xa1 (zbQ c.sig)):=by
 simp only[Cert.der,zdl,zan,Fd,Ck,DJ,AZ]
def Prin.same(a b:Prin):Bool:=a.realm==b.realm&&a.parts==b.parts
theorem Prin.same_iff{a b:Prin} :a.same b=true↔a=b:=by
 cases a;cases b;simp only[Prin.same,AB,beq_iff_eq,Prin.mk.injEq];exact And.comm
def FL:=@Prin.same_iff
def Cert.same(a b:Cert):Bool:=decide (a.serial=b.serial)&&a.issuer.same b.issuer&&a.subject.same b.subject&&decide (a.fr=b.fr)&&decide (a.til=b.til)&&(a.auth==b.auth)&&decide (a.group=b.group)&&(a.pub==b.pub)&&(a.sig==b.sig)
theorem Cert.same_iff{a b:Cert} :a.same b=true↔a=b:=by
 cases a;cases b;simp only[Cert.same,AB,decide_eq_true_eq,beq_iff_eq,FL,Cert.mk.injEq,and_assoc]
def Fo:=@Cert.same_iff
-- sv: which public keys are valid; sf: which signatures are right.
variable (sv:Int->List UInt8->Bool)(sf:Int->List UInt8->List UInt8->List UInt8->Bool)
def Cert.ok(c:Cert):Bool:=decide (0<=c.serial)&&decide (c.serial<=4611686018427387904)&&c.issuer.ok&&c.subject.ok&&decide (0<=c.fr)&&decide (c.fr<=c.til)&&decide (c.til<=1099511627776)&&decide (c.sig.length<=192)&&sv c.group c.pub
structure KeyLaw:Prop where
 g0:∀g p,sv g p=true->0<=g
 g1:∀g p,sv g p=true->g<1000
 len:∀g p,sv g p=true->p.length<1000
section
variable (sv:Int->List UInt8->Bool)(sf:Int->List UInt8->List UInt8->List UInt8->Bool)
variable {sv}
theorem Cert.ok_small(hk:KeyLaw sv){c:Cert}(h:c.ok sv=true):c.small:=by
 simp only[Cert.ok,AB,decide_eq_true_eq] at h;obtain⟨⟨⟨⟨⟨⟨⟨⟨m,q⟩,r⟩,w⟩,A⟩,C⟩,B⟩,E⟩,j⟩:=h;have a:=hk.g0 _ _ j;have b:=hk.g1 _ _ j;have d:=hk.len _ _ j;exact⟨m,q,r,w,A,by omega,by omega,B,a,by omega,by omega,by omega⟩
def FM:=@Cert.ok_small
end
section
variable (sv:Int->List UInt8->Bool)(sf:Int->List UInt8->List UInt8->List UInt8->Bool)
def zbo(l:List Cert):Bool:=decide (1<=l.length)&&decide (l.length<=5)&&l.all (Cert.ok sv)
end
section
variable (sv:Int->List UInt8->Bool)(sf:Int->List UInt8->List UInt8->List UInt8->Bool)
variable {sv}
theorem Cert.der_len{c:Cert}(h:c.small):c.der.length<=700+c.pub.length+c.sig.length:=by
 have j:=Fm h;have a1:=zae 0x30 c.flat;have a2:=zae 0xa0 (tlv 0x30 c.flat);have a3:=zmn c.sig;have a4:=zae 0xa1 (zbQ c.sig);have a5:=zae 0x30 (tlv 0xa0 (tlv 0x30 c.flat)++tlv 0xa1 (zbQ c.sig));rw[Cert.der_flat];simp only[A2] at*;omega
structure Anch where
 name:Prin
 group:Int
 pub:List UInt8
structure Revo where
 issuer:Prin
 serial:Int
def zfI(rs:List Revo)(c:Cert):Bool:=rs.any λr=>r.issuer.same c.issuer&&decide (r.serial=c.serial)
def zfb(c:Cert)(a:Anch)(rs:List Revo)(now:Int)(first:Bool):Int:=
 if !c.issuer.same a.name then 220 else if !sf a.group a.pub c.body c.sig then 221 else if now<c.fr\/c.til<now then 222 else if zfI rs c then 223 else if !first && !c.auth then 224 else 0
def zfq(rs:List Revo)(now:Int):List Cert->Anch->Int×Int
 | [],_=>(0,0)
 |c::l,a=>if zfb sf c a rs now l.isEmpty=0 then zfq rs now l ⟨c.subject,c.group,c.pub⟩ else ((l.length:Int),zfb sf c a rs now l.isEmpty)
def noAnch:Anch:=⟨⟨[],[]⟩,0,[]⟩
def zdn(aq:List Anch)(p:Prin):Anch:=(aq.find? λa=>a.name.same p).getD noAnch
def Anch.ok(sv:Int->List UInt8->Bool)(a:Anch):Bool:=a.name.ok&&sv a.group a.pub
def zeE(sv:Int->List UInt8->Bool)(l:List Cert)(aq:List Anch)(rs:List Revo)(now:Int):Bool:=zbo sv l&&decide (aq.length<=64)&&aq.all (Anch.ok sv)&&decide (rs.length<=64)&&decide (0<=now)&&decide (now<=1099511627776)
def zcf(sv:Int->List UInt8->Bool)(l:List Cert)(aq:List Anch)(rs:List Revo)(now:Int):Int×Int:=
 if zeE sv l aq rs now=true then zfq sf rs now l.reverse (zdn aq (match l.reverse with| []=>noAnch.name|c::_=>c.issuer)) else (0,2)
end
open Go Go.Sy Go.RowKit
def zX(l:List UInt8):Value:=.string (str l)
structure PrinIn(W:World)(C:List Value)(p:Prin):Prop where
 ex:∃a c,C= [.slice a p.parts.length c,zX p.realm]/\p.parts.length<=c/\c<=maxLen/\SlA W a (p.parts.map zX)/\(a=none->c=0)
 len:p.realm.length<=maxLen/\∀x∈p.parts,x.length<=maxLen
theorem PrinIn.keep{w w':World}{C:List Value}{p:Prin}(h:PrinIn w C p)(hk:Keep No w w'):PrinIn w' C p:=by
 obtain⟨⟨a,c,j,m,q,r,A⟩,B⟩:=h;exact⟨⟨a,c,j,m,q,r.keep hk (λ_ _ h=>h),A⟩,B⟩
def BytIn(W:World)(v:Value)(l:List UInt8):Prop:=∃a c,v= .slice a l.length c/\l.length<=c/\c<=maxLen/\SlA W a (l.map v8)/\(a=none->c=0)
structure CertIn(W:World)(C:List Value)(c:Cert):Prop where
 ex:∃I S vp vs,C= .int .i64 c.serial::(I++(S++[.int .i64 c.fr,.int .i64 c.til,.bool c.auth,.int .i64 c.group,vp,vs]))/\PrinIn W I c.issuer/\PrinIn W S c.subject/\BytIn W vp c.pub/\BytIn W vs c.sig
 rng:(Lit.int .i64 c.serial).wf=true/\(Lit.int .i64 c.fr).wf=true/\(Lit.int .i64 c.til).wf=true/\(Lit.int .i64 c.group).wf=true
variable {H:Type}{enc:TypeId×Value->H}{P:Program}{W:World}
theorem zrh{t e:TypeId}{C:List Value}(h:Rdb enc P W t C)(r:P.underlying t=some (.slice e))(he:P.underlying e=some (.int .u8))(hc:P.cellsOf e=1):∃v l,C= [v]/\BytIn W v l:=by
 obtain⟨s,m,j,q⟩:=h.bytes r he hc;exact⟨s.val,s.l,m,s.a,s.c,by rw[j.len];rfl,by rw[j.len];exact j.cap,q,j.sla,j.nil⟩
structure PrinTy(P:Program)(t:TypeId):Prop where
 ex:∃ts te tr,∃f0 f1:Field,P.underlying t=some (.struct #[f0,f1])/\f0.type=ts/\f0.offset=0/\f1.type=tr/\f1.offset=1/\P.cellsOf t=2/\P.underlying ts=some (.slice te)/\P.underlying te=some .string/\P.cellsOf te=1/\P.cellsOf ts=1/\P.underlying tr=some .string/\P.cellsOf tr=1
theorem zpk{t:TypeId}{C:List Value}(h:Rdb enc P W t C)(ht:PrinTy P t):∃p,PrinIn W C p:=by
 obtain⟨ts,te,tr,f0,f1,hs,O,o0,S,o1,hn,U,V,X,Y,Z,h6⟩:=ht.ex;obtain⟨j,K⟩:=h.struct hs;rw[hn] at j
 match C,j with
 | [x,y],_=>
  have G:=K f0 q_p;have I:=K f1 q_p;rw[O,o0,Y] at G;rw[S,o1,h6] at I;simp only[Cb,DM,CO,E5] at G I;obtain⟨l,e,j⟩:=I.string Z;obtain⟨a,n,c,E,J,r,F,hc,q,m,w⟩:=G.list (Ψ:=λB (l:List UInt8)=>B= [zX l]/\l.length<=maxLen) U X q_e (λB hB=>by
   obtain⟨l,e,j⟩:=hB.string V;exact⟨l,e,j⟩)
  simp only[DS,and_true] at e J;subst e;subst J;have T:E.flatMap (·.1)=(E.map (·.2)).map zX:=by
   have:∀ys:List (List Value×List UInt8),(∀x∈ys,x.1.length=1/\x.1= [zX x.2]/\x.2.length<=maxLen)->ys.flatMap (·.1)=(ys.map (·.2)).map zX:=by
    intro ys
    induction ys with
    |nil=>intro _;rfl
    |cons y ys ih=>
     intro A;rw[Dg,ih (λz hz=>A z (A9 _ hz)),(A y A5).2.1];rfl
   exact this E w
  rw[T] at q;refine⟨⟨E.map (·.2),l⟩,⟨a,c,?_,?_,hc,q,m⟩,j,λx hx=>?_⟩
  ·simp only[A0,r];rfl
  ·simp only[A0,r];exact F
  ·obtain⟨y,A,rfl⟩:=C0.1 hx;exact(w y A).2.2
theorem PrinIn.two{C:List Value}{p:Prin}(h:PrinIn W C p):C.length=2:=by
 obtain⟨a,c,e,_⟩:=h.ex;rw[e];rfl
structure CertTy(P:Program)(t tp ti tb ty te:TypeId):Prop where
 str:∃f:Nat->Field,P.underlying t=some (.struct #[f 0,f 1,f 2,f 3,f 4,f 5,f 6,f 7,f 8])/\(f 0).type=ti/\(f 0).offset=0/\(f 1).type=tp/\(f 1).offset=1/\(f 2).type=tp/\(f 2).offset=3/\
  (f 3).type=ti/\(f 3).offset=5/\(f 4).type=ti/\(f 4).offset=6/\(f 5).type=tb/\(f 5).offset=7/\(f 6).type=ti/\(f 6).offset=8/\(f 7).type=ty/\(f 7).offset=9/\(f 8).type=ty/\(f 8).offset=10
 cells:P.cellsOf t=11
 prin:PrinTy P tp
 pc:P.cellsOf tp=2
 int:P.underlying ti=some (.int .i64)
 ic:P.cellsOf ti=1
 bool:P.underlying tb=some .bool
 bc:P.cellsOf tb=1
 byt:P.underlying ty=some (.slice te)
 yc:P.cellsOf ty=1
 u8:P.underlying te=some (.int .u8)
 ec:P.cellsOf te=1
theorem zvs{t tp ti tb ty te:TypeId}{C:List Value}(h:Rdb enc P W t C)(T:CertTy P t tp ti tb ty te):∃c,CertIn W C c:=by
 obtain⟨f,hs,a0,b0,a1,b1,a2,b2,a3,b3,a4,b4,a5,b5,Y,b6,Z,b7,a8,b8⟩:=T.str;obtain⟨X,j⟩:=h.struct hs;rw[T.cells] at X
 match C,X with
 | [x0,x1,x2,x3,x4,x5,x6,x7,x8,x9,x10],_=>
  have m:=j (f 0) q_p;have q:=j (f 1) q_p;have r:=j (f 2) q_p;have w:=j (f 3) q_p;have A:=j (f 4) q_p;have B:=j (f 5) q_p;have E:=j (f 6) q_p;have F:=j (f 7) q_p;have G:=j (f 8) q_p;rw[a0,b0,T.ic] at m;rw[a1,b1,T.pc] at q;rw[a2,b2,T.pc] at r;rw[a3,b3,T.ic] at w;rw[a4,b4,T.ic] at A;rw[a5,b5,T.bc] at B;rw[Y,b6,T.ic] at E;rw[Z,b7,T.yc] at F;rw[a8,b8,T.yc] at G;simp only[Cb,DM,CO,E5] at m q r w A B E F G;obtain⟨i0,I,w0⟩:=m.int T.int;obtain⟨p1,h1⟩:=zpk q T.prin;obtain⟨p2,h2⟩:=zpk r T.prin;obtain⟨i3,J,w3⟩:=w.int T.int;obtain⟨i4,K,w4⟩:=A.int T.int;obtain⟨b,O⟩:=B.bool T.bool;obtain⟨i6,S,w6⟩:=E.int T.int;obtain⟨v7,l7,U,h7⟩:=zrh F T.byt T.u8 T.ec;obtain⟨v8,l8,V,h8⟩:=zrh G T.byt T.u8 T.ec;simp only[DS,and_true] at I J K O S U V;subst I;subst J;subst K;subst O;subst S;subst U;subst V;exact⟨⟨i0,p1,p2,i3,i4,b,i6,l7,l8⟩,⟨_,_,_,_,rfl,h1,h2,h7,h8⟩,w0,w3,w4,w6⟩
end Go.Ct
namespace Go.Proofs.YtdnlngbjpdbffaaGreatDoor
open Go Go.Sy Go.Ct Go.RowKit
attribute [local irreducible] Sy SyL SyX Sy.Fn callFunc
def btw(v a b:Int):Bool:=decide (a<=v)&&decide (v<=b)
theorem zid(v a b:Int)(w:World):q_G 219 [.int .i64 v,.int .i64 a,.int .i64 b] w (.bool (btw v a b)):=by
 refine zo Tryz.func219 Tryz.ntmps219 ?_;unfold btw;by_cases h1:a<=v
 ·rw[decide_eq_true h1,Ax];have j:decide (a<=v)=true:=decide_eq_true h1;by_cases h2:v<=b
  ·rw[decide_eq_true h2];repeat' (first|refine s_0 ?_|refine q_k 0 ?_|refine q_k 1 ?_;refine q_x zax ?_;refine q_x zax ?_)
   exact q_r
  ·rw[decide_eq_false h2];repeat' (first|refine s_0 ?_|refine q_k 0 ?_|refine q_k 1 ?_;refine q_x zax ?_;refine q_x zax ?_)
   exact q_r
 ·rw[decide_eq_false h1,BX];repeat' (first|refine s_0 ?_|refine q_k 0 ?_|refine q_k 1 ?_;refine q_x zax ?_)
  exact q_r
theorem zrI(v:Int)(w:World):q_G 217 [.int .i64 v] w (.bool (btw v 0 1099511627776)):=by
 refine zo Tryz.func217 Tryz.ntmps217 ?_;repeat' (first|refine s_0 ?_|refine q_k 0 ?_|refine q_k 1 ?_;refine q_v (za (hc:=λ_ _ _ _=>(zid v 0 1099511627776 _))) ?_;refine zb ?_)
 exact q_r
theorem zqC(v:Int)(w:World):q_G 218 [.int .i64 v] w (.bool (btw v 0 86400)):=by
 refine zo Tryz.func218 Tryz.ntmps218 ?_;repeat' (first|refine s_0 ?_|refine q_k 0 ?_|refine q_k 1 ?_;refine q_v (za (hc:=λ_ _ _ _=>(zid v 0 86400 _))) ?_;refine zb ?_)
 exact q_r
theorem zhc(b:Bool)(e:Int)(w:World):q_G 62 [.bool b,.int .i64 e] w (.int .i64 (if b then e else 0)):=by
 refine zo Tryz.func62 Tryz.ntmps62 ?_;cases b
 ·repeat' (first|refine s_0 ?_|refine zK [0,1,3] ?_;refine zb ?_)
  exact q_r
 ·repeat' (first|refine s_0 ?_|refine zK [0,1,2] ?_;refine zb ?_)
  exact q_r
theorem zmz(l:List UInt8)(w:World):q_G 235 [zX l] w (.bool (decide (1<=l.length)&&decide (l.length<=32))):=by
 refine zo Tryz.func235 Tryz.ntmps235 ?_;unfold zX;have j:((str l).size:Int)=(l.length:Int):=rfl;by_cases h1:1<=l.length
 ·rw[decide_eq_true h1,Ax];by_cases h2:l.length<=32
  ·rw[decide_eq_true h2];repeat' (first|refine s_0 ?_|refine q_k 0 ?_|refine q_k 1 ?_;refine q_x zP ?_;refine q_x zax ?_)
   exact q_r
  ·rw[decide_eq_false h2];repeat' (first|refine s_0 ?_|refine q_k 0 ?_|refine q_k 1 ?_;refine q_x zP ?_;refine q_x zax ?_)
   exact q_r
 ·rw[decide_eq_false h1,BX];repeat' (first|refine s_0 ?_|refine q_k 0 ?_|refine q_k 1 ?_;refine q_x zP ?_)
  exact q_r
end Go.Proofs.YtdnlngbjpdbffaaGreatDoor
namespace Go.Sy
open Go
variable {P:Program}{ro:Option Nat}{N:Nat}{w0:World}{M:Nat->Prop}{ds:List Deferred}{g:Nat->Option Value}{L:List Res}{o:Oper}{t t':TypeId}{x z:Operand}{y ye:Ty}
theorem Holds.fresh{B:Nat}{w w':World}{r:Res}(h:Holds B M L w)(hk:Keep No w w')(hr:r.holds w')(q:∀b,r.own b->b=w.heap.size)(F:B<=w.heap.size):Holds B M (r::L) w':=
 (h.keep hk (λ_ _ _ _ h=>h)).cons hr (λx A b j m=>by
  have C:=q b j;have E:=FN (h.all x A) m;omega) (λb j=> .inl (by have:=q b j;omega))
def zwK(E b:Nat)(C:List Value):Res:=.obj b (.cells C.toArray E (C.length,C.length+1))
theorem zjb{e:Nat}{l:List UInt8}(S:o.op= .convert t t' x:=by exact rfl)(hx:ev g x=some (.string (str l)):=by exact rfl)(ht:zac P t=some y:=by exact ty rfl){T:Ty}(I:zac P t'=some T:=by exact ty rfl)(K:T.desc= .slice e:=by exact rfl)(he:zac P e=some ye:=by exact ty rfl)(O:ye.desc= .int .u8:=by exact rfl):
  OpT P ro N w0 M ds o g L (λv U=>∃b J,v= .slice (some ⟨b,0,none⟩) l.length (l.length+J.length)/\U=zwK e b (l.map v8++J)::L):=
 FK (by rw[S];rfl) λa w X m=>by
  obtain⟨d,i,Z,hi,hs,_⟩:=zU ht;obtain⟨d',i',F,a6,C,_⟩:=zU I;rw[K] at C;have:=za6 C;subst this;obtain⟨d2,i2,G,a7,q,_⟩:=zU he;rw[O] at q;have A:d2= .int .u8:=by
   cases d2 <;> simp[zdN] at q;exact congrArg _ q
  subst A;have B:=Lib.run_convert_string_bytes w t t' e (str l) Z F G;have E:Keep No w (Lib.bytesWorld w e (str l)):=⟨rfl,rfl,rfl,by rw[Lib.bytesWorld_size];omega,λk E _=>Lib.bytesWorld_at_old w e (str l) k E⟩;have V:w0.heap.size<=w.heap.size:=m.keep.size;have r:l.length<=grownCap w (str l).size 0 e:=by have:=grownCap_ge w (str l).size 0 e;rw[zjz] at this ⊢;exact this
  have j:Lib.bytesCells w e (str l)=(l.map v8++List.replicate (grownCap w (str l).size 0 e-(str l).size) (Value.int .u8 0)).toArray:=by
   apply BC.1;simp[Lib.bytesCells,str,v8,Wd.n8]
  refine⟨_,_,Lib.bytesWorld w e (str l),_,?_,.inl rfl,⟨w.heap.size,List.replicate (grownCap w (str l).size 0 e-(str l).size) (Value.int .u8 0),rfl,rfl⟩,m.keep.trans E (λ_ h=>h.elim),?_⟩
  ·simp only[execOp,S,m.agr.eval hx,Sem.run_bind,B,Result.andThen_ok];rw[zjz] at r ⊢;rw[AK,show l.length+(grownCap w l.length 0 e-l.length)=grownCap w l.length 0 e by omega];rfl
  ·refine Holds.fresh m.hold E ?_ (λb Y=>Y.symm) V;show(Lib.bytesWorld w e (str l)).heap[w.heap.size]?=_;rw[Lib.bytesWorld_at_new,j,Df]
end Go.Sy
namespace Go.Ct
open Go Go.Sy Go.RowKit
theorem zwy(v:Int)(k:Nat)(j:IntKind)(h:k<64):Op.shift .shr .i64 v j (k:Int)=pure (.int .i64 (v/2^k)):=by
 rw[shift_shr_any _ _ _ _ (BV _)];congr 2;rw[B6,show min k IntKind.i64.bits=k from BO (BH h)]
theorem ztJ(x k:Nat)(j:IntKind)(h:k<64):Op.shift .shr .i64 (x:Int) j (k:Int)=pure (.int .i64 ((x/2^k:Nat):Int)):=by
 rw[shift_shr_any _ _ _ _ (BV _)];congr 2;rw[B6,show min k IntKind.i64.bits=k from BO (BH h),DG,CE];rfl
theorem u8Z(v:Int):IntKind.u8.wrap v=Wd.n8 (UInt8.ofNat (v%256).toNat):=by
 rw[IntKind.wrap_u8,Wd.n8_of_nat];have j:0<=v%256:=Int.emod_nonneg _ q_e;have m:v%256<256:=Int.emod_lt_of_pos _ q_e;omega
theorem u8N(x:Nat):IntKind.u8.wrap (x:Int)=Wd.n8 (UInt8.ofNat x):=by rw[Wd.wrap_u8_nat,Wd.n8_of_nat]
theorem zuy(v:Int)(m i:Nat)(h:i<m):SetAt (List.replicate (m-i) (Value.int .u8 0)++(beZ v i).map v8) (m-1-i) (.int .u8 (Wd.n8 (UInt8.ofNat (v/256^i%256).toNat))) (List.replicate (m-(i+1)) (Value.int .u8 0)++(beZ v (i+1)).map v8):=by
 refine⟨by simp only[A2,AK];omega,?_⟩;obtain⟨j,w⟩:∃j,m-i=j+1:=⟨m-i-1,by omega⟩;have q:m-1-i=j:=q_o;have r:m-(i+1)=j:=q_o;rw[w,q,r,Dw,AL,Ce _ _ q_p,AK,C5];rfl
theorem zjF{v:Int}(h: -128<=v/\v<=127):zbD v=1:=by rw[zbD,dif_pos h]
theorem zme{v:Int}(h:¬(-128<=v/\v<=127)):zbD v=zbD (v/256)+1:=by rw[zbD,dif_neg h]
theorem zne:∀(k:Nat) (v:Int),-(128*256^k)<=v->v<128*256^k->zbD v<=k+1
 |0,v,h1,h2=>by rw[zjF q_o];exact A4 _
 |k+1,v,h1,h2=>by
  by_cases h: -128<=v/\v<=127
  ·rw[zjF h];omega
  ·rw[zme h];have:=zne k (v/256) (by rw[Int.pow_succ] at h1;omega) (by rw[Int.pow_succ] at h2;omega);omega
theorem zqV{v:Int}(h1: -ziC<=v)(h2:v<=ziC):zbD v<=8:=zne 7 v (by unfold ziC at*;omega) (by unfold ziC at*;omega)
theorem zux(i:Nat):(2:Int)^(8*i)=256^i:=by rw[Int.pow_mul];rfl
theorem zph(n:Nat):(ze3 n).map v8=if n<128 then [.int .u8 (Wd.n8 (UInt8.ofNat n))] else if n<256 then [.int .u8 129,.int .u8 (Wd.n8 (UInt8.ofNat n))] else if n<65536 then [.int .u8 130,.int .u8 (Wd.n8 (UInt8.ofNat (n/2^8))),.int .u8 (Wd.n8 (UInt8.ofNat n))] else [.int .u8 131,.int .u8 (Wd.n8 (UInt8.ofNat (n/2^16))),.int .u8 (Wd.n8 (UInt8.ofNat (n/2^8))),.int .u8 (Wd.n8 (UInt8.ofNat n))]:=by
 unfold ze3;split
 ·rfl
 ·split
  ·rfl
  ·split
   ·rfl
   ·rfl
theorem zi9{j:Nat}{w:World}{M:Nat->Prop}{E b n:Nat}{l:List UInt8}{L:List Res}(hh:Holds j M L w)(m:l.length=n)(hL:Has L (.blk b E (l.map v8))):(⟨some ⟨b,0,none⟩,n,n,l⟩:Bs).ok w:=
 ⟨m,A4 _,.inr ⟨b,0,rfl,zp (hh.has hL) F0⟩,λh=>by cases h⟩
theorem zaq{j:Nat}{w:World}{M:Nat->Prop}{E n c:Nat}{a:Option Addr}{l:List UInt8}{L:List Res}(hh:Holds j M L w)(m:l.length=n)(hL:Has L (.row (.slice a n c) E 1 n (l.map v8))):(⟨a,n,c,l⟩:Bs).ok w:=
 ⟨m,FR hh hL,(Fu (Mi:=No) hh hL (λ_ h=>h.elim)).sla,λh=>(Fv hh hL h).1⟩
theorem zt7{w w':World}{L X:List Res}{E b n c:Nat}{M:Nat->Prop}{l:List UInt8}{J:List Value}(hk:Keep M w w')(hh:Holds w.heap.size M (L++X) w')(q:l.length=n)(hc:n<=c)(hL:Has L (zwK E b (l.map v8++J))):(⟨some ⟨b,0,none⟩,n,c,l⟩:Bs).ok w':=
 ⟨q,hc,.inr ⟨b,0,rfl,(Reads.obj hL (λj v m=>by rw[AR,Aq (AQ.1 m).1];exact m)) w' X hk hh⟩,λh=>by cases h⟩
theorem cat1(s:Bs):Bs.cat [s]=s.l:=by unfold Bs.cat;simp
theorem zcA{t:Nat}{l:List UInt8}{k:Nat}(h:l.length<=k):(tlv t l).length<=k+5:=by have:=(zae t l).2;omega
end Go.Ct
namespace Go.Sy
open Go Go.RowKit
variable {P:Program}{ro:Option Nat}{N:Nat}{w0:World}{M:Nat->Prop}{ds:List Deferred}{fr:Fr}{L:List Res}{Q:Exit->Act->World->Prop}{post pan:Value->List Res->Prop}{R:List Res}{fn:Func}{v:Value}
theorem zlA{p q:Nat->Bool}{i:Nat}(j:∀k,q k=true->p k=true)(m:p i=true)(hn:q i=false):∀ {l:List Nat},i∈l->l.countP q<l.countP p
 |x::l,h=>by
  have r:l.countP q<=l.countP p:=List.countP_mono_left λk _=>j k;rcases Ag.1 h with rfl|h
  ·rw[EW (by rw[hn];decide),Da m];omega
  ·have w:=zlA j m hn h;by_cases hx:q x=true
   ·rw[Da hx,Da (j x hx)];omega
   ·rw[EW hx];have:=List.countP_cons (p:=p) (a:=x) (l:=l);rw[this];omega
def zt8(l:List Oper):Bool:=(List.range l.length).all λi=>match l[i]? with
 |none=>true
 |some o=>(pre o).all λj=>Nat.blt j i
def zw6(P:Program)(ro:Option Nat)(N:Nat)(w0:World)(M:Nat->Prop)(ds:List Deferred)(ops:Array Oper)(Q:Exit->Act->World->Prop)(o:Oper)(fr:Fr)(L:List Res)(J:Fr->List Res->Prop):Prop:=
 ∀a w (K:Act->World->Prop),StD N w0 M ds (get fr) L a w->(∀fr' L' a' w',J fr' L'->StD N w0 M ds (get fr') L' a' w'->K a' w')->
  (if Region.wanted o (yielded ops a.tmps) then o.wpIn (FW ro) 0 P a w K Q else (∀f,o.about P w a.eval=some f->(FW ro).fn f)/\K (a.put o.dst undef) w)
theorem zsV{id:Nat}{l:List Oper}(J:(Nat->Bool)->Fr->List Res->Prop)(hm:P.follows .mixedOrders=true)(a7:zt8 l=true)(h0:J (λ_=>false) fr L)
  (step:∀b fr L i o,l[i]?=some o->b i=false->(pre o).all b=true->J b fr L->zw6 P ro N w0 M ds l.toArray Q o fr L (λK X=>J (λk=>b k || Nat.beq k i) K X))
  (G:∀b fr L,(∀i,i<l.length->b i=true)->J b fr L->SyX N w0 M ds (Q .normal) fr L):Sy P ro N w0 M ds (.region id l.toArray true) Q fr L:=by
 rintro a w ⟨Ds,a8,B⟩;refine wpIn_region_any hm ?_;have Z:∀i o,l[i]?=some o->∀j∈pre o,j<i:=λi o I j hj=>by
  have A:=(AQ.1 I).1;have:=AT.1 a7 i (B9.2 A);rw[I] at this;exact zaA.1 (AT.1 this j hj)
 have done:∀listed:Array Bool,listed.size=l.length->Region.ready .any l.toArray listed= []->∀i,i<l.length->listed.getD i false=true:=by
  intro listed E m i
  induction i using Nat.strongRecOn with
  |_ i ih=>
   intro A;cases hb:listed.getD i false with
   |true=>rfl
   |false=>
    exfalso;have:i∈Region.ready .any l.toArray listed:=mem_ready.2 ⟨by
     simp only[Ab] at hb ⊢;rw[Au q_o] at hb ⊢;simpa using hb,l[i],by simp[A],λe he a6=>by
     have hp:=Z i l[i] (A1 A) e.on (zdh.2 ⟨e,he,a6,rfl⟩);exact ih e.on hp q_o⟩
    rw[m] at this;cases this
 have key:∀(f:Nat) (listed:Array Bool) (fr:Fr) (L:List Res) (a:Act) (w:World),listed.size=l.length->(List.range l.length).countP (λk=>!listed.getD k false)<=f->J (λk=>listed.getD k false) fr L->StD N w0 M ds (get fr) L a w->
   wpAnyIn (FW ro) 0 P .any l.toArray Q f listed a w:=by
  intro f
  induction f with
  |zero=>
   intro listed fr L a w E hc V C;have F:∀i,i<l.length->listed.getD i false=true:=λi A=>by
    have S:(List.range l.length).countP (λk=>!listed.getD k false)=0:=Nat.le_zero.1 hc;have:=List.countP_eq_zero.1 S i (B9.2 A);simpa using this
   refine⟨?_,G _ fr L F V a w C⟩;refine Dk.2 λi A=>?_;obtain⟨S,o,I,_⟩:=mem_ready.1 A;have O:i<l.length:=by simpa using (Aa.1 I).1
   have:=zbB S;rw[F i O] at this;cases this
  |succ f ih=>
   intro listed fr L a w E hc V C;refine⟨λm=>G _ fr L (done listed E m) V a w C,λi A=>?_⟩;obtain⟨S,o,I,he⟩:=mem_ready.1 A;have O:i<l.length:=by simpa using (Aa.1 I).1
   have a9:l[i]?=some o:=by simpa using I
   have hf:=zbB S;have T:(pre o).all (λk=>listed.getD k false)=true:=AT.2 λj hj=>by
    obtain⟨e,h2,h3,rfl⟩:=zdh.1 hj;exact he e h2 h3
   have q:∀k,(listed.setIfInBounds i true).getD k false=(listed.getD k false || Nat.beq k i):=λk=>by
    by_cases e:i=k
    ·subst e;have:i<listed.size:=q_o;simp[Ab,this]
    ·rw[getD_set_ne false e];simp[za4.2 (λe'=>e e'.symm:k≠i)]
   unfold wpOpIn;rw[I];refine step _ fr L i o a9 hf T V a w _ C λK X a' w' Y U=>?_;refine ih _ K X a' w' (by simpa using E) ?_ (by simpa only[q] using Y) U;have:(List.range l.length).countP (λk=>!(listed.setIfInBounds i true).getD k false)<(List.range l.length).countP (λk=>!listed.getD k false):=
    zlA (i:=i) (λk hk=>by rw[q] at hk;simp only[Bool.not_or,AB] at hk;exact hk.1) (by rw[hf];rfl) (by rw[q];simp) (B9.2 O)
   omega
 refine key _ _ fr L a _ q_p ?_ ?_ ⟨Ds,a8,B.size,B.agr,⟨B.keep.os,B.keep.tape,B.keep.output,B.keep.size,B.keep.block⟩,⟨λr hr=>GZ (B.hold.all r hr) (λ_ _=>rfl),B.hold.apart,B.hold.mine⟩⟩
 ·refine BG List.countP_le_length ?_;simp
 ·have e:(λk=>(Array.replicate l.toArray.size false).getD k false)=λ_=>false:=by
   funext k
   simp only[Ab,DR];split <;> rfl
  rw[e];exact h0
end Go.Sy
