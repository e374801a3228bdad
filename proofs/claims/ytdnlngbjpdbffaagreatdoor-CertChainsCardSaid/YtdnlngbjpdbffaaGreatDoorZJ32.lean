/- Lemmas. -/
import Derived.Test.YtdnlngbjpdbffaaGreatDoorZJ31
import Derived.MapKept
set_option maxHeartbeats 4000000
set_option maxRecDepth 10000
set_option linter.all false
namespace Go.Ct
theorem zyP{v:Int}(h:0<=v):tlv 2 (beZ v (zbl v))=zbk v.toNat:=by
 obtain⟨n,rfl⟩:∃n:Nat,v=(n:Int):=⟨v.toNat,by omega⟩;rw[zmU,zjM];rfl
theorem Prin.der_pos(p:Prin):0<p.der.length:=by have:=(zY 0x30 [zax 0 (zdc (p.parts.map zav)),zax 1 (zav p.realm)].flatten).1;show 0<(tlv 0x30 _).length;omega
def Fk:=@Prin.der_pos
end Go.Ct
namespace Go.Proofs.YtdnlngbjpdbffaaGreatDoor
open Go Go.Sy Go.Ct Go.Nt Go.RowKit
attribute [local irreducible] Sy SyL SyX SyC SyF Sy.Fn callFunc
theorem znU(v:Int)(w:World)(h1:0<=v)(h2:v<=4611686018427387904):Sy.Fn Tryz.prog 111 [.int .i64 v] w No (zbf (zbk v.toNat)):=by
 have:=zqh v w (by unfold zb1;omega) h2;rwa[zyP h1] at this
theorem zpm(C:List Value)(p:Prin)(w:World)(h:PrinIn w C p)(j:p.ok=true):Sy.Fn Tryz.prog 112 [.agg C.toArray] w No (zbf p.der):=by
 have A:=λq (r:Keep No w q)=>zyu C p q (h.keep r) j;obtain⟨⟨a1,E,rfl,H,G,s1,I⟩,-⟩:=h;refine zt Tryz.func112 Tryz.ntmps112 ?_;repeat' first|refine s_0 ?_|refine zf 0 ?_;refine z9 λ_=>?_|refine zf 1 ?_;refine zm ?_;(refine q_s (zi (hc:=zr A)) ?_;rintro _ _ ⟨R,rfl,B,F,rfl,rfl⟩);refine zb ?_|refine q_k 2 ?_
 exact q_r
theorem zlZ(p:Pl)(c:Cert)(w:World)(h:CertAt w p c)(A:c.small):Sy.Fn Tryz.prog 50 [.agg (zF p c).toArray] w No (zbf c.body):=by
 refine zt Tryz.func50 Tryz.ntmps50 ?_;have h0:=λj=>znU c.serial j A.s0 A.s1;have h1:=λj (r:Keep No w j)=>zpm _ _ j (h.iss.keep r) A.iss;have h2:=λj (r:Keep No w j)=>zpm _ _ j (h.sub.keep r) A.sub;have h3:=λj=>zoE c.fr j A.f0 A.f1;have h4:=λj=>zoE c.til j A.t0 A.t1;have h5:=λj=>zvZ c.auth j;have h6:=λj=>znU c.group j A.g0 A.g1;have a8:=A.pub;have h7:=λj (r:Keep No w j)=>zqJ ⟨p.a3,c.pub.length,p.k3,c.pub⟩ j (h.pub.keep r) (by show c.pub.length<16777216;omega);have p0:0<(zbk c.serial.toNat).length:=zbG;have p1:=Fk c.issuer;have p2:=Fk c.subject;have p3:0<(zbu c.fr.toNat).length:=zbG;have p4:0<(zbu c.til.toNat).length:=zbG;have p5:0<(zcQ c.auth).length:=zbG;have p6:0<(zbk c.group.toNat).length:=zbG;have p7:0<(za9 c.pub).length:=zbG;have m0:=(zdP (v:=c.serial.toNat) (by have:=A.s1;omega)).2;have m1:=FC A.iss;have m2:=FC A.sub;have m3:(zbu c.fr.toNat).length<=11:=zcw (by rw[zbs];decide);have m4:(zbu c.til.toNat).length<=11:=zcw (by rw[zbs];decide);have m5:(zcQ c.auth).length<=6:=zcw (A7 1);have m6:=(zdP (v:=c.group.toNat) (by have:=A.g1;omega)).2;have m7:(za9 c.pub).length<=c.pub.length+5:=zcw (A7 _);obtain⟨E,e0⟩:∃G,G=zax 0 (zbk c.serial.toNat):=⟨_,rfl⟩;obtain⟨F,e1⟩:∃G,G=zax 1 (c.issuer.der):=⟨_,rfl⟩;obtain⟨H,e2⟩:∃G,G=zax 2 (c.subject.der):=⟨_,rfl⟩;obtain⟨I,e3⟩:∃G,G=zax 3 (zbu c.fr.toNat):=⟨_,rfl⟩;obtain⟨J,e4⟩:∃G,G=zax 4 (zbu c.til.toNat):=⟨_,rfl⟩;obtain⟨K,e5⟩:∃G,G=zax 5 (zcQ c.auth):=⟨_,rfl⟩;obtain⟨O,e6⟩:∃G,G=zax 6 (zbk c.group.toNat):=⟨_,rfl⟩;obtain⟨Q,e7⟩:∃G,G=zax 7 (za9 c.pub):=⟨_,rfl⟩;have S:c.body=tlv 0x30 (E++(F++(H++(I++(J++(K++(O++Q))))))):=by rw[e0,e1,e2,e3,e4,e5,e6,e7];simp[Cert.body,zdc]
 generalize c.body=BD at*;unfold zF zbe at*;clear h A;obtain⟨serial,iss,sub,fr,til,auth,group,pub,sig⟩:=c;dsimp only at*;generalize za9 pub=D7,zbk group.toNat=D6,zcQ auth=Z,zbu til.toNat=Y,zbu fr.toNat=W,sub.der=V,iss.der=U,zbk serial.toNat=T at*;have l0:E.length<=T.length+5:=by rw[e0];exact(zY (0xa0+0) T).2
 have l1:F.length<=U.length+5:=by rw[e1];exact(zY (0xa0+1) U).2
 have l2:H.length<=V.length+5:=by rw[e2];exact(zY (0xa0+2) V).2
 have l3:I.length<=W.length+5:=by rw[e3];exact(zY (0xa0+3) W).2
 have l4:J.length<=Y.length+5:=by rw[e4];exact(zY (0xa0+4) Y).2
 have l5:K.length<=Z.length+5:=by rw[e5];exact(zY (0xa0+5) Z).2
 have l6:O.length<=D6.length+5:=by rw[e6];exact(zY (0xa0+6) D6).2
 have l7:Q.length<=D7.length+5:=by rw[e7];exact(zY (0xa0+7) D7).2
 repeat' first|refine s_0 ?_|refine zf 0 ?_;refine z9 λ_=>?_
 (refine zdp (id:=1) [0,1,4,5,8,9,12,13,16,17,20,21,24,25,28,29] [2,3,6,7,10,11,14,15,18,19,22,23,26,27,30,31,32,33,34] mixed ?_ ?_;kernel_rfl;refine yfv zN (k:=?_);refine yfv zM (k:=?_);refine yfv zN (k:=?_);refine yfv (ze (B:=[.slice p.a1 iss.parts.length p.k1,zT iss.realm]) (hv:=FK rfl)) (k:=?_);refine yfv zN (k:=?_);refine yfv (ze (B:=[.slice p.a2 sub.parts.length p.k2,zT sub.realm]) (hv:=FK rfl)) (k:=?_);refine yfv zN (k:=?_);refine yfv zM (k:=?_);refine yfv zN (k:=?_);refine yfv zM (k:=?_);refine yfv zN (k:=?_);refine yfv zM (k:=?_);refine yfv zN (k:=?_);refine yfv zM (k:=?_);refine yfv zN (k:=?_);refine yfv zM (k:=?_);refine yf0 ?_;try refine yc0 (k:=?_))
 refine ycs (zi (hc:=λj X r q=>h0 j)) (k:=?_);rintro _ _ ⟨R,rfl,a0,c0,rfl,rfl⟩;refine ycs (zi (hc:=λj X r q=>zcJ 0 a0 T.length c0 T E j q_e (zaC q rfl q_h) p0 q_o e0)) (k:=?_);rintro _ _ ⟨R,rfl,b0,d0,rfl,rfl⟩;refine ycs (zi (hc:=zr h1)) (k:=?_);rintro _ _ ⟨R,rfl,a1,c1,rfl,rfl⟩;refine ycs (zi (hc:=λj X r q=>zcJ 1 a1 U.length c1 U F j q_e (zaC q rfl q_h) p1 q_o e1)) (k:=?_);rintro _ _ ⟨R,rfl,b1,d1,rfl,rfl⟩;refine ycs (zi (hc:=zr h2)) (k:=?_);rintro _ _ ⟨R,rfl,a2,c2,rfl,rfl⟩;refine ycs (zi (hc:=λj X r q=>zcJ 2 a2 V.length c2 V H j q_e (zaC q rfl q_h) p2 q_o e2)) (k:=?_);rintro _ _ ⟨R,rfl,b2,d2,rfl,rfl⟩;refine ycs (zi (hc:=λj X r q=>h3 j)) (k:=?_);rintro _ _ ⟨R,rfl,a3,c3,rfl,rfl⟩;refine ycs (zi (hc:=λj X r q=>zcJ 3 a3 W.length c3 W I j q_e (zaC q rfl q_h) p3 q_o e3)) (k:=?_);rintro _ _ ⟨R,rfl,b3,d3,rfl,rfl⟩;refine ycs (zi (hc:=λj X r q=>h4 j)) (k:=?_);rintro _ _ ⟨R,rfl,a4,c4,rfl,rfl⟩;refine ycs (zi (hc:=λj X r q=>zcJ 4 a4 Y.length c4 Y J j q_e (zaC q rfl q_h) p4 q_o e4)) (k:=?_);rintro _ _ ⟨R,rfl,b4,d4,rfl,rfl⟩;refine ycs (zi (hc:=λj X r q=>h5 j)) (k:=?_);rintro _ _ ⟨R,rfl,a5,c5,rfl,rfl⟩;refine ycs (zi (hc:=λj X r q=>zcJ 5 a5 Z.length c5 Z K j q_e (zaC q rfl q_h) p5 q_o e5)) (k:=?_);rintro _ _ ⟨R,rfl,b5,d5,rfl,rfl⟩;refine ycs (zi (hc:=λj X r q=>h6 j)) (k:=?_);rintro _ _ ⟨R,rfl,a6,c6,rfl,rfl⟩;refine ycs (zi (hc:=λj X r q=>zcJ 6 a6 D6.length c6 D6 O j q_e (zaC q rfl q_h) p6 q_o e6)) (k:=?_);rintro _ _ ⟨R,rfl,b6,d6,rfl,rfl⟩;refine ycs (zi (hc:=zr h7)) (k:=?_);rintro _ _ ⟨R,rfl,a7,c7,rfl,rfl⟩;refine ycs (zi (hc:=λj X r q=>zcJ 7 a7 D7.length c7 D7 Q j q_e (zaC q rfl q_h) p7 q_o e7)) (k:=?_);rintro _ _ ⟨R,rfl,b7,d7,rfl,rfl⟩;refine ycs zz (k:=?_);rintro _ _ ⟨bL,rfl,rfl⟩;refine ycs (zi (hc:=λj X r q=>zkv bL 8 [⟨b0,E.length,d0,E⟩,⟨b1,F.length,d1,F⟩,⟨b2,H.length,d2,H⟩,⟨b3,I.length,d3,I⟩,⟨b4,J.length,d4,J⟩,⟨b5,K.length,d5,K⟩,⟨b6,O.length,d6,O⟩,⟨b7,Q.length,d7,Q⟩] j rfl q_e (zp (q.has q_h) Ex) (λs A=>by
   simp only[AV,Bi,or_false] at A;rcases A with rfl|rfl|rfl|rfl|rfl|rfl|rfl|rfl
   ·exact zaC q rfl q_h
   ·exact zaC q rfl q_h
   ·exact zaC q rfl q_h
   ·exact zaC q rfl q_h
   ·exact zaC q rfl q_h
   ·exact zaC q rfl q_h
   ·exact zaC q rfl q_h
   ·exact zaC q rfl q_h) (by rw[show Bs.cat [⟨b0,E.length,d0,E⟩,⟨b1,F.length,d1,F⟩,⟨b2,H.length,d2,H⟩,⟨b3,I.length,d3,I⟩,⟨b4,J.length,d4,J⟩,⟨b5,K.length,d5,K⟩,⟨b6,O.length,d6,O⟩,⟨b7,Q.length,d7,Q⟩]=E++(F++(H++(I++(J++(K++(O++Q)))))) by simp[Bs.cat]];simp only[A4];omega) BD (by rw[S];simp[Bs.cat]))) (k:=?_)
 rintro _ _ ⟨R,rfl,aW,cW,rfl,rfl⟩;refine ycv za6 (k:=?_);refine yc0 (k:=?_);repeat' first|refine s_0 ?_|fail
 exact zar rfl (zh rfl) (F6 Eu rfl Ev) ⟨_,_,rfl,rfl⟩
theorem zoz(p:Pl)(c:Cert)(w:World)(h:CertAt w p c)(B:c.small):Sy.Fn Tryz.prog 51 [.agg (zF p c).toArray] w No (zbf c.der):=by
 refine zt Tryz.func51 Tryz.ntmps51 ?_;have Z:=λj (E:Keep No w j)=>zlZ p c j (h.keep E) B;have T:=B.sig;have S:=B.pub;have ho:=λj (E:Keep No w j)=>zqJ ⟨p.a4,c.sig.length,p.k4,c.sig⟩ j (h.sig.keep E) (by show c.sig.length<16777216;omega);have p0:0<c.body.length:=by rw[FR];exact zbG
 have p1:0<(za9 c.sig).length:=zbG;have m0:c.body.length<=605+c.pub.length:=by rw[FR];have:=(zY 0x30 c.flat).2;have:=FP B;omega
 have m1:(za9 c.sig).length<=c.sig.length+5:=zcw (A7 _);obtain⟨q,H⟩:∃G,G=zax 0 c.body:=⟨_,rfl⟩;obtain⟨r,I⟩:∃G,G=zax 1 (za9 c.sig):=⟨_,rfl⟩;have l0:q.length<=c.body.length+5:=by rw[H];exact(zY (0xa0+0) _).2
 have l1:r.length<=(za9 c.sig).length+5:=by rw[I];exact(zY (0xa0+1) _).2
 have F:c.der=tlv 0x30 (q++r):=by rw[H,I];simp[Cert.der,zdc]
 generalize za9 c.sig=K,c.body=J,c.der=U at*;have hC:(zF p c).drop 10= [.slice p.a4 c.sig.length p.k4]:=rfl;unfold zF at*;repeat' first|refine s_0 ?_|refine zf 0 ?_;refine z9 λ_=>?_
 (refine zdp (id:=1) [0,3,4] [1,2,5,6,7,8,9] mixed ?_ ?_;kernel_rfl;refine yfv ze (k:=?_);refine yfv zN (k:=?_);refine yfv zM (k:=?_);refine yf0 ?_;try refine yc0 (k:=?_))
 refine ycs (zi (hc:=zr Z)) (k:=?_);rintro _ _ ⟨R,rfl,a0,W,rfl,rfl⟩;refine ycs (zi (hc:=λj X E A=>zcJ 0 a0 J.length W J q j q_e (zaC A rfl q_h) p0 q_o H)) (k:=?_);rintro _ _ ⟨R,rfl,O,d0,rfl,rfl⟩;refine ycs (zi (hc:=zr ho)) (k:=?_);rintro _ _ ⟨R,rfl,a1,Y,rfl,rfl⟩;refine ycs (zi (hc:=λj X E A=>zcJ 1 a1 K.length Y K r j q_e (zaC A rfl q_h) p1 q_o I)) (k:=?_);rintro _ _ ⟨R,rfl,Q,d1,rfl,rfl⟩;refine ycs zz (k:=?_);rintro _ _ ⟨V,rfl,rfl⟩;refine ycs (zi (hc:=λj X E A=>zkv V 2 [⟨O,q.length,d0,q⟩,⟨Q,r.length,d1,r⟩] j rfl q_e (zp (A.has q_h) Ex) (λs B=>by
   simp only[AV,Bi,or_false] at B;rcases B with rfl|rfl
   ·exact zaC A rfl q_h
   ·exact zaC A rfl q_h) (by rw[show Bs.cat [⟨O,q.length,d0,q⟩,⟨Q,r.length,d1,r⟩]=q++r by simp[Bs.cat]];simp only[A4];omega) U (by rw[F];simp[Bs.cat]))) (k:=?_)
 rintro _ _ ⟨R,rfl,aW,cW,rfl,rfl⟩;refine ycv za6 (k:=?_);refine yc0 (k:=?_);repeat' first|refine s_0 ?_|fail
 exact zar rfl (zh rfl) (F6 Eu rfl Ev) ⟨_,_,rfl,rfl⟩
theorem zyo(p:Pl)(c:Cert)(w:World)(F:GT w)(h:CertAt w p c)(G:c.fine)(j:c.ok svK=true):Sy.Fn Tryz.prog 21 [.agg (zF p c).toArray] w No (λv R=>∃a k,v= .tuple #[.slice a c.der.length k,.int .i64 0]/\R= [.row (.slice a c.der.length k) 5 1 c.der.length (c.der.map v8)]):=by
 refine zt Tryz.func21 Tryz.ntmps21 ?_;have E:=λq (r:Keep No w q)=>zg6 p c q (F.to r) (h.keep r) G;rw[j] at E;have H:=λq (r:Keep No w q)=>zoz p c q (h.keep r) (FA zcC j);have A:(zF p c).length=11:=rfl;generalize zF p c=C at*;repeat' first|refine s_0 ?_|refine zf 0 ?_;refine z9 λ_=>?_|refine zf 1 ?_;refine q_v (ze (B:=C) (hz:=A.symm)) ?_;refine q_v (za (hc:=zr E)) ?_;refine zI ?_|refine zf 3 ?_;refine q_v (ze (B:=C) (hz:=A.symm)) ?_;(refine q_s (zi (hc:=zr H)) ?_;rintro _ _ ⟨R,rfl,I,J,rfl,rfl⟩);refine zb ?_
 exact zU rfl (zh rfl) (zh rfl) q_h ⟨_,_,rfl,rfl⟩
def zaD(p:Pl)(c:Cert):List Res:=[.row (.slice p.a1 c.issuer.parts.length p.k1) 9 1 c.issuer.parts.length (c.issuer.parts.map zT),.row (.slice p.a2 c.subject.parts.length p.k2) 9 1 c.subject.parts.length (c.subject.parts.map zT),.row (.slice p.a3 c.pub.length p.k3) 5 1 c.pub.length (c.pub.map v8),.row (.slice p.a4 c.sig.length p.k4) 5 1 c.sig.length (c.sig.map v8)]
def zhw(c:Cert)(v:Value)(R:List Res):Prop:=∃p,v= .agg (zF p c).toArray/\R=zaD p c
theorem zus(p:Pl)(c:Cert)(w:World)(h:CertAt w p c)(F:c.fine)(hp:c.pub.length<1000000)(S:c.sig.length<1000000):Sy.Fn Tryz.prog 32 [.agg (zF p c).toArray] w No (zhw c):=by
 refine zt Tryz.func32 Tryz.ntmps32 ?_;have O:=λE (G:Keep No w E)=>zoo _ _ E (h.iss.keep G) F.i.1;have Q:=λE (G:Keep No w E)=>zoo _ _ E (h.sub.keep G) F.s.1;have J:=h.pub.sla;have K:=h.sig.sla;have H:=h.pub.nil;have I:=h.sig.nil;dsimp only at J K H I;unfold zF zbe zhw zaD at*;clear h F;obtain⟨serial,⟨j,q⟩,⟨r,A⟩,fr,til,auth,group,pub,sig⟩:=c;dsimp only at*;repeat' first|refine s_0 ?_|refine zf 0 ?_;refine zk λ_=>?_;refine zk λ_=>?_|refine q_k 1 ?_;refine q_v (ze (B:=[.slice p.a1 j.length p.k1,zT q]) (hv:=FK rfl)) ?_;(refine q_s (zi (hc:=zr O)) ?_;rintro _ _ ⟨R,rfl,a1,k1,rfl,rfl⟩);refine zb ?_;refine q_n (zdI (hC:=A5 rfl)) ?_|refine q_k 2 ?_;refine q_v (ze (B:=[.slice p.a2 r.length p.k2,zT A]) (hv:=FK rfl)) ?_;(refine q_s (zi (hc:=zr Q)) ?_;rintro _ _ ⟨R,rfl,a2,k2,rfl,rfl⟩);refine zb ?_;refine q_n (zdI (hC:=A5 rfl)) ?_|refine q_k 3 ?_;refine zm ?_;(refine q_s (zgq (hr:=FQ J (λ_ _ h=>h)) (hn:=by rw[A0,Al]) (hnil:=H)) ?_;rintro _ _ ⟨rfl,a3,k3,rfl⟩);refine zb ?_;refine q_n (zaO (hC:=⟨A5 rfl,rfl⟩)) ?_|refine q_k 4 ?_;refine zm ?_;(refine q_s (zgq (hr:=FQ K (λ_ _ h=>h)) (hn:=by rw[A0,Al]) (hnil:=I)) ?_;rintro _ _ ⟨rfl,a4,k4,rfl⟩);refine zb ?_;refine q_n (zaO (hC:=⟨A5 rfl,rfl⟩)) ?_|refine zf 5 ?_;refine zm ?_;refine q_n (zdI (hC:=A5 rfl)) ?_
 exact zar rfl (zE (B:=[.int .i64 serial,.slice a1 j.length k1,zT q,.slice a2 r.length k2,zT A,.int .i64 fr,.int .i64 til,.bool auth,.int .i64 group,.slice a3 pub.length k3,.slice a4 sig.length k4]) rfl (ty rfl) rfl Ey Ex rfl) q_h ⟨⟨a1,k1,a2,k2,a3,k3,a4,k4⟩,rfl,rfl⟩
end Go.Proofs.YtdnlngbjpdbffaaGreatDoor
namespace Go.Sy
open Go Instr Go.MapKept
variable {P:Program}{ro:Option Nat}{N:Nat}{w0:World}{M:Nat->Prop}{ds:List Deferred}{g:Nat->Option Value}{L:List Res}{o:Oper}{t k e:TypeId}{d:TypeDesc}{m x:Operand}
def zd5(b:Nat)(es:List MapEntry)(c:Nat):Res:=.obj b (.map es.toArray c)
theorem zrh(q:o.op= .makeMap t none:=by exact rfl):OpT P ro N w0 M ds o g L (λv r=>∃b,v= .map (some b)/\r=zd5 b [] 0::L):=
 FH (by rw[q];rfl) λa w X j=>by
  refine⟨_,_,w.alloc (.map #[] 0),zd5 w.heap.size [] 0::L,?_,.inl rfl,⟨w.heap.size,rfl,rfl⟩,j.keep.trans (Fe No w _) (λ_ h=>h.elim),j.hold.newObj j.keep.size _⟩;simp[execOp,q,Instr.makeMap]
theorem Keep.setObj(w:World)(b:Nat)(q:Obj):Keep (· =b) w { w with heap:=w.heap.setIfInBounds b q } :=
 ⟨rfl,rfl,rfl,by simp,λj _ r=>by
  show(w.heap.setIfInBounds b q)[j]?=_;rw[Bx (λh=>r h.symm)]⟩
theorem ztJ{z:Operand}{b c:Nat}{es:List MapEntry}{key v:Value}{L':List Res}(O:P.underlying t=some (.map k e))(G:P.underlying k=some d)(hk:IsKey d key)(J:findNow d key es 0=some none)(H:o.op= .mapUpdate t m x z:=by exact rfl)
  (hm:ev g m=some (.map (some b)):=by exact rfl)(hx:ev g x=some key:=by exact rfl)(hz:ev g z=some v:=by exact rfl)
  (hL:Upd L (zd5 b es c) (zd5 b (es++[MapEntry.mk key v c]) (c+1)) L':=by repeat (first|exact FX|apply FV)):OpT P ro N w0 M ds o g L (Det undef L'):=
 FH (by rw[H];rfl) λa w X j=>by
  have q:w.heap[b]?=some (.map es.toArray c):=j.hold.has (r:=zd5 b es c) (by obtain⟨A,B,e,_⟩:=hL;subst e;simp[Has]);have F:=j.hold.mine (zd5 b es c) (by obtain⟨A,B,e,_⟩:=hL;subst e;simp) b rfl;obtain⟨s1,s2⟩:=heap_set (o':=.map (es++[MapEntry.mk key v c]).toArray (c+1)) q;refine⟨_,_,{ w with heap:=w.heap.setIfInBounds b (.map (es++[MapEntry.mk key v c]).toArray (c+1)) },L',?_,.inr ⟨rfl,rfl⟩,⟨rfl,rfl⟩,zhc j.keep (Keep.setObj w b _) F,?_⟩
  ·have K:(getObj b).run P w= .ok (.map es.toArray c) w:=by simp[getObj,Sem.run,q]
   have I:(es.toArray.push (MapEntry.mk key v c))=(es++[MapEntry.mk key v c]).toArray:=by simp
   simp[execOp,H,j.agr.eval hm,j.agr.eval hx,j.agr.eval hz,Instr.mapUpdate,run_underlying O,K,run_checkKey G hk,run_findKey G J,run_setObj_map _ q,I]
  ·exact j.hold.upd hL.append (λQ E=> .inl E) s1 ((Keep.setObj w b _).mono (λx hx=>by subst hx;exact rfl))
theorem zsT{b c i:Nat}{es:List MapEntry}{key v:Value}(G:P.underlying t=some (.map k e))(q:P.underlying k=some d)(hk:IsKey d key)(E:findNow d key es 0=some (some (i,v)))(A:o.op= .lookup t m x false:=by exact rfl)
  (hm:ev g m=some (.map (some b)):=by exact rfl)(hx:ev g x=some key:=by exact rfl)(hL:Has L (zd5 b es c):=by repeat (first|exact F5|apply F8)):OpT P ro N w0 M ds o g L (Det v L):=
 F4 (by rw[A];rfl) λa w X j=>by
  have B:w.heap[b]?=some (.map es.toArray c):=j.hold.has (r:=zd5 b es c) (F1 hL);have F:(getObj b).run P w= .ok (.map es.toArray c) w:=by simp[getObj,Sem.run,B]
  simp[execOp,A,j.agr.eval hm,j.agr.eval hx,Instr.lookup,run_underlying G,F,run_checkKey q hk,run_findKey q E]
theorem zpO{b c:Nat}{es:List MapEntry}{key zv:Value}(H:P.underlying t=some (.map k e))(A:P.underlying k=some d)(hk:IsKey d key)(F:findNow d key es 0=some none)(q:∀w:World,(zeroValue e).run P w= .ok zv w)(B:o.op= .lookup t m x false:=by exact rfl)
  (hm:ev g m=some (.map (some b)):=by exact rfl)(hx:ev g x=some key:=by exact rfl)(hL:Has L (zd5 b es c):=by repeat (first|exact F5|apply F8)):OpT P ro N w0 M ds o g L (Det zv L):=
 F4 (by rw[B];rfl) λa w X j=>by
  have E:w.heap[b]?=some (.map es.toArray c):=j.hold.has (r:=zd5 b es c) (F1 hL);have G:(getObj b).run P w= .ok (.map es.toArray c) w:=by simp[getObj,Sem.run,E]
  simp[execOp,B,j.agr.eval hm,j.agr.eval hx,Instr.lookup,run_underlying H,G,run_checkKey A hk,run_findKey A F,q]
variable {y:Ty}
theorem zvJ(Z:List Value)(s n:Nat)(j:Z.length=s)(h0:0<s):madeCells Z.toArray (n*s)=(List.replicate n Z).flatten.toArray:=by
 have F:(List.replicate n Z).flatten.length=n*s:=by simp[j]
 apply Array.ext
 ·rw[size_madeCells];simp[j]
 ·intro k q H;rw[size_madeCells] at q;have w:k%s<s:=AC _ h0;have B:k/s<n:=(AZ h0).2 q;have E:k/s*s+k%s=k:=by rw[AM];exact Ad k s
  have:=zgL (f:=λ(z:List Value)=>z) (k:=s) (List.replicate n Z) (λx G=>by rw[(List.mem_replicate.1 G).2];exact j) (k/s) (k%s) w;rw[E,List.flatMap_id'] at this;simp only[madeCells,Array.getElem_map,Array.getElem_range,DR,j,List.getElem_toArray];have r:(List.replicate n Z).flatten[k]?=Z[k%s]?:=by
   rw[this,CM,if_pos B];rfl
  rw[A2 (by rw[F];exact q),A2 q_o] at r;have A:=Am r;rw[A];simp[j,w]
theorem zb3{len e:Nat}{parts:Array (Nat×Operand)}{vs C Z:List Value}{ye:Ty}(Y:FillTo (λi=>some (i*ye.size,ye.size)) (List.zip (parts.toList.map (·.1)) vs) (List.replicate len Z).flatten C)(K:o.op= .buildSlice t len parts:=by exact rfl)(hv:evs g (parts.toList.map (·.2))=some vs:=by exact rfl)(ht:zah P t=some y:=by exact ty rfl)(hy:y.desc= .slice e:=by exact rfl)(he:zah P e=some ye:=by exact ty rfl)(hz:zbd P e=some Z:=by exact zc rfl)(U:Z.length=ye.size:=by exact rfl)
  (hs:len*ye.size<=16777216:=by exact A5 rfl)(r:0<len*ye.size:=by exact A5 rfl):
  OpT P ro N w0 M ds o g L (λv O=>∃b,v= .slice (some ⟨b,0,none⟩) len len/\O= .blk b e C::L):=
 FH (by rw[K];rfl) λa w X E=>by
  obtain⟨d,i',V,a6,B,_⟩:=zX ht;rw[hy] at B;have:=zbp B;subst this;obtain⟨de,J,W,q,_,j,_⟩:=zX he;obtain⟨R,S⟩:=zbT E e C;unfold zbd at hz;rw[q] at hz;simp only[Ac,Ab] at hz;obtain⟨F,I,G⟩:=hz;have H:F.cells=Z.toArray:=B9.1 (by rw[G]);have hp:((parts.map λ(i,x)=>(i,a.eval x)).toList)=List.zip (parts.toList.map (·.1)) vs:=by
   have:=E.agr.evals hv;rw[<-this,Bj,CY];generalize parts.toList=l
   induction l with
   |nil=>rfl
   |cons p l ih=>simp only[Au,DG,ih];rfl
  have hm:madeCells F.cells (len*J.size)=(List.replicate len Z).flatten.toArray:=by
   rw[H,j];exact zvJ Z _ len U (Nat.pos_of_mul_pos_left r)
  have A:=run_buildSlice (P:=P) w t e len (parts.map λ(i,x)=>(i,a.eval x)) C.toArray J F V q I (by rw[j];omega) (by rw[j];omega) (by
   rw[hp];have T:=zjK Y;have Q:(Array.range (len*J.size)).map (F.cells[· % F.cells.size]!)=(List.replicate len Z).flatten.toArray:=hm;rw[Q,j];exact T)
  refine⟨_,_,w.alloc (.cells C.toArray e),_,?_,.inl rfl,⟨w.heap.size,rfl,rfl⟩,R,S⟩;simp[execOp,K,A]
theorem zeL{s:Nat}{C D:List Value}(hC:C.length=s)(j:D.length=s):FillTo (λi=>some (i*s,s)) [(0,.agg C.toArray)] D C:=by
 refine .cons (cs:=C) (off:=0*s) (n:=s) rfl rfl hC (by rw[BF];omega) ?_;rw[BF,zir q_o];exact .nil
theorem zuJ{s:Nat}{C C' D:List Value}(hC:C.length=s)(j:C'.length=s)(q:D.length=2*s):FillTo (λi=>some (i*s,s)) [(0,.agg C.toArray),(1,.agg C'.toArray)] D (C++C'):=by
 refine .cons (cs:=C) (off:=0*s) (n:=s) rfl rfl hC q_o ?_;refine .cons (cs:=C') (off:=1*s) (n:=s) rfl rfl j (by unfold zaK;simp;omega) ?_;have:zaK (zaK D (0*s) C) (1*s) C'=C++C':=by
  unfold zaK;rw[BF,Bu,By,Ag,Dj hC,AI,Ba (by simp;omega),AJ]
 rw[this];exact .nil
def zb7:List Int->Nat->List MapEntry
 | [],_=>[]
 |z::r,i=>⟨.int .i64 z,.bool true,i⟩::zb7 r (i+1)
theorem zmt(z:Int):∀(l:List Int) (i:Nat),zb7 (l++[z]) i=zb7 l i++[⟨.int .i64 z,.bool true,i+l.length⟩]
 | [],i=>rfl
 |y::l,i=>by
  rw[Ae,zb7,zmt z l (i+1),zb7,AQ,show i+(l.length+1)=i+1+l.length by omega];rfl
theorem zgf(z:Int):∀(l:List Int) (i j:Nat),(z∉l->findNow (.int .i64) (.int .i64 z) (zb7 l i) j=some none)/\(z∈l->∃m,findNow (.int .i64) (.int .i64 z) (zb7 l i) j=some (some (j+m,.bool true))/\(zb7 l i)[m]?=some ⟨.int .i64 z,.bool true,i+m⟩)
 | [],i,j=>⟨λ_=>rfl,λh=>by cases h⟩
 |y::l,i,j=>by
  have A:=zgf z l (i+1) (j+1);have r:sameNow (.int .i64) (.int .i64 z) (.int .i64 y)=some (decide (z=y)):=by simp[sameNow];rfl
  by_cases h:z=y
  ·subst h;refine⟨λw=>absurd A3 w,λ_=>⟨0,?_,rfl⟩⟩;rw[zb7,findNow,r,decide_eq_true rfl];rfl
  ·rw[decide_eq_false h] at r;refine⟨λw=>?_,λF=>?_⟩
   ·rw[zb7,findNow,r];exact A.1 (λq=>w (A1 _ q))
   ·rcases AV.1 F with q|q
    ·exact absurd q h
    ·obtain⟨m,B,E⟩:=A.2 q;refine⟨m+1,?_,?_⟩
     ·rw[zb7,findNow,r,show j+(m+1)=j+1+m by omega];exact B
     ·rw[zb7,BA,E,show i+(m+1)=i+1+m by omega]
theorem ztH{z:Operand}{b:Nat}{l:List Int}{u:Int}{L':List Res}(T:P.underlying t=some (.map k e))(R:P.underlying k=some (.int .i64))(S:o.op= .mapUpdate t m x z:=by exact rfl)
  (hm:ev g m=some (.map (some b)):=by exact rfl)(hx:ev g x=some (.int .i64 u):=by exact rfl)(hz:ev g z=some (.bool true):=by exact rfl)
  (hL:Upd L (zd5 b (zb7 l 0) l.length) (zd5 b (zb7 (if u∈l then l else l++[u]) 0) (if u∈l then l else l++[u]).length) L':=by repeat (first|exact FX|apply FV)):OpT P ro N w0 M ds o g L (Det undef L'):=by
 by_cases hu:u∈l
 ·rw[if_pos hu] at hL;refine FH (by rw[S];rfl) λa w X F=>?_;have O:w.heap[b]?=some (.map (zb7 l 0).toArray l.length):=F.hold.has (r:=zd5 b (zb7 l 0) l.length) (by obtain⟨A,B,e,_⟩:=hL;subst e;simp[Has]);have Q:L'=L:=by obtain⟨A,B,U,V⟩:=hL;rw[U,V]
  subst Q;obtain⟨i,J,K⟩:=(zgf u l 0 0).2 hu;rw[Aa] at J K;have W:(getObj b).run P w= .ok (.map (zb7 l 0).toArray l.length) w:=by simp[getObj,Sem.run,O]
  have H:((zb7 l 0).toArray.modify i λe=> { e with key:=.int .i64 u,val:=.bool true })=(zb7 l 0).toArray:=by
   apply Array.ext_getElem?;intro j;rw[DV];split
   ·rename_i h;subst h;rw[BJ,K];rfl
   ·rfl
  have E:((zb7 l 0).modify i λe=> { e with key:=.int .i64 u,val:=.bool true })=zb7 l 0:=by
   have:=congrArg Array.toList H;simpa using this
  have I:w.heap.setIfInBounds b (.map (zb7 l 0).toArray l.length)=w.heap:=by
   apply Array.ext_getElem?;intro j;by_cases h:b=j
   ·subst h;rw[O];exact(heap_set O).1
   ·rw[Bx h]
  refine⟨_,_,w,L',?_,.inr ⟨rfl,rfl⟩,⟨rfl,rfl⟩,F.keep,F.hold⟩;have G:((zb7 l 0).toArray[i]?.map (·.key)).getD (.int .i64 u)= .int .i64 u:=by rw[BJ,K];rfl
  have q:sameBits 10000 (.int .i64 u) (.int .i64 u)=true:=by simp[sameBits]
  simp[execOp,S,F.agr.eval hm,F.agr.eval hx,F.agr.eval hz,Instr.mapUpdate,run_underlying T,W,run_checkKey R (show IsKey (.int .i64) (.int .i64 u) from rfl),run_findKey R J,G,keyThatStays,q,run_setObj_map _ O,E,I,K]
 ·rw[if_neg hu] at hL;have J:=(zgf u l 0 0).1 hu;have e:zb7 (l++[u]) 0=zb7 l 0++[MapEntry.mk (.int .i64 u) (.bool true) l.length]:=by rw[zmt,Aa]
  rw[e,A4] at hL;exact ztJ T R (show IsKey (.int .i64) (.int .i64 u) from rfl) J S hm hx hz hL
theorem zsY{b:Nat}{l:List Int}{u:Int}(A:P.underlying t=some (.map k e))(q:P.underlying k=some (.int .i64))(j:∀w:World,(zeroValue e).run P w= .ok (.bool false) w)(r:o.op= .lookup t m x false:=by exact rfl)
  (hm:ev g m=some (.map (some b)):=by exact rfl)(hx:ev g x=some (.int .i64 u):=by exact rfl)(hL:Has L (zd5 b (zb7 l 0) l.length):=by repeat (first|exact F5|apply F8)):OpT P ro N w0 M ds o g L (Det (.bool (decide (u∈l))) L):=by
 by_cases hu:u∈l
 ·obtain⟨i,B,_⟩:=(zgf u l 0 0).2 hu;rw[decide_eq_true hu];exact zsT A q (show IsKey (.int .i64) (.int .i64 u) from rfl) B r hm hx hL
 ·rw[decide_eq_false hu];exact zpO A q (show IsKey (.int .i64) (.int .i64 u) from rfl) ((zgf u l 0 0).1 hu) j r hm hx hL
end Go.Sy
