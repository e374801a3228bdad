/- Certificates, the specification walked: principals, bodies, encodings. -/
import Derived.Test.YtdnlngbjpdbffaaGreatDoorLJ40
import Derived.Test.YtdnlngbjpdbffaaGreatDoorLJ36
set_option maxHeartbeats 4000000
set_option maxRecDepth 10000
set_option linter.all false
section
namespace Go.Proofs.YtdnlngbjpdbffaaGreatDoor
open Go Go.Sy Go.Ct Go.Nt Go.RowKit
attribute [local irreducible] Sy SyL SyX SyC SyF Sy.Fn callFunc
theorem zjT (b m:Nat) (xs:List Bs) (w:World) (hm:xs.length=m) (hmb:m < 1000) (h:w.rangeAt b 0 (xs.map Bs.val)) (hok: ∀s∈xs,s.ok w) (hb:(Bs.cat xs).length < 16777216) (D:List UInt8) (hD:D=tlv 0x30 (Bs.cat xs)):
  Sy.Fn Tryz.prog 42 [.slice (some ⟨b,0,none⟩) m m] w No (BytR D):=zlm (some ⟨b,0,none⟩) m m xs D w hm hmb (Nat.le_refl _) (.inr ⟨b,0,rfl,h⟩) hok hb hD
theorem zj0 (C:List Value) (p:Prin) (w:World) (h:PrinIn w C p) (hok:p.ok=true):Sy.Fn Tryz.prog 80 [.agg C.toArray] w No (BytR p.der):=by
 obtain ⟨hp4,hp32,hr32⟩:=Prin.ok_parts hok;obtain ⟨⟨a1,c1,rfl,n1,m1,s1,z1⟩,-⟩:=h;refine zg Tryz.func80 rfl Tryz.ntmps80 q_p Holds.nil ?_;have hstr:=λx (hx:x∈p.parts) w'=>zlr x w' (by have:=hp32 x hx;omega);have hstr2:=λw'=>zlr p.realm w' q_o;have hsl:=Prin.strs_len hok;have hdl:=Prin.der_len hok;have hder:p.der=tlv 0x30 (derG 0 (tlv 0x30 (p.parts.map derS).flatten) ++ derG 1 (derS p.realm)):=by simp [Prin.der,derQ]
 have hrl:=ziY hr32;unfold strV at *;generalize p.der=D at *;obtain ⟨parts,realm⟩:=p;dsimp only at *;generalize hn:parts.length=n at *;repeat' (first|refine s_t ?_|(refine zb 0 ?_;refine zO ?_;intro _)|(refine zB [1,2] ?_;refine za ?_))
 rename_i b1;refine zaR (zaE 23 1) ?_;refine zy (γ:=Nat×List Bs×Option Addr×Nat) (λg=>[(1,.pointer (some ⟨b1,0,none⟩)),(4,.int .i64 (g.1:Int)),(3,.slice g.2.2.1 g.2.1.length g.2.2.2)])
  (λg=> .row (.slice g.2.2.1 g.2.1.length g.2.2.2) 23 1 g.2.1.length (g.2.1.reverse.map Bs.val):: .blk b1 43 [.slice a1 n c1,.string (str realm)]::rowsRes 5 g.2.1)
  (λg=>g.1<=n/\g.2.1.reverse.map (·.l)=(parts.take g.1).map derS/\ ∀s∈g.2.1,s.l.length=s.n) (λg=>n - g.1) (0,[],none,0) ⟨Nat.zero_le _,rfl,λs hs=>by cases hs⟩ ?_ ?_ ?_
 ·exact q_h
 ·exact q_h
 rintro ⟨i,xs,aP,cP⟩ ⟨hi,hxs,hxl⟩;dsimp only at hi hxs hxl ⊢;have hxn:xs.length=i:=by have:=congrArg List.length hxs;simp at this;omega
 by_cases hlt:i < n
 ·obtain ⟨bl,ol,rfl,hcell⟩:=zcg s1 (i:=i) (by rw [List.length_map];omega);have hc:=hcell i _ (zbW _ q_o);have g1:decide ((i:Int) < (n:Int))=true:=q_d;have g5:IntKind.i64.wrap ((i:Int)+1)=((i+1:Nat):Int):=q_w;have htk:parts.take (i+1)=parts.take i ++ [parts[i]]:=zac q_o;have hin:parts[i]∈parts:=List.getElem_mem q_o;have hx:=hstr parts[i] hin;generalize parts[i]=x at *;repeat' (first|refine s_t ?_|(refine zb 3 (za ?_);refine zm ?_;refine za ?_;refine yv (zn (hr:=g1)) (k:=?_))|(refine zb 5 (za ?_);refine zm ?_;refine za ?_;refine yv (zG (j:=i)) (k:=?_);refine yv (zl (hv:=hc)) (k:=?_);(refine ys (zh (f:=170) (hc:=λw' X hk hh=>hx w')) (k:=?_);rintro _ _ ⟨R,rfl,aX,cX,rfl,rfl⟩);(refine ys zt (k:=?_);rintro _ _ ⟨_,rfl,rfl⟩);(refine ys (z9 (hys:=zk7 xs ⟨aX,(derS x).length,cX,derS x⟩) (hkm:=rfl)) (k:=?_);rintro _ _ ⟨rfl,aN,cN,rfl⟩);refine za ?_))
  refine Sy.weaken (fr':=[(1,.pointer (some ⟨b1,0,none⟩)),(4,.int .i64 (i:Int)),(3,.slice aN (xs.length+1) cN)]) (L':=.row (.slice aN (xs.length+1) cN) 23 1 (xs.length+1) ((⟨aX,(derS x).length,cX,derS x⟩::xs).reverse.map Bs.val):: .blk b1 43 [.slice (some ⟨bl,ol,none⟩) n c1,.string (str realm)]::rowsRes 5 (⟨aX,(derS x).length,cX,derS x⟩::xs)) ?_ q_h ?_;rotate_left
  ·show SubR (_::_::rowRes 5 ⟨aX,(derS x).length,cX,derS x⟩::rowsRes 5 xs) _
   (repeat' (first|exact SubR.nil|(apply SubR.same;with_reducible (focus ((repeat (first|exact Rem.here|apply Rem.there));done)))|(apply SubR.blk;(focus ((repeat (first|exact Rem.here|apply Rem.there));done)))|(apply SubR.same;(focus ((repeat (first|exact Rem.here|apply Rem.there));done)))|(apply SubR.pick;(focus ((repeat (first|exact Rem.here|apply Rem.there));done)))|rfl))
   all_goals exact SubR.skip SubR.refl
  repeat' (first|refine zae ?_|refine zZ ?_|(refine zb 4 (za ?_);refine yv (zu (hr:=g5)) (k:=za ?_)))
  refine zq (i+1,⟨aX,(derS x).length,cX,derS x⟩::xs,aN,cN) ⟨hlt,?_,?_⟩ ?_ ?_ ?_
  ·show ((⟨aX,(derS x).length,cX,derS x⟩::xs).reverse).map (·.l)=_;rw [zpE,hxs,htk,List.map_append];rfl
  ·intro s hs;rcases List.mem_cons.1 hs with rfl|hs
   ·rfl
   ·exact hxl s hs
  ·show n - (i+1) < n - i;omega
  ·exact q_h
  ·exact SubR.refl
 obtain rfl:i=n:=q_o;rw [List.take_of_length_le q_o] at hxs;have hcat:Bs.cat xs.reverse=(parts.map derS).flatten:=by rw [zlh,hxs]
 have g1:decide ((i:Int) < (i:Int))=false:=q_f;rw [<-hcat] at hsl hder;have hQ:=(zV 0x30 (Bs.cat xs.reverse)).2;have hG0:=(zV 0xa0 (tlv 0x30 (Bs.cat xs.reverse))).2;have hG1:=(zV 0xa1 (derS realm)).2;repeat' (first|refine s_0 ?_|(refine zb 3 (za ?_);refine zm ?_;refine za ?_;refine yv (zn (hr:=g1)) (k:=?_)))
 rw [hxn]
 (refine zbU (id:=6) [0,3,4] [1,2,5,6,7,8,9] mixed ?_ ?_;kernel_rfl;refine yfv zbK (k:=?_);refine yfv zS (k:=?_);refine yfv zC (k:=?_);refine yf0 ?_;try refine yc0 (k:=?_))
 refine ycs (zh (f:=42) (hc:=λw' X hk hh=>zlm aP i cP xs.reverse _ w' (by rw [List.length_reverse];exact hxn) q_o (Row.cap hh q_h) ((SlF.row (Mi:=No) hh q_h (λ_ h=>h.elim)).sla) (λs hs=>zlz (E:=5) hh hxl (λr hr=>List.mem_append_left _ (List.mem_cons_of_mem _ (List.mem_cons_of_mem _ hr))) s (List.mem_reverse.1 hs)) q_o rfl)) (k:=?_);rintro _ _ ⟨R,rfl,aS,cS,rfl,rfl⟩;generalize hQe:tlv 0x30 (Bs.cat xs.reverse)=Q at *;have hQp:0 < Q.length:=by rw [<-hQe];exact zaS
 have hSp:0 < (derS realm).length:=zaS;refine ycs (zh (f:=77) (hc:=λw' X hk hh=>zb0 0 aS Q.length cS Q _ w' q_e (rowBs hh rfl q_h) hQp q_o rfl)) (k:=?_);rintro _ _ ⟨R,rfl,aT,cT,rfl,rfl⟩;refine ycs (zh (f:=170) (hc:=λw' X hk hh=>hstr2 w')) (k:=?_);rintro _ _ ⟨R,rfl,aU,cU,rfl,rfl⟩;generalize derS realm=U at *;refine ycs (zh (f:=77) (hc:=λw' X hk hh=>zb0 1 aU U.length cU U _ w' q_e (rowBs hh rfl q_h) hSp q_o rfl)) (k:=?_);rintro _ _ ⟨R,rfl,aV,cV,rfl,rfl⟩;refine ycs zt (k:=?_);rintro _ _ ⟨bL,rfl,rfl⟩;have hGa:(derG 0 Q).length<=300:=by show (tlv 160 Q).length<=300;omega
 have hGb:(derG 1 U).length<=300:=by show (tlv 161 U).length<=300;omega
 generalize derG 0 Q=G0 at *;generalize derG 1 U=G1 at *;refine ycs (zh (f:=42) (hc:=λw' X hk hh=>zjT bL 2 [⟨aT,G0.length,cT,G0⟩,⟨aV,G1.length,cV,G1⟩] w' rfl q_e (zp (hh.has q_h) Seg.all) (λs hs=>by
  simp only [List.mem_cons,List.not_mem_nil,or_false] at hs;rcases hs with rfl|rfl
  ·exact rowBs hh rfl q_h
  ·exact rowBs hh rfl q_h) (by rw [show Bs.cat [⟨aT,G0.length,cT,G0⟩,⟨aV,G1.length,cV,G1⟩]=G0 ++ G1 by simp [Bs.cat],List.length_append];omega) D (by rw [hder];simp [Bs.cat]))) (k:=?_)
 rintro _ _ ⟨R,rfl,aW,cW,rfl,rfl⟩;refine ycv za9 (k:=?_);refine yc0 (k:=?_);repeat' (first|refine s_0 ?_|fail)
 exact ret1 rfl (resTmp rfl) (SubR.pick Rem.here rfl SubR.nil) ⟨_,_,rfl,rfl⟩
theorem zj5 (p:Pl) (c:Cert) (w:World) (h:CertAt w p c) (hs:c.small):Sy.Fn Tryz.prog 37 [.agg (certL p c).toArray] w No (BytR c.body):=by
 refine zg Tryz.func37 rfl Tryz.ntmps37 q_p Holds.nil ?_;have h0:=λw'=>zmP c.serial w' hs.s0 hs.s1;have h1:=λw' (hk:Keep No w w')=>zj0 _ _ w' (h.iss.keep hk) hs.iss;have h2:=λw' (hk:Keep No w w')=>zj0 _ _ w' (h.sub.keep hk) hs.sub;have h3:=λw'=>zkb c.fr w' hs.f0 hs.f1;have h4:=λw'=>zkb c.til w' hs.t0 hs.t1;have h5:=λw'=>zpk c.auth w';have h6:=λw'=>zjm c.group w' hs.g0 hs.g1;have hpub:=hs.pub;have h7:=λw' (hk:Keep No w w')=>zpQ p.a3 c.pub.length p.k3 c.pub w' (h.pub.keep hk) q_o;have p0:0 < (derI c.serial.toNat).length:=zaS;have p1:=Prin.der_pos c.issuer;have p2:=Prin.der_pos c.subject;have p3:0 < (derT c.fr.toNat).length:=zaS;have p4:0 < (derT c.til.toNat).length:=zaS;have p5:0 < (derB c.auth).length:=zaS;have p6:0 < (derI c.group.toNat).length:=zaS;have p7:0 < (derO c.pub).length:=zaS;have m0:=(zcW (v:=c.serial.toNat) (by have:=hs.s1;omega)).2;have m1:=Prin.der_len hs.iss;have m2:=Prin.der_len hs.sub;have m3:(derT c.fr.toNat).length<=11:=zbr (by rw [zbg];decide);have m4:(derT c.til.toNat).length<=11:=zbr (by rw [zbg];decide);have m5:(derB c.auth).length<=6:=zbr (Nat.le_refl 1);have m6:=(zcW (v:=c.group.toNat) (by have:=hs.g1;omega)).2;have m7:(derO c.pub).length<=c.pub.length+5:=zbr (Nat.le_refl _);obtain ⟨G0,e0⟩: ∃G,G=derG 0 (derI c.serial.toNat):=⟨_,rfl⟩;obtain ⟨G1,e1⟩: ∃G,G=derG 1 (c.issuer.der):=⟨_,rfl⟩;obtain ⟨G2,e2⟩: ∃G,G=derG 2 (c.subject.der):=⟨_,rfl⟩;obtain ⟨G3,e3⟩: ∃G,G=derG 3 (derT c.fr.toNat):=⟨_,rfl⟩;obtain ⟨G4,e4⟩: ∃G,G=derG 4 (derT c.til.toNat):=⟨_,rfl⟩;obtain ⟨G5,e5⟩: ∃G,G=derG 5 (derB c.auth):=⟨_,rfl⟩;obtain ⟨G6,e6⟩: ∃G,G=derG 6 (derI c.group.toNat):=⟨_,rfl⟩;obtain ⟨G7,e7⟩: ∃G,G=derG 7 (derO c.pub):=⟨_,rfl⟩;have hbody:c.body=tlv 0x30 (G0 ++ (G1 ++ (G2 ++ (G3 ++ (G4 ++ (G5 ++ (G6 ++ G7))))))):=by rw [e0,e1,e2,e3,e4,e5,e6,e7];simp [Cert.body,derQ]
 generalize c.body=BD at *;unfold certL prinL at *;clear h hs;obtain ⟨serial,iss,sub,fr,til,auth,group,pub,sig⟩:=c;dsimp only at *;generalize derI serial.toNat=D0 at *;generalize iss.der=D1 at *;generalize sub.der=D2 at *;generalize derT fr.toNat=D3 at *;generalize derT til.toNat=D4 at *;generalize derB auth=D5 at *;generalize derI group.toNat=D6 at *;generalize derO pub=D7 at *;have l0:G0.length<=D0.length+5:=by rw [e0];exact (zV (0xa0+0) D0).2
 have l1:G1.length<=D1.length+5:=by rw [e1];exact (zV (0xa0+1) D1).2
 have l2:G2.length<=D2.length+5:=by rw [e2];exact (zV (0xa0+2) D2).2
 have l3:G3.length<=D3.length+5:=by rw [e3];exact (zV (0xa0+3) D3).2
 have l4:G4.length<=D4.length+5:=by rw [e4];exact (zV (0xa0+4) D4).2
 have l5:G5.length<=D5.length+5:=by rw [e5];exact (zV (0xa0+5) D5).2
 have l6:G6.length<=D6.length+5:=by rw [e6];exact (zV (0xa0+6) D6).2
 have l7:G7.length<=D7.length+5:=by rw [e7];exact (zV (0xa0+7) D7).2
 repeat' (first|refine s_0 ?_|(refine zb 0 ?_;refine zO ?_;intro _))
 (refine zbU (id:=1) [0,1,4,5,8,9,12,13,16,17,20,21,24,25,28,29] [2,3,6,7,10,11,14,15,18,19,22,23,26,27,30,31,32,33,34] mixed ?_ ?_;kernel_rfl;refine yfv zS (k:=?_);refine yfv zC (k:=?_);refine yfv zS (k:=?_);refine yfv (zf (B:=[.slice p.a1 iss.parts.length p.k1,strV iss.realm]) (hv:=Seg.at rfl)) (k:=?_);refine yfv zS (k:=?_);refine yfv (zf (B:=[.slice p.a2 sub.parts.length p.k2,strV sub.realm]) (hv:=Seg.at rfl)) (k:=?_);refine yfv zS (k:=?_);refine yfv zC (k:=?_);refine yfv zS (k:=?_);refine yfv zC (k:=?_);refine yfv zS (k:=?_);refine yfv zC (k:=?_);refine yfv zS (k:=?_);refine yfv zC (k:=?_);refine yfv zS (k:=?_);refine yfv zC (k:=?_);refine yf0 ?_;try refine yc0 (k:=?_))
 refine ycs (zh (f:=79) (hc:=λw' X hk hh=>h0 w')) (k:=?_);rintro _ _ ⟨R,rfl,a0,c0,rfl,rfl⟩;refine ycs (zh (f:=77) (hc:=λw' X hk hh=>zb0 0 a0 D0.length c0 D0 G0 w' q_e (rowBs hh rfl q_h) p0 q_o e0)) (k:=?_);rintro _ _ ⟨R,rfl,b0,d0,rfl,rfl⟩;refine ycs (zh (f:=80) (hc:=zr h1)) (k:=?_);rintro _ _ ⟨R,rfl,a1,c1,rfl,rfl⟩;refine ycs (zh (f:=77) (hc:=λw' X hk hh=>zb0 1 a1 D1.length c1 D1 G1 w' q_e (rowBs hh rfl q_h) p1 q_o e1)) (k:=?_);rintro _ _ ⟨R,rfl,b1,d1,rfl,rfl⟩;refine ycs (zh (f:=80) (hc:=zr h2)) (k:=?_);rintro _ _ ⟨R,rfl,a2,c2,rfl,rfl⟩;refine ycs (zh (f:=77) (hc:=λw' X hk hh=>zb0 2 a2 D2.length c2 D2 G2 w' q_e (rowBs hh rfl q_h) p2 q_o e2)) (k:=?_);rintro _ _ ⟨R,rfl,b2,d2,rfl,rfl⟩;refine ycs (zh (f:=81) (hc:=λw' X hk hh=>h3 w')) (k:=?_);rintro _ _ ⟨R,rfl,a3,c3,rfl,rfl⟩;refine ycs (zh (f:=77) (hc:=λw' X hk hh=>zb0 3 a3 D3.length c3 D3 G3 w' q_e (rowBs hh rfl q_h) p3 q_o e3)) (k:=?_);rintro _ _ ⟨R,rfl,b3,d3,rfl,rfl⟩;refine ycs (zh (f:=81) (hc:=λw' X hk hh=>h4 w')) (k:=?_);rintro _ _ ⟨R,rfl,a4,c4,rfl,rfl⟩;refine ycs (zh (f:=77) (hc:=λw' X hk hh=>zb0 4 a4 D4.length c4 D4 G4 w' q_e (rowBs hh rfl q_h) p4 q_o e4)) (k:=?_);rintro _ _ ⟨R,rfl,b4,d4,rfl,rfl⟩;refine ycs (zh (f:=82) (hc:=λw' X hk hh=>h5 w')) (k:=?_);rintro _ _ ⟨R,rfl,a5,c5,rfl,rfl⟩;refine ycs (zh (f:=77) (hc:=λw' X hk hh=>zb0 5 a5 D5.length c5 D5 G5 w' q_e (rowBs hh rfl q_h) p5 q_o e5)) (k:=?_);rintro _ _ ⟨R,rfl,b5,d5,rfl,rfl⟩;refine ycs (zh (f:=83) (hc:=λw' X hk hh=>h6 w')) (k:=?_);rintro _ _ ⟨R,rfl,a6,c6,rfl,rfl⟩;refine ycs (zh (f:=77) (hc:=λw' X hk hh=>zb0 6 a6 D6.length c6 D6 G6 w' q_e (rowBs hh rfl q_h) p6 q_o e6)) (k:=?_);rintro _ _ ⟨R,rfl,b6,d6,rfl,rfl⟩;refine ycs (zh (f:=78) (hc:=zr h7)) (k:=?_);rintro _ _ ⟨R,rfl,a7,c7,rfl,rfl⟩;refine ycs (zh (f:=77) (hc:=λw' X hk hh=>zb0 7 a7 D7.length c7 D7 G7 w' q_e (rowBs hh rfl q_h) p7 q_o e7)) (k:=?_);rintro _ _ ⟨R,rfl,b7,d7,rfl,rfl⟩;refine ycs zt (k:=?_);rintro _ _ ⟨bL,rfl,rfl⟩;refine ycs (zh (f:=42) (hc:=λw' X hk hh=>zjT bL 8 [⟨b0,G0.length,d0,G0⟩,⟨b1,G1.length,d1,G1⟩,⟨b2,G2.length,d2,G2⟩,⟨b3,G3.length,d3,G3⟩,⟨b4,G4.length,d4,G4⟩,⟨b5,G5.length,d5,G5⟩,⟨b6,G6.length,d6,G6⟩,⟨b7,G7.length,d7,G7⟩] w' rfl q_e (zp (hh.has q_h) Seg.all) (λs hs=>by
   simp only [List.mem_cons,List.not_mem_nil,or_false] at hs;rcases hs with rfl|rfl|rfl|rfl|rfl|rfl|rfl|rfl
   ·exact rowBs hh rfl q_h
   ·exact rowBs hh rfl q_h
   ·exact rowBs hh rfl q_h
   ·exact rowBs hh rfl q_h
   ·exact rowBs hh rfl q_h
   ·exact rowBs hh rfl q_h
   ·exact rowBs hh rfl q_h
   ·exact rowBs hh rfl q_h) (by rw [show Bs.cat [⟨b0,G0.length,d0,G0⟩,⟨b1,G1.length,d1,G1⟩,⟨b2,G2.length,d2,G2⟩,⟨b3,G3.length,d3,G3⟩,⟨b4,G4.length,d4,G4⟩,⟨b5,G5.length,d5,G5⟩,⟨b6,G6.length,d6,G6⟩,⟨b7,G7.length,d7,G7⟩]=G0 ++ (G1 ++ (G2 ++ (G3 ++ (G4 ++ (G5 ++ (G6 ++ G7)))))) by simp [Bs.cat]];simp only [List.length_append];omega) BD (by rw [hbody];simp [Bs.cat]))) (k:=?_)
 rintro _ _ ⟨R,rfl,aW,cW,rfl,rfl⟩;refine ycv za9 (k:=?_);refine yc0 (k:=?_);repeat' (first|refine s_0 ?_|fail)
 exact ret1 rfl (resTmp rfl) (SubR.pick Rem.here rfl SubR.nil) ⟨_,_,rfl,rfl⟩
end Go.Proofs.YtdnlngbjpdbffaaGreatDoor
end
section
namespace Go.Ct
theorem zkF (s:List UInt8) (h:1<=s.length) (hg:rgood true s=true):realmOk s=decide (s.length<=32):=by
 unfold realmOk;rw [hg,decide_eq_true h];simp
end Go.Ct
namespace Go.Proofs.YtdnlngbjpdbffaaGreatDoor
open Go Go.Sy Go.Ct Go.Nt Go.RowKit
attribute [local irreducible] Sy SyL SyX SyC SyF Sy.Fn callFunc
theorem zqG (l:List UInt8) (w:World) (hl:l.length < 1000000000):Sy.Fn Tryz.prog 163 [strV l] w No (Gives (.bool (l.all visC))):=by
 refine zg Tryz.func163 rfl Tryz.ntmps163 q_p Holds.nil ?_;unfold strV;repeat' (first|refine s_t ?_|(refine zB [0,1] ?_;refine za ?_))
 refine zy (γ:=Nat) (λi=>[(0,.string (str l)),(3,.int .i64 (i:Int))]) (λ_=>[]) (λi=>i<=l.length/\(l.take i).all visC=true) (λi=>l.length - i) 0 ⟨Nat.zero_le _,rfl⟩ ?_ ?_ ?_
 ·exact q_h
 ·exact q_h
 rintro i ⟨hi,hal⟩;by_cases hlt:i < l.length
 ·have g1:decide ((i:Int) < (l.length:Int))=true:=q_d;have g5:IntKind.i64.wrap ((i:Int)+1)=((i+1:Nat):Int):=q_w;have hv:(str l).data[i]?=some l[i]:=by show l.toArray[i]?=_;rw [List.getElem?_toArray,List.getElem?_eq_getElem hlt]
  have htk:l.take (i+1)=l.take i ++ [l[i]]:=zac hlt;have hin:l[i]∈l:=List.getElem_mem hlt;generalize l[i]=x at *;have hc:x.toNat < 33\/(33<=x.toNat/\126 < x.toNat)\/(33<=x.toNat/\x.toNat<=126):=q_o;have hbad: ¬(33<=x.toNat/\x.toNat<=126)->l.all visC=false:=λh=>by
   rw [List.all_eq_false];exact ⟨x,hin,by simp only [visC,Bool.and_eq_true,decide_eq_true_eq];exact h⟩
  rcases hc with h|⟨h,h'⟩|⟨h,h'⟩
  ·rw [hbad q_o];repeat' (first|refine s_t ?_|(refine zb 2 (za ?_);refine yv (zn (hr:=g1)) (k:=?_))|(refine zb 4 (za ?_);refine yv (zF (j:=i) (hv:=hv)) (k:=?_);refine zL ?_;refine za ?_)|(refine zb 5 (za ?_)))
   exact q_r
  ·rw [hbad q_o];repeat' (first|refine s_t ?_|(refine zb 2 (za ?_);refine yv (zn (hr:=g1)) (k:=?_))|(refine zb 4 (za ?_);refine yv (zF (j:=i) (hv:=hv)) (k:=?_);refine zL ?_;refine za ?_;refine yv (zF (j:=i) (hv:=hv)) (k:=?_);refine zak ?_;refine za ?_)|(refine zb 5 (za ?_)))
   exact q_r
  ·repeat' (first|refine s_t ?_|(refine zb 2 (za ?_);refine yv (zn (hr:=g1)) (k:=?_))|(refine zb 4 (za ?_);refine yv (zF (j:=i) (hv:=hv)) (k:=?_);refine zL ?_;refine za ?_;refine yv (zF (j:=i) (hv:=hv)) (k:=?_);refine zak ?_;refine za ?_)|(refine zb 3 (za ?_);refine yv (zu (hr:=g5)) (k:=za ?_)))
   refine zq (i+1) ⟨hlt,?_⟩ ?_ ?_ ?_
   ·rw [htk,List.all_append,hal];simp only [List.all_cons,List.all_nil,visC,decide_eq_true h,decide_eq_true h',Bool.true_and]
   ·show l.length - (i+1) < l.length - i;omega
   ·exact q_h
   ·exact q_h
 obtain rfl:i=l.length:=q_o;rw [List.take_of_length_le (Nat.le_refl _)] at hal;have g1:decide ((l.length:Int) < (l.length:Int))=false:=q_f;rw [hal];repeat' (first|refine s_0 ?_|(refine zb 2 (za ?_);refine yv (zn (hr:=g1)) (k:=?_))|(refine zb 6 (za ?_)))
 exact q_r
def preP (l:List UInt8) (i:Nat):Bool:=decide (i=0) || decide (l[i - 1]?=some 46)
theorem znN (l:List UInt8) (w:World) (hl:l.length < 1000000000):Sy.Fn Tryz.prog 164 [strV l] w No (Gives (.bool (realmOk l))):=by
 refine zg Tryz.func164 rfl Tryz.ntmps164 q_p Holds.nil ?_;unfold strV;repeat' (first|refine s_t ?_|(refine zB [0,1] ?_;refine za ?_))
 refine zy (γ:=Nat) (λi=>[(0,.string (str l)),(3,.int .i64 (i:Int))]) (λ_=>[]) (λi=>i<=l.length/\rgood true l=rgood (preP l i) (l.drop i)/\(i=l.length->0 < l.length->preP l i=false)) (λi=>l.length - i) 0 ⟨Nat.zero_le _,rfl,λh1 h2=>by omega⟩ ?_ ?_ ?_
 ·exact q_h
 ·exact q_h
 rintro i ⟨hi,hrg,hend⟩;by_cases hlt:i < l.length
 ·have g1:decide ((i:Int) < (l.length:Int))=true:=q_d;have g5:IntKind.i64.wrap ((i:Int)+1)=((i+1:Nat):Int):=q_w;have g6:IntKind.i64.wrap ((l.length:Int) - 1)=(l.length:Int) - 1:=IntWalk.i64_in _ q_o;have hv:(str l).data[i]?=some l[i]:=by show l.toArray[i]?=_;rw [List.getElem?_toArray,List.getElem?_eq_getElem hlt]
  have hdr:l.drop i=l[i]::l.drop (i+1):=List.drop_eq_getElem_cons hlt;have hpre: ∀c,l[i]=c->preP l (i+1)=decide (c=46):=λc hc=>by
   unfold preP;rw [show i+1 - 1=i by omega,List.getElem?_eq_getElem hlt,hc];simp
  have hfalse:rgood (preP l i) (l.drop i)=false->realmOk l=false:=λh=>by
   unfold realmOk;rw [hrg,h,Bool.and_false]
  rw [hdr,rgood] at hrg hfalse;generalize hx:l[i]=x at *;have hpre:=hpre x rfl;by_cases h46:x=46
  ·subst h46;rw [if_pos rfl] at hrg hfalse;rw [decide_eq_true rfl] at hpre;by_cases h0:i=0
   ·subst h0;rw [hfalse (by simp [preP])];repeat' (first|refine s_t ?_|(refine zb 2 (za ?_);refine yv (zn (hr:=g1)) (k:=?_))|(refine zb 4 (za ?_);refine yv (zF (j:=0) (hv:=hv)) (k:=za ?_))|(refine zb 5 (za ?_);refine zan ?_;refine za ?_;refine zan ?_;refine za ?_)|(refine zb 6 (za ?_)))
    exact q_r
   by_cases hz:i+1=l.length
   ·rw [hfalse (by rw [List.drop_eq_nil_of_le q_o];simp [rgood])];have k0:decide ((i:Int)=0)=false:=q_f;have k1:decide ((i:Int)=(l.length:Int) - 1)=true:=q_d;repeat' (first|refine s_t ?_|(refine zb 2 (za ?_);refine yv (zn (hr:=g1)) (k:=?_))|(refine zb 4 (za ?_);refine yv (zF (j:=i) (hv:=hv)) (k:=za ?_))|(refine zb 5 (za ?_);refine zan ?_;refine za ?_;refine yv (zX (hr:=k0)) (k:=za ?_);refine yv (zD (hr:=g6)) (k:=?_);refine yv (zX (hr:=k1)) (k:=za ?_))|(refine zb 6 (za ?_)))
    exact q_r
   have k0:decide ((i:Int)=0)=false:=q_f;have k1:decide ((i:Int)=(l.length:Int) - 1)=false:=q_f;have g7:IntKind.i64.wrap ((i:Int) - 1)=((i - 1:Nat):Int):=q_w;have hv':(str l).data[i - 1]?=some l[i - 1]:=by show l.toArray[i - 1]?=_;rw [List.getElem?_toArray,List.getElem?_eq_getElem q_o]
   have hpi:preP l i=decide (l[i - 1]=46):=by
    unfold preP;rw [decide_eq_false h0,List.getElem?_eq_getElem (show i - 1 < l.length by omega)];simp
   generalize l[i - 1]'q_o=y at *;by_cases hy:y=46
   ·subst hy;rw [hfalse (by rw [hpi];simp)];repeat' (first|refine s_t ?_|(refine zb 2 (za ?_);refine yv (zn (hr:=g1)) (k:=?_))|(refine zb 4 (za ?_);refine yv (zF (j:=i) (hv:=hv)) (k:=za ?_))|(refine zb 5 (za ?_);refine zan ?_;refine za ?_;refine yv (zX (hr:=k0)) (k:=za ?_);refine yv (zD (hr:=g6)) (k:=?_);refine yv (zX (hr:=k1)) (k:=za ?_);refine yv (zD (hr:=g7)) (k:=?_);refine yv (zF (j:=i - 1) (hv:=hv')) (k:=?_);refine zan ?_;refine za ?_)|(refine zb 6 (za ?_)))
    exact q_r
   ·have k2:decide ((y.toNat:Int)=46)=false:=decide_eq_false (λh=>hy (by
     apply UInt8.toNat_inj.1;show y.toNat=46;omega))
    repeat' (first|refine s_t ?_|(refine zb 2 (za ?_);refine yv (zn (hr:=g1)) (k:=?_))|(refine zb 4 (za ?_);refine yv (zF (j:=i) (hv:=hv)) (k:=za ?_))|(refine zb 5 (za ?_);refine zan ?_;refine za ?_;refine yv (zX (hr:=k0)) (k:=za ?_);refine yv (zD (hr:=g6)) (k:=?_);refine yv (zX (hr:=k1)) (k:=za ?_);refine yv (zD (hr:=g7)) (k:=?_);refine yv (zF (j:=i - 1) (hv:=hv')) (k:=?_);refine yv (zX (hr:=k2)) (k:=za ?_))|(refine zb 7 (za ?_);refine z8 ?_;refine za ?_)|(refine zb 3 (za ?_);refine yv (zu (hr:=g5)) (k:=za ?_)))
    refine zq (i+1) ⟨hlt,?_,λh1 h2=>by omega⟩ ?_ ?_ ?_
    ·rw [hrg,hpi,hpre,decide_eq_false hy];simp
    ·show l.length - (i+1) < l.length - i;omega
    ·exact q_h
    ·exact q_h
  rw [if_neg h46] at hrg hfalse;rw [decide_eq_false h46] at hpre;have h46':x.toNat≠46:=λh=>h46 (by apply UInt8.toNat_inj.1;exact h);have hc:x.toNat=45\/(65<=x.toNat/\x.toNat<=90)\/(48<=x.toNat/\x.toNat<=57)\/(x.toNat≠45/\x.toNat < 48)\/(57 < x.toNat/\x.toNat < 65)\/90 < x.toNat:=q_o;have hlab:labC x=decide (x.toNat=45\/(65<=x.toNat/\x.toNat<=90)\/(48<=x.toNat/\x.toNat<=57)):=by
   rw [Bool.eq_iff_iff];simp only [labC,Bool.or_eq_true,Bool.and_eq_true,decide_eq_true_eq];omega
  have hgo:labC x=true->rgood true l=rgood (preP l (i+1)) (l.drop (i+1)):=λh=>by rw [hrg,h,Bool.true_and,hpre]
  have hstop:labC x=false->realmOk l=false:=λh=>hfalse (by rw [h,Bool.false_and]);rcases hc with h|⟨h,h'⟩|⟨h,h'⟩|⟨h,h'⟩|⟨h,h'⟩|h
  ·have e:=hgo (by rw [hlab];exact decide_eq_true q_o);repeat' (first|refine s_t ?_|(refine zb 2 (za ?_);refine yv (zn (hr:=g1)) (k:=?_))|(refine zb 4 (za ?_);refine yv (zF (j:=i) (hv:=hv)) (k:=za ?_))|(refine zb 5 (za ?_);refine zan ?_;refine za ?_)|(refine zb 7 (za ?_);refine z8 ?_;refine za ?_;refine z8 ?_;refine za ?_)|(refine zb 3 (za ?_);refine yv (zu (hr:=g5)) (k:=za ?_)))
   refine zq (i+1) ⟨hlt,e,λ_ _=>hpre⟩ ?_ ?_ ?_
   ·show l.length - (i+1) < l.length - i;omega
   ·exact q_h
   ·exact q_h
  ·have e:=hgo (by rw [hlab];exact decide_eq_true q_o);repeat' (first|refine s_t ?_|(refine zb 2 (za ?_);refine yv (zn (hr:=g1)) (k:=?_))|(refine zb 4 (za ?_);refine yv (zF (j:=i) (hv:=hv)) (k:=za ?_))|(refine zb 5 (za ?_);refine zan ?_;refine za ?_)|(refine zb 7 (za ?_);refine z8 ?_;refine za ?_;refine z8 ?_;refine za ?_;refine zad ?_;refine za ?_;refine zbB ?_;refine za ?_)|(refine zb 3 (za ?_);refine yv (zu (hr:=g5)) (k:=za ?_)))
   refine zq (i+1) ⟨hlt,e,λ_ _=>hpre⟩ ?_ ?_ ?_
   ·show l.length - (i+1) < l.length - i;omega
   ·exact q_h
   ·exact q_h
  ·have e:=hgo (by rw [hlab];exact decide_eq_true q_o);repeat' (first|refine s_t ?_|(refine zb 2 (za ?_);refine yv (zn (hr:=g1)) (k:=?_))|(refine zb 4 (za ?_);refine yv (zF (j:=i) (hv:=hv)) (k:=za ?_))|(refine zb 5 (za ?_);refine zan ?_;refine za ?_)|(refine zb 7 (za ?_);refine z8 ?_;refine za ?_;refine z8 ?_;refine za ?_;refine zad ?_;refine za ?_;refine zad ?_;refine za ?_;refine zbB ?_;refine za ?_)|(refine zb 3 (za ?_);refine yv (zu (hr:=g5)) (k:=za ?_)))
   refine zq (i+1) ⟨hlt,e,λ_ _=>hpre⟩ ?_ ?_ ?_
   ·show l.length - (i+1) < l.length - i;omega
   ·exact q_h
   ·exact q_h
  ·rw [hstop (by rw [hlab];exact decide_eq_false q_o)];repeat' (first|refine s_t ?_|(refine zb 2 (za ?_);refine yv (zn (hr:=g1)) (k:=?_))|(refine zb 4 (za ?_);refine yv (zF (j:=i) (hv:=hv)) (k:=za ?_))|(refine zb 5 (za ?_);refine zan ?_;refine za ?_)|(refine zb 7 (za ?_);refine z8 ?_;refine za ?_;refine z8 ?_;refine za ?_;refine zad ?_;refine za ?_;refine zad ?_;refine za ?_)|(refine zb 8 (za ?_)))
   exact q_r
  ·rw [hstop (by rw [hlab];exact decide_eq_false q_o)];repeat' (first|refine s_t ?_|(refine zb 2 (za ?_);refine yv (zn (hr:=g1)) (k:=?_))|(refine zb 4 (za ?_);refine yv (zF (j:=i) (hv:=hv)) (k:=za ?_))|(refine zb 5 (za ?_);refine zan ?_;refine za ?_)|(refine zb 7 (za ?_);refine z8 ?_;refine za ?_;refine z8 ?_;refine za ?_;refine zad ?_;refine za ?_;refine zad ?_;refine za ?_;refine zbB ?_;refine za ?_)|(refine zb 8 (za ?_)))
   exact q_r
  ·rw [hstop (by rw [hlab];exact decide_eq_false q_o)];repeat' (first|refine s_t ?_|(refine zb 2 (za ?_);refine yv (zn (hr:=g1)) (k:=?_))|(refine zb 4 (za ?_);refine yv (zF (j:=i) (hv:=hv)) (k:=za ?_))|(refine zb 5 (za ?_);refine zan ?_;refine za ?_)|(refine zb 7 (za ?_);refine z8 ?_;refine za ?_;refine z8 ?_;refine za ?_;refine zad ?_;refine za ?_;refine zbB ?_;refine za ?_;refine zad ?_;refine za ?_;refine zbB ?_;refine za ?_)|(refine zb 8 (za ?_)))
   exact q_r
 obtain rfl:i=l.length:=q_o;have g1:decide ((l.length:Int) < (l.length:Int))=false:=q_f;rcases Nat.eq_zero_or_pos l.length with h0|h0
 ·have e:realmOk l=false:=by unfold realmOk;rw [h0];rfl
  rw [e];have k1:decide ((l.length:Int)>=1)=false:=q_f;repeat' (first|refine s_0 ?_|(refine zb 2 (za ?_);refine yv (zn (hr:=g1)) (k:=?_))|(refine zb 9 (za ?_);refine yv (zab (hr:=k1)) (k:=za ?_)))
  exact q_r
 have e:realmOk l=decide (l.length<=32):=zkF l h0 (by rw [hrg,hend rfl h0,List.drop_length];rfl);rw [e];have k1:decide ((l.length:Int)>=1)=true:=q_d;have k2:decide ((l.length:Int)<=32)=decide (l.length<=32):=decide_eq_decide.2 q_o;repeat' (first|refine s_0 ?_|(refine zb 2 (za ?_);refine yv (zn (hr:=g1)) (k:=?_))|(refine zb 9 (za ?_);refine yv (zab (hr:=k1)) (k:=za ?_);refine yv (zau (hr:=k2)) (k:=za ?_)))
 exact q_r
theorem zi9 (a:Option Addr) (k:Nat) (p:Prin) (w:World) (h:PrinIn w (prinL a k p) p) (hb:p.parts.length < 1000000) (hr:p.realm.length < 1000000000) (hx: ∀x∈p.parts,x.length < 1000000000):Sy.Fn Tryz.prog 71 [.agg (prinL a k p).toArray] w No (Gives (.bool p.ok)):=by
 obtain ⟨⟨a',k',hC,n1,m1,s1,z1⟩,-⟩:=h;cases hC;refine zg Tryz.func71 rfl Tryz.ntmps71 q_p Holds.nil ?_;have hrl:=λw'=>znN p.realm w' hr;unfold Prin.ok prinL strV at *;obtain ⟨ps,rl⟩:=p;dsimp only at *;repeat' (first|refine s_t ?_|(refine zb 0 ?_;refine zO ?_;intro _)|(refine zb 1 (za ?_)))
 rename_i b;refine zy (γ:=Nat) (λi=>[(1,.pointer (some ⟨b,0,none⟩)),(3,.int .i64 (i:Int))]) (λ_=>[.blk b 43 [.slice a ps.length k,.string (str rl)]]) (λi=>i<=ps.length/\(ps.take i).all partOk=true) (λi=>ps.length - i) 0 ⟨Nat.zero_le _,rfl⟩ ?_ ?_ ?_
 ·exact q_h
 ·exact q_h
 rintro i ⟨hi,heq⟩;by_cases hlt:i < ps.length
 ·obtain ⟨b1,o1,rfl,hcell1⟩:=zcg s1 (i:=i) (by rw [List.length_map];omega);have hc1:=hcell1 i _ (zbW strV q_o);unfold strV at hc1;have g2:decide ((i:Int) < (ps.length:Int))=true:=q_d;have g5:IntKind.i64.wrap ((i:Int)+1)=((i+1:Nat):Int):=q_w;have t1:ps.take (i+1)=ps.take i ++ [ps[i]]:=zac q_o;have hin:ps[i]∈ps:=List.getElem_mem hlt;have hvs:=λw'=>zqG ps[i] w' (hx _ hin);unfold strV at hvs;have hbad:partOk ps[i]=false->(decide (1<=ps.length) && decide (ps.length<=4) && realmOk rl && ps.all partOk)=false:=λh=>by
   have:ps.all partOk=false:=by rw [List.all_eq_false];exact ⟨_,hin,by rw [h];decide⟩
   rw [this,Bool.and_false]
  have hgo:partOk ps[i]=true->(ps.take (i+1)).all partOk=true:=λh=>by rw [t1,List.all_append,heq];simp [h]
  generalize ps[i]=y at *;have hc:y.length < 1\/(1<=y.length/\32 < y.length)\/(1<=y.length/\y.length<=32/\y.all visC=false)\/(1<=y.length/\y.length<=32/\y.all visC=true):=by
   rcases Nat.lt_or_ge y.length 1 with h|h
   ·exact .inl h
   rcases Nat.lt_or_ge 32 y.length with h'|h'
   ·exact .inr (.inl ⟨h,h'⟩)
   cases hb:y.all visC
   ·exact .inr (.inr (.inl ⟨h,h',rfl⟩))
   ·exact .inr (.inr (.inr ⟨h,h',rfl⟩))
  rcases hc with h|⟨h,h'⟩|⟨h,h',h''⟩|⟨h,h',h''⟩
  ·rw [hbad (by unfold partOk;rw [decide_eq_false q_o];rfl)];have k1:decide ((y.length:Int) < 1)=true:=q_d;repeat' (first|refine s_t ?_|(refine zb 2 (za ?_);refine zm ?_;refine za ?_;refine yv (zn (hr:=g2)) (k:=?_))|(refine zb 4 (za ?_);refine zm ?_;refine za ?_;refine yv (zG (j:=i)) (k:=?_);refine yv (zl (hv:=hc1)) (k:=za ?_);refine yv (zn (hr:=k1)) (k:=za ?_))|(refine zb 5 (za ?_)))
   exact q_r
  ·rw [hbad (by unfold partOk;rw [decide_eq_true h,decide_eq_false q_o];rfl)];have k1:decide ((y.length:Int) < 1)=false:=q_f;have k2:decide ((y.length:Int) > 32)=true:=q_d;repeat' (first|refine s_t ?_|(refine zb 2 (za ?_);refine zm ?_;refine za ?_;refine yv (zn (hr:=g2)) (k:=?_))|(refine zb 4 (za ?_);refine zm ?_;refine za ?_;refine yv (zG (j:=i)) (k:=?_);refine yv (zl (hv:=hc1)) (k:=za ?_);refine yv (zn (hr:=k1)) (k:=za ?_);refine zm ?_;refine za ?_;refine yv (zG (j:=i)) (k:=?_);refine yv (zl (hv:=hc1)) (k:=za ?_);refine yv (zU (hr:=k2)) (k:=za ?_))|(refine zb 5 (za ?_)))
   exact q_r
  ·rw [hbad (by unfold partOk;rw [h'',Bool.and_false])];rw [h''] at hvs;have k1:decide ((y.length:Int) < 1)=false:=q_f;have k2:decide ((y.length:Int) > 32)=false:=q_f;repeat' (first|refine s_t ?_|(refine zb 2 (za ?_);refine zm ?_;refine za ?_;refine yv (zn (hr:=g2)) (k:=?_))|(refine zb 4 (za ?_);refine zm ?_;refine za ?_;refine yv (zG (j:=i)) (k:=?_);refine yv (zl (hv:=hc1)) (k:=za ?_);refine yv (zn (hr:=k1)) (k:=za ?_);refine zm ?_;refine za ?_;refine yv (zG (j:=i)) (k:=?_);refine yv (zl (hv:=hc1)) (k:=za ?_);refine yv (zU (hr:=k2)) (k:=za ?_);refine zm ?_;refine za ?_;refine yv (zG (j:=i)) (k:=?_);refine yv (zl (hv:=hc1)) (k:=?_);refine yv (zd (hc:=λ_ _ _ _=>(hvs _))) (k:=?_);refine za ?_)|(refine zb 5 (za ?_)))
   exact q_r
  ·have hg:=hgo (by unfold partOk;rw [decide_eq_true h,decide_eq_true h',h''];rfl);rw [h''] at hvs;have k1:decide ((y.length:Int) < 1)=false:=q_f;have k2:decide ((y.length:Int) > 32)=false:=q_f;repeat' (first|refine s_t ?_|(refine zb 2 (za ?_);refine zm ?_;refine za ?_;refine yv (zn (hr:=g2)) (k:=?_))|(refine zb 4 (za ?_);refine zm ?_;refine za ?_;refine yv (zG (j:=i)) (k:=?_);refine yv (zl (hv:=hc1)) (k:=za ?_);refine yv (zn (hr:=k1)) (k:=za ?_);refine zm ?_;refine za ?_;refine yv (zG (j:=i)) (k:=?_);refine yv (zl (hv:=hc1)) (k:=za ?_);refine yv (zU (hr:=k2)) (k:=za ?_);refine zm ?_;refine za ?_;refine yv (zG (j:=i)) (k:=?_);refine yv (zl (hv:=hc1)) (k:=?_);refine yv (zd (hc:=λ_ _ _ _=>(hvs _))) (k:=?_);refine za ?_)|(refine zb 3 (za ?_);refine yv (zu (hr:=g5)) (k:=za ?_)))
   refine zq (i+1) ⟨hlt,hg⟩ ?_ ?_ ?_
   ·show ps.length - (i+1) < ps.length - i;omega
   ·exact q_h
   ·exact q_h
 obtain rfl:i=ps.length:=q_o;rw [List.take_length] at heq;rw [heq,Bool.and_true];have g2:decide ((ps.length:Int) < (ps.length:Int))=false:=q_f;have g6:decide ((ps.length:Int)>=1)=decide (1<=ps.length):=decide_eq_decide.2 q_o;have g7:decide ((ps.length:Int)<=4)=decide (ps.length<=4):=decide_eq_decide.2 q_o;generalize decide (1<=ps.length)=x at *;generalize decide (ps.length<=4)=y at *;generalize realmOk rl=z at *;have hc:x=false\/(x=true/\y=false)\/(x=true/\y=true):=by cases x <;> cases y <;> simp
 rcases hc with rfl|⟨rfl,rfl⟩|⟨rfl,rfl⟩;all_goals repeat' (first|refine s_0 ?_|(refine zb 2 (za ?_);refine zm ?_;refine za ?_;refine yv (zn (hr:=g2)) (k:=?_))|(refine zb 6 (za ?_);refine zm ?_;refine za ?_;refine yv (zab (hr:=g6)) (k:=za ?_);(first|refine zm ?_|skip|fail);(try refine za ?_);(first|refine yv (zau (hr:=g7)) (k:=?_)|skip|fail);(try refine za ?_);(first|refine zm ?_|skip|fail);(first|refine yv (zd (hc:=λ_ _ _ _=>(hrl _))) (k:=?_)|refine zam rfl rfl rfl ?_|skip);(try refine za ?_)))
 all_goals exact q_r
theorem zjJ (v a b:Int) (w:World):Sy.Fn Tryz.prog 41 [.int .i64 v,.int .i64 a,.int .i64 b] w No (Gives (.bool (decide (a<=v) && decide (v<=b)))):=by
 refine zg Tryz.func41 rfl Tryz.ntmps41 q_p Holds.nil ?_;obtain ⟨x,g1⟩: ∃x,decide (v>=a)=x:=⟨_,rfl⟩;rw [show decide (a<=v)=x from g1];generalize hy:decide (v<=b)=y at *;cases x;all_goals repeat' (first|refine s_0 ?_|(refine zb 0 (za ?_))|(refine zb 1 (za ?_);refine yv (zab (hr:=g1)) (k:=za ?_);(first|refine yv (zau (hr:=hy)) (k:=?_)|skip|fail);(try refine za ?_)))
 all_goals exact q_r
end Go.Proofs.YtdnlngbjpdbffaaGreatDoor
end
