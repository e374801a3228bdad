/- Certificates, walked: the encoding of a principal. -/
import Derived.Test.YtdnlngbjpdbffaaGreatDoorLJ35
import Derived.Test.YtdnlngbjpdbffaaGreatDoorLJ11
import Derived.Test.YtdnlngbjpdbffaaGreatDoorLJ22
set_option maxHeartbeats 4000000
set_option maxRecDepth 10000
set_option linter.all false
section
namespace Go.Ct
open Go Go.Sy
def rowRes (E:Nat) (s:Bs):Res:=.row (.slice s.a s.n s.c) E 1 s.n (s.l.map v8)
def rowsRes (E:Nat) (xs:List Bs):List Res:=xs.map (rowRes E)
theorem zlz {B0:Nat}{w:World}{M:Nat->Prop}{E:Nat}{L:List Res}{xs:List Bs}(hh:Holds B0 M L w) (hl: ∀s∈xs,s.l.length=s.n) (hL: ∀r∈rowsRes E xs,r∈L): ∀s∈xs,s.ok w:=λs hs=>
 rowBs (E:=E) hh (hl s hs) (hL _ (List.mem_map.2 ⟨s,hs,rfl⟩))
theorem zlh (xs:List Bs):Bs.cat xs=(xs.map (·.l)).flatten:=by unfold Bs.cat;rw [List.flatMap_def]
theorem ziY {l:List UInt8}{k:Nat}(h:l.length<=k):(derS l).length<=k+5:=zbr h
theorem zk7 (xs:List Bs) (s:Bs):xs.reverse.map Bs.val ++ [.slice s.a s.n s.c]=((s::xs).reverse).map Bs.val:=by rw [List.reverse_cons,List.map_append];rfl
theorem zpE (xs:List Bs) (s:Bs):((s::xs).reverse).map (·.l)=xs.reverse.map (·.l) ++ [s.l]:=by rw [List.reverse_cons,List.map_append];rfl
end Go.Ct
namespace Go.Proofs.YtdnlngbjpdbffaaGreatDoor
open Go Go.Sy Go.Ct Go.RowKit
attribute [local irreducible] Sy SyL SyX SyC SyF Sy.Fn callFunc
abbrev BytR (l:List UInt8):Value->List Res->Prop:=RowOf 5 l.length (l.map v8)
theorem zgL (b m:Nat) (xs:List Bs) (w:World) (hm:xs.length=m) (hmb:m < 1000) (h:w.rangeAt b 0 (xs.map Bs.val)) (hok: ∀s∈xs,s.ok w) (hb:(Bs.cat xs).length < 16777216) (D:List UInt8) (hD:D=tlv 0x30 (Bs.cat xs)):
  Sy.Fn Tryz.prog 84 [.slice (some ⟨b,0,none⟩) m m] w No (BytR D):=by
 subst hD;exact zlu (some ⟨b,0,none⟩) m m xs w hm hmb (Nat.le_refl _) (.inr ⟨b,0,rfl,h⟩) hok hb
theorem zbn (n:Nat) (a:Option Addr) (m c:Nat) (l D:List UInt8) (w:World) (hn:n<=30) (hs:(⟨a,m,c,l⟩:Bs).ok w) (h0:0 < l.length) (hb:l.length < 16777216) (hD:D=derG n l):Sy.Fn Tryz.prog 110 [.int .i64 (n:Int),.slice a m c] w No (BytR D):=by
 subst hD;exact zpV n ⟨a,m,c,l⟩ w hn hs h0 hb
theorem zaS {t:Nat}{l:List UInt8} :0 < (tlv t l).length:=by have:=(zV t l).1;omega
theorem zqR (C:List Value) (p:Prin) (w:World) (h:PrinIn w C p) (hok:p.ok=true):Sy.Fn Tryz.prog 195 [.agg C.toArray] w No (λv R=>∃a c,v= .tuple #[.slice a p.der.length c,.int .i64 0]/\R= [.row (.slice a p.der.length c) 5 1 p.der.length (p.der.map v8)]):=by
 obtain ⟨hp4,hp32,hr32⟩:=Prin.ok_parts hok;have hv:=λw' (hk:Keep No w w')=>zd9 C p w' (h.keep hk) q_o q_o (λx hx=>by have:=hp32 x hx;omega);rw [hok] at hv;obtain ⟨⟨a1,c1,rfl,n1,m1,s1,z1⟩,-⟩:=h;refine zg Tryz.func195 rfl Tryz.ntmps195 q_p Holds.nil ?_;have hstr:=λx (hx:x∈p.parts) w'=>zlj x w' (by have:=hp32 x hx;omega);have hstr2:=λw'=>zlj p.realm w' q_o;have hsl:=Prin.strs_len hok;have hdl:=Prin.der_len hok;have hder:p.der=tlv 0x30 (derG 0 (tlv 0x30 (p.parts.map derS).flatten) ++ derG 1 (derS p.realm)):=by simp [Prin.der,derQ]
 have hrl:=ziY hr32;unfold strV at *;generalize p.der=D at *;obtain ⟨parts,realm⟩:=p;dsimp only at *;generalize hn:parts.length=n at *;repeat' (first|refine s_t ?_|(refine zb 0 ?_;refine zO ?_;intro _)|(refine zb 1 ?_;refine zm ?_;refine yv (zd (f:=76) (hc:=zr hv)) (k:=?_);refine za ?_)|(refine zb 3 (za ?_))|(refine zb 4 (za ?_);refine zm ?_;refine za ?_))
 rename_i b1;refine zaR (zaE 23 1) ?_;refine zy (γ:=Nat×List Bs×Option Addr×Nat) (λg=>[(1,.pointer (some ⟨b1,0,none⟩)),(11,.slice a1 n c1),(12,.int .i64 (n:Int)),(13,.int .i64 (g.1:Int)),(4,.slice g.2.2.1 g.2.1.length g.2.2.2)])
  (λg=> .row (.slice g.2.2.1 g.2.1.length g.2.2.2) 23 1 g.2.1.length (g.2.1.reverse.map Bs.val):: .blk b1 43 [.slice a1 n c1,.string (str realm)]::rowsRes 5 g.2.1)
  (λg=>g.1<=n/\g.2.1.reverse.map (·.l)=(parts.take g.1).map derS/\ ∀s∈g.2.1,s.l.length=s.n) (λg=>n - g.1) (0,[],none,0) ⟨Nat.zero_le _,rfl,λs hs=>by cases hs⟩ ?_ ?_ ?_
 ·exact q_h
 ·exact q_h
 rintro ⟨i,xs,aP,cP⟩ ⟨hi,hxs,hxl⟩;dsimp only at hi hxs hxl ⊢;have hxn:xs.length=i:=by have:=congrArg List.length hxs;simp at this;omega
 by_cases hlt:i < n
 ·obtain ⟨bl,ol,rfl,hcell⟩:=zcg s1 (i:=i) (by rw [List.length_map];omega);have hc:=hcell i _ (zbW _ q_o);have g1:decide ((i:Int) < (n:Int))=true:=q_d;have g5:IntKind.i64.wrap ((i:Int)+1)=((i+1:Nat):Int):=q_w;have htk:parts.take (i+1)=parts.take i ++ [parts[i]]:=zac q_o;have hin:parts[i]∈parts:=List.getElem_mem q_o;have hx:=hstr parts[i] hin;generalize parts[i]=x at *;repeat' (first|refine s_t ?_|(refine zb 5 ?_;refine yv (zn (hr:=g1)) (k:=?_))|(refine zb 6 ?_;refine yv (zG (j:=i)) (k:=?_);refine yv (zl (hv:=hc)) (k:=za ?_))|(refine zb 7 (za ?_);(refine ys (zh (f:=253) (hc:=λw' X hk hh=>hx w')) (k:=?_);rintro _ _ ⟨R,rfl,aX,cX,rfl,rfl⟩);(refine ys zt (k:=?_);rintro _ _ ⟨_,rfl,rfl⟩);(refine ys (z9 (hys:=zk7 xs ⟨aX,(derS x).length,cX,derS x⟩) (hkm:=rfl)) (k:=?_);rintro _ _ ⟨rfl,aN,cN,rfl⟩);refine za ?_))
  refine Sy.weaken (fr':=[(1,.pointer (some ⟨b1,0,none⟩)),(11,.slice (some ⟨bl,ol,none⟩) n c1),(12,.int .i64 (n:Int)),(13,.int .i64 (i:Int)),(4,.slice aN (xs.length+1) cN)]) (L':=.row (.slice aN (xs.length+1) cN) 23 1 (xs.length+1) ((⟨aX,(derS x).length,cX,derS x⟩::xs).reverse.map Bs.val):: .blk b1 43 [.slice (some ⟨bl,ol,none⟩) n c1,.string (str realm)]::rowsRes 5 (⟨aX,(derS x).length,cX,derS x⟩::xs)) ?_ q_h ?_;rotate_left
  ·show SubR (_::_::rowRes 5 ⟨aX,(derS x).length,cX,derS x⟩::rowsRes 5 xs) _
   (repeat' (first|exact SubR.nil|(apply SubR.same;with_reducible (focus ((repeat (first|exact Rem.here|apply Rem.there));done)))|(apply SubR.blk;(focus ((repeat (first|exact Rem.here|apply Rem.there));done)))|(apply SubR.same;(focus ((repeat (first|exact Rem.here|apply Rem.there));done)))|(apply SubR.pick;(focus ((repeat (first|exact Rem.here|apply Rem.there));done)))|rfl))
   all_goals exact SubR.skip SubR.refl
  repeat' (first|refine zae ?_|refine zZ ?_|(refine zb 8 ?_;refine yv (zu (hr:=g5)) (k:=za ?_)))
  refine zq (i+1,⟨aX,(derS x).length,cX,derS x⟩::xs,aN,cN) ⟨hlt,?_,?_⟩ ?_ ?_ ?_
  ·show ((⟨aX,(derS x).length,cX,derS x⟩::xs).reverse).map (·.l)=_;rw [zpE,hxs,htk,List.map_append];rfl
  ·intro s hs;rcases List.mem_cons.1 hs with rfl|hs
   ·rfl
   ·exact hxl s hs
  ·show n - (i+1) < n - i;omega
  ·exact q_h
  ·exact SubR.refl
 obtain rfl:i=n:=q_o;rw [List.take_of_length_le q_o] at hxs;have hcat:Bs.cat xs.reverse=(parts.map derS).flatten:=by rw [zlh,hxs]
 have g1:decide ((i:Int) < (i:Int))=false:=q_f;rw [<-hcat] at hsl hder;have hQ:=(zV 0x30 (Bs.cat xs.reverse)).2;have hG0:=(zV 0xa0 (tlv 0x30 (Bs.cat xs.reverse))).2;have hG1:=(zV 0xa1 (derS realm)).2;repeat' (first|refine s_0 ?_|(refine zb 5 ?_;refine yv (zn (hr:=g1)) (k:=?_)))
 rw [hxn]
 (refine zbU (id:=9) [0,3,4] [1,2,5,6,7,8,9,10] mixed ?_ ?_;kernel_rfl;refine yfv zbK (k:=?_);refine yfv zS (k:=?_);refine yfv zC (k:=?_);refine yf0 ?_;try refine yc0 (k:=?_))
 refine ycs (zh (f:=84) (hc:=λw' X hk hh=>zlu aP i cP xs.reverse w' (by rw [List.length_reverse];exact hxn) q_o (Row.cap hh q_h) ((SlF.row (Mi:=No) hh q_h (λ_ h=>h.elim)).sla) (λs hs=>zlz (E:=5) hh hxl (λr hr=>List.mem_append_left _ (List.mem_cons_of_mem _ (List.mem_cons_of_mem _ hr))) s (List.mem_reverse.1 hs)) q_o)) (k:=?_);rintro _ _ ⟨R,rfl,aS,cS,rfl,rfl⟩;generalize hQe:tlv 0x30 (Bs.cat xs.reverse)=Q at *;have hQp:0 < Q.length:=by rw [<-hQe];exact zaS
 have hSp:0 < (derS realm).length:=zaS;refine ycs (zh (f:=110) (hc:=λw' X hk hh=>zbn 0 aS Q.length cS Q _ w' q_e (rowBs hh rfl q_h) hQp q_o rfl)) (k:=?_);rintro _ _ ⟨R,rfl,aT,cT,rfl,rfl⟩;refine ycs (zh (f:=253) (hc:=λw' X hk hh=>hstr2 w')) (k:=?_);rintro _ _ ⟨R,rfl,aU,cU,rfl,rfl⟩;generalize derS realm=U at *;refine ycs (zh (f:=110) (hc:=λw' X hk hh=>zbn 1 aU U.length cU U _ w' q_e (rowBs hh rfl q_h) hSp q_o rfl)) (k:=?_);rintro _ _ ⟨R,rfl,aV,cV,rfl,rfl⟩;refine ycs zt (k:=?_);rintro _ _ ⟨bL,rfl,rfl⟩;have hGa:(derG 0 Q).length<=300:=by show (tlv 160 Q).length<=300;omega
 have hGb:(derG 1 U).length<=300:=by show (tlv 161 U).length<=300;omega
 generalize derG 0 Q=G0 at *;generalize derG 1 U=G1 at *;refine ycs (zh (f:=84) (hc:=λw' X hk hh=>zgL bL 2 [⟨aT,G0.length,cT,G0⟩,⟨aV,G1.length,cV,G1⟩] w' rfl q_e (zp (hh.has q_h) Seg.all) (λs hs=>by
  simp only [List.mem_cons,List.not_mem_nil,or_false] at hs;rcases hs with rfl|rfl
  ·exact rowBs hh rfl q_h
  ·exact rowBs hh rfl q_h) (by rw [show Bs.cat [⟨aT,G0.length,cT,G0⟩,⟨aV,G1.length,cV,G1⟩]=G0 ++ G1 by simp [Bs.cat],List.length_append];omega) D (by rw [hder];simp [Bs.cat]))) (k:=?_)
 rintro _ _ ⟨R,rfl,aW,cW,rfl,rfl⟩;refine ycv za9 (k:=?_);refine ycv za9 (k:=?_);refine yc0 (k:=?_);repeat' (first|refine s_0 ?_|fail)
 exact ret2 rfl (resTmp rfl) (resTmp rfl) (SubR.pick Rem.here rfl SubR.nil) ⟨_,_,rfl,rfl⟩
end Go.Proofs.YtdnlngbjpdbffaaGreatDoor
end
section
namespace Go.Ct
open Go Go.Sy
structure Pl where
 a1:Option Addr
 k1:Nat
 a2:Option Addr
 k2:Nat
 a3:Option Addr
 k3:Nat
 a4:Option Addr
 k4:Nat
def prinL (a:Option Addr) (k:Nat) (p:Prin):List Value:=[.slice a p.parts.length k,strV p.realm]
def certL (p:Pl) (c:Cert):List Value:=[.int .i64 c.serial,.slice p.a1 c.issuer.parts.length p.k1,strV c.issuer.realm,.slice p.a2 c.subject.parts.length p.k2,strV c.subject.realm,.int .i64 c.fr,.int .i64 c.til,.bool c.auth,.int .i64 c.group,.slice p.a3 c.pub.length p.k3,.slice p.a4 c.sig.length p.k4]
structure CertAt (w:World) (p:Pl) (c:Cert):Prop where
 iss:PrinIn w (prinL p.a1 p.k1 c.issuer) c.issuer
 sub:PrinIn w (prinL p.a2 p.k2 c.subject) c.subject
 pub:(⟨p.a3,c.pub.length,p.k3,c.pub⟩:Bs).ok w
 sig:(⟨p.a4,c.sig.length,p.k4,c.sig⟩:Bs).ok w
 rng:((Lit.int .i64 c.serial).wf=true/\(Lit.int .i64 c.fr).wf=true/\(Lit.int .i64 c.til).wf=true/\(Lit.int .i64 c.group).wf=true)
theorem CertAt.keep {w w':World}{p:Pl}{c:Cert}(h:CertAt w p c) (hk:Keep No w w'):CertAt w' p c:=⟨h.iss.keep hk,h.sub.keep hk,h.pub.keep hk,h.sig.keep hk,h.rng⟩
theorem BytIn.bs {w:World}{v:Value}{l:List UInt8}(h:BytIn w v l): ∃a c,v= .slice a l.length c/\(⟨a,l.length,c,l⟩:Bs).ok w:=by
 obtain ⟨a,c,h1,h2,h3,h4,h5⟩:=h;exact ⟨a,c,h1,rfl,h2,h4,h5⟩
theorem CertIn.at {w:World}{C:List Value}{c:Cert}(h:CertIn w C c): ∃p,C=certL p c/\CertAt w p c:=by
 obtain ⟨⟨I,S,vp,vs,rfl,hI,hS,hp,hs⟩,hr⟩:=h;obtain ⟨⟨a1,c1,rfl,_⟩,_⟩:=id hI;obtain ⟨⟨a2,c2,rfl,_⟩,_⟩:=id hS;obtain ⟨a3,c3,rfl,hp2⟩:=hp.bs;obtain ⟨a4,c4,rfl,hs2⟩:=hs.bs;exact ⟨⟨a1,c1,a2,c2,a3,c3,a4,c4⟩,rfl,hI,hS,hp2,hs2,hr⟩
def btwB (t:Int):Bool:=decide (0<=t) && decide (t<=1099511627776)
structure Cert.fine (c:Cert):Prop where
 i:c.issuer.parts.length < 1000000/\c.issuer.realm.length < 1000000000/\ ∀x∈c.issuer.parts,x.length < 1000000000
 s:c.subject.parts.length < 1000000/\c.subject.realm.length < 1000000000/\ ∀x∈c.subject.parts,x.length < 1000000000
theorem Cert.ok_prog (sv:Int->List UInt8->Bool) (c:Cert):c.ok sv=(decide (0<=c.serial) && decide (c.serial<=4611686018427387904) && c.issuer.ok && c.subject.ok && btwB c.fr && btwB c.til && decide (c.fr<=c.til) && decide (c.sig.length<=192) && sv c.group c.pub):=by
 rw [Bool.eq_iff_iff];simp only [Cert.ok,btwB,Bool.and_eq_true,decide_eq_true_eq];constructor
 ·rintro ⟨⟨⟨⟨⟨⟨⟨⟨h1,h2⟩,h3⟩,h4⟩,h5⟩,h6⟩,h7⟩,h8⟩,h9⟩;exact ⟨⟨⟨⟨⟨⟨⟨⟨h1,h2⟩,h3⟩,h4⟩,h5,by omega⟩,by omega,h7⟩,h6⟩,h8⟩,h9⟩
 ·rintro ⟨⟨⟨⟨⟨⟨⟨⟨h1,h2⟩,h3⟩,h4⟩,h5,_⟩,_,h7⟩,h6⟩,h8⟩,h9⟩;exact ⟨⟨⟨⟨⟨⟨⟨⟨h1,h2⟩,h3⟩,h4⟩,h5⟩,h6⟩,h7⟩,h8⟩,h9⟩
end Go.Ct
namespace Go.Proofs.YtdnlngbjpdbffaaGreatDoor
open Go Go.Sy Go.Ct Go.Nt Go.RowKit
attribute [local irreducible] Sy SyL SyX SyC SyF Sy.Fn callFunc
def svK (z:Int) (l:List UInt8):Bool:=decide ((gel z l).2=0)
theorem zdH:KeyLaw svK:=by
 have key: ∀g p,svK g p=true->(1<=g/\g<=4)/\p.length<=96:=λg p h=>by
  have h1:=zeG (of_decide_eq_true h);refine ⟨h1.1,?_⟩;rw [h1.2.1];have:=zdG g;unfold glen at this;rwa [if_pos h1.1] at this
 exact ⟨λg p h=>by have:=key g p h;omega,λg p h=>by have:=key g p h;omega,λg p h=>by have:=key g p h;omega⟩
theorem zmb (t:Int) (w:World):Sy.Fn Tryz.prog 140 [.int .i64 t,.int .i64 t,.int .i64 0] w No (Gives (.bool (btwB t))):=by
 refine zg Tryz.func140 rfl Tryz.ntmps140 q_p Holds.nil ?_;have hm:=λw'=>zmk t w';have hs:=λw'=>znB 0 w';have h0:=λw'=>zfK 0 0 0 w';rw [show btw t 0 1099511627776=btwB t from rfl] at hm;rw [show btw 0 0 86400=true from rfl] at hs;rw [show btw 0 0 0=true from rfl] at h0;have hall:=λw' b (h:w'.rangeAt b 0 [.bool (btwB t),.bool (btwB t),.bool true])=>zp2 b 3 [btwB t,btwB t,true] w' rfl q_e h;have hsub:IntKind.i64.wrap (t - t)=0:=by rw [Int.sub_self];rfl
 generalize btwB t=u at *;have e: [u,u,true].all id=u:=by cases u <;> rfl
 rw [e] at hall;cases u;all_goals repeat' (first|refine s_0 ?_|(refine zb 0 (za ?_))|(refine zb 1 (za ?_);refine yv (zd (hc:=λ_ _ _ _=>(hm _))) (k:=?_);refine za ?_;refine yv (zd (hc:=λ_ _ _ _=>(hm _))) (k:=?_);refine za ?_;refine yv (zd (hc:=λ_ _ _ _=>(hs _))) (k:=?_);(refine ys zt (k:=?_);rintro _ _ ⟨bL,rfl,rfl⟩);refine yv (zd (f:=216) (hc:=λw' X hk hh=>hall w' bL (zp (hh.has q_h) Seg.all))) (k:=?_);refine za ?_;(first|(refine yv (zD (hr:=hsub)) (k:=?_);refine zaH ?_;refine zb8 ?_;refine zaH ?_)|skip|fail);(first|refine yv (zd (hc:=λ_ _ _ _=>(h0 _))) (k:=?_)|skip|fail);(try refine za ?_)))
 all_goals exact q_r
theorem zgr (t:Int) (w:World):Sy.Fn Tryz.prog 58 [.int .i64 t] w No (Gives (.bool (btwB t))):=by
 refine zg Tryz.func58 rfl Tryz.ntmps58 q_p Holds.nil ?_;repeat' (first|refine s_0 ?_|(refine zb 0 (za ?_))|(refine zb 1 (za ?_);refine yv (zd (hc:=λ_ _ _ _=>(zmb t _))) (k:=?_);refine za ?_))
 exact q_r
theorem zd7 (p:Pl) (c:Cert) (w:World) (hG:GT w) (h:CertAt w p c) (hf:c.fine):Sy.Fn Tryz.prog 34 [.agg (certL p c).toArray] w No (Gives (.bool (c.ok svK))):=by
 refine zg Tryz.func34 rfl Tryz.ntmps34 q_p Holds.nil ?_;have q1:=λw' (hk:Keep No w w')=>zd9 _ _ w' (h.iss.keep hk) hf.i.1 hf.i.2.1 hf.i.2.2;have q2:=λw' (hk:Keep No w w')=>zd9 _ _ w' (h.sub.keep hk) hf.s.1 hf.s.2.1 hf.s.2.2;have q3:=λw'=>zgr c.fr w';have q4:=λw'=>zgr c.til w';have q5:=λw' (hk:Keep No w w')=>zgM c.group p.a3 c.pub.length p.k3 c.pub w' (hG.to hk) rfl h.pub.cap (h.pub.keep hk).sla;rw [show decide ((gel c.group c.pub).2=0)=svK c.group c.pub from rfl] at q5;rw [Cert.ok_prog];have g4:decide ((c.sig.length:Int)<=192)=decide (c.sig.length<=192):=decide_eq_decide.2 q_o;unfold certL prinL at *;clear h hf hG;obtain ⟨serial,⟨ips,irl⟩,⟨sps,srl⟩,fr,til,auth,group,pub,sig⟩:=c;dsimp only at *;generalize hx1:decide (0<=serial)=x1 at *;generalize hx2:decide (serial<=4611686018427387904)=x2 at *;generalize Prin.ok ⟨ips,irl⟩=x3 at *;generalize Prin.ok ⟨sps,srl⟩=x4 at *;generalize btwB fr=x5 at *;generalize btwB til=x6 at *;generalize decide (sig.length<=192)=x8 at *;generalize svK group pub=x9 at *;generalize hx7:decide (fr<=til)=x7 at *;have hc:x1=false\/(x1=true/\x2=false)\/(x1=true/\x2=true/\x3=false)\/(x1=true/\x2=true/\x3=true/\x4=false)\/(x1=true/\x2=true/\x3=true/\x4=true/\x5=false)\/(x1=true/\x2=true/\x3=true/\x4=true/\x5=true/\x6=false)\/(x1=true/\x2=true/\x3=true/\x4=true/\x5=true/\x6=true/\x7=false)\/(x1=true/\x2=true/\x3=true/\x4=true/\x5=true/\x6=true/\x7=true/\x8=false)\/(x1=true/\x2=true/\x3=true/\x4=true/\x5=true/\x6=true/\x7=true/\x8=true):=by
  cases x1 <;> cases x2 <;> cases x3 <;> cases x4 <;> cases x5 <;> cases x6 <;> cases x7 <;> cases x8 <;> simp
 rcases hc with rfl|⟨rfl,rfl⟩|⟨rfl,rfl,rfl⟩|⟨rfl,rfl,rfl,rfl⟩|⟨rfl,rfl,rfl,rfl,rfl⟩|⟨rfl,rfl,rfl,rfl,rfl,rfl⟩|⟨rfl,rfl,rfl,rfl,rfl,rfl,rfl⟩|⟨rfl,rfl,rfl,rfl,rfl,rfl,rfl,rfl⟩|⟨rfl,rfl,rfl,rfl,rfl,rfl,rfl,rfl⟩;all_goals repeat' (first|refine s_0 ?_|(refine zb 0 ?_;refine zO ?_;intro _)|(refine zb 1 (za ?_);refine zm ?_;refine yv (zau (hr:=hx1)) (k:=za ?_);(first|refine zm ?_|skip|fail);(first|refine yv (zau (hr:=hx2)) (k:=?_)|refine zam rfl rfl rfl ?_|skip);(try refine za ?_);(first|refine yv (zf (B:=[.slice p.a1 ips.length p.k1,strV irl]) (hv:=Seg.at rfl)) (k:=?_)|skip|fail);(first|refine yv (zd (f:=76) (hc:=zr q1)) (k:=?_)|refine zam rfl rfl rfl ?_|skip);(try refine za ?_);(first|refine yv (zf (B:=[.slice p.a2 sps.length p.k2,strV srl]) (hv:=Seg.at rfl)) (k:=?_)|skip|fail);(first|refine yv (zd (f:=76) (hc:=zr q2)) (k:=?_)|refine zam rfl rfl rfl ?_|skip);(try refine za ?_);(first|refine zm ?_|skip|fail);(first|refine yv (zd (hc:=λ_ _ _ _=>(q3 _))) (k:=?_)|refine zam rfl rfl rfl ?_|skip);(try refine za ?_);(first|refine zm ?_|skip|fail);(first|refine yv (zd (hc:=λ_ _ _ _=>(q4 _))) (k:=?_)|refine zam rfl rfl rfl ?_|skip);(try refine za ?_);(first|refine zm ?_|skip|fail);(try refine za ?_);(first|refine zm ?_|skip|fail);(first|refine yv (zau (hr:=hx7)) (k:=?_)|refine zam rfl rfl rfl ?_|skip);(try refine za ?_);(first|refine zm ?_|skip|fail);(try refine za ?_);(first|refine yv (zau (hr:=g4)) (k:=?_)|skip|fail);(try refine za ?_);(first|refine zm ?_|skip|fail);(try refine za ?_);(first|refine zm ?_|skip|fail);(first|refine yv (zd (f:=55) (hc:=zr q5)) (k:=?_)|refine zam rfl rfl rfl ?_|skip);(try refine za ?_)))
 all_goals exact q_r
end Go.Proofs.YtdnlngbjpdbffaaGreatDoor
end
section
namespace Go.Ct
theorem zrM {v:Int}(h:0<=v):tlv 2 (beZ v (sizeZ v))=derI v.toNat:=by
 obtain ⟨n,rfl⟩: ∃n:Nat,v=(n:Int):=⟨v.toNat,by omega⟩;rw [znk,zhy];rfl
theorem Prin.der_pos (p:Prin):0 < p.der.length:=by have:=(zV 0x30 [derG 0 (derQ (p.parts.map derS)),derG 1 (derS p.realm)].flatten).1;show 0 < (tlv 0x30 _).length;omega
end Go.Ct
namespace Go.Proofs.YtdnlngbjpdbffaaGreatDoor
open Go Go.Sy Go.Ct Go.Nt Go.RowKit
attribute [local irreducible] Sy SyL SyX SyC SyF Sy.Fn callFunc
theorem zj4 (v:Int) (w:World) (h1:0<=v) (h2:v<=4611686018427387904):Sy.Fn Tryz.prog 111 [.int .i64 v] w No (BytR (derI v.toNat)):=by
 have:=zpU v w (by unfold maxI;omega) h2;rwa [zrM h1] at this
theorem zki (C:List Value) (p:Prin) (w:World) (h:PrinIn w C p) (hok:p.ok=true):Sy.Fn Tryz.prog 112 [.agg C.toArray] w No (BytR p.der):=by
 have hn:=λw' (hk:Keep No w w')=>zqR C p w' (h.keep hk) hok;obtain ⟨⟨a1,c1,rfl,n1,m1,s1,z1⟩,-⟩:=h;refine zg Tryz.func112 rfl Tryz.ntmps112 q_p Holds.nil ?_;repeat' (first|refine s_0 ?_|(refine zb 0 ?_;refine zO ?_;intro _)|(refine zb 1 ?_;refine zm ?_;(refine ys (zh (f:=195) (hc:=zr hn)) (k:=?_);rintro _ _ ⟨R,rfl,aE,cE,rfl,rfl⟩);refine za ?_)|(refine zb 2 (za ?_)))
 exact q_r
theorem zhQ (p:Pl) (c:Cert) (w:World) (h:CertAt w p c) (hs:c.small):Sy.Fn Tryz.prog 50 [.agg (certL p c).toArray] w No (BytR c.body):=by
 refine zg Tryz.func50 rfl Tryz.ntmps50 q_p Holds.nil ?_;have h0:=λw'=>zj4 c.serial w' hs.s0 hs.s1;have h1:=λw' (hk:Keep No w w')=>zki _ _ w' (h.iss.keep hk) hs.iss;have h2:=λw' (hk:Keep No w w')=>zki _ _ w' (h.sub.keep hk) hs.sub;have h3:=λw'=>zjo c.fr w' hs.f0 hs.f1;have h4:=λw'=>zjo c.til w' hs.t0 hs.t1;have h5:=λw'=>zo6 c.auth w';have h6:=λw'=>zj4 c.group w' hs.g0 hs.g1;have hpub:=hs.pub;have h7:=λw' (hk:Keep No w w')=>zkT ⟨p.a3,c.pub.length,p.k3,c.pub⟩ w' (h.pub.keep hk) (by show c.pub.length < 16777216;omega);have p0:0 < (derI c.serial.toNat).length:=zaS;have p1:=Prin.der_pos c.issuer;have p2:=Prin.der_pos c.subject;have p3:0 < (derT c.fr.toNat).length:=zaS;have p4:0 < (derT c.til.toNat).length:=zaS;have p5:0 < (derB c.auth).length:=zaS;have p6:0 < (derI c.group.toNat).length:=zaS;have p7:0 < (derO c.pub).length:=zaS;have m0:=(zcW (v:=c.serial.toNat) (by have:=hs.s1;omega)).2;have m1:=Prin.der_len hs.iss;have m2:=Prin.der_len hs.sub;have m3:(derT c.fr.toNat).length<=11:=zbr (by rw [zbg];decide);have m4:(derT c.til.toNat).length<=11:=zbr (by rw [zbg];decide);have m5:(derB c.auth).length<=6:=zbr (Nat.le_refl 1);have m6:=(zcW (v:=c.group.toNat) (by have:=hs.g1;omega)).2;have m7:(derO c.pub).length<=c.pub.length+5:=zbr (Nat.le_refl _);obtain ⟨G0,e0⟩: ∃G,G=derG 0 (derI c.serial.toNat):=⟨_,rfl⟩;obtain ⟨G1,e1⟩: ∃G,G=derG 1 (c.issuer.der):=⟨_,rfl⟩;obtain ⟨G2,e2⟩: ∃G,G=derG 2 (c.subject.der):=⟨_,rfl⟩;obtain ⟨G3,e3⟩: ∃G,G=derG 3 (derT c.fr.toNat):=⟨_,rfl⟩;obtain ⟨G4,e4⟩: ∃G,G=derG 4 (derT c.til.toNat):=⟨_,rfl⟩;obtain ⟨G5,e5⟩: ∃G,G=derG 5 (derB c.auth):=⟨_,rfl⟩;obtain ⟨G6,e6⟩: ∃G,G=derG 6 (derI c.group.toNat):=⟨_,rfl⟩;obtain ⟨G7,e7⟩: ∃G,G=derG 7 (derO c.pub):=⟨_,rfl⟩;have hbody:c.body=tlv 0x30 (G0 ++ (G1 ++ (G2 ++ (G3 ++ (G4 ++ (G5 ++ (G6 ++ G7))))))):=by rw [e0,e1,e2,e3,e4,e5,e6,e7];simp [Cert.body,derQ]
 generalize c.body=BD at *;unfold certL prinL at *;clear h hs;obtain ⟨serial,iss,sub,fr,til,auth,group,pub,sig⟩:=c;dsimp only at *;generalize derI serial.toNat=D0 at *;generalize iss.der=D1 at *;generalize sub.der=D2 at *;generalize derT fr.toNat=D3 at *;generalize derT til.toNat=D4 at *;generalize derB auth=D5 at *;generalize derI group.toNat=D6 at *;generalize derO pub=D7 at *;have l0:G0.length<=D0.length+5:=by rw [e0];exact (zV (0xa0+0) D0).2
 have l1:G1.length<=D1.length+5:=by rw [e1];exact (zV (0xa0+1) D1).2
 have l2:G2.length<=D2.length+5:=by rw [e2];exact (zV (0xa0+2) D2).2
 have l3:G3.length<=D3.length+5:=by rw [e3];exact (zV (0xa0+3) D3).2
 have l4:G4.length<=D4.length+5:=by rw [e4];exact (zV (0xa0+4) D4).2
 have l5:G5.length<=D5.length+5:=by rw [e5];exact (zV (0xa0+5) D5).2
 have l6:G6.length<=D6.length+5:=by rw [e6];exact (zV (0xa0+6) D6).2
 have l7:G7.length<=D7.length+5:=by rw [e7];exact (zV (0xa0+7) D7).2
 repeat' (first|refine s_0 ?_|(refine zb 0 ?_;refine zO ?_;intro _))
 (refine zbU (id:=1) [0,1,4,5,8,9,12,13,16,17,20,21,24,25,28,29] [2,3,6,7,10,11,14,15,18,19,22,23,26,27,30,31,32,33,34] mixed ?_ ?_;kernel_rfl;refine yfv zS (k:=?_);refine yfv zC (k:=?_);refine yfv zS (k:=?_);refine yfv (zf (B:=[.slice p.a1 iss.parts.length p.k1,strV iss.realm]) (hv:=Seg.at rfl)) (k:=?_);refine yfv zS (k:=?_);refine yfv (zf (B:=[.slice p.a2 sub.parts.length p.k2,strV sub.realm]) (hv:=Seg.at rfl)) (k:=?_);refine yfv zS (k:=?_);refine yfv zC (k:=?_);refine yfv zS (k:=?_);refine yfv zC (k:=?_);refine yfv zS (k:=?_);refine yfv zC (k:=?_);refine yfv zS (k:=?_);refine yfv zC (k:=?_);refine yfv zS (k:=?_);refine yfv zC (k:=?_);refine yf0 ?_;try refine yc0 (k:=?_))
 refine ycs (zh (f:=111) (hc:=λw' X hk hh=>h0 w')) (k:=?_);rintro _ _ ⟨R,rfl,a0,c0,rfl,rfl⟩;refine ycs (zh (f:=110) (hc:=λw' X hk hh=>zbn 0 a0 D0.length c0 D0 G0 w' q_e (rowBs hh rfl q_h) p0 q_o e0)) (k:=?_);rintro _ _ ⟨R,rfl,b0,d0,rfl,rfl⟩;refine ycs (zh (f:=112) (hc:=zr h1)) (k:=?_);rintro _ _ ⟨R,rfl,a1,c1,rfl,rfl⟩;refine ycs (zh (f:=110) (hc:=λw' X hk hh=>zbn 1 a1 D1.length c1 D1 G1 w' q_e (rowBs hh rfl q_h) p1 q_o e1)) (k:=?_);rintro _ _ ⟨R,rfl,b1,d1,rfl,rfl⟩;refine ycs (zh (f:=112) (hc:=zr h2)) (k:=?_);rintro _ _ ⟨R,rfl,a2,c2,rfl,rfl⟩;refine ycs (zh (f:=110) (hc:=λw' X hk hh=>zbn 2 a2 D2.length c2 D2 G2 w' q_e (rowBs hh rfl q_h) p2 q_o e2)) (k:=?_);rintro _ _ ⟨R,rfl,b2,d2,rfl,rfl⟩;refine ycs (zh (f:=113) (hc:=λw' X hk hh=>h3 w')) (k:=?_);rintro _ _ ⟨R,rfl,a3,c3,rfl,rfl⟩;refine ycs (zh (f:=110) (hc:=λw' X hk hh=>zbn 3 a3 D3.length c3 D3 G3 w' q_e (rowBs hh rfl q_h) p3 q_o e3)) (k:=?_);rintro _ _ ⟨R,rfl,b3,d3,rfl,rfl⟩;refine ycs (zh (f:=113) (hc:=λw' X hk hh=>h4 w')) (k:=?_);rintro _ _ ⟨R,rfl,a4,c4,rfl,rfl⟩;refine ycs (zh (f:=110) (hc:=λw' X hk hh=>zbn 4 a4 D4.length c4 D4 G4 w' q_e (rowBs hh rfl q_h) p4 q_o e4)) (k:=?_);rintro _ _ ⟨R,rfl,b4,d4,rfl,rfl⟩;refine ycs (zh (f:=114) (hc:=λw' X hk hh=>h5 w')) (k:=?_);rintro _ _ ⟨R,rfl,a5,c5,rfl,rfl⟩;refine ycs (zh (f:=110) (hc:=λw' X hk hh=>zbn 5 a5 D5.length c5 D5 G5 w' q_e (rowBs hh rfl q_h) p5 q_o e5)) (k:=?_);rintro _ _ ⟨R,rfl,b5,d5,rfl,rfl⟩;refine ycs (zh (f:=111) (hc:=λw' X hk hh=>h6 w')) (k:=?_);rintro _ _ ⟨R,rfl,a6,c6,rfl,rfl⟩;refine ycs (zh (f:=110) (hc:=λw' X hk hh=>zbn 6 a6 D6.length c6 D6 G6 w' q_e (rowBs hh rfl q_h) p6 q_o e6)) (k:=?_);rintro _ _ ⟨R,rfl,b6,d6,rfl,rfl⟩;refine ycs (zh (f:=115) (hc:=zr h7)) (k:=?_);rintro _ _ ⟨R,rfl,a7,c7,rfl,rfl⟩;refine ycs (zh (f:=110) (hc:=λw' X hk hh=>zbn 7 a7 D7.length c7 D7 G7 w' q_e (rowBs hh rfl q_h) p7 q_o e7)) (k:=?_);rintro _ _ ⟨R,rfl,b7,d7,rfl,rfl⟩;refine ycs zt (k:=?_);rintro _ _ ⟨bL,rfl,rfl⟩;refine ycs (zh (f:=84) (hc:=λw' X hk hh=>zgL bL 8 [⟨b0,G0.length,d0,G0⟩,⟨b1,G1.length,d1,G1⟩,⟨b2,G2.length,d2,G2⟩,⟨b3,G3.length,d3,G3⟩,⟨b4,G4.length,d4,G4⟩,⟨b5,G5.length,d5,G5⟩,⟨b6,G6.length,d6,G6⟩,⟨b7,G7.length,d7,G7⟩] w' rfl q_e (zp (hh.has q_h) Seg.all) (λs hs=>by
   simp only [List.mem_cons,List.not_mem_nil,or_false] at hs;rcases hs with rfl|rfl|rfl|rfl|rfl|rfl|rfl|rfl
   ·exact rowBs hh rfl q_h
   ·exact rowBs hh rfl q_h
   ·exact rowBs hh rfl q_h
   ·exact rowBs hh rfl q_h
   ·exact rowBs hh rfl q_h
   ·exact rowBs hh rfl q_h
   ·exact rowBs hh rfl q_h
   ·exact rowBs hh rfl q_h) (by rw [show Bs.cat [⟨b0,G0.length,d0,G0⟩,⟨b1,G1.length,d1,G1⟩,⟨b2,G2.length,d2,G2⟩,⟨b3,G3.length,d3,G3⟩,⟨b4,G4.length,d4,G4⟩,⟨b5,G5.length,d5,G5⟩,⟨b6,G6.length,d6,G6⟩,⟨b7,G7.length,d7,G7⟩]=G0 ++ (G1 ++ (G2 ++ (G3 ++ (G4 ++ (G5 ++ (G6 ++ G7)))))) by simp [Bs.cat]];simp only [List.length_append];omega) BD (by rw [hbody];simp [Bs.cat]))) (k:=?_)
 rintro _ _ ⟨R,rfl,aW,cW,rfl,rfl⟩;refine ycv za9 (k:=?_);refine yc0 (k:=?_);repeat' (first|refine s_0 ?_|fail)
 exact ret1 rfl (resTmp rfl) (SubR.pick Rem.here rfl SubR.nil) ⟨_,_,rfl,rfl⟩
theorem zpw (p:Pl) (c:Cert) (w:World) (h:CertAt w p c) (hs:c.small):Sy.Fn Tryz.prog 51 [.agg (certL p c).toArray] w No (BytR c.der):=by
 refine zg Tryz.func51 rfl Tryz.ntmps51 q_p Holds.nil ?_;have hb:=λw' (hk:Keep No w w')=>zhQ p c w' (h.keep hk) hs;have hsig:=hs.sig;have hpub:=hs.pub;have ho:=λw' (hk:Keep No w w')=>zkT ⟨p.a4,c.sig.length,p.k4,c.sig⟩ w' (h.sig.keep hk) (by show c.sig.length < 16777216;omega);have p0:0 < c.body.length:=by rw [Cert.body_flat];exact zaS
 have p1:0 < (derO c.sig).length:=zaS;have m0:c.body.length<=605+c.pub.length:=by rw [Cert.body_flat];have:=(zV 0x30 c.flat).2;have:=Cert.flat_len hs;omega
 have m1:(derO c.sig).length<=c.sig.length+5:=zbr (Nat.le_refl _);obtain ⟨G0,e0⟩: ∃G,G=derG 0 c.body:=⟨_,rfl⟩;obtain ⟨G1,e1⟩: ∃G,G=derG 1 (derO c.sig):=⟨_,rfl⟩;have l0:G0.length<=c.body.length+5:=by rw [e0];exact (zV (0xa0+0) _).2
 have l1:G1.length<=(derO c.sig).length+5:=by rw [e1];exact (zV (0xa0+1) _).2
 have hder:c.der=tlv 0x30 (G0 ++ G1):=by rw [e0,e1];simp [Cert.der,derQ]
 generalize c.der=BD at *;generalize c.body=D0 at *;generalize derO c.sig=D1 at *;have hC:(certL p c).drop 10= [.slice p.a4 c.sig.length p.k4]:=rfl;unfold certL at *;repeat' (first|refine s_0 ?_|(refine zb 0 ?_;refine zO ?_;intro _))
 (refine zbU (id:=1) [0,3,4] [1,2,5,6,7,8,9] mixed ?_ ?_;kernel_rfl;refine yfv zf (k:=?_);refine yfv zS (k:=?_);refine yfv zC (k:=?_);refine yf0 ?_;try refine yc0 (k:=?_))
 refine ycs (zh (f:=50) (hc:=zr hb)) (k:=?_);rintro _ _ ⟨R,rfl,a0,c0,rfl,rfl⟩;refine ycs (zh (f:=110) (hc:=λw' X hk hh=>zbn 0 a0 D0.length c0 D0 G0 w' q_e (rowBs hh rfl q_h) p0 q_o e0)) (k:=?_);rintro _ _ ⟨R,rfl,b0,d0,rfl,rfl⟩;refine ycs (zh (f:=115) (hc:=zr ho)) (k:=?_);rintro _ _ ⟨R,rfl,a1,c1,rfl,rfl⟩;refine ycs (zh (f:=110) (hc:=λw' X hk hh=>zbn 1 a1 D1.length c1 D1 G1 w' q_e (rowBs hh rfl q_h) p1 q_o e1)) (k:=?_);rintro _ _ ⟨R,rfl,b1,d1,rfl,rfl⟩;refine ycs zt (k:=?_);rintro _ _ ⟨bL,rfl,rfl⟩;refine ycs (zh (f:=84) (hc:=λw' X hk hh=>zgL bL 2 [⟨b0,G0.length,d0,G0⟩,⟨b1,G1.length,d1,G1⟩] w' rfl q_e (zp (hh.has q_h) Seg.all) (λs hs=>by
   simp only [List.mem_cons,List.not_mem_nil,or_false] at hs;rcases hs with rfl|rfl
   ·exact rowBs hh rfl q_h
   ·exact rowBs hh rfl q_h) (by rw [show Bs.cat [⟨b0,G0.length,d0,G0⟩,⟨b1,G1.length,d1,G1⟩]=G0 ++ G1 by simp [Bs.cat]];simp only [List.length_append];omega) BD (by rw [hder];simp [Bs.cat]))) (k:=?_)
 rintro _ _ ⟨R,rfl,aW,cW,rfl,rfl⟩;refine ycv za9 (k:=?_);refine yc0 (k:=?_);repeat' (first|refine s_0 ?_|fail)
 exact ret1 rfl (resTmp rfl) (SubR.pick Rem.here rfl SubR.nil) ⟨_,_,rfl,rfl⟩
theorem zqs (p:Pl) (c:Cert) (w:World) (hG:GT w) (h:CertAt w p c) (hf:c.fine) (hok:c.ok svK=true):Sy.Fn Tryz.prog 21 [.agg (certL p c).toArray] w No (λv R=>∃a k,v= .tuple #[.slice a c.der.length k,.int .i64 0]/\R= [.row (.slice a c.der.length k) 5 1 c.der.length (c.der.map v8)]):=by
 refine zg Tryz.func21 rfl Tryz.ntmps21 q_p Holds.nil ?_;have hv:=λw' (hk:Keep No w w')=>zd7 p c w' (hG.to hk) (h.keep hk) hf;rw [hok] at hv;have hw:=λw' (hk:Keep No w w')=>zpw p c w' (h.keep hk) (Cert.ok_small zdH hok);have hC:(certL p c).length=11:=rfl;generalize certL p c=C at *;repeat' (first|refine s_0 ?_|(refine zb 0 ?_;refine zO ?_;intro _)|(refine zb 1 ?_;refine yv (zf (B:=C) (hz:=hC.symm)) (k:=?_);refine yv (zd (f:=34) (hc:=zr hv)) (k:=?_);refine za ?_)|(refine zb 3 ?_;refine yv (zf (B:=C) (hz:=hC.symm)) (k:=?_);(refine ys (zh (f:=51) (hc:=zr hw)) (k:=?_);rintro _ _ ⟨R,rfl,aE,cE,rfl,rfl⟩);refine za ?_))
 exact ret2 rfl (resTmp rfl) (resTmp rfl) q_h ⟨_,_,rfl,rfl⟩
def certRows (p:Pl) (c:Cert):List Res:=[.row (.slice p.a1 c.issuer.parts.length p.k1) 9 1 c.issuer.parts.length (c.issuer.parts.map strV),.row (.slice p.a2 c.subject.parts.length p.k2) 9 1 c.subject.parts.length (c.subject.parts.map strV),.row (.slice p.a3 c.pub.length p.k3) 5 1 c.pub.length (c.pub.map v8),.row (.slice p.a4 c.sig.length p.k4) 5 1 c.sig.length (c.sig.map v8)]
def CertR (c:Cert) (v:Value) (R:List Res):Prop:=∃p,v= .agg (certL p c).toArray/\R=certRows p c
theorem zn8 (p:Pl) (c:Cert) (w:World) (h:CertAt w p c) (hf:c.fine) (hp:c.pub.length < 1000000) (hs:c.sig.length < 1000000):Sy.Fn Tryz.prog 32 [.agg (certL p c).toArray] w No (CertR c):=by
 refine zg Tryz.func32 rfl Tryz.ntmps32 q_p Holds.nil ?_;have h1:=λw' (hk:Keep No w w')=>zjd _ _ w' (h.iss.keep hk) hf.i.1;have h2:=λw' (hk:Keep No w w')=>zjd _ _ w' (h.sub.keep hk) hf.s.1;have s3:=h.pub.sla;have s4:=h.sig.sla;have n3:=h.pub.nil;have n4:=h.sig.nil;dsimp only at s3 s4 n3 n4;unfold certL prinL CertR certRows at *;clear h hf;obtain ⟨serial,⟨ips,irl⟩,⟨sps,srl⟩,fr,til,auth,group,pub,sig⟩:=c;dsimp only at *;repeat' (first|refine s_0 ?_|(refine zb 0 ?_;refine zj ?_;intro _;refine zj ?_;intro _)|(refine zb 1 (za ?_);refine yv (zf (B:=[.slice p.a1 ips.length p.k1,strV irl]) (hv:=Seg.at rfl)) (k:=?_);(refine ys (zh (f:=75) (hc:=zr h1)) (k:=?_);rintro _ _ ⟨R,rfl,a1,k1,rfl,rfl⟩);refine za ?_;refine yn (zcC (hC:=Nat.le_of_ble_eq_true rfl)) (k:=?_))|(refine zb 2 (za ?_);refine yv (zf (B:=[.slice p.a2 sps.length p.k2,strV srl]) (hv:=Seg.at rfl)) (k:=?_);(refine ys (zh (f:=75) (hc:=zr h2)) (k:=?_);rintro _ _ ⟨R,rfl,a2,k2,rfl,rfl⟩);refine za ?_;refine yn (zcC (hC:=Nat.le_of_ble_eq_true rfl)) (k:=?_))|(refine zb 3 (za ?_);refine zm ?_;(refine ys (zdD (hr:=Rd.old s3 (λ_ _ h=>h)) (hn:=by rw [List.length_map,Nat.mul_one]) (hnil:=n3)) (k:=?_);rintro _ _ ⟨rfl,a3,k3,rfl⟩);refine za ?_;refine yn (zcr (hC:=⟨Nat.le_of_ble_eq_true rfl,rfl⟩)) (k:=?_))|(refine zb 4 (za ?_);refine zm ?_;(refine ys (zdD (hr:=Rd.old s4 (λ_ _ h=>h)) (hn:=by rw [List.length_map,Nat.mul_one]) (hnil:=n4)) (k:=?_);rintro _ _ ⟨rfl,a4,k4,rfl⟩);refine za ?_;refine yn (zcr (hC:=⟨Nat.le_of_ble_eq_true rfl,rfl⟩)) (k:=?_))|(refine zb 5 ?_;refine zm ?_;refine yn (zcC (hC:=Nat.le_of_ble_eq_true rfl)) (k:=?_)))
 exact ret1 rfl (resCells (B:=[.int .i64 serial,.slice a1 ips.length k1,strV irl,.slice a2 sps.length k2,strV srl,.int .i64 fr,.int .i64 til,.bool auth,.int .i64 group,.slice a3 pub.length k3,.slice a4 sig.length k4]) rfl (ty rfl) rfl Has.go Seg.all rfl) q_h ⟨⟨a1,k1,a2,k2,a3,k3,a4,k4⟩,rfl,rfl⟩
end Go.Proofs.YtdnlngbjpdbffaaGreatDoor
end
