/- Lemmas of this proof. -/
import Derived.Test.YtdnlngbjpdbffaaGreatDoorKJ41
set_option maxRecDepth 10000
set_option linter.all false
namespace Go.Ct
open Go Go.Sy
def Prin.short(p:Prin):Bool:=p.parts.all (λx=>decide (x.length<=40))&&(decide (p.parts.length<=6)&&decide (p.realm.length<=40))
def Cert.tiny(c:Cert):Bool:=c.issuer.short&&c.subject.short&&decide (c.pub.length<=300)&&decide (c.sig.length<=300)
theorem Prin.short_iff{p:Prin}(h:p.short=true):p.parts.length<1000000/\p.realm.length<1000000000/\∀x∈p.parts,x.length<1000000000:=by
 simp only[Prin.short,AB,decide_eq_true_eq,AT] at h;exact⟨by omega,by omega,λx j=>by have:=h.1 x j;omega⟩
def Fz:=@Prin.short_iff
theorem Cert.tiny_fine{c:Cert}(h:c.tiny=true):c.fine/\c.pub.length<=300/\c.sig.length<=300:=by
 simp only[Cert.tiny,AB,decide_eq_true_eq] at h;exact⟨⟨Fz h.1.1.1,Fz h.1.1.2⟩,h.1.2,h.2⟩
def Fj:=@Cert.tiny_fine
end Go.Ct
namespace Go.Proofs.YtdnlngbjpdbffaaGreatDoor
open Go Go.Sy Go.Ct Go.Nt Go.RowKit
attribute [local irreducible] Sy SyL SyX SyC SyF Sy.Fn callFunc
theorem zmf(a:Option Addr)(k:Nat)(p:Prin)(w:World)(h:PrinIn w (za7 a k p) p):q_G 48 [.agg (za7 a k p).toArray] w (.bool p.short):=by
 obtain⟨⟨E,H,C,J,I,s1,L⟩,hr,B⟩:=h;cases C;refine zo Tryz.func48 Tryz.ntmps48 ?_;unfold Prin.short za7 zX at*;obtain⟨m,A⟩:=p;dsimp only at*;unfold maxLen at*;repeat' (first|refine s_t ?_|refine zg 0 ?_;refine zV ?_;intro _|refine q_k 1 ?_)
 rename_i b;refine zE (γ:=Nat) (λi=>[(1,.pointer (some ⟨b,0,none⟩)),(2,.bool false),(3,.int .i64 (i:Int))]) (λ_=>[.blk b 43 [.slice a m.length k,.string (str A)]]) (λi=>i<=m.length/\(m.take i).all (λx=>decide (x.length<=40))=true) (λi=>m.length-i) 0 ⟨AE _,rfl⟩ ?_ ?_ ?_
 ·exact q_h
 ·exact q_h
 rintro i ⟨G,t⟩;by_cases hlt:i<m.length
 ·obtain⟨F,K,rfl,q⟩:=zdV s1 (i:=i) (by rw[A0];omega);have r:=q i _ (zdg zX q_o);unfold zX at r;have g2:decide ((i:Int)<(m.length:Int))=true:=q_d;have g5:IntKind.i64.wrap ((i:Int)+1)=((i+1:Nat):Int):=q_w;have t1:m.take (i+1)=m.take i++[m[i]]:=zaP q_o;by_cases B:m[i].length<=40
  ·have g3:decide ((m[i].length:Int)>40)=false:=q_f;repeat' (first|refine s_t ?_|refine q_k 2 ?_;refine zk ?_;refine zb ?_;refine q_v (zl (hr:=g2)) ?_|refine q_k 4 ?_;refine zk ?_;refine zb ?_;refine q_v (zL (j:=i)) ?_;refine q_x (zn (hv:=r)) ?_;refine q_v (zF (hr:=g3)) ?_|refine q_k 3 ?_;refine q_x (zA (hr:=g5)) ?_)
   refine zy (i+1) ⟨hlt,by rw[t1,Bc,t];simp[B]⟩ ?_ ?_ ?_
   ·show m.length-(i+1)<m.length-i;omega
   ·exact q_h
   ·exact q_h
  ·have g3:decide ((m[i].length:Int)>40)=true:=q_d;have e:m.all (λx=>decide (x.length<=40))=false:=by
    rw[Bi];exact⟨m[i],Ah _,by simpa using B⟩
   rw[e,BX];repeat' (first|refine s_t ?_|refine q_k 2 ?_;refine zk ?_;refine zb ?_;refine q_v (zl (hr:=g2)) ?_|refine q_k 4 ?_;refine zk ?_;refine zb ?_;refine q_v (zL (j:=i)) ?_;refine q_x (zn (hv:=r)) ?_;refine q_v (zF (hr:=g3)) ?_|refine q_k 5 ?_)
   exact q_r
 obtain rfl:i=m.length:=q_o;rw[CZ] at t;rw[t,Ax];have g2:decide ((m.length:Int)<(m.length:Int))=false:=q_f;have g6:decide ((m.length:Int)<=6)=decide (m.length<=6):=decide_eq_decide.2 q_o;have g7:decide ((A.length:Int)<=40)=decide (A.length<=40):=decide_eq_decide.2 q_o;generalize decide (A.length<=40)=y,decide (m.length<=6)=x at*;cases x;all_goals repeat' (first|refine s_0 ?_|refine q_k 2 ?_;refine zk ?_;refine zb ?_;refine q_v (zl (hr:=g2)) ?_|refine q_k 6 ?_;refine zk ?_;refine zb ?_;refine q_x (zax (hr:=g6)) ?_;(first|refine zk ?_|skip|fail);(try refine zb ?_);(first|refine q_v (zax (hr:=g7)) ?_|skip|fail);(try refine zb ?_))
 all_goals exact q_r
theorem zjs(p:Pl)(c:Cert)(w:World)(h:CertAt w p c):q_G 26 [.agg (zx p c).toArray] w (.bool c.tiny):=by
 refine zo Tryz.func26 Tryz.ntmps26 ?_;have G:=λt (E:Keep No w t)=>zmf _ _ _ t (h.iss.keep E);have H:=λt (E:Keep No w t)=>zmf _ _ _ t (h.sub.keep E);have g3:decide ((c.pub.length:Int)<=300)=decide (c.pub.length<=300):=decide_eq_decide.2 q_o;have g4:decide ((c.sig.length:Int)<=300)=decide (c.sig.length<=300):=decide_eq_decide.2 q_o;unfold zx za7 Cert.tiny at*;clear h;obtain⟨serial,⟨j,m⟩,⟨q,r⟩,fr,til,auth,group,pub,sig⟩:=c;dsimp only at*;generalize decide (sig.length<=300)=I,decide (pub.length<=300)=F,Prin.short ⟨q,r⟩=C,Prin.short ⟨j,m⟩=A at*;have hc:A=false\/(A=true/\C=false)\/(A=true/\C=true/\F=false)\/(A=true/\C=true/\F=true):=by
  cases A <;> cases C <;> cases F <;> simp
 rcases hc with rfl|⟨rfl,rfl⟩|⟨rfl,rfl,rfl⟩|⟨rfl,rfl,rfl⟩;all_goals repeat' (first|refine s_0 ?_|refine zg 0 ?_;refine zV ?_;intro _|refine q_k 1 ?_;refine q_v (ze (B:=[.slice p.a1 j.length p.k1,zX m]) (hv:=FG rfl)) ?_;refine q_v (za (hc:=zq G)) ?_;refine zb ?_;(first|refine q_v (ze (B:=[.slice p.a2 q.length p.k2,zX r]) (hv:=FG rfl)) ?_|skip|fail);(first|refine q_v (za (hc:=zq H)) ?_|refine zaf rfl rfl rfl ?_|skip);(try refine zb ?_);(first|refine zk ?_|skip|fail);(try refine zb ?_);(first|refine q_v (zax (hr:=g3)) ?_|skip|fail);(try refine zb ?_);(first|refine zk ?_|skip|fail);(try refine zb ?_);(first|refine q_v (zax (hr:=g4)) ?_|skip|fail);(try refine zb ?_))
 all_goals exact q_r
theorem zlt(a1 a2:Option Addr)(q t r A:Nat)(j m:List UInt8)(w:World)(h1:j.length=q)(h2:m.length=r)(s1:SlA w a1 (j.map v8))(s2:SlA w a2 (m.map v8)):
  q_G 74 [.slice a1 q t,.slice a2 r A] w (.bool (j==m)):=by
 refine zo Tryz.func74 Tryz.ntmps74 ?_;have g:decide (j=m)=(j==m):=by
  by_cases h:j=m <;> simp[h]
 repeat' (first|refine s_0 ?_|refine q_k 0 ?_|refine q_k 1 ?_;refine q_x (zeN (l:=j) (hr:=FZ s1 (λ_ _ h=>h)) (hn:=h1)) ?_;refine q_v (zeN (l:=m) (hr:=FZ s2 (λ_ _ h=>h)) (hn:=h2)) ?_;refine q_x (zbf (hr:=g)) ?_)
 exact q_r
theorem zlx(a1 a2:Option Addr)(k1 k2:Nat)(p q:Prin)(w:World)(h1:PrinIn w (za7 a1 k1 p) p)(h2:PrinIn w (za7 a2 k2 q) q)(hb:p.parts.length<1000000):q_G 54 [.agg (za7 a1 k1 p).toArray,.agg (za7 a2 k2 q).toArray] w (.bool (p.same q)):=by
 obtain⟨⟨K,O,Q,V,T,s1,Z⟩,-⟩:=h1;obtain⟨⟨L,P,R,W,U,s2,z2⟩,-⟩:=h2;cases Q;cases R;refine zo Tryz.func54 Tryz.ntmps54 ?_;unfold Prin.same za7 zX at*;obtain⟨m,F⟩:=p;obtain⟨r,G⟩:=q;dsimp only at*;by_cases hr:F≠G
 ·have g:decide (F≠G)=true:=decide_eq_true hr;have e:(F==G)=false:=beq_eq_false_iff_ne.2 hr;rw[e,Bool.false_and];repeat' (first|refine s_0 ?_|refine zg 0 ?_;refine zi ?_;intro _;refine zV ?_;intro _|refine q_k 1 ?_;refine zk ?_;refine zb ?_;refine zk ?_;refine q_x (zdu (hr:=g)) ?_|refine q_k 2 ?_)
  exact q_r
 have H:F=G:=EN.1 hr;have g:decide (F≠G)=false:=decide_eq_false hr;rw[beq_iff_eq.2 H,Ax];by_cases hn:¬m.length=r.length
 ·have g1:decide ((m.length:Int)≠(r.length:Int))=true:=q_d;have e:(m==r)=false:=by
   rw[beq_eq_false_iff_ne];intro e;exact hn (by rw[e])
  rw[e];repeat' (first|refine s_0 ?_|refine zg 0 ?_;refine zi ?_;intro _;refine zV ?_;intro _|refine q_k 1 ?_;refine zk ?_;refine zb ?_;refine zk ?_;refine q_x (zdu (hr:=g)) ?_;refine zk ?_;refine zb ?_;refine zk ?_;refine zb ?_;refine q_x (zaC (hr:=g1)) ?_|refine q_k 2 ?_)
  exact q_r
 have g1:decide ((m.length:Int)≠(r.length:Int))=false:=q_f;repeat' (first|refine s_t ?_|refine zg 0 ?_;refine zi ?_;intro _;refine zV ?_;intro _|refine q_k 1 ?_;refine zk ?_;refine zb ?_;refine zk ?_;refine q_x (zdu (hr:=g)) ?_;refine zk ?_;refine zb ?_;refine zk ?_;refine zb ?_;refine q_x (zaC (hr:=g1)) ?_|refine q_k 3 ?_)
 rename_i I J;refine zE (γ:=Nat) (λi=>[(2,.pointer (some ⟨I,0,none⟩)),(3,.pointer (some ⟨J,0,none⟩)),(5,.int .i64 (i:Int))]) (λ_=>[.blk I 43 [.slice a1 m.length k1,.string (str F)],.blk J 43 [.slice a2 r.length k2,.string (str G)]]) (λi=>i<=m.length/\m.take i=r.take i) (λi=>m.length-i) 0 ⟨AE _,rfl⟩ ?_ ?_ ?_
 ·exact q_h
 ·exact q_h
 rintro i ⟨S,E⟩;by_cases hlt:i<m.length
 ·obtain⟨M,X,rfl,t⟩:=zdV s1 (i:=i) (by rw[A0];omega);obtain⟨N,Y,rfl,A⟩:=zdV s2 (i:=i) (by rw[A0];omega);have B:=t i _ (zdg zX q_o);have C:=A i _ (zdg zX q_o);unfold zX at B C;have g2:decide ((i:Int)<(m.length:Int))=true:=q_d;have g5:IntKind.i64.wrap ((i:Int)+1)=((i+1:Nat):Int):=q_w;have t1:m.take (i+1)=m.take i++[m[i]]:=zaP q_o;have t2:r.take (i+1)=r.take i++[r[i]]:=zaP q_o;by_cases hx:m[i]=r[i]
  ·have g3:decide (m[i]≠r[i])=false:=decide_eq_false (λh=>h hx);repeat' (first|refine s_t ?_|refine q_k 4 ?_;refine zk ?_;refine zb ?_;refine q_v (zl (hr:=g2)) ?_|refine z5 (id:=6) 10 [[],[0],[],[0,1,2],[0,1,2,3],[],[5],[],[5,6,7],[5,6,7,8],[0,1,2,3,4,5,6,7,8,9]] mixed ?_ ?_;kernel_rfl;refine q_D zO ?_;refine zaT ?_;refine zt ?_;refine q_D (zL (j:=i)) ?_;refine q_D (zn (hv:=B)) ?_;refine q_D zO ?_;refine zaT ?_;refine zt ?_;refine q_D (zL (j:=i)) ?_;refine q_D (zn (hv:=C)) ?_;refine zam ?_;refine q_v (zdu (hr:=g3)) ?_|refine q_k 5 ?_;refine q_x (zA (hr:=g5)) ?_)
   refine zy (i+1) ⟨hlt,by rw[t1,t2,E,hx]⟩ ?_ ?_ ?_
   ·show m.length-(i+1)<m.length-i;omega
   ·exact q_h
   ·exact q_h
  ·have g3:decide (m[i]≠r[i])=true:=decide_eq_true hx;have e:(m==r)=false:=by
    rw[beq_eq_false_iff_ne];intro e;subst e;exact hx rfl
   rw[e];repeat' (first|refine s_t ?_|refine q_k 4 ?_;refine zk ?_;refine zb ?_;refine q_v (zl (hr:=g2)) ?_|refine z5 (id:=6) 10 [[],[0],[],[0,1,2],[0,1,2,3],[],[5],[],[5,6,7],[5,6,7,8],[0,1,2,3,4,5,6,7,8,9]] mixed ?_ ?_;kernel_rfl;refine q_D zO ?_;refine zaT ?_;refine zt ?_;refine q_D (zL (j:=i)) ?_;refine q_D (zn (hv:=B)) ?_;refine q_D zO ?_;refine zaT ?_;refine zt ?_;refine q_D (zL (j:=i)) ?_;refine q_D (zn (hv:=C)) ?_;refine zam ?_;refine q_v (zdu (hr:=g3)) ?_|refine q_k 7 ?_)
   exact q_r
 obtain rfl:i=m.length:=q_o;have e:(m==r)=true:=by
  rw[beq_iff_eq];rw[A6 q_o,A6 q_o] at E;exact E
 rw[e];have g2:decide ((m.length:Int)<(m.length:Int))=false:=q_f;repeat' (first|refine s_0 ?_|refine q_k 4 ?_;refine zk ?_;refine zb ?_;refine q_v (zl (hr:=g2)) ?_|refine q_k 8 ?_)
 exact q_r
end Go.Proofs.YtdnlngbjpdbffaaGreatDoor
