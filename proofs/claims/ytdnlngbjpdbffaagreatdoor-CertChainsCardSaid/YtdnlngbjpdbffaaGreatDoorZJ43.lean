/- Lemmas. -/
import Derived.Test.YtdnlngbjpdbffaaGreatDoorZJ41
set_option maxRecDepth 10000
set_option linter.all false
namespace Go.Ct
open Sy
def Prin.short(p:Prin):Bool:=p.parts.all (λx=>decide (x.length<=40))&&(decide (p.parts.length<=6)&&decide (p.realm.length<=40))
def Cert.tiny(c:Cert):Bool:=c.issuer.short&&c.subject.short&&decide (c.pub.length<=300)&&decide (c.sig.length<=300)
theorem Prin.short_iff{p:Prin}(h:p.short=true):p.parts.length<1000000/\p.realm.length<1000000000/\∀x∈p.parts,x.length<1000000000:=by
 simp only[Prin.short,A8,decide_eq_true_eq,AF] at h;exact⟨by omega,by omega,λx j=>by have:=h.1 x j;omega⟩
def Fz:=@Prin.short_iff
theorem Cert.tiny_fine{c:Cert}(h:c.tiny=true):c.fine/\c.pub.length<=300/\c.sig.length<=300:=by
 simp only[Cert.tiny,A8,decide_eq_true_eq] at h;exact⟨⟨Fz h.1.1.1,Fz h.1.1.2⟩,h.1.2,h.2⟩
end Go.Ct
namespace Go.Proofs.YtdnlngbjpdbffaaGreatDoor
open Sy Ct Nt RowKit
attribute [local irreducible] Sy SyL SyX SyC SyF Sy.Fn callFunc
theorem zoS(a:Option Addr)(k:Nat)(p:Prin)(w:World)(h:PrinIn w (zbe a k p) p):q_G 48 [.agg (zbe a k p).toArray] w (.bool p.short):=by
 obtain⟨⟨G,J,F,L,K,s1,N⟩,hr,E⟩:=h;cases F;refine zt Tryz.func48 Tryz.ntmps48 ?_;unfold Prin.short zbe zT at*;obtain⟨m,B⟩:=p;dsimp only at*;unfold maxLen at*;repeat' first|refine s_t ?_|refine zf 0 ?_;refine z9 λ_=>?_|refine q_k 1 ?_
 rename_i b;refine zL (γ:=Nat) (λi=>[(1,.pointer (some ⟨b,0,none⟩)),(2,.bool false),(3,.int .i64 (i:Int))]) (λ_=>[.blk b 43 [.slice a m.length k,.string (str B)]]) (λi=>i<=m.length/\(m.take i).all (λx=>decide (x.length<=40))=true) (λi=>m.length-i) 0 ⟨AA _,rfl⟩ ?_ ?_ ?_
 ·exact q_h
 ·exact q_h
 rintro i ⟨I,A⟩;by_cases hlt:i<m.length
 ·obtain⟨H,M,rfl,q⟩:=zca s1 (i:=i) (by rw[A0];omega);have r:=q i _ (zcX zT q_o);unfold zT at r;have g2:decide ((i:Int)<(m.length:Int))=true:=q_d;have g5:IntKind.i64.wrap ((i:Int)+1)=((i+1:Nat):Int):=q_w;have t1:m.take (i+1)=m.take i++[m[i]]:=zaE q_o;by_cases E:m[i].length<=40
  ·have g3:decide ((m[i].length:Int)>40)=false:=q_f;repeat' first|refine s_t ?_|refine q_k 2 ?_;refine zm ?_;refine zb ?_;refine q_v (zn (hr:=g2)) ?_|refine q_k 4 ?_;refine zm ?_;refine zb ?_;refine q_v (zq (j:=i)) ?_;refine q_x (zo (hv:=r)) ?_;refine q_v (zH (hr:=g3)) ?_|refine q_k 3 ?_;refine q_x (zD (hr:=g5)) ?_
   refine zC (i+1) ⟨hlt,by rw[t1,BQ,A];simp[E]⟩ ?_ ?_ ?_
   ·show m.length-(i+1)<m.length-i;omega
   ·exact q_h
   ·exact q_h
  ·have g3:decide ((m[i].length:Int)>40)=true:=q_d;have e:m.all (λx=>decide (x.length<=40))=false:=by
    rw[BW];exact⟨m[i],AX _,by simpa using E⟩
   rw[e,BX];repeat' first|refine s_t ?_|refine q_k 2 ?_;refine zm ?_;refine zb ?_;refine q_v (zn (hr:=g2)) ?_|refine q_k 4 ?_;refine zm ?_;refine zb ?_;refine q_v (zq (j:=i)) ?_;refine q_x (zo (hv:=r)) ?_;refine q_v (zH (hr:=g3)) ?_|refine q_k 5 ?_
   exact q_r
 obtain rfl:i=m.length:=q_o;rw[C3] at A;rw[A,B2];have g2:decide ((m.length:Int)<(m.length:Int))=false:=q_f;have g6:decide ((m.length:Int)<=6)=decide (m.length<=6):=decide_eq_decide.2 q_o;have g7:decide ((B.length:Int)<=40)=decide (B.length<=40):=decide_eq_decide.2 q_o;generalize decide (B.length<=40)=y,decide (m.length<=6)=x at*;cases x;all_goals repeat' first|refine s_0 ?_|refine q_k 2 ?_;refine zm ?_;refine zb ?_;refine q_v (zn (hr:=g2)) ?_|refine q_k 6 ?_;refine zm ?_;refine zb ?_;refine q_x (zaA (hr:=g6)) ?_;(first|refine zm ?_|skip|fail);(try refine zb ?_);(first|refine q_v (zaA (hr:=g7)) ?_|skip|fail);(try refine zb ?_)
 all_goals exact q_r
theorem zvR(p:Pl)(c:Cert)(w:World)(h:CertAt w p c):q_G 26 [.agg (zF p c).toArray] w (.bool c.tiny):=by
 refine zt Tryz.func26 Tryz.ntmps26 ?_;have I:=λA (G:Keep No w A)=>zoS _ _ _ A (h.iss.keep G);have J:=λA (G:Keep No w A)=>zoS _ _ _ A (h.sub.keep G);have g3:decide ((c.pub.length:Int)<=300)=decide (c.pub.length<=300):=decide_eq_decide.2 q_o;have g4:decide ((c.sig.length:Int)<=300)=decide (c.sig.length<=300):=decide_eq_decide.2 q_o;unfold zF zbe Cert.tiny at*;clear h;obtain⟨serial,⟨j,m⟩,⟨q,r⟩,fr,til,auth,group,pub,sig⟩:=c;dsimp only at*;generalize decide (sig.length<=300)=K,decide (pub.length<=300)=H,Prin.short ⟨q,r⟩=F,Prin.short ⟨j,m⟩=E at*;have hc:E=false\/(E=true/\F=false)\/(E=true/\F=true/\H=false)\/(E=true/\F=true/\H=true):=by
  cases E <;> cases F <;> cases H <;> simp
 rcases hc with rfl|⟨rfl,rfl⟩|⟨rfl,rfl,rfl⟩|⟨rfl,rfl,rfl⟩;all_goals repeat' first|refine s_0 ?_|refine zf 0 ?_;refine z9 λ_=>?_|refine q_k 1 ?_;refine q_v (ze (B:=[.slice p.a1 j.length p.k1,zT m]) (hv:=FK rfl)) ?_;refine q_v (za (hc:=zr I)) ?_;refine zb ?_;(first|refine q_v (ze (B:=[.slice p.a2 q.length p.k2,zT r]) (hv:=FK rfl)) ?_|skip|fail);(first|refine q_v (za (hc:=zr J)) ?_|refine zaG rfl rfl rfl ?_|skip);(try refine zb ?_);(first|refine zm ?_|skip|fail);(try refine zb ?_);(first|refine q_v (zaA (hr:=g3)) ?_|skip|fail);(try refine zb ?_);(first|refine zm ?_|skip|fail);(try refine zb ?_);(first|refine q_v (zaA (hr:=g4)) ?_|skip|fail);(try refine zb ?_)
 all_goals exact q_r
theorem zjj(a1 a2:Option Addr)(q A r B:Nat)(j m:List UInt8)(w:World)(h1:j.length=q)(h2:m.length=r)(s1:SlA w a1 (j.map v8))(s2:SlA w a2 (m.map v8)):
  q_G 74 [.slice a1 q A,.slice a2 r B] w (.bool (j==m)):=by
 refine zt Tryz.func74 Tryz.ntmps74 ?_;have g:decide (j=m)=(j==m):=by
  by_cases h:j=m <;> simp[h]
 repeat' first|refine s_0 ?_|refine q_k 0 ?_|refine q_k 1 ?_;refine q_x (zcn (l:=j) (hr:=FQ s1 (λ_ _ h=>h)) (hn:=h1)) ?_;refine q_v (zcn (l:=m) (hr:=FQ s2 (λ_ _ h=>h)) (hn:=h2)) ?_;refine q_x (zbJ (hr:=g)) ?_
 exact q_r
theorem zmP(a1 a2:Option Addr)(k1 k2:Nat)(p q:Prin)(w:World)(h1:PrinIn w (zbe a1 k1 p) p)(h2:PrinIn w (zbe a2 k2 q) q)(hb:p.parts.length<1000000):q_G 54 [.agg (zbe a1 k1 p).toArray,.agg (zbe a2 k2 q).toArray] w (.bool (p.same q)):=by
 obtain⟨⟨M,Q,S,X,V,s1,z1⟩,-⟩:=h1;obtain⟨⟨N,R,T,Y,W,s2,z2⟩,-⟩:=h2;cases S;cases T;refine zt Tryz.func54 Tryz.ntmps54 ?_;unfold Prin.same zbe zT at*;obtain⟨m,H⟩:=p;obtain⟨r,I⟩:=q;dsimp only at*;by_cases hr:H≠I
 ·have g:decide (H≠I)=true:=decide_eq_true hr;have e:(H==I)=false:=beq_eq_false_iff_ne.2 hr;rw[e,Bool.false_and];repeat' first|refine s_0 ?_|refine zf 0 ?_;refine zk λ_=>?_;refine z9 λ_=>?_|refine q_k 1 ?_;refine zm ?_;refine zb ?_;refine zm ?_;refine q_x (zco (hr:=g)) ?_|refine q_k 2 ?_
  exact q_r
 have J:H=I:=E5.1 hr;have g:decide (H≠I)=false:=decide_eq_false hr;rw[beq_iff_eq.2 J,B2];by_cases hn:¬m.length=r.length
 ·have g1:decide ((m.length:Int)≠(r.length:Int))=true:=q_d;have e:(m==r)=false:=by
   rw[beq_eq_false_iff_ne];intro e;exact hn (by rw[e])
  rw[e];repeat' first|refine s_0 ?_|refine zf 0 ?_;refine zk λ_=>?_;refine z9 λ_=>?_|refine q_k 1 ?_;refine zm ?_;refine zb ?_;refine zm ?_;refine q_x (zco (hr:=g)) ?_;refine zm ?_;refine zb ?_;refine zm ?_;refine zb ?_;refine q_x (zad (hr:=g1)) ?_|refine q_k 2 ?_
  exact q_r
 have g1:decide ((m.length:Int)≠(r.length:Int))=false:=q_f;repeat' first|refine s_t ?_|refine zf 0 ?_;refine zk λ_=>?_;refine z9 λ_=>?_|refine q_k 1 ?_;refine zm ?_;refine zb ?_;refine zm ?_;refine q_x (zco (hr:=g)) ?_;refine zm ?_;refine zb ?_;refine zm ?_;refine zb ?_;refine q_x (zad (hr:=g1)) ?_|refine q_k 3 ?_
 rename_i K L;refine zL (γ:=Nat) (λi=>[(2,.pointer (some ⟨K,0,none⟩)),(3,.pointer (some ⟨L,0,none⟩)),(5,.int .i64 (i:Int))]) (λ_=>[.blk K 43 [.slice a1 m.length k1,.string (str H)],.blk L 43 [.slice a2 r.length k2,.string (str I)]]) (λi=>i<=m.length/\m.take i=r.take i) (λi=>m.length-i) 0 ⟨AA _,rfl⟩ ?_ ?_ ?_
 ·exact q_h
 ·exact q_h
 rintro i ⟨U,G⟩;by_cases hlt:i<m.length
 ·obtain⟨O,Z,rfl,A⟩:=zca s1 (i:=i) (by rw[A0];omega);obtain⟨P,o2,rfl,B⟩:=zca s2 (i:=i) (by rw[A0];omega);have E:=A i _ (zcX zT q_o);have F:=B i _ (zcX zT q_o);unfold zT at E F;have g2:decide ((i:Int)<(m.length:Int))=true:=q_d;have g5:IntKind.i64.wrap ((i:Int)+1)=((i+1:Nat):Int):=q_w;have t1:m.take (i+1)=m.take i++[m[i]]:=zaE q_o;have t2:r.take (i+1)=r.take i++[r[i]]:=zaE q_o;by_cases hx:m[i]=r[i]
  ·have g3:decide (m[i]≠r[i])=false:=decide_eq_false (λh=>h hx);repeat' first|refine s_t ?_|refine q_k 4 ?_;refine zm ?_;refine zb ?_;refine q_v (zn (hr:=g2)) ?_|refine zai (id:=6) 10 [[],[0],[],[0,1,2],[0,1,2,3],[],[5],[],[5,6,7],[5,6,7,8],[0,1,2,3,4,5,6,7,8,9]] mixed ?_ ?_;kernel_rfl;refine q_D zN ?_;refine zdB ?_;refine zB ?_;refine q_D (zq (j:=i)) ?_;refine q_D (zo (hv:=E)) ?_;refine q_D zN ?_;refine zdB ?_;refine zB ?_;refine q_D (zq (j:=i)) ?_;refine q_D (zo (hv:=F)) ?_;refine zaF ?_;refine q_v (zco (hr:=g3)) ?_|refine q_k 5 ?_;refine q_x (zD (hr:=g5)) ?_
   refine zC (i+1) ⟨hlt,by rw[t1,t2,G,hx]⟩ ?_ ?_ ?_
   ·show m.length-(i+1)<m.length-i;omega
   ·exact q_h
   ·exact q_h
  ·have g3:decide (m[i]≠r[i])=true:=decide_eq_true hx;have e:(m==r)=false:=by
    rw[beq_eq_false_iff_ne];intro e;subst e;exact hx rfl
   rw[e];repeat' first|refine s_t ?_|refine q_k 4 ?_;refine zm ?_;refine zb ?_;refine q_v (zn (hr:=g2)) ?_|refine zai (id:=6) 10 [[],[0],[],[0,1,2],[0,1,2,3],[],[5],[],[5,6,7],[5,6,7,8],[0,1,2,3,4,5,6,7,8,9]] mixed ?_ ?_;kernel_rfl;refine q_D zN ?_;refine zdB ?_;refine zB ?_;refine q_D (zq (j:=i)) ?_;refine q_D (zo (hv:=E)) ?_;refine q_D zN ?_;refine zdB ?_;refine zB ?_;refine q_D (zq (j:=i)) ?_;refine q_D (zo (hv:=F)) ?_;refine zaF ?_;refine q_v (zco (hr:=g3)) ?_|refine q_k 7 ?_
   exact q_r
 obtain rfl:i=m.length:=q_o;have e:(m==r)=true:=by
  rw[beq_iff_eq];rw[A6 q_o,A6 q_o] at G;exact G
 rw[e];have g2:decide ((m.length:Int)<(m.length:Int))=false:=q_f;repeat' first|refine s_0 ?_|refine q_k 4 ?_;refine zm ?_;refine zb ?_;refine q_v (zn (hr:=g2)) ?_|refine q_k 8 ?_
 exact q_r
def sgn(x:Nat):Int:=if x<128 then (x:Int) else (x:Int)-256
theorem zqw{x:Nat}(h:x<256): -128<=sgn x/\sgn x<128:=by unfold sgn;split <;> omega
def zd7(x:Nat)(r:List UInt8)(i:Nat):Int:=sgn x*(256^i:Nat)+((zaw (r.take i):Nat):Int)
theorem zrt(x:Nat)(r:List UInt8):zd7 x r 0=sgn x:=by simp[zd7,zaw]
theorem zq1(x:Nat)(r:List UInt8)(i:Nat)(j:i<r.length):zd7 x r (i+1)=zd7 x r i*256+((r[i]).toNat:Int):=by
 unfold zd7;rw[zgj r i j,AN];generalize (256^i:Nat)=p;have e:sgn x*((p*256:Nat):Int)=sgn x*(p:Int)*256:=by rw[Bg,<-Int.mul_assoc];rfl
 rw[e];generalize sgn x*(p:Int)=q;omega
theorem zsF{x:Nat}(h:x<256)(r:List UInt8){i:Nat}(w:i<=r.length): -128*((256^i:Nat):Int)<=zd7 x r i/\zd7 x r i<128*((256^i:Nat):Int):=by
 have m:=zqw h;have q:=zfP (r.take i);rw[AS,BP w] at q;unfold zd7;generalize (256^i:Nat)=p at*;have j:(0:Int)<=(p:Int):=Bq _;have A:=Db m.1 j;have B:=Db (show sgn x<=127 by omega) j;constructor
 ·omega
 ·have:(128:Int)*(p:Int)=127*p+p:=q_o;omega
theorem zxe(x:UInt8)(r:List UInt8):zd4 (x::r)=zd7 x.toNat r r.length:=by
 unfold zd4 zd7 sgn;rw[C3]
theorem zxw(l:List UInt8)(h1:1<=l.length)(m:l.length<=8):rdI l=if -zb1<=zd4 l/\zd4 l<=zb1/\beZ (zd4 l) (zbl (zd4 l))=l then some (zd4 l) else none:=by
 unfold rdI;by_cases h: -zb1<=zd4 l/\zd4 l<=zb1/\beZ (zd4 l) (zbl (zd4 l))=l
 ·rw[if_pos h,if_pos ⟨h1,m,h⟩]
 ·rw[if_neg h,if_neg (λj=>h j.2.2)]
attribute [local irreducible] Sy.FnP
theorem zwX(v:Int)(w:World)(h:v < -zb1\/zb1<v):q_G 111 [.int .i64 v] w (.slice none 0 0):=by
 refine zt Tryz.func111 Tryz.ntmps111 ?_;unfold zb1 at h;rcases(show v < -4611686018427387904\/(-4611686018427387904<=v/\4611686018427387904<v) by omega) with j|⟨j,m⟩
 ·have g1:decide (v < -4611686018427387904)=true:=decide_eq_true j;repeat' first|refine s_0 ?_|refine zA [0,2] ?_;refine zb ?_|refine q_k 1 ?_;refine q_x (zn (hr:=g1)) ?_
  exact q_r
 ·have g1:decide (v < -4611686018427387904)=false:=q_f;have g2:decide (v>4611686018427387904)=true:=decide_eq_true m;repeat' first|refine s_0 ?_|refine zA [0,2] ?_;refine zb ?_|refine q_k 1 ?_;refine q_x (zn (hr:=g1)) ?_;refine q_x (zH (hr:=g2)) ?_
  exact q_r
theorem zxq(m:Nat):zfv 256 (λl=>(rdI l).isSome) (λs v R=>∃t,rdI s.l=some t/\v= .int .i64 t/\R= []) m:=by
 intro s w Y hm;refine zt Tryz.func256 Tryz.ntmps256 ?_;have U:=Y;obtain⟨a,n,c,l⟩:=s;have hn:l.length=n:=Y.len;have b4:n<=c:=Y.cap;have b0:SlA w a (l.map v8):=Y.sla;show Sy _ _ _ _ _ _ _ _ (zd6 0 [.slice a n c]) _;rcases(show n<1\/(1<=n/\8<n)\/(1<=n/\n<=8) by omega) with h1|⟨h1,h8⟩|⟨h1,h8⟩
 ·have hr:rdI l=none:=by unfold rdI;rw[if_neg (λh=>by omega)]
  have g1:decide ((n:Int)<1)=true:=q_d;repeat' first|refine s_0 ?_|refine zA [0,2] ?_;refine zb ?_|refine q_k 1 ?_;refine q_x (zn (hr:=g1)) ?_
  exact zU rfl (zh rfl) (zh rfl) Ez ⟨_,false,rfl,by show false=(rdI l).isSome;rw[hr];rfl,λh=>(by cases h),λ_=>rfl⟩
 ·have hr:rdI l=none:=by unfold rdI;rw[if_neg (λh=>by omega)]
  have g1:decide ((n:Int)<1)=false:=q_f;have g2:decide ((n:Int)>8)=true:=q_d;repeat' first|refine s_0 ?_|refine zA [0,2] ?_;refine zb ?_|refine q_k 1 ?_;refine q_x (zn (hr:=g1)) ?_;refine q_x (zH (hr:=g2)) ?_
  exact zU rfl (zh rfl) (zh rfl) Ez ⟨_,false,rfl,by show false=(rdI l).isSome;rw[hr];rfl,λh=>(by cases h),λ_=>rfl⟩
 have g1:decide ((n:Int)<1)=false:=q_f;have g2:decide ((n:Int)>8)=false:=q_f;have A:=zxw l q_o q_o;obtain⟨x,r,rfl⟩:∃x r,l=x::r:=by
  cases l with
  |nil=>simp at hn;omega
  |cons x r=>exact⟨x,r,rfl⟩
 have T:r.length=n-1:=by simp only[AQ] at hn;omega
 have K:=zxe x r;obtain⟨b,o,rfl,E⟩:=zca b0 (i:=0) q_p;have a8:w.cell? ⟨b,o+0,none⟩=some (.int .u8 (x.toNat:Int)):=E 0 _ rfl;have b7:=x.toNat_lt;have a9:∀i (Q:i<r.length),w.cell? ⟨b,o+1+i,none⟩=some (.int .u8 (r[i].toNat:Int)):=λi Q=>by
  have:=E (1+i) (v8 r[i]) (by
   rw[AW,show 1+i=i+1 by omega,BA,A2 Q];rfl)
  rwa[show o+(1+i)=o+1+i by omega] at this
 have g3:IntKind.i8.wrap (x.toNat:Int)=sgn x.toNat:=by
  unfold sgn IntKind.wrap IntKind.bits IntKind.signed;simp;split <;> omega
 have g4:IntKind.i64.wrap (sgn x.toNat)=sgn x.toNat:=IntWalk.i64_in _ (by have:=zqw (x:=x.toNat) q_o;omega);repeat' first|refine s_t ?_|refine q_k 0 ?_|refine q_k 1 ?_;refine q_x (zn (hr:=g1)) ?_;refine q_x (zH (hr:=g2)) ?_|refine q_k 3 ?_;refine q_v (zq (j:=0)) ?_;refine q_v (zo (hv:=a8)) ?_;refine q_v (zam (hr:=g3)) ?_;refine q_x (zam (hr:=g4)) ?_|refine q_k 4 ?_;refine zbR ?_;refine zb ?_
 obtain⟨W,O⟩:∃W,W=zbB (some ⟨b,o,none⟩) 1 c 1:=⟨_,rfl⟩;rw[<-O];have hP:∀i,i<=6->((256^i:Nat):Int)<=281474976710656:=λi Q=>by
  have:=AB (show 0<256 by decide) Q;have h6:256^6=281474976710656:=by decide
  omega
 refine zL (γ:=Nat) (λi=>[(23,.int .i64 (i:Int)),(22,.int .i64 ((n-1:Nat):Int)),(21,.slice W (n-1) (c-1)),(4,.int .i64 (zd7 x.toNat r i)),(0,.slice (some ⟨b,o,none⟩) n c)]) (λ_=>[]) (λi=>i<=n-1) (λi=>n-1-i) 0 (AA _) ?_ ?_ ?_
 ·rw[zrt];exact q_h
 ·exact q_h
 intro i Q;by_cases hlt:i<n-1
 ·obtain rfl:W=some ⟨b,o+1,none⟩:=by rw[O];exact zfC q_o
  have g8:decide ((i:Int)<((n-1:Nat):Int))=true:=q_d;have P:=a9 i q_o;have b1:=zq1 x.toNat r i q_o;have b6:=zsF (x:=x.toNat) q_o r (i:=i) q_o;have b5:=hP i q_o;have b3:=(r[i]'q_o).toNat_lt;generalize (r[i]'q_o).toNat=y at*;have g9:=zv3 (zd7 x.toNat r i) .u64 q_o q_o;have N:=zk6 (zd7 x.toNat r i) y q_o q_o q_o;have a6:IntKind.i64.wrap ((i:Int)+1)=((i+1:Nat):Int):=q_w;rw[<-b1] at N;repeat' first|refine s_t ?_|refine zf 5 ?_;refine q_v (zn (hr:=g8)) ?_|refine zf 6 ?_;refine q_v (zq (j:=i)) ?_;refine q_x (zo (hv:=P)) ?_|refine q_k 7 ?_;refine q_x (zeD (hr:=g9)) ?_;refine zbh ?_;refine q_x (zj3 (hr:=N)) ?_|refine zf 8 ?_;refine q_x (zD (hr:=a6)) ?_
  refine zC (i+1) hlt ?_ ?_ ?_
  ·show n-1-(i+1)<n-1-i;omega
  ·exact q_h
  ·exact q_h
 obtain rfl:i=n-1:=q_o;have g8:decide (((n-1:Nat):Int)<((n-1:Nat):Int))=false:=q_f;rw[<-T,<-K];rw[<-T] at g8;rw[K] at A;rw[K];generalize hV:zd7 x.toNat r r.length=V at*;obtain⟨l,hl⟩:∃l,l=x::r:=⟨_,rfl⟩;rw[<-hl] at U A hn ⊢;have F:=λq L (J:Keep No w q) (h2:q.rangeAt L 0 [.slice (some ⟨b,o,none⟩) n c])=>ze6 2 L ⟨some ⟨b,o,none⟩,n,c,l⟩ q q_e (U.keep J) h2 (by show l.length<16777216;omega);unfold zbK at F;dsimp only at F;by_cases hin: -zb1<=V/\V<=zb1
 ·have I:=λq=>zqh V q hin.1 hin.2;unfold zbK at I;have b2:=zm0 hin.1 hin.2;have hz:=zjP V (zbl V);have G:(tlv 2 (beZ V (zbl V))==tlv 2 l)=(rdI l).isSome:=by
   rw[A];by_cases h:beZ V (zbl V)=l
   ·rw[h,if_pos ⟨hin.1,hin.2,rfl⟩];simp
   ·rw[if_neg (λM=>h M.2.2),beq_eq_false_iff_ne.2 (λM=>h (zxS q_e q_o q_o M))];rfl
  have B:=λq a1 c1 a2 c2 (s1:SlA q a1 ((tlv 2 (beZ V (zbl V))).map v8)) (s2:SlA q a2 ((tlv 2 l).map v8))=>zjj a1 a2 _ c1 _ c2 _ _ q rfl rfl s1 s2;rw[G] at B;have S:(rdI l).isSome=true->∃t,rdI l=some t/\Value.int .i64 V= .int .i64 t:=λh=>by
   rw[A] at h ⊢;by_cases M: -zb1<=V/\V<=zb1/\beZ V (zbl V)=l
   ·rw[if_pos M];exact⟨V,rfl,rfl⟩
   ·rw[if_neg M] at h;cases h
  clear A G;generalize hg:(rdI l).isSome=gd,a7:tlv 2 l=T2,tlv 2 (beZ V (zbl V))=T1 at*;repeat' first|refine s_0 ?_|refine zf 5 ?_;refine q_v (zn (hr:=g8)) ?_|refine q_k 9 ?_;(refine q_s (zi (hc:=λq X J H=>I q)) ?_;rintro _ _ ⟨R,rfl,aI,cI,rfl,rfl⟩);refine zb ?_;(refine q_s zz ?_;rintro _ _ ⟨L,rfl,rfl⟩);(refine q_s (zi (hc:=λq X J H=>F q L J (zp (H.has q_h) Ex))) ?_;rintro _ _ ⟨R,rfl,Z,cE,rfl,rfl⟩);refine q_v (za (hc:=λq X J H=>B q aI cI Z cE (zat H q_h) (zat H q_h))) ?_;refine zb ?_
  exact zU rfl (zh rfl) (zh rfl) Ev ⟨_,gd,rfl,hg.symm,λh=>by obtain⟨t,e1,e2⟩:=S h;exact⟨t,e1,e2,rfl⟩,λ_=>rfl⟩
 ·have I:=λq=>zwX V q (by unfold zb1 at hin ⊢;omega);have hr:rdI l=none:=by rw[A,if_neg (λh=>hin ⟨h.1,h.2.1⟩)]
  have B:=λq a2 c2 (s2:SlA q a2 ((tlv 2 l).map v8))=>zjj none a2 0 0 _ c2 [] _ q rfl rfl (.inl rfl) s2;have G:(([]:List UInt8)==tlv 2 l)=false:=by rw[beq_eq_false_iff_ne];unfold tlv;exact λh=>by cases h
  rw[G] at B;generalize a7:tlv 2 l=T2 at*;repeat' first|refine s_0 ?_|refine zf 5 ?_;refine q_v (zn (hr:=g8)) ?_|refine q_k 9 ?_;refine q_v (za (hc:=q_c I)) ?_;refine zb ?_;(refine q_s zz ?_;rintro _ _ ⟨L,rfl,rfl⟩);(refine q_s (zi (hc:=λq X J H=>F q L J (zp (H.has q_h) Ex))) ?_;rintro _ _ ⟨R,rfl,Z,cE,rfl,rfl⟩);refine q_v (za (hc:=λq X J H=>B q Z cE (zat H q_h))) ?_;refine zb ?_
  exact zU rfl (zh rfl) (zh rfl) Ev ⟨_,false,rfl,by show false=(rdI l).isSome;rw[hr];rfl,λh=>(by cases h),λ_=>rfl⟩
theorem zfK(t:Nat)(b:List UInt8):rdV t some b=zaZ t b:=by
 unfold rdV;cases zaZ t b <;> rfl
def zbC{α:Type}(r:Nat)(s:Bs)(i:Nat)(rd:List UInt8->Option (α×List UInt8))(Ψ:α->Value->List Res->Prop)(v:Value)(R:List Res):Prop:=
 (∃x rst k u R',rd (s.l.drop i)=some (x,rst)/\k<=s.n/\s.l.drop k=rst/\Ψ x u R'/\v= .tuple #[u,.int .i64 0]/\R=zj r s k::R')\/
 (rd (s.l.drop i)=none/\∃(e:Int) (u:Value),e≠0/\v= .tuple #[u,.int .i64 e]/\R= [zj r s i])
theorem ReadR.out{α:Type}{r:Nat}{s:Bs}{i tag:Nat}{f:List UInt8->Option α}{j:List UInt8->Bool}{Φ:Bs->Value->List Res->Prop}{Ψ:α->Value->List Res->Prop}{v:Value}{R:List Res}(h:ReadR r s i tag j Φ v R)(O:∀l,j l=(f l).isSome)(S:∀m u q,Bsub s m->m.n<=s.n->Φ m u q->∃t,f m.l=some t/\Ψ t u q):zbC r s i (rdV tag f) Ψ v R:=by
 rcases h with ⟨c,F,m,k,u,q,A,T,G,H,I,J,K,w,B,E⟩|⟨A,e,u,N,Q,M⟩
 ·obtain⟨t,w,L⟩:=S m u q G I w;refine .inl ⟨t,F,k,u,q,?_,J,K,L,B,E⟩;rw[H] at w;unfold rdV;rw[A];simp[w]
 ·refine .inr ⟨?_,e,u,N,Q,M⟩;unfold rdV;cases hrd:zaZ tag (s.l.drop i) with
  |none=>rfl
  |some p=>
   have:=A p.1 p.2 hrd;rw[O] at this;have P:f p.1=none:=by cases hf:f p.1 with
    |none=>rfl
    |some x=>rw[hf] at this;cases this
   simp[P]
def Fh:=@ReadR.out
def zgd(s:Bs)(t:List UInt8)(u:Value)(R:List Res):Prop:=∃b s',u= .pointer (some ⟨b,0,none⟩)/\R= [zj b s' 0]/\Bsub s s'/\s'.l=t/\s'.n<=s.n
theorem zrr(a0:Option Addr)(n c:Nat)(l:List UInt8)(w:World)(hn:l.length=n)(hb:n<1000000000000)(m:SlA w a0 (l.map Sy.v8))(hnil:a0=none->c=0/\n=0):
  Sy.Fn Tryz.prog 174 [.slice a0 n c] w No (zbK 5 n (l.map v8)):=by
 have j:a0=none->c=0:=λh=>(hnil h).1;refine zt Tryz.func174 Tryz.ntmps174 ?_;cases a0 with
 |none=>
  obtain⟨rfl,rfl⟩:=hnil rfl;obtain rfl:l= []:=Av.1 hn;repeat' first|refine s_0 ?_|refine zA [0,2] ?_;refine zb ?_|refine q_k 1 ?_;refine zaH ?_
  exact zcp (zaT 5 1) (zar rfl (zh rfl) q_h ⟨_,_,rfl,rfl⟩)
 |some ad=>
  repeat' first|refine s_0 ?_|refine q_k 0 ?_|refine q_k 1 ?_;refine zaH ?_|refine zf 3 ?_;(refine q_s zfH ?_;rintro _ _ ⟨_,rfl,rfl⟩);refine zb ?_;(refine q_s zb9 ?_;rintro _ _ ⟨rfl,_,_,rfl⟩);refine zb ?_
  exact q_r
theorem zm8(s:Bs)(w:World)(j:s.ok w)(hb:s.n<1000000000):Sy.Fn Tryz.prog 174 [s.val] w No (zbf s.l):=by
 have h:=zrr s.a s.n s.c s.l w j.len q_o j.sla (λh=>⟨j.nil h,by have:=j.nil h;have:=j.cap;omega⟩);unfold zbf;rw[j.len];exact h
theorem zrl(m:Nat)(hb:m<1000000000):zfv 268 (λ_=>true) (λs v R=>zbf s.l v R) m:=by
 intro s w B F;refine zt Tryz.func268 Tryz.ntmps268 ?_;have hc:=λj (A:Keep No w j)=>zm8 s j (B.keep A) q_o;unfold zbf zbK at hc;have E:s.val= .slice s.a s.n s.c:=rfl;rw[E] at hc ⊢;repeat' first|refine s_0 ?_|refine q_k 0 ?_|refine q_k 1 ?_;(refine q_s (zi (hc:=zr hc)) ?_;rintro _ _ ⟨R,rfl,q,r,rfl,rfl⟩);refine zb ?_
 exact zU rfl (zh rfl) (zh rfl) Ez ⟨_,true,rfl,rfl,λ_=>⟨q,r,rfl,rfl⟩,λh=>by cases h⟩
theorem zyp(r:Nat)(s:Bs)(i:Nat)(w:World)(hL:Holds w.heap.size (OwnOf [zj r s i]) [zj r s i] w)(L:BsF w (OwnOf [zj r s i]) s)(K:i<=s.n)(hb:s.n<1000000000):
  Sy.Fn Tryz.prog 199 [.pointer (some ⟨r,0,none⟩)] w (OwnOf [zj r s i]) (zbC r s i (rdV 2 rdI) (λt u R=>u= .int .i64 t/\R= [])):=by
 refine zaX Tryz.func199 rfl Tryz.ntmps199 q_p hL ?_;have h:=λj (A:Keep (OwnOf [zj r s i]) w j) (B:∀b,OwnOf [zj r s i] b->w.heap.size<=b\/OwnOf [zj r s i] b) (q:Holds j.heap.size (OwnOf [zj r s i]) [zj r s i] j)=>(zoK 256 (λl=>(rdI l).isSome) _ (en rfl) r s i 2 j (zxq _) q (L.to A B) K hb q_e).mono (λv R h=>(Fh (f:=rdI) (Ψ:=(λt u R=>u= .int .i64 t/\R= [])) h (λ_=>rfl) (λ_ _ _ _ _ h=>h):zbC r s i (rdV 2 rdI) (λt u R=>u= .int .i64 t/\R= []) v R));unfold zbC at h;repeat' first|refine s_0 ?_|refine q_k 0 ?_|refine q_k 1 ?_;(refine q_s (za2 (C:=[zj r s i]) (F0 (by exact Eu) rfl F2) (hc:=λj A B q=>h j A B q)) ?_;rintro _ _ ⟨R,rfl,(⟨x,E,k,u,F,m,G,H,I,rfl,rfl⟩|⟨m,e,u,J,rfl,rfl⟩)⟩);refine zb ?_|(refine zx ?_;first|refine zw ?_|refine zZ ?_|fail)|fail
 ·exact zU rfl (zh rfl) (zh rfl) ⟨[],Ay _⟩ (.inl ⟨x,E,k,u,F,m,G,H,I,rfl,rfl⟩)
 ·exact zU rfl (zh rfl) (zh rfl) Ez (.inr ⟨m,e,u,J,rfl,rfl⟩)
theorem zuF(r:Nat)(s:Bs)(i:Nat)(w:World)(hL:Holds w.heap.size (OwnOf [zj r s i]) [zj r s i] w)(L:BsF w (OwnOf [zj r s i]) s)(K:i<=s.n)(hb:s.n<1000000000):
  Sy.Fn Tryz.prog 204 [.pointer (some ⟨r,0,none⟩)] w (OwnOf [zj r s i]) (zbC r s i (rdV 24 rdT) (λt u R=>u= .int .i64 t/\R= [])):=by
 refine zaX Tryz.func204 rfl Tryz.ntmps204 q_p hL ?_;have h:=λj (A:Keep (OwnOf [zj r s i]) w j) (B:∀b,OwnOf [zj r s i] b->w.heap.size<=b\/OwnOf [zj r s i] b) (q:Holds j.heap.size (OwnOf [zj r s i]) [zj r s i] j)=>(zoK 264 (λl=>(rdT l).isSome) _ (en rfl) r s i 24 j (zvQ _) q (L.to A B) K hb q_e).mono (λv R h=>(Fh (f:=rdT) (Ψ:=(λt u R=>u= .int .i64 t/\R= [])) h (λ_=>rfl) (λ_ _ _ _ _ h=>h):zbC r s i (rdV 24 rdT) (λt u R=>u= .int .i64 t/\R= []) v R));unfold zbC at h;repeat' first|refine s_0 ?_|refine q_k 0 ?_|refine q_k 1 ?_;(refine q_s (za2 (C:=[zj r s i]) (F0 (by exact Eu) rfl F2) (hc:=λj A B q=>h j A B q)) ?_;rintro _ _ ⟨R,rfl,(⟨x,E,k,u,F,m,G,H,I,rfl,rfl⟩|⟨m,e,u,J,rfl,rfl⟩)⟩);refine zb ?_|(refine zx ?_;first|refine zw ?_|refine zZ ?_|fail)|fail
 ·exact zU rfl (zh rfl) (zh rfl) ⟨[],Ay _⟩ (.inl ⟨x,E,k,u,F,m,G,H,I,rfl,rfl⟩)
 ·exact zU rfl (zh rfl) (zh rfl) Ez (.inr ⟨m,e,u,J,rfl,rfl⟩)
theorem zuk(r:Nat)(s:Bs)(i:Nat)(w:World)(hL:Holds w.heap.size (OwnOf [zj r s i]) [zj r s i] w)(L:BsF w (OwnOf [zj r s i]) s)(K:i<=s.n)(hb:s.n<1000000000):
  Sy.Fn Tryz.prog 126 [.pointer (some ⟨r,0,none⟩)] w (OwnOf [zj r s i]) (zbC r s i (rdV 1 Ct.rdB) (λt u R=>u= .bool t/\R= [])):=by
 refine zaX Tryz.func126 rfl Tryz.ntmps126 q_p hL ?_;have h:=λj (A:Keep (OwnOf [zj r s i]) w j) (B:∀b,OwnOf [zj r s i] b->w.heap.size<=b\/OwnOf [zj r s i] b) (q:Holds j.heap.size (OwnOf [zj r s i]) [zj r s i] j)=>(zuW 206 (λl=>(Ct.rdB l).isSome) _ (en rfl) r s i 1 j (zvH _) q (L.to A B) K hb q_e).mono (λv R h=>(Fh (f:=Ct.rdB) (Ψ:=(λt u R=>u= .bool t/\R= [])) h (λ_=>rfl) (λ_ _ _ _ _ h=>h):zbC r s i (rdV 1 Ct.rdB) (λt u R=>u= .bool t/\R= []) v R));unfold zbC at h;repeat' first|refine s_0 ?_|refine q_k 0 ?_|refine q_k 1 ?_;(refine q_s (za2 (C:=[zj r s i]) (F0 (by exact Eu) rfl F2) (hc:=λj A B q=>h j A B q)) ?_;rintro _ _ ⟨R,rfl,(⟨x,E,k,u,F,m,G,H,I,rfl,rfl⟩|⟨m,e,u,J,rfl,rfl⟩)⟩);refine zb ?_|(refine zx ?_;first|refine zw ?_|refine zZ ?_|fail)|fail
 ·exact zU rfl (zh rfl) (zh rfl) ⟨[],Ay _⟩ (.inl ⟨x,E,k,u,F,m,G,H,I,rfl,rfl⟩)
 ·exact zU rfl (zh rfl) (zh rfl) Ez (.inr ⟨m,e,u,J,rfl,rfl⟩)
theorem zwG(r:Nat)(s:Bs)(i:Nat)(w:World)(hL:Holds w.heap.size (OwnOf [zj r s i]) [zj r s i] w)(L:BsF w (OwnOf [zj r s i]) s)(K:i<=s.n)(hb:s.n<1000000000):
  Sy.Fn Tryz.prog 209 [.pointer (some ⟨r,0,none⟩)] w (OwnOf [zj r s i]) (zbC r s i (rdV 4 some) (λt u R=>zbf t u R)):=by
 refine zaX Tryz.func209 rfl Tryz.ntmps209 q_p hL ?_;have h:=λj (A:Keep (OwnOf [zj r s i]) w j) (B:∀b,OwnOf [zj r s i] b->w.heap.size<=b\/OwnOf [zj r s i] b) (q:Holds j.heap.size (OwnOf [zj r s i]) [zj r s i] j)=>(zvK 268 (λ_=>true) _ (en rfl) r s i 4 j (zrl _ hb) q (L.to A B) K hb q_e).mono (λv R h=>(Fh (f:=some) (Ψ:=(λt u R=>zbf t u R)) h (λ_=>rfl) (λ_ _ _ _ _ h=>⟨_,rfl,h⟩):zbC r s i (rdV 4 some) (λt u R=>zbf t u R) v R));unfold zbC at h;repeat' first|refine s_0 ?_|refine q_k 0 ?_|refine q_k 1 ?_;(refine q_s (za2 (C:=[zj r s i]) (F0 (by exact Eu) rfl F2) (hc:=λj A B q=>h j A B q)) ?_;rintro _ _ ⟨R,rfl,(⟨x,E,k,u,F,m,G,H,I,rfl,rfl⟩|⟨m,e,u,J,rfl,rfl⟩)⟩);refine zb ?_|(refine zx ?_;first|refine zw ?_|refine zZ ?_|fail)|fail
 ·exact zU rfl (zh rfl) (zh rfl) ⟨[],Ay _⟩ (.inl ⟨x,E,k,u,F,m,G,H,I,rfl,rfl⟩)
 ·exact zU rfl (zh rfl) (zh rfl) Ez (.inr ⟨m,e,u,J,rfl,rfl⟩)
theorem zqn(r:Nat)(s:Bs)(i:Nat)(w:World)(hL:Holds w.heap.size (OwnOf [zj r s i]) [zj r s i] w)(L:BsF w (OwnOf [zj r s i]) s)(K:i<=s.n)(hb:s.n<1000000000):
  Sy.Fn Tryz.prog 262 [.pointer (some ⟨r,0,none⟩)] w (OwnOf [zj r s i]) (zbC r s i (rdV 27 some) (λt u R=>u=zT t/\R= [])):=by
 refine zaX Tryz.func262 rfl Tryz.ntmps262 q_p hL ?_;have h:=λj (A:Keep (OwnOf [zj r s i]) w j) (B:∀b,OwnOf [zj r s i] b->w.heap.size<=b\/OwnOf [zj r s i] b) (q:Holds j.heap.size (OwnOf [zj r s i]) [zj r s i] j)=>(zv0 302 (λ_=>true) _ (en rfl) r s i 27 j (zrs _) q (L.to A B) K hb q_e).mono (λv R h=>(Fh (f:=some) (Ψ:=(λt u R=>u=zT t/\R= [])) h (λ_=>rfl) (λ_ _ _ _ _ h=>⟨_,rfl,h⟩):zbC r s i (rdV 27 some) (λt u R=>u=zT t/\R= []) v R));unfold zbC at h;repeat' first|refine s_0 ?_|refine q_k 0 ?_|refine q_k 1 ?_;(refine q_s (za2 (C:=[zj r s i]) (F0 (by exact Eu) rfl F2) (hc:=λj A B q=>h j A B q)) ?_;rintro _ _ ⟨R,rfl,(⟨x,E,k,u,F,m,G,H,I,rfl,rfl⟩|⟨m,e,u,J,rfl,rfl⟩)⟩);refine zb ?_|(refine zx ?_;first|refine zw ?_|refine zZ ?_|fail)|fail
 ·exact zU rfl (zh rfl) (zh rfl) ⟨[],Ay _⟩ (.inl ⟨x,E,k,u,F,m,G,H,I,rfl,rfl⟩)
 ·exact zU rfl (zh rfl) (zh rfl) Ez (.inr ⟨m,e,u,J,rfl,rfl⟩)
theorem zl0(r:Nat)(s:Bs)(i:Nat)(w:World)(hL:Holds w.heap.size (OwnOf [zj r s i]) [zj r s i] w)(E:BsF w (OwnOf [zj r s i]) s)(N:i<=s.n)(hb:s.n<1000000000):
  Sy.Fn Tryz.prog 177 [.pointer (some ⟨r,0,none⟩)] w (OwnOf [zj r s i]) (zbC r s i (rdV 48 some) (zgd s)):=by
 refine zaX Tryz.func177 rfl Tryz.ntmps177 q_p hL ?_;have h:=λj (A:Keep (OwnOf [zj r s i]) w j) (B:∀b,OwnOf [zj r s i] b->w.heap.size<=b\/OwnOf [zj r s i] b) (q:Holds j.heap.size (OwnOf [zj r s i]) [zj r s i] j)=>(zn7 238 (λ_=>true) _ (en rfl) r s i 48 j (ziY _) q (E.to A B) N hb q_e).mono (λv R h=>(Fh (f:=some) (Ψ:=(zgd s)) h (λ_=>rfl) (λs1 _ _ E O ⟨b,H,I⟩=>⟨s1.l,rfl,b,s1,H,I,E,rfl,O⟩):zbC r s i (rdV 48 some) (zgd s) v R));unfold zbC at h;repeat' first|refine s_0 ?_|refine q_k 0 ?_|refine q_k 1 ?_;(refine q_s (za2 (C:=[zj r s i]) (F0 (by exact Eu) rfl F2) (hc:=λj A B q=>h j A B q)) ?_;rintro _ _ ⟨R,rfl,(⟨x,F,k,u,G,m,J,K,L,rfl,rfl⟩|⟨m,e,u,M,rfl,rfl⟩)⟩);refine zb ?_|(refine zx ?_;first|refine zw ?_|refine zZ ?_|fail)|fail
 ·exact zU rfl (zh rfl) (zh rfl) ⟨[],Ay _⟩ (.inl ⟨x,F,k,u,G,m,J,K,L,rfl,rfl⟩)
 ·exact zU rfl (zh rfl) (zh rfl) Ez (.inr ⟨m,e,u,M,rfl,rfl⟩)
theorem zdZ(r:Nat)(s:Bs)(i:Nat)(w:World)(hr:w.rangeAt r 0 (rdC s i))(E:i<=s.n)(hc:s.n<=s.c):q_G 92 [.pointer (some ⟨r,0,none⟩)] w (.int .i64 ((s.n-i:Nat):Int)):=by
 refine zt Tryz.func92 Tryz.ntmps92 ?_;have B:w.cell? ⟨r,0+2,none⟩=some (.bool true):=hr 2 _ rfl;have j:=λA (F:Keep No w A)=>zmk r s i A (za0 hr F (λh=>h)) E hc;have q:(s.cut i s.n).n=s.n-i:=rfl;generalize s.cut i s.n=s1 at*;have m:s1.val= .slice s1.a s1.n s1.c:=rfl;rw[m] at j;rw[<-q];repeat' first|refine s_0 ?_|refine q_k 0 ?_|refine q_k 1 ?_;refine zaH ?_;refine zb ?_;refine q_v (zo (hv:=B)) ?_;refine zI ?_;refine zb ?_|refine q_k 3 ?_;refine q_v (za (hc:=zr j)) ?_;refine zb ?_
 exact q_r
theorem zt0(r:Nat)(s:Bs)(i:Nat)(w:World)(hr:w.rangeAt r 0 (rdC s i))(B:i<=s.n)(hc:s.n<=s.c)(hb:s.n<1000000000):q_G 175 [.pointer (some ⟨r,0,none⟩)] w (.int .i64 (if s.n-i=0 then 0 else 5)):=by
 refine zt Tryz.func175 Tryz.ntmps175 ?_;have j:w.cell? ⟨r,0+2,none⟩=some (.bool true):=hr 2 _ rfl;have q:=λA (E:Keep No w A)=>zdZ r s i A (za0 hr E (λh=>h)) B hc;generalize s.n-i=m at*;by_cases hm:m=0
 ·have g:decide ((m:Int)>0)=false:=q_f;rw[if_pos hm];repeat' first|refine s_t ?_|refine zA [0,5] ?_;refine zb ?_|refine q_k 1 ?_;refine zaH ?_;refine zb ?_;refine q_v (zo (hv:=j)) ?_;refine zI ?_;refine zb ?_|refine q_k 3 ?_;refine q_v (za (hc:=zr q)) ?_;refine q_x (zH (hr:=g)) ?_
  exact q_r
 ·have g:decide ((m:Int)>0)=true:=q_d;rw[if_neg hm];repeat' first|refine s_t ?_|refine zA [0,4] ?_;refine zb ?_|refine q_k 1 ?_;refine zaH ?_;refine zb ?_;refine q_v (zo (hv:=j)) ?_;refine zI ?_;refine zb ?_|refine q_k 3 ?_;refine q_v (za (hc:=zr q)) ?_;refine q_x (zH (hr:=g)) ?_
  exact q_r
def zpx(r:Nat)(s:Bs)(i n:Nat)(v:Value)(R:List Res):Prop:=
 (∃c rst k b s',zaZ (0xa0+n) (s.l.drop i)=some (c,rst)/\k<=s.n/\s.l.drop k=rst/\Bsub s s'/\s'.l=c/\s'.n<=s.n/\v= .tuple #[.pointer (some ⟨b,0,none⟩),.bool true,.int .i64 0]/\R= [zj r s k,zj b s' 0])\/
 (zaZ (0xa0+n) (s.l.drop i)=none/\v= .tuple #[.pointer none,.bool false,.int .i64 0]/\R= [zj r s i])\/
 (zaZ (0xa0+n) (s.l.drop i)=none/\∃(e:Int) (u:Value),e≠0/\v= .tuple #[u,.bool false,.int .i64 e]/\R= [zj r s i])
theorem zjr(r:Nat)(s:Bs)(i n:Nat)(w:World)(hL:Holds w.heap.size (OwnOf [zj r s i]) [zj r s i] w)(E:BsF w (OwnOf [zj r s i]) s)(O:i<=s.n)(hb:s.n<1000000000)(hn:n<=30):
  Sy.Fn Tryz.prog 254 [.pointer (some ⟨r,0,none⟩),.int .i64 (n:Int)] w (OwnOf [zj r s i]) (zpx r s i n):=by
 refine zaX Tryz.func254 rfl Tryz.ntmps254 q_p hL ?_;have q:=λA hr=>zmk r s i A hr O E.cap;have J:=E.cut O (A7 s.n);have H:=ztZ s i E.len;have a6:(s.cut i s.n).n=s.n-i:=rfl;have m:=λA (L:Keep (OwnOf [zj r s i]) w A) (P:∀b,OwnOf [zj r s i] b->w.heap.size<=b\/OwnOf [zj r s i] b) (G:Holds A.heap.size (OwnOf [zj r s i]) [zj r s i] A)=>(zn7 238 (λ_=>true) _ (en rfl) r s i (160+n) A (ziY _) G (E.to L P) O hb q_o).mono (λv R h=>(Fh (f:=some) (Ψ:=zgd s) h (λ_=>rfl) (λs1 _ _ E hn ⟨b,Y,Z⟩=>⟨s1.l,rfl,b,s1,Y,Z,E,rfl,hn⟩):zbC r s i (rdV (160+n) some) (zgd s) v R));unfold zbC zgd at m;rw[zfK] at m;unfold zpx;have g1:decide ((n:Int)<0)=false:=q_f;have g2:decide ((n:Int)>30)=false:=q_f;have g3:IntKind.i64.wrap (160+(n:Int))=((160+n:Nat):Int):=q_w;have g4:IntKind.u8.wrap ((160+n:Nat):Int)=((160+n:Nat):Int):=IntWalk.u8_in _ q_o;generalize s.cut i s.n=s1,hM:OwnOf [zj r s i]=M at*;have K:s1.val= .slice s1.a s1.n s1.c:=rfl;rw[K] at q;repeat' first|refine s_0 ?_|refine q_k 0 ?_|refine q_k 1 ?_;refine zaH ?_;refine zb ?_;refine zm ?_;refine zI ?_;refine zb ?_|refine q_k 3 ?_;refine q_x (zn (hr:=g1)) ?_;refine q_x (zH (hr:=g2)) ?_|refine q_k 5 ?_;refine q_v (za (hc:=λA X L G=>q A (zp (G.has (r:=zj r s i) q_h) Ex))) ?_;refine zb ?_
 have B:s1.l.length=s1.n:=J.len;rw[<-H];rcases AE s1.n with hz|hz
 ·have e:s1.l= []:=Av.1 q_o;have g:decide ((s1.n:Int)=0)=true:=q_d;rw[e];repeat' first|refine s_0 ?_|refine q_k 6 ?_;refine q_x (zS (hr:=g)) ?_|refine q_k 7 ?_
  exact zdd rfl (zh rfl) (zh rfl) (zh rfl) Ez (.inr (.inl ⟨rfl,rfl,rfl⟩))
 have g:decide ((s1.n:Int)=0)=false:=q_f;obtain⟨x,l,T⟩:∃x l,s1.l=x::l:=by
  cases h:s1.l with
  |nil=>rw[h] at B;simp at B;omega
  |cons x l=>exact⟨x,l,rfl⟩
 obtain⟨b,o,ha,S,I⟩:∃b o,s1.a=some ⟨b,o,none⟩/\w.rangeAt b o (s1.l.map v8)/\¬M b:=by
  rcases J.slf with h|h
  ·rw[T] at h;cases h
  ·exact h
 have F:w.cell? ⟨b,o+0,none⟩=some (.int .u8 (x.toNat:Int)):=S 0 _ (by rw[T];rfl);rw[ha];have a7:=x.toNat_lt;by_cases hxt:¬x.toNat=160+n
 ·have Q:zaZ (160+n) s1.l=none:=by rw[T];exact if_neg hxt
  rw[Q];have g5:decide ((x.toNat:Int)≠((160+n:Nat):Int))=true:=q_d;repeat' first|refine s_0 ?_|refine q_k 6 ?_;refine q_x (zS (hr:=g)) ?_;refine q_v (zq (j:=0)) ?_;refine q_x (zo (hv:=F) (hn:=I)) ?_;refine q_v (zD (hr:=g3)) ?_;refine q_v (zam (hr:=g4)) ?_;refine q_x (zad (hr:=g5)) ?_|refine q_k 7 ?_
  exact zdd rfl (zh rfl) (zh rfl) (zh rfl) Ez (.inr (.inl ⟨rfl,rfl,rfl⟩))
 have g5:decide ((x.toNat:Int)≠((160+n:Nat):Int))=false:=q_f;rw[<-H] at m;repeat' first|refine s_0 ?_|refine q_k 6 ?_;refine q_x (zS (hr:=g)) ?_;refine q_v (zq (j:=0)) ?_;refine q_x (zo (hv:=F) (hn:=I)) ?_;refine q_v (zD (hr:=g3)) ?_;refine q_v (zam (hr:=g4)) ?_;refine q_x (zad (hr:=g5)) ?_
 subst hM;repeat' first|refine s_0 ?_|refine q_k 8 ?_;refine q_v (zD (hr:=g3)) ?_;refine q_v (zam (hr:=g4)) ?_;(refine q_s (za2 (f:=237) (C:=[zj r s i]) (F0 (by exact Eu) rfl F2) (hc:=λA L P G=>m A L P G)) ?_;rintro _ _ ⟨R,rfl,(⟨x1,U,k,u,R',N,h2,h3,⟨W,sI,rfl,rfl,h5,h6,h7⟩,rfl,rfl⟩|⟨N,e,u,V,rfl,rfl⟩)⟩);refine zb ?_|(refine zx ?_;first|refine zw ?_|refine zZ ?_|refine zaU ?_|fail)|fail
 ·have g6:decide ((0:Int)=0)=true:=rfl;repeat' first|refine s_0 ?_|refine q_k 9 ?_;refine q_x (zS (hr:=g6)) ?_
  exact zdd rfl (zh rfl) (zh rfl) (zh rfl) Ez (.inl ⟨x1,U,k,W,sI,N,h2,h3,h5,h6,h7,rfl,rfl⟩)
 ·have g6:decide (e=0)=false:=decide_eq_false V;repeat' first|refine s_0 ?_|refine q_k 9 ?_;refine q_x (zS (hr:=g6)) ?_
  exact zdd rfl (zh rfl) (zh rfl) (zh rfl) Ez (.inr (.inr ⟨N,e,u,V,rfl,rfl⟩))
end Go.Proofs.YtdnlngbjpdbffaaGreatDoor
