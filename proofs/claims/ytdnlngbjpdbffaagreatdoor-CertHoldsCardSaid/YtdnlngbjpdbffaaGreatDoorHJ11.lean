/- Lemmas of this proof. -/
import Derived.Test.YtdnlngbjpdbffaaGreatDoorHJ10
set_option maxHeartbeats 1000000
set_option maxRecDepth 10000
set_option linter.all false
namespace Go.Nt
open Go Go.Sy
def tz(l:List UInt8):List UInt8:=l.dropWhile (· == 0)
def bn(l:List UInt8):List Nat:=l.map (·.toNat)
theorem zhr(l:List UInt8):∀d∈bn l,d<256:=by
 intro d j;obtain⟨u,_,rfl⟩:=C9.1 j;exact u.toNat_lt
theorem zxS(l:List UInt8):bn (tz l)=(bn l).dropWhile (· == 0):=by
 unfold bn tz
 induction l with
 |nil=>rfl
 |cons u l ih=>
  rw[CU,As,CU];by_cases h:u=0
  ·subst h;simpa using ih
  ·have j:(u==0)=false:=by simpa using h
   have m:(u.toNat==0)=false:=by
    rw[beq_eq_false_iff_ne];intro q;exact h (CB.1 (by rw[q];rfl))
   rw[j,m];rfl
theorem zqW(l:List UInt8):bev 256 (bn (tz l))=bev 256 (bn l):=by rw[zxS,znw]
theorem znM(l:List UInt8):tz (0::l)=tz l:=by unfold tz;rw[CU];rfl
theorem zpm(u:UInt8)(l:List UInt8)(h:u≠0):tz (u::l)=u::l:=by
 unfold tz;rw[CU,if_neg (by simpa using h)]
theorem zuB(l:List UInt8):(tz l).length<=l.length:=by
 unfold tz;exact(List.dropWhile_sublist _).length_le
theorem zwp(l:List UInt8)(u:UInt8)(r:List UInt8)(h:tz l=u::r):u≠0:=by
 induction l with
 |nil=>cases h
 |cons a l ih=>
  by_cases ha:a=0
  ·subst ha;rw[znM] at h;exact ih h
  ·rw[zpm a l ha] at h;rw[<-(E1 h).1];exact ha
end Go.Nt
namespace Go.Proofs.YtdnlngbjpdbffaaGreatDoor
open Go Go.Sy Go.Nt Go.RowKit
attribute [local irreducible] Sy SyL SyX Sy.Fn callFunc zg
theorem zoI(b o len c:Nat)(m:List UInt8)(w:World)(K:m.length=len)(hc:len<=c)(hb:w.rangeAt b o (m.map v8))(h0:0<len):
  q_G 286 [.slice (some ⟨b,o,none⟩) len c,v8 0] w (if tz m= [] then .slice none 0 0 else .slice (some ⟨b,o+(len-(tz m).length),none⟩) (tz m).length (c-(len-(tz m).length))):=by
 refine zz Tryz.func286 Tryz.ntmps286 ?_;repeat' (first|refine s_t ?_|refine q_k 0 ?_)
 refine zX (γ:=Nat×Option Addr) (λg=>[(0,.slice g.2 (len-g.1) (c-g.1)),(1,v8 0)]) (λ_=>[]) (λg=>g.1<=len/\tz (m.drop g.1)=tz m/\(g.1<len->g.2=some ⟨b,o+g.1,none⟩)) (λg=>len-g.1) (0,some ⟨b,o,none⟩) ⟨AE _,rfl,λ_=>rfl⟩ ?_ ?_ ?_
 ·exact q_h
 ·exact q_h
 rintro⟨i,a⟩ ⟨J,A,I⟩;dsimp only at J A I ⊢;by_cases hlt:i<len
 ·obtain rfl:=I hlt;obtain⟨u,hu⟩:∃u,m[i]?=some u:=⟨m[i]'q_o,A2 _⟩;have q:w.cell? ⟨b,o+i,none⟩=some (v8 u):=hb i (v8 u) (by rw[Ak,hu];rfl);have j:m.drop i=u::m.drop (i+1):=by
   rw[Bq q_o];rw[A2 q_o] at hu;rw[An hu]
  have r:decide (0<((len-i:Nat):Int))=true:=q_d;by_cases hz:u=0
  ·subst hz;rw[j,znM] at A;repeat' (first|refine s_t ?_|refine q_k 1 ?_;refine q_x (zF (hr:=r)) ?_;refine zR ?_;refine q_x (zp (hv:=q)) ?_;refine zaH ?_;refine zf ?_|refine q_k 2 ?_;refine zbR ?_;refine zf ?_)
   refine zQ (i+1,zbB (some ⟨b,o+i,none⟩) 1 (c-i) 1) ⟨by show i+1<=len;omega,A,λh=>zfd q_o⟩ ?_ ?_ ?_
   ·show len-(i+1)<len-i;omega
   ·exact q_h
   ·exact q_h
  ·rw[j,zpm u _ hz] at A;have B:decide (Wd.n8 u=Wd.n8 0)=false:=decide_eq_false (λh=>hz (Wd.n8_inj h));have F:(tz m).length=len-i:=by rw[<-A,<-j,Az,K]
   have E:decide (((len-i:Nat):Int)=0)=false:=q_f;rw[F,if_neg (by rw[<-A];simp),show len-(len-i)=i by omega];repeat' (first|refine s_0 ?_|refine q_k 1 ?_;refine q_x (zF (hr:=r)) ?_;refine zR ?_;refine q_x (zp (hv:=q)) ?_;refine q_x (zY (hr:=B)) ?_|refine q_k 3 ?_;refine q_v (zY (hr:=E)) ?_|refine q_k 5 ?_)
   exact q_r
 ·obtain rfl:i=len:=q_o;rw[Bp q_o] at A;have G:decide (0<((i-i:Nat):Int))=false:=q_f;have H:decide (((i-i:Nat):Int)=0)=true:=q_d;rw[if_pos (show tz m= [] from A.symm)];repeat' (first|refine s_0 ?_|refine q_k 1 ?_;refine q_x (zF (hr:=G)) ?_|refine q_k 3 ?_;refine q_v (zY (hr:=H)) ?_|refine q_k 4 ?_)
  exact q_r
theorem zoH(a:Option Addr)(len c:Nat)(m:List UInt8)(w:World)(I:m.length=len)(hc:len<=c)(hb:SlA w a (m.map v8)):
  ∃J K,(tz m).length<=K/\SlA w J ((tz m).map v8)/\∀A,Keep No w A->q_G 242 [.slice a len c,.string (str [0])] A (.slice J (tz m).length K):=by
 rcases AM len with h0|h0
 ·obtain rfl:m= []:=Av.1 q_o;subst h0;refine⟨none,0,A8 _,.inl rfl,λA G=>?_⟩;refine zz Tryz.func242 Tryz.ntmps242 ?_;repeat' (first|refine s_0 ?_|refine zL [0,2] ?_;refine zf ?_|refine q_k 1 ?_;refine zaH ?_)
  exact q_r
 obtain⟨b,o,rfl,hr⟩:∃b o,a=some ⟨b,o,none⟩/\w.rangeAt b o (m.map v8):=by
  rcases hb with h|h
  ·have:=congrArg List.length h;rw[A1,I] at this;exact absurd this (by show ¬len=0;omega)
  ·exact h
 have q:=λA (G:Keep No w A)=>zoI b o len c m A I hc (zaW hr G (λh=>h)) h0;have M:=zuB m;have H:(tz m).map v8=(m.map v8).drop (len-(tz m).length):=by
  rw[<-Cf];congr 1;have:tz m <:+ m:=List.dropWhile_suffix _;rw[<-I];exact List.suffix_iff_eq_drop.1 this
 by_cases ht:tz m= []
 ·simp only[if_pos ht] at q;refine⟨none,0,by rw[ht];exact A8 _,.inl (by rw[ht];rfl),λA G=>?_⟩;rw[ht];refine zz Tryz.func242 Tryz.ntmps242 ?_;have E:decide (((len:Nat):Int)=0)=false:=q_f;repeat' (first|refine s_0 ?_|refine q_k 0 ?_|refine q_k 1 ?_;refine q_v (zY (hr:=E)) ?_|refine q_k 3 ?_;refine q_v (zbb (a:=[0]) (b:=[]) (r:=false) (hr:=rfl)) ?_|refine q_k 5 ?_;refine zaH ?_;refine zf ?_;refine q_v (zas (s:=str [0]) (u:=0) (hv:=rfl)) ?_;refine q_x zm ?_|refine q_k 6 ?_;refine q_v (zas (s:=str [0]) (u:=0) (hv:=rfl)) ?_;refine q_v (za (hc:=λF _ B _=>q F (G.trans B (λ_ h=>h.elim)))) ?_;refine zf ?_)
  exact q_r
 ·simp only[if_neg ht] at q;refine⟨some ⟨b,o+(len-(tz m).length),none⟩,c-(len-(tz m).length),by omega,?_,λA G=>?_⟩
  ·refine .inr ⟨b,_,rfl,λj v L=>?_⟩;rw[H,Bl] at L;rw[BH];exact hr _ v L
  ·refine zz Tryz.func242 Tryz.ntmps242 ?_;have E:decide (((len:Nat):Int)=0)=false:=q_f;repeat' (first|refine s_0 ?_|refine q_k 0 ?_|refine q_k 1 ?_;refine q_v (zY (hr:=E)) ?_|refine q_k 3 ?_;refine q_v (zbb (a:=[0]) (b:=[]) (r:=false) (hr:=rfl)) ?_|refine q_k 5 ?_;refine zaH ?_;refine zf ?_;refine q_v (zas (s:=str [0]) (u:=0) (hv:=rfl)) ?_;refine q_x zm ?_|refine q_k 6 ?_;refine q_v (zas (s:=str [0]) (u:=0) (hv:=rfl)) ?_;refine q_v (za (hc:=λF _ B _=>q F (G.trans B (λ_ h=>h.elim)))) ?_;refine zf ?_)
   exact q_r
end Go.Proofs.YtdnlngbjpdbffaaGreatDoor
namespace Go.Nt
theorem zjQ(t k A p u:Nat)(F:t*k=64)(hk:0<k)(hu:u<2^t):
  A*(2^t)^(p+1)/18446744073709551616^(p/k)%18446744073709551616<18446744073709551616/\
  u*2^(p%k*t)%18446744073709551616=u*2^(p%k*t)/\
  u*2^(p%k*t)<18446744073709551616/\
  (A*(2^t)^(p+1)/18446744073709551616^(p/k)%18446744073709551616 ||| u*2^(p%k*t))=A*(2^t)^(p+1)/18446744073709551616^(p/k)%18446744073709551616+u*2^(p%k*t)/\
  A*(2^t)^(p+1)/18446744073709551616^(p/k)%18446744073709551616+u*2^(p%k*t)<18446744073709551616/\
  A*(2^t)^(p+1)+u*2^(p%k*t)*18446744073709551616^(p/k)=(A*2^t+u)*(2^t)^p:=by
 have G:(2^t)^k=18446744073709551616:=by rw[<-BO,F]
 have I:p%k<k:=AG _ hk;have H:k*(p/k)+p%k=p:=Ae p k;have m:=zrf (2^t) k A (p/k) (p%k) u I hu;have r:=ziF (2^t) (p/k) (p%k) k;rw[H,G] at m r;have w:(2^t)^(p%k)=2^(p%k*t):=by rw[<-BO,AN]
 have B:(2^t)^(p%k+1)=2^(p%k*t+t):=by rw[<-BO,Ca,Al,AN]
 rw[w] at r m;rw[B] at m;obtain⟨j,q⟩:=m;have E:u*2^(p%k*t)<2^(p%k*t+t):=by
  rw[B6,AN];exact Dw hu (Ab q_e)
 refine⟨AG _ q_e,AA q_o,by omega,?_,by rw[j];exact q,?_⟩
 ·rw[j];exact or_add _ _ _ E
 ·rw[AS,r,BL];congr 1
  ·ac_rfl
  ·ac_rfl
theorem zny(b:Nat)(l:List Nat)(d:Nat):bev b (l++[d])=bev b l*b+d:=by
 rw[zhh];simp[bev]
theorem zmZ(l:List UInt8)(i:Nat)(u:UInt8)(h:l[i]?=some u):bev 256 (bn (l.take (i+1)))=bev 256 (bn (l.take i))*256+u.toNat:=by
 have m:i<l.length:=by
  rcases AK i l.length with j|j
  ·exact j
  ·rw[BJ j] at h;cases h
 have:l.take (i+1)=l.take i++[u]:=by
  rw[CA,h];rfl
 rw[this];unfold bn;rw[B2];exact zny 256 _ _
theorem zyj:18446744073709551616^16=256^128:=zht 256 8 128 rfl rfl
theorem ztJ(l:List UInt8):(tz l).length<=128↔bev 256 (bn l)<18446744073709551616^16:=by
 rw[zyj,<-zqW l];cases ht:tz l with
 |nil=>simp only[Cd];exact⟨λ_=>Ab q_e,λ_=>by omega⟩
 |cons u r=>
  have hu:=zwp l u r ht;have j:0<u.toNat:=by
   rcases AM u.toNat with h|h
   ·exact absurd (CB.1 (by rw[h];rfl)) hu
   ·exact h
  have m:=zrN 256 q_e u.toNat (bn r) j (zhr (u::r));have q:=zfA 256 (bn (u::r)) (zhr _);have w:(bn (u::r)).length=(u::r).length:=A1 _;have A:(u.toNat::bn r).length=(u::r).length:=w;rw[A] at m;rw[w] at q;constructor
  ·intro h;exact AZ q (AR q_e h)
  ·intro h;have:=zcI 256 _ 128 q_e h;rw[show bev 256 (bn (u::r))=bev 256 (u.toNat::bn r) from rfl,m] at this;exact this
end Go.Nt
namespace Go.Proofs.YtdnlngbjpdbffaaGreatDoor
open Go Go.Sy Go.Nt Go.RowKit
attribute [local irreducible] Sy SyL SyX Sy.Fn callFunc zg
theorem zb9(a:Option Addr)(len c:Nat)(q:List UInt8)(w:World)(Z:q.length=len)(hc:len<=c)(hb:SlA w a (q.map v8))(hx:len<9223372036854775808):
  q_G 181 [.slice a len c] w (if bev 256 (bn q)<18446744073709551616^16 then .tuple #[zu (bev 256 (bn q)),.int .i64 0] else .tuple #[zu 0,.int .i64 7]):=by
 refine zz Tryz.func181 Tryz.ntmps181 ?_;obtain⟨J,R,K,hs,E⟩:=zoH a len c q w Z hc hb;have M:=zuB q;have m:=ztJ q;rw[<-zqW q] at m ⊢;generalize tz q=l at*;obtain⟨n,N⟩:∃n,n=l.length:=⟨_,rfl⟩;rw[<-N] at E K m M;by_cases hbig:n<=128
 ·rw[if_pos (m.1 hbig)];repeat' (first|refine s_t ?_|refine ze 0 ?_;refine z9 ?_;intro _|refine q_k 1 ?_;refine q_v (za (hc:=zr E)) ?_;refine zf ?_|refine q_k 2 ?_;refine q_v zF ?_|refine ze 4 ?_;refine zi ?_;intro _|refine q_k 5 ?_)
  rename_i H I;refine zX (γ:=Nat) (λi=>[(0,.slice J n R),(2,.pointer (some ⟨H,0,none⟩)),(3,.int .i64 0),(4,.pointer (some ⟨I,0,none⟩)),(14,.slice J n R),(15,.int .i64 n),(16,.int .i64 i)])
   (λi=>[.blk I 133 (zg (bev 256 (bn (l.take i))*256^(n-i))),.blk H 133 (List.replicate 16 (Value.int IntKind.u64 0))])
   (λi=>i<=n) (λi=>n-i) 0 (AE _) ?_ ?_ ?_
  ·exact q_h
  ·show SubR [.blk I 133 (zg (bev 256 (bn (l.take 0))*256^(n-0))),.blk H 133 (List.replicate 16 (Value.int IntKind.u64 0))] _;rw[show bev 256 (bn (l.take 0))=0 from rfl,BA,<-natC0];exact q_h
  intro i hi;by_cases hlt:i<n
  ·obtain⟨u,hu⟩:∃u,l[i]?=some u:=⟨l[i]'q_o,A2 _⟩;obtain⟨b,o,rfl,hr⟩:∃b o,J=some ⟨b,o,none⟩/\w.rangeAt b o (l.map v8):=by
    rcases hs with h|h
    ·have:=congrArg List.length h;rw[A1,<-N] at this;exact absurd this (by show ¬n=0;omega)
    ·exact h
   have r:w.cell? ⟨b,o+i,none⟩=some (v8 u):=hr i (v8 u) (by rw[Ak,hu];rfl);obtain⟨p,hp⟩:∃p,p=n-1-i:=⟨_,rfl⟩;have P:n-i=p+1:=q_o;have G:IntKind.i64.wrap ((n:Int)-1-(i:Int))=((p:Nat):Int):=q_w;obtain⟨S,Y,e3,T,U,V⟩:=zjQ 8 8 (bev 256 (bn (l.take i))) p u.toNat rfl q_e u.toNat_lt;rw[show(2:Nat)^8=256 from rfl] at S T U V;have F:=zb (bev 256 (bn (l.take i))*256^(n-i));have W:=zbF (bev 256 (bn (l.take i))*256^(n-i)) (p/8) q_o;have j:=zei (bev 256 (bn (l.take i))*256^(n-i)) (p/8) (u.toNat*2^(p%8*8));have Q:=zmZ l i u hu;rw[P] at W j F ⊢;rw[V,<-Q] at j;have j:=j U;rw[<-T,<-Y] at j;have O:n-(i+1)=p:=q_o;generalize bev 256 (bn (l.take i))*256^(p+1)=X at*;generalize X/18446744073709551616^(p/8)%18446744073709551616=d at*;have q1:IntKind.i64.wrap ((p:Int).tdiv 8)=((p/8:Nat):Int):=zfJ (k:=8) q_o;have q2:(p:Int).tmod 8=((p%8:Nat):Int):=zjY p 8;have q3:IntKind.i64.wrap (((p%8:Nat):Int)*8)=((p%8*8:Nat):Int):=q_w;have q4:IntKind.u64.wrap (Wd.n8 u)=((u.toNat:Nat):Int):=IntWalk.u64_in _ (by have:=Wd.n8_lt u;have:=Wd.n8_nonneg u;omega);have a6:p/8<16:=q_o;repeat' (first|refine s_t ?_|refine ze 6 ?_;refine q_v zm ?_|refine q_k 7 ?_;refine zR ?_;refine q_x (zp (hv:=r)) ?_|refine q_k 8 ?_;refine q_x zab ?_;refine q_x (zab (hr:=G)) ?_|refine zal (id:=9) 13 [[],[0],[],[0,1,2],[0,1,2,3],[],[5],[],[7],[7,8],[5,6,7,8,9],[0,1,2,3,4,5,6,7,8,9,10],[],[0,1,2,3,4,5,6,7,8,9,10,11,12],[0,1,2,3,4,5,6,7,8,9,10,11,12,13]] mixed ?_ ?_;kernel_rfl;refine zO ?_;refine q_D (zcp (hr:=q1)) ?_;refine q_D zP ?_;refine zaA ?_;refine q_D (zM (hv:=W)) ?_;refine zO ?_;refine q_D (zaw (hr:=q4)) ?_;refine zO ?_;refine q_D (zcU (hr:=q2)) ?_;refine q_D (zaV (hr:=q3)) ?_;refine q_D (zgL (a:=u.toNat) (n:=p%8*8)) ?_;refine q_D (ziD (a:=d) (b:=u.toNat*2^(p%8*8)%18446744073709551616) S (AG _ q_e)) ?_;refine q_D zP ?_;refine zaG ?_;refine zR ?_;refine zJ ?_|refine ze 10 ?_;refine za9 ?_;refine zf ?_)
   refine zQ (i+1) ?_ ?_ ?_ ?_
   ·show i+1<=n;omega
   ·show n-(i+1)<p+1;omega
   ·exact q_h
   ·show SubR [.blk I 133 (zg (bev 256 (bn (l.take (i+1)))*256^(n-(i+1)))),.blk H 133 (List.replicate 16 (Value.int IntKind.u64 0))] _;rw[O,<-j];exact q_h
  obtain rfl:i=n:=q_o;have A:l.take i=l:=by rw[N];exact CG
  rw[A,C5,Ax,Al];have F:=zb (bev 256 (bn l));have a7:=m.1 hbig;generalize bev 256 (bn l)=x at*;repeat' (first|refine s_0 ?_|refine ze 6 ?_;refine q_v zm ?_|refine ze 11 ?_;refine q_v (zd (B:=zg x)) ?_;refine q_y (zk (n:=x)) ?_)
  exact zT rfl (zB (B:=zg x) rfl (ty rfl) rfl En Em (zb _).symm) (zj rfl) El ⟨rfl,rfl⟩
 ·rw[if_neg (λh=>hbig (m.2 h))];have L:decide (128<(n:Int))=true:=q_d;repeat' (first|refine s_0 ?_|refine ze 0 ?_;refine z9 ?_;intro _|refine q_k 1 ?_;refine q_v (za (hc:=zr E)) ?_;refine zf ?_|refine q_k 2 ?_;refine q_v (zF (hr:=L)) ?_|refine ze 3 ?_;refine za4 ?_;refine zJ ?_;refine zf ?_)
  exact zT rfl (zB (B:=List.replicate 16 (Value.int IntKind.u64 0)) rfl (ty rfl) rfl En Em rfl) (zj rfl) El ⟨by rw[<-zeY],rfl⟩
end Go.Proofs.YtdnlngbjpdbffaaGreatDoor
namespace Go.Sy
theorem zgP{L L' R:List Res}{r:Res}(h:Rem L r L')(k:L'.Perm R):L.Perm (r::R):=h.perm.trans (List.Perm.cons _ k)
theorem zxL{L1:List Res}{r:Res}{Mi:Nat->Prop}(h:Has L1 r)(j:∀b,Mi b->¬OwnOf L1 b):∀b,Mi b->¬OwnOf [r] b:=λb m ⟨A,w,q⟩=>by
 obtain rfl:=AC.1 w;exact j b m ⟨_,h,q⟩
theorem SubR.skip{A B:List Res}{r:Res}(h:SubR A B):SubR A (r::B):=by
 obtain⟨X,j⟩:=h;exact⟨r::X,(List.Perm.cons r j).trans CF.symm⟩
def Ex:=@SubR.skip
end Go.Sy
namespace Go.Nt
open Go Go.Sy
def zum(_:Nat->Prop)(x:Nat)(vs:List Value)(RA:List Res)(_:World):Prop:=vs= [.int .i64 ((x:Nat):Int)]/\RA= []
theorem zv4(r i low:Nat)(hr:0<r)(j:low<18446744073709551616^i):nd 2 (r*18446744073709551616^i+low)=64*i+nd 2 r:=by
 rw[zqH] at j ⊢;have q:0<2^(64*i):=Ab q_e;have w:2^(64*i)<=r*2^(64*i):=C4 _ hr;have m:=zin 2 (r*2^(64*i)+low) (64*i) q_e q_o;rw[m,AN r,Ce q,Ap j,Bi]
end Go.Nt
namespace Go.Proofs.YtdnlngbjpdbffaaGreatDoor
open Go Go.Sy Go.Nt Go.RowKit
attribute [local irreducible] Sy SyL SyX Sy.Fn callFunc zg
theorem zpo(x:Nat)(w:World):
  Sy.Fn Tryz.prog 283 [zu x] w No (λv R=>∃b,v= .func (.func 316) #[] #[.pointer (some ⟨b,0,none⟩)]/\R= [.blk b 133 (zg x)]):=by
 refine zz Tryz.func283 Tryz.ntmps283 ?_;have j:=zb x;repeat' (first|refine s_0 ?_|refine ze 0 ?_;refine z9 ?_;intro _|refine ze 1 ?_;refine q_x zZ ?_)
 rename_i b;exact zaq rfl (zj rfl) q_h ⟨b,rfl,rfl⟩
theorem zmU(I x:Nat)(w:World)(M:Nat->Prop)(hx:x<18446744073709551616^16):
  zkH Tryz.prog 316 [.pointer (some ⟨I,0,none⟩)] (zbt x) zum w M [.blk I 133 (zg x)]:=by
 intro l J Jx j0 R hh hY;refine zaT Tryz.func316 rfl Tryz.ntmps316 q_p hh ?_;have b3:=zb x;have T:=zbF x;repeat' (first|refine s_t ?_|refine q_k 0 ?_)
 refine zX (γ:=Nat×Nat×Res) (λg=>[(0,.func (.yield l) #[] #[]),(1,.pointer (some ⟨I,0,none⟩)),(3,.int .i64 ((g.1:Int)-1))])
  (λg=>[g.2.2,.blk I 133 (zg x)])
  (λg=>g.1<=16/\g.2.1<=(zbt x).length/\left g.2.1 x=x%18446744073709551616^g.1/\J g.2.1 g.2.2)
  (λg=>g.1) (16,0,j0) ⟨A8 _,AE _,(AA hx).symm,R⟩ ?_ ?_ ?_
 ·exact q_h
 ·exact q_h
 rintro⟨i,k,j⟩ ⟨hi,H,A,G⟩;dsimp only at hi H A G ⊢;rcases AM i with h0|h0
 ·subst h0;rw[Nat.pow_zero,Nat.mod_one] at A;have V:k=(zbt x).length:=by
   rcases AK k (zbt x).length with h|h
   ·have:=(zf6 h).1;omega
   ·omega
  subst V;repeat' (first|refine s_0 ?_|refine q_k 1 ?_;refine q_v zai ?_)
  exact ze2 rfl q_h ⟨j,rfl,.inl G⟩
 obtain⟨i,rfl⟩:∃i',i=i'+1:=⟨i-1,by omega⟩;have U:(((i+1:Nat):Int)-1)=((i:Nat):Int):=q_o;have a8:IntKind.i64.wrap ((i:Int)-1)=(i:Int)-1:=IntWalk.i64_in _ q_o;rw[U];have hd:=T i q_o;rw[zdM] at A;have K:x/18446744073709551616^i%18446744073709551616<18446744073709551616:=AG _ q_e;have O:x%18446744073709551616^i<18446744073709551616^i:=AG _ (Ab q_e);generalize x/18446744073709551616^i%18446744073709551616=d at*;repeat' (first|refine s_t ?_|refine q_k 1 ?_;refine q_v zai ?_|refine q_k 3 ?_;refine zR ?_;refine q_x (zM (hv:=hd)) ?_)
 refine zX (γ:=Nat×Nat×Res) (λg=>[(0,.func (.yield l) #[] #[]),(1,.pointer (some ⟨I,0,none⟩)),(3,.int .i64 i),(4,nv g.1)])
  (λg=>[g.2.2,.blk I 133 (zg x)])
  (λg=>g.1<18446744073709551616/\g.2.1<=(zbt x).length/\left g.2.1 x=x%18446744073709551616^i+g.1*18446744073709551616^i/\J g.2.1 g.2.2)
  (λg=>g.1) (d,k,j) ⟨K,H,A,G⟩ ?_ ?_ ?_
 ·exact q_h
 ·exact q_h
 clear A G H hd K;rintro⟨r,k,j⟩ ⟨hr,H,A,G⟩;dsimp only at hr H A G ⊢;rcases AM r with h0|h0
 ·subst h0;rw[Nat.zero_mul,Nat.add_zero] at A;repeat' (first|refine s_0 ?_|refine q_k 4 ?_;refine zat ?_|refine q_k 2 ?_;refine q_x (zab (hr:=a8)) ?_)
  refine zQ (i,k,j) ⟨by show i<=16;omega,H,A,G⟩ ?_ ?_ ?_
  ·show i<i+1;omega
  ·exact q_h
  ·exact q_h
 obtain⟨b4,Y,Z⟩:=zg8 r h0;have b0:=zcI 2 r 64 q_e hr;have P:=zv4 r i _ h0 O;rw[DI,<-A] at P;have N:=λw=>zjD r w hr;have Q:0<left k x:=by
  have:18446744073709551616^i<=r*18446744073709551616^i:=C4 _ h0;have:0<18446744073709551616^i:=Ab q_e;omega
 have L:=zrk H Q;have F:=(zf6 L).2;have E:=zfB k x;rw[P] at F E;generalize nd 2 r=m at*;obtain⟨q,rfl⟩:∃q,m=q+1:=⟨m-1,by omega⟩;obtain⟨B,rfl⟩:∃B,r=2^q+B:=⟨r-2^q,by rw[B8] at Y;omega⟩;have a7:B<2^q:=by rw[AS] at Z;omega
 have F:(zbt x)[k]=64*i+q:=by rw[F];omega
 have E:left (k+1) x=x%18446744073709551616^i+B*18446744073709551616^i:=by
  rw[E,A,show 64*i+(q+1)-1=64*i+q by omega,B6,<-zqH,BL,AN (2^q)];omega
 have a9:IntKind.i64.wrap (((q+1:Nat):Int)-1)=((q:Nat):Int):=q_w;have W:IntKind.i64.wrap (64*(i:Int))=((64*i:Nat):Int):=q_w;have S:IntKind.i64.wrap (((64*i:Nat):Int)+(q:Int))=((64*i+q:Nat):Int):=q_w;have a6:decide (((2^q+B:Nat):Int)≠0)=true:=decide_eq_true (by
  have:0<2^q:=Ab q_e;omega)
 have b5:0<2^q:=Ab q_e;repeat' (first|refine s_t ?_|refine q_k 4 ?_;refine q_v (zV (hr:=a6)) ?_|refine q_k 5 ?_;refine q_v (za (hc:=q_c N)) ?_;refine q_x (zab (hr:=a9)) ?_|refine q_k 6 ?_;refine q_x (zaV (hr:=W)) ?_;refine q_v (zN (hr:=S)) ?_;(refine q_s (zdj hY L G (hL:=Eo (by exact Ej) rfl Er) (harg:=λw' X H b2=>⟨by rw[F],rfl⟩)) ?_;rintro _ _ ⟨y,j',rfl,rfl,hy⟩);refine zI ?_)
 cases y with
 |false=>
  repeat' (first|refine s_0 ?_|fail)
  exact zln rfl q_h ⟨j',rfl,.inr ⟨k+1,by omega,hy⟩⟩
 |true=>
  repeat' (first|refine s_0 ?_|refine q_k 7 ?_;refine q_v (zpt (n:=q) q_o) ?_;refine q_x (zqX (r:=B) (k:=q) q_o a7) ?_)
  refine zQ (B,k+1,j') ⟨by show B<_;omega,by show k+1<=_;omega,E,hy⟩ ?_ ?_ ?_
  ·show B<2^q+B;omega
  ·exact q_h
  ·exact q_h
end Go.Proofs.YtdnlngbjpdbffaaGreatDoor
namespace Go.Nt
open Go Go.Sy
theorem zwn(A p:Nat):
  A*2^(p+1)/18446744073709551616^(p/64)%18446744073709551616<18446744073709551616/\
  2^(p%64)<18446744073709551616/\
  (A*2^(p+1)/18446744073709551616^(p/64)%18446744073709551616 ||| 2^(p%64))=A*2^(p+1)/18446744073709551616^(p/64)%18446744073709551616+2^(p%64)/\
  A*2^(p+1)/18446744073709551616^(p/64)%18446744073709551616+2^(p%64)<18446744073709551616/\
  A*2^(p+1)+2^(p%64)*18446744073709551616^(p/64)=(A*2+1)*2^p:=by
 have h:=zjQ 1 64 A p 1 rfl q_e q_e;rw[show(2:Nat)^1=2 from rfl,Al,Bm] at h;exact⟨h.1,h.2.2.1,h.2.2.2.1,h.2.2.2.2.1,h.2.2.2.2.2⟩
end Go.Nt
namespace Go.Proofs.YtdnlngbjpdbffaaGreatDoor
open Go Go.Sy Go.Nt Go.RowKit
attribute [local irreducible] Sy SyL SyX Sy.Fn callFunc zg
theorem zwD(x n:Nat)(w:World)(hx:x<18446744073709551616^16)(hn:n<9223372036854775808):
  q_G 240 [zu x,.int .i64 n] w (.tuple #[zu (x/2^n),.int .i64 0]):=by
 refine zz Tryz.func240 Tryz.ntmps240 ?_;have a9:=zb x;have r:0<2^n:=Ab q_e;repeat' (first|refine s_0 ?_|refine ze 0 ?_;refine zi ?_;intro _;refine zi ?_;intro _;refine z9 ?_;intro _|refine ze 1 ?_;refine zl ?_;refine q_v zm ?_|refine ze 3 ?_;refine zi ?_;intro _|refine ze 4 ?_;refine zl ?_)
 rename_i b2 b3 b4 b6;refine q_s (zn (hc:=λM X L hh=>zpo x M)) ?_;rintro _ _ ⟨R,rfl,b,rfl,rfl⟩;repeat' (first|refine s_t ?_|fail)
 refine zgb (γ:=Nat) (xs:=zbt x) (Arg:=zum) zcO rfl (en rfl) rfl (λk s=>s*2^n+left k x=x) (λc k s=>c= .exit 0/\s=x/2^n)
  (λs=>[.blk b6 133 (zg s),.blk b3 3 [.int .i64 n]])
  [.blk b 133 (zg x)] [.blk b4 133 (List.replicate 16 (Value.int IntKind.u64 0)),.blk b2 133 (zg x)] 0 (by rw[show left 0 x=x from rfl,BA,AU]) ?_ ?_ ?_ ?_ ?_ ?_
 ·rw[show zg 0=List.replicate 16 (Value.int IntKind.u64 0) from natC0.symm]
  ((try simp only[Aa,AY,AH]);(repeat' (first|exact List.Perm.nil|exact Aq _|apply zgP;with_reducible (focus ((repeat (first|exact Ej|apply Ek));done))|apply zgP;(focus ((repeat (first|exact Ej|apply Ek));done)))))
 ·exact λM Mi X L hm _ _=>zmU b x M Mi hx
 ·rintro O x vs RA M ⟨rfl,_⟩;rfl
 ·rintro lp k L s vs RA W rec a7 E ⟨rfl,rfl⟩ a8 q;clear q;obtain⟨J,K⟩:=zf6 L;obtain⟨b0,H,S⟩:=zg8 _ J;have P:=zsm k x q_o;have G:=zfB k x;have Q:=zoR k x q_o;have F:=zb s;generalize left k x=y at*;generalize nd 2 y=m at*;obtain⟨i,rfl⟩:∃i,m=i+1:=⟨m-1,by omega⟩;rw[B8] at K H G;have hi:i<1024:=zxY (BM H Q) hx;rw[K];by_cases hb:i<n
  ·repeat' (first|refine s_t ?_|apply zaJ;(focus ((repeat (first|exact Ej|apply Ek));done));assumption|refine q_k 5 ?_|refine q_k 6 ?_;refine zl ?_;refine q_v zm ?_)
   refine zib s ⟨rfl,?_⟩ ?_
   ·have h1:y<2^n:=AZ S (AR q_e hb);rw[<-E,AN,Ce r,Ap h1,Bi]
   ·exact q_h
  ·obtain⟨p,hp⟩:∃p,p=i-n:=⟨_,rfl⟩;have T:s=x/2^(i+1)*2^(p+1):=by
    refine Nat.eq_of_mul_eq_mul_right r ?_;rw[BN,<-B6,show p+1+n=i+1 by omega,<-P];omega
   obtain⟨U,e2,V,Y,Z⟩:=zwn (x/2^(i+1)) p;have hd:=zbF s (p/64) q_o;have j:=zei s (p/64) (2^(p%64));have I:(x/2^(i+1)*2+1)*2^p=s+2^p:=by
    rw[T];generalize x/2^(i+1)=A at*;rw[BL,AS,Bm];congr 1
    ac_rfl
   have N:(s+2^p)*2^n+left (k+1) x=x:=by
    rw[BL,<-B6,show p+n=i by omega,G];omega
   rw[<-T] at U V Y Z;rw[Z,I] at j;have j:=j Y;rw[<-V] at j;generalize s/18446744073709551616^(p/64)%18446744073709551616=d at*;have ha:IntKind.i64.wrap ((i:Int)-(n:Int))=((p:Nat):Int):=q_w;have q1:IntKind.i64.wrap ((p:Int).tdiv 64)=((p/64:Nat):Int):=zfJ (k:=64) q_o;have q2:(p:Int).tmod 64=((p%64:Nat):Int):=zjY p 64;have a6:p/64<16:=q_o;repeat' (first|refine s_t ?_|apply zaJ;(focus ((repeat (first|exact Ej|apply Ek));done));assumption|refine q_k 5 ?_|refine q_k 6 ?_;refine zl ?_;refine q_v zm ?_|refine zal (id:=7) 14 [[],[],[0,1],[0,1,2],[],[0,1,2,3,4],[0,1,2,3,4,5],[],[],[7,8],[7,8,9],[7,8,9,10],[0,1,2,3,4,5,6,7,8,9,10,11],[],[0,1,2,3,4,5,6,7,8,9,10,11,12,13],[0,1,2,3,4,5,6,7,8,9,10,11,12,13,14]] mixed ?_ ?_;kernel_rfl;refine zO ?_;refine zc6 ?_;refine q_D (zab (hr:=ha)) ?_;refine q_D (zcp (hr:=q1)) ?_;refine q_D zP ?_;refine zaA ?_;refine q_D (zM (hv:=hd)) ?_;refine zO ?_;refine zc6 ?_;refine q_D (zab (hr:=ha)) ?_;refine q_D (zcU (hr:=q2)) ?_;refine q_D (zpt (n:=p%64) (AG _ q_e)) ?_;refine q_D (ziD (a:=d) (b:=2^(p%64)) U e2) ?_;refine q_D zP ?_;refine zaG ?_;refine zR ?_;refine zJ ?_|fail)
   refine zfY (s+2^p) N ?_;rw[<-j];exact q_h
 ·intro s E;rw[zjI,Bi] at E;have E:s=x/2^n:=by rw[<-E,DC _ r]
  subst E;have F:=zb (x/2^n);generalize x/2^n=X at*;repeat' (first|refine s_0 ?_|refine ze 8 ?_;refine q_v (zd (B:=zg X)) ?_;refine q_y (zk (n:=X)) ?_)
  exact zT rfl (zB (B:=zg X) rfl (ty rfl) rfl En Em (zb _).symm) (zj rfl) El ⟨rfl,rfl⟩
 ·rintro _ k s L ⟨rfl,rfl⟩;have F:=zb (x/2^n);generalize x/2^n=X at*;repeat' (first|refine s_0 ?_|refine ze 8 ?_;refine q_v (zd (B:=zg X)) ?_;refine q_y (zk (n:=X)) ?_)
  exact zT rfl (zB (B:=zg X) rfl (ty rfl) rfl En Em (zb _).symm) (zj rfl) El ⟨rfl,rfl⟩
end Go.Proofs.YtdnlngbjpdbffaaGreatDoor
