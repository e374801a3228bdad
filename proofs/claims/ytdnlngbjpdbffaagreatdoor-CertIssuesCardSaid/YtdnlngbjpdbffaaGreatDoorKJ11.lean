/- Lemmas of this proof. -/
import Derived.Test.YtdnlngbjpdbffaaGreatDoorKJ10
set_option maxHeartbeats 1000000
set_option maxRecDepth 10000
set_option linter.all false
namespace Go.Nt
open Go Go.Sy
def tz(l:List UInt8):List UInt8:=l.dropWhile (· == 0)
def bn(l:List UInt8):List Nat:=l.map (·.toNat)
theorem zgC(l:List UInt8):∀d∈bn l,d<256:=by
 intro d j;obtain⟨u,_,rfl⟩:=C0.1 j;exact u.toNat_lt
theorem zwR(l:List UInt8):bn (tz l)=(bn l).dropWhile (· == 0):=by
 unfold bn tz
 induction l with
 |nil=>rfl
 |cons u l ih=>
  rw[Co,Ay,Co];by_cases h:u=0
  ·subst h;simpa using ih
  ·have j:(u==0)=false:=by simpa using h
   have m:(u.toNat==0)=false:=by
    rw[beq_eq_false_iff_ne];intro q;exact h (C4.1 (by rw[q];rfl))
   rw[j,m];rfl
theorem zqG(l:List UInt8):bev 256 (bn (tz l))=bev 256 (bn l):=by rw[zwR,zm5]
theorem zmg(l:List UInt8):tz (0::l)=tz l:=by unfold tz;rw[Co];rfl
theorem zoX(u:UInt8)(l:List UInt8)(h:u≠0):tz (u::l)=u::l:=by
 unfold tz;rw[Co,if_neg (by simpa using h)]
theorem ztZ(l:List UInt8):(tz l).length<=l.length:=by
 unfold tz;exact(List.dropWhile_sublist _).length_le
theorem zvu(l:List UInt8)(u:UInt8)(r:List UInt8)(h:tz l=u::r):u≠0:=by
 induction l with
 |nil=>cases h
 |cons a l ih=>
  by_cases ha:a=0
  ·subst ha;rw[zmg] at h;exact ih h
  ·rw[zoX a l ha] at h;rw[<-(Dq h).1];exact ha
end Go.Nt
namespace Go.Proofs.YtdnlngbjpdbffaaGreatDoor
open Go Go.Sy Go.Nt Go.RowKit
attribute [local irreducible] Sy SyL SyX Sy.Fn callFunc zf
theorem zoc(b o len c:Nat)(m:List UInt8)(w:World)(I:m.length=len)(hc:len<=c)(hb:w.rangeAt b o (m.map v8))(h0:0<len):
  q_G 286 [.slice (some ⟨b,o,none⟩) len c,v8 0] w (if tz m= [] then .slice none 0 0 else .slice (some ⟨b,o+(len-(tz m).length),none⟩) (tz m).length (c-(len-(tz m).length))):=by
 refine zo Tryz.func286 Tryz.ntmps286 ?_;repeat' (first|refine s_t ?_|refine q_k 0 ?_)
 refine zE (γ:=Nat×Option Addr) (λg=>[(0,.slice g.2 (len-g.1) (c-g.1)),(1,v8 0)]) (λ_=>[]) (λg=>g.1<=len/\tz (m.drop g.1)=tz m/\(g.1<len->g.2=some ⟨b,o+g.1,none⟩)) (λg=>len-g.1) (0,some ⟨b,o,none⟩) ⟨AE _,rfl,λ_=>rfl⟩ ?_ ?_ ?_
 ·exact q_h
 ·exact q_h
 rintro⟨i,a⟩ ⟨H,t,G⟩;dsimp only at H t G ⊢;by_cases hlt:i<len
 ·obtain rfl:=G hlt;obtain⟨u,hu⟩:∃u,m[i]?=some u:=⟨m[i]'q_o,A1 _⟩;have q:w.cell? ⟨b,o+i,none⟩=some (v8 u):=hb i (v8 u) (by rw[AY,hu];rfl);have j:m.drop i=u::m.drop (i+1):=by
   rw[BK q_o];rw[A1 q_o] at hu;rw[Ap hu]
  have r:decide (0<((len-i:Nat):Int))=true:=q_d;by_cases hz:u=0
  ·subst hz;rw[j,zmg] at t;repeat' (first|refine s_t ?_|refine q_k 1 ?_;refine q_x (zF (hr:=r)) ?_;refine zD ?_;refine q_x (zn (hv:=q)) ?_;refine zaH ?_;refine zb ?_|refine q_k 2 ?_;refine zcC ?_;refine zb ?_)
   refine zy (i+1,zb4 (some ⟨b,o+i,none⟩) 1 (c-i) 1) ⟨by show i+1<=len;omega,t,λh=>zhB q_o⟩ ?_ ?_ ?_
   ·show len-(i+1)<len-i;omega
   ·exact q_h
   ·exact q_h
  ·rw[j,zoX u _ hz] at t;have A:decide (Wd.n8 u=Wd.n8 0)=false:=decide_eq_false (λh=>hz (Wd.n8_inj h));have C:(tz m).length=len-i:=by rw[<-t,<-j,B5,I]
   have B:decide (((len-i:Nat):Int)=0)=false:=q_f;rw[C,if_neg (by rw[<-t];simp),show len-(len-i)=i by omega];repeat' (first|refine s_0 ?_|refine q_k 1 ?_;refine q_x (zF (hr:=r)) ?_;refine zD ?_;refine q_x (zn (hv:=q)) ?_;refine q_x (zaa (hr:=A)) ?_|refine q_k 3 ?_;refine q_v (zaa (hr:=B)) ?_|refine q_k 5 ?_)
   exact q_r
 ·obtain rfl:i=len:=q_o;rw[Bd q_o] at t;have E:decide (0<((i-i:Nat):Int))=false:=q_f;have F:decide (((i-i:Nat):Int)=0)=true:=q_d;rw[if_pos (show tz m= [] from t.symm)];repeat' (first|refine s_0 ?_|refine q_k 1 ?_;refine q_x (zF (hr:=E)) ?_|refine q_k 3 ?_;refine q_v (zaa (hr:=F)) ?_|refine q_k 4 ?_)
  exact q_r
theorem zog(a:Option Addr)(len c:Nat)(m:List UInt8)(w:World)(G:m.length=len)(hc:len<=c)(hb:SlA w a (m.map v8)):
  ∃H I,(tz m).length<=I/\SlA w H ((tz m).map v8)/\∀t,Keep No w t->q_G 242 [.slice a len c,.string (str [0])] t (.slice H (tz m).length I):=by
 rcases AD len with h0|h0
 ·obtain rfl:m= []:=BF.1 q_o;subst h0;refine⟨none,0,A4 _,.inl rfl,λt E=>?_⟩;refine zo Tryz.func242 Tryz.ntmps242 ?_;repeat' (first|refine s_0 ?_|refine zK [0,2] ?_;refine zb ?_|refine q_k 1 ?_;refine zaH ?_)
  exact q_r
 obtain⟨b,o,rfl,hr⟩:∃b o,a=some ⟨b,o,none⟩/\w.rangeAt b o (m.map v8):=by
  rcases hb with h|h
  ·have:=congrArg List.length h;rw[A0,G] at this;exact absurd this (by show ¬len=0;omega)
  ·exact h
 have q:=λt (E:Keep No w t)=>zoc b o len c m t G hc (za5 hr E (λh=>h)) h0;have K:=ztZ m;have F:(tz m).map v8=(m.map v8).drop (len-(tz m).length):=by
  rw[<-Cm];congr 1;have:tz m <:+ m:=List.dropWhile_suffix _;rw[<-G];exact List.suffix_iff_eq_drop.1 this
 by_cases ht:tz m= []
 ·simp only[if_pos ht] at q;refine⟨none,0,by rw[ht];exact A4 _,.inl (by rw[ht];rfl),λt E=>?_⟩;rw[ht];refine zo Tryz.func242 Tryz.ntmps242 ?_;have B:decide (((len:Nat):Int)=0)=false:=q_f;repeat' (first|refine s_0 ?_|refine q_k 0 ?_|refine q_k 1 ?_;refine q_v (zaa (hr:=B)) ?_|refine q_k 3 ?_;refine q_v (zbf (a:=[0]) (b:=[]) (r:=false) (hr:=rfl)) ?_|refine q_k 5 ?_;refine zaH ?_;refine zb ?_;refine q_v (zN (s:=str [0]) (u:=0) (hv:=rfl)) ?_;refine zR ?_;refine zb ?_|refine q_k 6 ?_;refine q_v (zN (s:=str [0]) (u:=0) (hv:=rfl)) ?_;refine q_v (za (hc:=λC _ A _=>q C (E.trans A (λ_ h=>h.elim)))) ?_;refine zb ?_)
  exact q_r
 ·simp only[if_neg ht] at q;refine⟨some ⟨b,o+(len-(tz m).length),none⟩,c-(len-(tz m).length),by omega,?_,λt E=>?_⟩
  ·refine .inr ⟨b,_,rfl,λj v J=>?_⟩;rw[F,Be] at J;rw[Az];exact hr _ v J
  ·refine zo Tryz.func242 Tryz.ntmps242 ?_;have B:decide (((len:Nat):Int)=0)=false:=q_f;repeat' (first|refine s_0 ?_|refine q_k 0 ?_|refine q_k 1 ?_;refine q_v (zaa (hr:=B)) ?_|refine q_k 3 ?_;refine q_v (zbf (a:=[0]) (b:=[]) (r:=false) (hr:=rfl)) ?_|refine q_k 5 ?_;refine zaH ?_;refine zb ?_;refine q_v (zN (s:=str [0]) (u:=0) (hv:=rfl)) ?_;refine zR ?_;refine zb ?_|refine q_k 6 ?_;refine q_v (zN (s:=str [0]) (u:=0) (hv:=rfl)) ?_;refine q_v (za (hc:=λC _ A _=>q C (E.trans A (λ_ h=>h.elim)))) ?_;refine zb ?_)
   exact q_r
end Go.Proofs.YtdnlngbjpdbffaaGreatDoor
namespace Go.Nt
theorem zjI(t k A p u:Nat)(E:t*k=64)(hk:0<k)(hu:u<2^t):
  A*(2^t)^(p+1)/18446744073709551616^(p/k)%18446744073709551616<18446744073709551616/\
  u*2^(p%k*t)%18446744073709551616=u*2^(p%k*t)/\
  u*2^(p%k*t)<18446744073709551616/\
  (A*(2^t)^(p+1)/18446744073709551616^(p/k)%18446744073709551616 ||| u*2^(p%k*t))=A*(2^t)^(p+1)/18446744073709551616^(p/k)%18446744073709551616+u*2^(p%k*t)/\
  A*(2^t)^(p+1)/18446744073709551616^(p/k)%18446744073709551616+u*2^(p%k*t)<18446744073709551616/\
  A*(2^t)^(p+1)+u*2^(p%k*t)*18446744073709551616^(p/k)=(A*2^t+u)*(2^t)^p:=by
 have F:(2^t)^k=18446744073709551616:=by rw[<-B8,E]
 have H:p%k<k:=A7 _ hk;have G:k*(p/k)+p%k=p:=AV p k;have m:=zqn (2^t) k A (p/k) (p%k) u H hu;have r:=zh3 (2^t) (p/k) (p%k) k;rw[G,F] at m r;have w:(2^t)^(p%k)=2^(p%k*t):=by rw[<-B8,A8]
 have B:(2^t)^(p%k+1)=2^(p%k*t+t):=by rw[<-B8,Bg,Af,A8]
 rw[w] at r m;rw[B] at m;obtain⟨j,q⟩:=m;have C:u*2^(p%k*t)<2^(p%k*t+t):=by
  rw[As,A8];exact DC hu (AP q_e)
 refine⟨A7 _ q_e,A3 q_o,by omega,?_,by rw[j];exact q,?_⟩
 ·rw[j];exact znF _ _ _ C
 ·rw[AJ,r,AM];congr 1
  ·ac_rfl
  ·ac_rfl
theorem zmV(b:Nat)(l:List Nat)(d:Nat):bev b (l++[d])=bev b l*b+d:=by
 rw[zht];simp[bev]
theorem zmF(l:List UInt8)(i:Nat)(u:UInt8)(h:l[i]?=some u):bev 256 (bn (l.take (i+1)))=bev 256 (bn (l.take i))*256+u.toNat:=by
 have m:i<l.length:=by
  rcases AH i l.length with j|j
  ·exact j
  ·rw[BL j] at h;cases h
 have:l.take (i+1)=l.take i++[u]:=by
  rw[CB,h];rfl
 rw[this];unfold bn;rw[Aw];exact zmV 256 _ _
theorem zxo:18446744073709551616^16=256^128:=zgU 256 8 128 rfl rfl
theorem ztq(l:List UInt8):(tz l).length<=128↔bev 256 (bn l)<18446744073709551616^16:=by
 rw[zxo,<-zqG l];cases ht:tz l with
 |nil=>simp only[DU];exact⟨λ_=>AP q_e,λ_=>by omega⟩
 |cons u r=>
  have hu:=zvu l u r ht;have j:0<u.toNat:=by
   rcases AD u.toNat with h|h
   ·exact absurd (C4.1 (by rw[h];rfl)) hu
   ·exact h
  have m:=zqD 256 q_e u.toNat (bn r) j (zgC (u::r));have q:=zdR 256 (bn (u::r)) (zgC _);have t:(bn (u::r)).length=(u::r).length:=A0 _;have w:(u.toNat::bn r).length=(u::r).length:=t;rw[w] at m;rw[t] at q;constructor
  ·intro h;exact AG q (AA q_e h)
  ·intro h;have:=zaQ 256 _ 128 q_e h;rw[show bev 256 (bn (u::r))=bev 256 (u.toNat::bn r) from rfl,m] at this;exact this
end Go.Nt
namespace Go.Proofs.YtdnlngbjpdbffaaGreatDoor
open Go Go.Sy Go.Nt Go.RowKit
attribute [local irreducible] Sy SyL SyX Sy.Fn callFunc zf
theorem zb7(a:Option Addr)(len c:Nat)(q:List UInt8)(w:World)(W:q.length=len)(hc:len<=c)(hb:SlA w a (q.map v8))(hx:len<9223372036854775808):
  q_G 181 [.slice a len c] w (if bev 256 (bn q)<18446744073709551616^16 then .tuple #[zm (bev 256 (bn q)),.int .i64 0] else .tuple #[zm 0,.int .i64 7]):=by
 refine zo Tryz.func181 Tryz.ntmps181 ?_;obtain⟨H,P,I,Z,A⟩:=zog a len c q w W hc hb;have K:=ztZ q;have m:=ztq q;rw[<-zqG q] at m ⊢;generalize tz q=l at*;obtain⟨n,L⟩:∃n,n=l.length:=⟨_,rfl⟩;rw[<-L] at A I m K;by_cases hbig:n<=128
 ·rw[if_pos (m.1 hbig)];repeat' (first|refine s_t ?_|refine zg 0 ?_;refine zV ?_;intro _|refine q_k 1 ?_;refine q_v (za (hc:=zq A)) ?_;refine zb ?_|refine q_k 2 ?_;refine q_v zF ?_|refine zg 4 ?_;refine zi ?_;intro _|refine q_k 5 ?_)
  rename_i F G;refine zE (γ:=Nat) (λi=>[(0,.slice H n P),(2,.pointer (some ⟨F,0,none⟩)),(3,.int .i64 0),(4,.pointer (some ⟨G,0,none⟩)),(14,.slice H n P),(15,.int .i64 n),(16,.int .i64 i)])
   (λi=>[.blk G 133 (zf (bev 256 (bn (l.take i))*256^(n-i))),.blk F 133 (List.replicate 16 (Value.int IntKind.u64 0))])
   (λi=>i<=n) (λi=>n-i) 0 (AE _) ?_ ?_ ?_
  ·exact q_h
  ·show SubR [.blk G 133 (zf (bev 256 (bn (l.take 0))*256^(n-0))),.blk F 133 (List.replicate 16 (Value.int IntKind.u64 0))] _;rw[show bev 256 (bn (l.take 0))=0 from rfl,BJ,<-natC0];exact q_h
  intro i hi;by_cases hlt:i<n
  ·obtain⟨u,hu⟩:∃u,l[i]?=some u:=⟨l[i]'q_o,A1 _⟩;obtain⟨b,o,rfl,hr⟩:∃b o,H=some ⟨b,o,none⟩/\w.rangeAt b o (l.map v8):=by
    rcases Z with h|h
    ·have:=congrArg List.length h;rw[A0,<-L] at this;exact absurd this (by show ¬n=0;omega)
    ·exact h
   have r:w.cell? ⟨b,o+i,none⟩=some (v8 u):=hr i (v8 u) (by rw[AY,hu];rfl);obtain⟨p,hp⟩:∃p,p=n-1-i:=⟨_,rfl⟩;have N:n-i=p+1:=q_o;have E:IntKind.i64.wrap ((n:Int)-1-(i:Int))=((p:Nat):Int):=q_w;obtain⟨Q,V,e3,R,S,T⟩:=zjI 8 8 (bev 256 (bn (l.take i))) p u.toNat rfl q_e u.toNat_lt;rw[show(2:Nat)^8=256 from rfl] at Q R S T;have C:=zd (bev 256 (bn (l.take i))*256^(n-i));have U:=zbz (bev 256 (bn (l.take i))*256^(n-i)) (p/8) q_o;have j:=zd5 (bev 256 (bn (l.take i))*256^(n-i)) (p/8) (u.toNat*2^(p%8*8));have O:=zmF l i u hu;rw[N] at U j C ⊢;rw[T,<-O] at j;have j:=j S;rw[<-R,<-V] at j;have M:n-(i+1)=p:=q_o;generalize bev 256 (bn (l.take i))*256^(p+1)=X at*;generalize X/18446744073709551616^(p/8)%18446744073709551616=d at*;have q1:IntKind.i64.wrap ((p:Int).tdiv 8)=((p/8:Nat):Int):=zcV (k:=8) q_o;have q2:(p:Int).tmod 8=((p%8:Nat):Int):=zdL p 8;have q3:IntKind.i64.wrap (((p%8:Nat):Int)*8)=((p%8*8:Nat):Int):=q_w;have q4:IntKind.u64.wrap (Wd.n8 u)=((u.toNat:Nat):Int):=IntWalk.u64_in _ (by have:=Wd.n8_lt u;have:=Wd.n8_nonneg u;omega);have Y:p/8<16:=q_o;repeat' (first|refine s_t ?_|refine zg 6 ?_;refine zR ?_|refine q_k 7 ?_;refine zD ?_;refine q_x (zn (hv:=r)) ?_|refine q_k 8 ?_;refine q_x zH ?_;refine q_x (zH (hr:=E)) ?_|refine z5 (id:=9) 13 [[],[0],[],[0,1,2],[0,1,2,3],[],[5],[],[7],[7,8],[5,6,7,8,9],[0,1,2,3,4,5,6,7,8,9,10],[],[0,1,2,3,4,5,6,7,8,9,10,11,12],[0,1,2,3,4,5,6,7,8,9,10,11,12,13]] mixed ?_ ?_;kernel_rfl;refine zt ?_;refine q_D (zbb (hr:=q1)) ?_;refine q_D zO ?_;refine zT ?_;refine q_D (zM (hv:=U)) ?_;refine zt ?_;refine q_D (zal (hr:=q4)) ?_;refine zt ?_;refine q_D (zaN (hr:=q2)) ?_;refine q_D (zas (hr:=q3)) ?_;refine q_D (zgu (a:=u.toNat) (n:=p%8*8)) ?_;refine q_D (zil (a:=d) (b:=u.toNat*2^(p%8*8)%18446744073709551616) Q (A7 _ q_e)) ?_;refine q_D zO ?_;refine zam ?_;refine zD ?_;refine zS ?_|refine zg 10 ?_;refine zaI ?_;refine zb ?_)
   refine zy (i+1) ?_ ?_ ?_ ?_
   ·show i+1<=n;omega
   ·show n-(i+1)<p+1;omega
   ·exact q_h
   ·show SubR [.blk G 133 (zf (bev 256 (bn (l.take (i+1)))*256^(n-(i+1)))),.blk F 133 (List.replicate 16 (Value.int IntKind.u64 0))] _;rw[M,<-j];exact q_h
  obtain rfl:i=n:=q_o;have t:l.take i=l:=by rw[L];exact CZ
  rw[t,C5,Ad,Af];have C:=zd (bev 256 (bn l));have a6:=m.1 hbig;generalize bev 256 (bn l)=x at*;repeat' (first|refine s_0 ?_|refine zg 6 ?_;refine zR ?_|refine zg 11 ?_;refine q_v (ze (B:=zf x)) ?_;refine q_y (zj (n:=x)) ?_)
  exact zad rfl (zz (B:=zf x) rfl (ty rfl) rfl F4 F0 (zd _).symm) (zr rfl) F2 ⟨rfl,rfl⟩
 ·rw[if_neg (λh=>hbig (m.2 h))];have J:decide (128<(n:Int))=true:=q_d;repeat' (first|refine s_0 ?_|refine zg 0 ?_;refine zV ?_;intro _|refine q_k 1 ?_;refine q_v (za (hc:=zq A)) ?_;refine zb ?_|refine q_k 2 ?_;refine q_v (zF (hr:=J)) ?_|refine zg 3 ?_;refine zbj ?_;refine zS ?_;refine zb ?_)
  exact zad rfl (zz (B:=List.replicate 16 (Value.int IntKind.u64 0)) rfl (ty rfl) rfl F4 F0 rfl) (zr rfl) F2 ⟨by rw[<-zeF],rfl⟩
end Go.Proofs.YtdnlngbjpdbffaaGreatDoor
namespace Go.Sy
theorem zgH{L L' R:List Res}{r:Res}(h:Rem L r L')(k:L'.Perm R):L.Perm (r::R):=h.perm.trans (List.Perm.cons _ k)
theorem zwu{L1:List Res}{r:Res}{Mi:Nat->Prop}(h:Has L1 r)(j:∀b,Mi b->¬OwnOf L1 b):∀b,Mi b->¬OwnOf [r] b:=λb m ⟨w,t,q⟩=>by
 obtain rfl:=AF.1 t;exact j b m ⟨_,h,q⟩
theorem SubR.skip{A B:List Res}{r:Res}(h:SubR A B):SubR A (r::B):=by
 obtain⟨X,j⟩:=h;exact⟨r::X,(List.Perm.cons r j).trans CY.symm⟩
def FE:=@SubR.skip
end Go.Sy
namespace Go.Nt
open Go Go.Sy
def ztK(_:Nat->Prop)(x:Nat)(vs:List Value)(RA:List Res)(_:World):Prop:=vs= [.int .i64 ((x:Nat):Int)]/\RA= []
theorem zvh(r i low:Nat)(hr:0<r)(j:low<18446744073709551616^i):nd 2 (r*18446744073709551616^i+low)=64*i+nd 2 r:=by
 rw[zqb] at j ⊢;have q:0<2^(64*i):=AP q_e;have t:2^(64*i)<=r*2^(64*i):=BZ _ hr;have m:=zio 2 (r*2^(64*i)+low) (64*i) q_e q_o;rw[m,A8 r,Cu q,Al j,BI]
end Go.Nt
namespace Go.Proofs.YtdnlngbjpdbffaaGreatDoor
open Go Go.Sy Go.Nt Go.RowKit
attribute [local irreducible] Sy SyL SyX Sy.Fn callFunc zf
theorem zoy(x:Nat)(w:World):
  Sy.Fn Tryz.prog 283 [zm x] w No (λv R=>∃b,v= .func (.func 316) #[] #[.pointer (some ⟨b,0,none⟩)]/\R= [.blk b 133 (zf x)]):=by
 refine zo Tryz.func283 Tryz.ntmps283 ?_;have j:=zd x;repeat' (first|refine s_0 ?_|refine zg 0 ?_;refine zV ?_;intro _|refine zg 1 ?_;refine q_x zaj ?_)
 rename_i b;exact zaw rfl (zr rfl) q_h ⟨b,rfl,rfl⟩
theorem zmR(G x:Nat)(w:World)(M:Nat->Prop)(hx:x<18446744073709551616^16):
  zky Tryz.prog 316 [.pointer (some ⟨G,0,none⟩)] (zbl x) ztK w M [.blk G 133 (zf x)]:=by
 intro l J Jx j0 P hh hY;refine zcl Tryz.func316 rfl Tryz.ntmps316 q_p hh ?_;have b0:=zd x;have R:=zbz x;repeat' (first|refine s_t ?_|refine q_k 0 ?_)
 refine zE (γ:=Nat×Nat×Res) (λg=>[(0,.func (.yield l) #[] #[]),(1,.pointer (some ⟨G,0,none⟩)),(3,.int .i64 ((g.1:Int)-1))])
  (λg=>[g.2.2,.blk G 133 (zf x)])
  (λg=>g.1<=16/\g.2.1<=(zbl x).length/\left g.2.1 x=x%18446744073709551616^g.1/\J g.2.1 g.2.2)
  (λg=>g.1) (16,0,j0) ⟨A4 _,AE _,(A3 hx).symm,P⟩ ?_ ?_ ?_
 ·exact q_h
 ·exact q_h
 rintro⟨i,k,j⟩ ⟨hi,F,t,E⟩;dsimp only at hi F t E ⊢;rcases AD i with h0|h0
 ·subst h0;rw[Nat.pow_zero,Nat.mod_one] at t;have T:k=(zbl x).length:=by
   rcases AH k (zbl x).length with h|h
   ·have:=(zf6 h).1;omega
   ·omega
  subst T;repeat' (first|refine s_0 ?_|refine q_k 1 ?_;refine q_v zP ?_)
  exact ze4 rfl q_h ⟨j,rfl,.inl E⟩
 obtain⟨i,rfl⟩:∃i',i=i'+1:=⟨i-1,by omega⟩;have S:(((i+1:Nat):Int)-1)=((i:Nat):Int):=q_o;have a6:IntKind.i64.wrap ((i:Int)-1)=(i:Int)-1:=IntWalk.i64_in _ q_o;rw[S];have hd:=R i q_o;rw[zby] at t;have H:x/18446744073709551616^i%18446744073709551616<18446744073709551616:=A7 _ q_e;have L:x%18446744073709551616^i<18446744073709551616^i:=A7 _ (AP q_e);generalize x/18446744073709551616^i%18446744073709551616=d at*;repeat' (first|refine s_t ?_|refine q_k 1 ?_;refine q_v zP ?_|refine q_k 3 ?_;refine zD ?_;refine q_x (zM (hv:=hd)) ?_)
 refine zE (γ:=Nat×Nat×Res) (λg=>[(0,.func (.yield l) #[] #[]),(1,.pointer (some ⟨G,0,none⟩)),(3,.int .i64 i),(4,nv g.1)])
  (λg=>[g.2.2,.blk G 133 (zf x)])
  (λg=>g.1<18446744073709551616/\g.2.1<=(zbl x).length/\left g.2.1 x=x%18446744073709551616^i+g.1*18446744073709551616^i/\J g.2.1 g.2.2)
  (λg=>g.1) (d,k,j) ⟨H,F,t,E⟩ ?_ ?_ ?_
 ·exact q_h
 ·exact q_h
 clear t E F hd H;rintro⟨r,k,j⟩ ⟨hr,F,t,E⟩;dsimp only at hr F t E ⊢;rcases AD r with h0|h0
 ·subst h0;rw[Nat.zero_mul,Nat.add_zero] at t;repeat' (first|refine s_0 ?_|refine q_k 4 ?_;refine zat ?_|refine q_k 2 ?_;refine q_x (zH (hr:=a6)) ?_)
  refine zy (i,k,j) ⟨by show i<=16;omega,F,t,E⟩ ?_ ?_ ?_
  ·show i<i+1;omega
  ·exact q_h
  ·exact q_h
 obtain⟨b2,V,W⟩:=zg8 r h0;have a8:=zaQ 2 r 64 q_e hr;have N:=zvh r i _ h0 L;rw[CW,<-t] at N;have K:=λw=>zjC r w hr;have O:0<left k x:=by
  have:18446744073709551616^i<=r*18446744073709551616^i:=BZ _ h0;have:0<18446744073709551616^i:=AP q_e;omega
 have I:=zq6 F O;have C:=(zf6 I).2;have B:=zft k x;rw[N] at C B;generalize nd 2 r=m at*;obtain⟨q,rfl⟩:∃q,m=q+1:=⟨m-1,by omega⟩;obtain⟨A,rfl⟩:∃A,r=2^q+A:=⟨r-2^q,by rw[B4] at V;omega⟩;have Z:A<2^q:=by rw[AJ] at W;omega
 have C:(zbl x)[k]=64*i+q:=by rw[C];omega
 have B:left (k+1) x=x%18446744073709551616^i+A*18446744073709551616^i:=by
  rw[B,t,show 64*i+(q+1)-1=64*i+q by omega,As,<-zqb,AM,A8 (2^q)];omega
 have a7:IntKind.i64.wrap (((q+1:Nat):Int)-1)=((q:Nat):Int):=q_w;have U:IntKind.i64.wrap (64*(i:Int))=((64*i:Nat):Int):=q_w;have Q:IntKind.i64.wrap (((64*i:Nat):Int)+(q:Int))=((64*i+q:Nat):Int):=q_w;have Y:decide (((2^q+A:Nat):Int)≠0)=true:=decide_eq_true (by
  have:0<2^q:=AP q_e;omega)
 have b3:0<2^q:=AP q_e;repeat' (first|refine s_t ?_|refine q_k 4 ?_;refine q_v (zaC (hr:=Y)) ?_|refine q_k 5 ?_;refine q_v (za (hc:=q_c K)) ?_;refine q_x (zH (hr:=a7)) ?_|refine q_k 6 ?_;refine q_x (zas (hr:=U)) ?_;refine q_v (zA (hr:=Q)) ?_;(refine q_s (zda hY I E (hL:=FH (by exact F1) rfl FP) (harg:=λw' X F a9=>⟨by rw[C],rfl⟩)) ?_;rintro _ _ ⟨y,j',rfl,rfl,hy⟩);refine zJ ?_)
 cases y with
 |false=>
  repeat' (first|refine s_0 ?_|fail)
  exact zk7 rfl q_h ⟨j',rfl,.inr ⟨k+1,by omega,hy⟩⟩
 |true=>
  repeat' (first|refine s_0 ?_|refine q_k 7 ?_;refine q_v (zo4 (n:=q) q_o) ?_;refine q_x (zrX (r:=A) (k:=q) q_o Z) ?_)
  refine zy (A,k+1,j') ⟨by show A<_;omega,by show k+1<=_;omega,B,hy⟩ ?_ ?_ ?_
  ·show A<2^q+A;omega
  ·exact q_h
  ·exact q_h
end Go.Proofs.YtdnlngbjpdbffaaGreatDoor
namespace Go.Nt
open Go Go.Sy
theorem zvn(A p:Nat):
  A*2^(p+1)/18446744073709551616^(p/64)%18446744073709551616<18446744073709551616/\
  2^(p%64)<18446744073709551616/\
  (A*2^(p+1)/18446744073709551616^(p/64)%18446744073709551616 ||| 2^(p%64))=A*2^(p+1)/18446744073709551616^(p/64)%18446744073709551616+2^(p%64)/\
  A*2^(p+1)/18446744073709551616^(p/64)%18446744073709551616+2^(p%64)<18446744073709551616/\
  A*2^(p+1)+2^(p%64)*18446744073709551616^(p/64)=(A*2+1)*2^p:=by
 have h:=zjI 1 64 A p 1 rfl q_e q_e;rw[show(2:Nat)^1=2 from rfl,Af,BN] at h;exact⟨h.1,h.2.2.1,h.2.2.2.1,h.2.2.2.2.1,h.2.2.2.2.2⟩
end Go.Nt
namespace Go.Proofs.YtdnlngbjpdbffaaGreatDoor
open Go Go.Sy Go.Nt Go.RowKit
attribute [local irreducible] Sy SyL SyX Sy.Fn callFunc zf
theorem zwm(x n:Nat)(w:World)(hx:x<18446744073709551616^16)(hn:n<9223372036854775808):
  q_G 240 [zm x,.int .i64 n] w (.tuple #[zm (x/2^n),.int .i64 0]):=by
 refine zo Tryz.func240 Tryz.ntmps240 ?_;have a8:=zd x;have r:0<2^n:=AP q_e;repeat' (first|refine s_0 ?_|refine zg 0 ?_;refine zi ?_;intro _;refine zi ?_;intro _;refine zV ?_;intro _|refine zg 1 ?_;refine zk ?_;refine zR ?_|refine zg 3 ?_;refine zi ?_;intro _|refine zg 4 ?_;refine zk ?_)
 rename_i b2 b3 b4 b6;refine q_s (zh (hc:=λK X J hh=>zoy x K)) ?_;rintro _ _ ⟨R,rfl,b,rfl,rfl⟩;repeat' (first|refine s_t ?_|fail)
 refine zf8 (γ:=Nat) (xs:=zbl x) (Arg:=ztK) zcM rfl (en rfl) rfl (λk s=>s*2^n+left k x=x) (λc k s=>c= .exit 0/\s=x/2^n)
  (λs=>[.blk b6 133 (zf s),.blk b3 3 [.int .i64 n]])
  [.blk b 133 (zf x)] [.blk b4 133 (List.replicate 16 (Value.int IntKind.u64 0)),.blk b2 133 (zf x)] 0 (by rw[show left 0 x=x from rfl,BJ,AR]) ?_ ?_ ?_ ?_ ?_ ?_
 ·rw[show zf 0=List.replicate 16 (Value.int IntKind.u64 0) from natC0.symm]
  ((try simp only[An,B3,AZ]);(repeat' (first|exact List.Perm.nil|exact CA _|apply zgH;with_reducible (focus ((repeat (first|exact F1|apply F3));done))|apply zgH;(focus ((repeat (first|exact F1|apply F3));done)))))
 ·exact λK Mi X J hm _ _=>zmR b x K Mi hx
 ·rintro O x vs RA K ⟨rfl,_⟩;rfl
 ·rintro lp k J s vs RA W rec a6 t ⟨rfl,rfl⟩ a7 q;clear q;obtain⟨H,I⟩:=zf6 J;obtain⟨a9,F,P⟩:=zg8 _ H;have M:=zqQ k x q_o;have E:=zft k x;have N:=zo2 k x q_o;have C:=zd s;generalize left k x=y at*;generalize nd 2 y=m at*;obtain⟨i,rfl⟩:∃i,m=i+1:=⟨m-1,by omega⟩;rw[B4] at I F E;have hi:i<1024:=zwP (BG F N) hx;rw[I];by_cases hb:i<n
  ·repeat' (first|refine s_t ?_|apply zbT;(focus ((repeat (first|exact F1|apply F3));done));assumption|refine q_k 5 ?_|refine q_k 6 ?_;refine zk ?_;refine zR ?_)
   refine zh2 s ⟨rfl,?_⟩ ?_
   ·have h1:y<2^n:=AG P (AA q_e hb);rw[<-t,A8,Cu r,Al h1,BI]
   ·exact q_h
  ·obtain⟨p,hp⟩:∃p,p=i-n:=⟨_,rfl⟩;have Q:s=x/2^(i+1)*2^(p+1):=by
    refine Nat.eq_of_mul_eq_mul_right r ?_;rw[Ao,<-As,show p+1+n=i+1 by omega,<-M];omega
   obtain⟨S,e2,T,U,V⟩:=zvn (x/2^(i+1)) p;have hd:=zbz s (p/64) q_o;have j:=zd5 s (p/64) (2^(p%64));have G:(x/2^(i+1)*2+1)*2^p=s+2^p:=by
    rw[Q];generalize x/2^(i+1)=A at*;rw[AM,AJ,BN];congr 1
    ac_rfl
   have L:(s+2^p)*2^n+left (k+1) x=x:=by
    rw[AM,<-As,show p+n=i by omega,E];omega
   rw[<-Q] at S T U V;rw[V,G] at j;have j:=j U;rw[<-T] at j;generalize s/18446744073709551616^(p/64)%18446744073709551616=d at*;have Y:IntKind.i64.wrap ((i:Int)-(n:Int))=((p:Nat):Int):=q_w;have q1:IntKind.i64.wrap ((p:Int).tdiv 64)=((p/64:Nat):Int):=zcV (k:=64) q_o;have q2:(p:Int).tmod 64=((p%64:Nat):Int):=zdL p 64;have Z:p/64<16:=q_o;repeat' (first|refine s_t ?_|apply zbT;(focus ((repeat (first|exact F1|apply F3));done));assumption|refine q_k 5 ?_|refine q_k 6 ?_;refine zk ?_;refine zR ?_|refine z5 (id:=7) 14 [[],[],[0,1],[0,1,2],[],[0,1,2,3,4],[0,1,2,3,4,5],[],[],[7,8],[7,8,9],[7,8,9,10],[0,1,2,3,4,5,6,7,8,9,10,11],[],[0,1,2,3,4,5,6,7,8,9,10,11,12,13],[0,1,2,3,4,5,6,7,8,9,10,11,12,13,14]] mixed ?_ ?_;kernel_rfl;refine zt ?_;refine zaT ?_;refine q_D (zH (hr:=Y)) ?_;refine q_D (zbb (hr:=q1)) ?_;refine q_D zO ?_;refine zT ?_;refine q_D (zM (hv:=hd)) ?_;refine zt ?_;refine zaT ?_;refine q_D (zH (hr:=Y)) ?_;refine q_D (zaN (hr:=q2)) ?_;refine q_D (zo4 (n:=p%64) (A7 _ q_e)) ?_;refine q_D (zil (a:=d) (b:=2^(p%64)) S e2) ?_;refine q_D zO ?_;refine zam ?_;refine zD ?_;refine zS ?_|fail)
   refine zfR (s+2^p) L ?_;rw[<-j];exact q_h
 ·intro s t;rw[zjK,BI] at t;have t:s=x/2^n:=by rw[<-t,CJ _ r]
  subst t;have C:=zd (x/2^n);generalize x/2^n=X at*;repeat' (first|refine s_0 ?_|refine zg 8 ?_;refine q_v (ze (B:=zf X)) ?_;refine q_y (zj (n:=X)) ?_)
  exact zad rfl (zz (B:=zf X) rfl (ty rfl) rfl F4 F0 (zd _).symm) (zr rfl) F2 ⟨rfl,rfl⟩
 ·rintro _ k s J ⟨rfl,rfl⟩;have C:=zd (x/2^n);generalize x/2^n=X at*;repeat' (first|refine s_0 ?_|refine zg 8 ?_;refine q_v (ze (B:=zf X)) ?_;refine q_y (zj (n:=X)) ?_)
  exact zad rfl (zz (B:=zf X) rfl (ty rfl) rfl F4 F0 (zd _).symm) (zr rfl) F2 ⟨rfl,rfl⟩
end Go.Proofs.YtdnlngbjpdbffaaGreatDoor
