/- Lemmas. -/
import Derived.Test.YtdnlngbjpdbffaaGreatDoorZJ12
import Derived.Test.YtdnlngbjpdbffaaGreatDoorZJ11
import Derived.Lib.AppendZerosOnto
set_option maxRecDepth 10000
set_option linter.all false
namespace Go.Sy
open Go
theorem ztM{N:Nat}{w0:World}{M:Nat->Prop}{ds:List Deferred}{L L1:List Res}{a:Option Addr}{E s n n' c:Nat}{xs:List Value}(hr:Rem L (.row (.slice a n c) E s n xs) L1)(hn:n'<=n):Conv N w0 M ds L (.row (.slice a n' c) E s n' (xs.take (n'*s))::L1):=by
 intro g U w X T;have q:=T.perm (hr.perm.append_right X);have B:w.ownsRow 0 E s (.slice a n c) n xs:=q.hold.all _ A3;have j:∀b,(Value.slice a n' c).ownBlock=some b->(Value.slice a n c).ownBlock=some b:=λb B=>by
  cases a with
  |none=>cases B
  |some a=>exact B
 refine⟨q.size,q.agr,q.keep,q.hold.tail.cons ?_ (λr I A m=>?_) (λA m=>q.hold.mine _ A3 A (j A m))⟩
 ·obtain⟨V,⟨G,H⟩|⟨J,cap,F,G,H,K,W,O,Q,R⟩⟩:=B
  ·subst H;obtain rfl:n'=0:=q_o;cases G;exact⟨by simp,.inl ⟨rfl,rfl⟩⟩
  ·cases G;have S:n'*s<=n*s:=AP s hn;exact⟨by rw[AS];omega,.inr ⟨J,c,F,rfl,H,K,by omega,O,Q,by rw[<-R,List.take_take,BP S]⟩⟩
 ·exact(Ah.1 q.hold.apart).1 r I A (j A m)
end Go.Sy
namespace Go.Nt
open Go Go.Sy
theorem zzs(d r:Nat)(k:IntKind)(h:r<64):Op.shift .shr .i64 (d:Int) k (r:Int)=pure (.int .i64 ((d/2^r:Nat):Int)):=by
 have j:¬((r:Int)<0):=q_o;have m:¬64<=r:=q_o;simp[Op.shift,j,m,IntKind.bits]
def iC(l:List Nat):List Value:=l.map iv
theorem zhO(l:List Nat):(iC l).length=l.length:=A0 _
theorem zoy{l:List Nat}{i d:Nat}(h:l[i]?=some d):(iC l)[i]?=some (iv d):=by unfold iC;rw[AW,h];rfl
theorem zzl(l:List Nat):(iC l).all (·.oneCell')=true:=zyN l
theorem zfB(x:Nat):zac x=iC (cd 65536 x):=rfl
theorem zgV(x:Nat):(zac x).length=nd 65536 x:=by rw[zfB,zhO,zi9]
theorem ziq(x i:Nat)(h:i<nd 65536 x):(zac x)[i]?=some (iv (x/65536^i%65536)):=by
 rw[zfB];exact zoy (by unfold cd;exact zfd _ _ _ _ h)
theorem zhQ{w:World}{a:Option Addr}{B:List Value}(h:SlA w a B)(j:0<B.length):∃b o,a=some ⟨b,o,none⟩/\w.rangeAt b o B:=by
 rcases h with h|h
 ·rw[h] at j;exact absurd j q_e
 ·exact h
theorem znF(n:Nat):65536^n=2^(16*n):=by rw[show(65536:Nat)=2^16 from rfl,<-BG]
end Go.Nt
namespace Go.Proofs.YtdnlngbjpdbffaaGreatDoor
open Go Go.Sy Go.Nt Go.RowKit
def zc7(x:Nat)(v:Value)(R:List Res):Prop:=∃a c,v= .slice a (nd 65536 x) c/\R= [.row (.slice a (nd 65536 x) c) 3 1 (nd 65536 x) (zac x)]
attribute [local irreducible] Sy SyL SyX Sy.Fn callFunc zg zac iC
theorem zcm(a:Option Addr)(c x i:Nat)(w:World)(B:SlA w a (zac x)):
  q_G 231 [.slice a (nd 65536 x) c,.int .i64 i] w (iv (x/65536^i%65536)):=by
 refine zt Tryz.func231 Tryz.ntmps231 ?_;have q:=zgV x;have j:=ziq x i;have m:=zaV 65536 x q_e;generalize nd 65536 x=n at*;by_cases h:i<n
 ·obtain⟨b,o,rfl,A⟩:=zhQ B q_o;have r:=A i _ (j h);generalize x/65536^i%65536=d at*;repeat' (first|refine s_0 ?_|refine q_k 0 ?_|refine q_k 1 ?_;refine zaf ?_;refine zb ?_;refine q_x zO ?_|refine q_k 3 ?_;refine zQ ?_;refine q_x (zo (hv:=r)) ?_)
  exact q_r
 ·have E:x/65536^i=0:=An (AK m (AB q_e q_o));rw[E];repeat' (first|refine s_0 ?_|refine zA [0,2] ?_;refine zb ?_|refine q_k 1 ?_;refine zaf ?_;refine zb ?_;refine q_x zO ?_)
  exact q_r
theorem zsP(a:Option Addr)(n c:Nat)(i:Int)(w:World)(j:i<0):
  q_G 231 [.slice a n c,.int .i64 i] w (iv 0):=by
 refine zt Tryz.func231 Tryz.ntmps231 ?_;repeat' (first|refine s_0 ?_|refine zA [0,2] ?_;refine zb ?_|refine q_k 1 ?_;refine zaf ?_;refine zb ?_)
 exact q_r
theorem zqU(a:Option Addr)(c x i:Nat)(w:World)(E:SlA w a (zac x))(A:i<9223372036854775808):
  q_G 274 [.slice a (nd 65536 x) c,.int .i64 i] w (iv (x/2^i%2)):=by
 refine zt Tryz.func274 Tryz.ntmps274 ?_;have q:=λm (B:Keep No w m)=>zcm a c x (i/16) m (E.to B (λ_ h=> .inr h)).sla;have j:=zkz 2 16 x (i/16) (i%16) (AC _ q_e);rw[show 16*(i/16)+i%16=i by omega,show(2:Nat)^16=65536 from rfl] at j;have r:x/65536^(i/16)%65536<65536:=AC _ q_e;generalize x/65536^(i/16)%65536=d at*;have F:IntKind.i64.wrap ((i:Int).tdiv 16)=((i/16:Nat):Int):=zdw (k:=16) A;have G:(i:Int).tmod 16=((i%16:Nat):Int):=zex i 16;have H:=zzs d (i%16) .i64 q_o;have I:((d/2^(i%16):Nat):Int).tmod 2=((x/2^i%2:Nat):Int):=by rw[<-j];exact zex _ 2
 repeat' (first|refine s_0 ?_|refine q_k 0 ?_|refine q_k 1 ?_;refine zaf ?_|refine q_k 3 ?_;refine q_v (zbz (hr:=F)) ?_;refine q_v (za (hc:=zr q)) ?_;refine zb ?_;refine q_v (zbI (hr:=G)) ?_;refine q_v (zcl (hr:=H)) ?_;refine q_x (zbI (hr:=I)) ?_)
 exact q_r
theorem zlz(a:Option Addr)(c x:Nat)(w:World)(R:SlA w a (zac x))(hx:nd 65536 x<1000000000):
  q_G 221 [.slice a (nd 65536 x) c] w (.int .i64 ((nd 2 x:Nat):Int)):=by
 refine zt Tryz.func221 Tryz.ntmps221 ?_;have r:=λi F (G:Keep No w F) (I:i<9223372036854775808)=>zqU a c x i F (R.to G (λ_ h=> .inr h)).sla I;have B:=zaV 65536 x q_e;rw[znF] at B;generalize nd 65536 x=n at*;have O:IntKind.i64.wrap (16*(n:Int))=((16*n:Nat):Int):=q_w;repeat' (first|refine s_t ?_|refine q_k 0 ?_|refine q_k 1 ?_;refine q_x (zaM (hr:=O)) ?_)
 refine zL (γ:=Nat) (λi=>[(0,.slice a n c),(3,.int .i64 i)]) (λ_=>[]) (λi=>i<=16*n/\x<2^i) (λi=>i) (16*n) ⟨A7 _,B⟩ ?_ ?_ ?_
 ·exact q_h
 ·exact q_h
 rintro i ⟨I,m⟩;rcases AE i with h0|h0
 ·subst h0;have:nd 2 x=0:=zcD 2 x 0 q_e m (λh=>absurd h q_e);rw[this];repeat' (first|refine s_0 ?_|refine q_k 2 ?_;refine q_x zH ?_|refine q_k 4 ?_)
  exact q_r
 have j:IntKind.i64.wrap ((i:Int)-1)=((i-1:Nat):Int):=q_w;have r:=λF G=>r (i-1) F G q_o;have A:=Ad x (2^(i-1));have Q:=AC x (show 0<2^(i-1) from AU q_e);have H:2^i=2^(i-1)*2:=by rw[<-AN,show(i-1).succ=i by omega]
 have J:x/2^(i-1)<2:=by
  rw[AZ (AU q_e),AM,<-H];exact m
 by_cases E:x/2^(i-1)=0
 ·rw[E] at r;repeat' (first|refine s_t ?_|refine q_k 2 ?_;refine q_x zH ?_;refine q_v (zK (hr:=j)) ?_;refine q_v (za (hc:=zr r)) ?_;refine zaH ?_;refine zb ?_|refine q_k 3 ?_;refine q_x (zK (hr:=j)) ?_)
  refine zC (i-1) ⟨by omega,?_⟩ ?_ ?_ ?_
  ·rw[E,D8,Aa] at A;omega
  ·show i-1<i;omega
  ·exact q_h
  ·exact q_h
 ·have K:x/2^(i-1)=1:=by
   revert J E
   generalize x/2^(i-1)=q;intro J E;omega
  rw[K] at r A;have:nd 2 x=i:=zcD 2 x i q_e m (λ_=>by omega);rw[this];repeat' (first|refine s_0 ?_|refine q_k 2 ?_;refine q_x zH ?_;refine q_v (zK (hr:=j)) ?_;refine q_v (za (hc:=zr r)) ?_;refine zaH ?_;refine zb ?_|refine q_k 4 ?_)
  exact q_r
end Go.Proofs.YtdnlngbjpdbffaaGreatDoor
namespace Go.Nt
open Go Go.Sy
variable {N:Nat}{w0:World}{M:Nat->Prop}{ds:List Deferred}{L L1:List Res}
theorem zuN{l:List Nat}(m:∀d∈l,d<65536):nd 65536 (vl 65536 l)<=l.length/\(iC l).take (nd 65536 (vl 65536 l)*1)=zac (vl 65536 l):=by
 have j:=zbj 65536 (vl 65536 l) l.length q_e (zfo 65536 l m);refine⟨j,?_⟩;rw[Al,zfB];unfold iC cd;rw[<-C0];congr 1;have q:=zhl 65536 l m;rw[<-zxG 65536 l.length (nd 65536 (vl 65536 l)) (vl 65536 l) j,q]
theorem zfE{a:Option Addr}{E k c:Nat}{l:List Nat}(hr:Rem L (.row (.slice a k c) E 1 k (iC l)) L1)(hk:l.length=k)(m:∀d∈l,d<65536):
  Conv N w0 M ds L (.row (.slice a (nd 65536 (vl 65536 l)) c) E 1 (nd 65536 (vl 65536 l)) (zac (vl 65536 l))::L1):=by
 obtain⟨q,j⟩:=zuN m;have:=ztM (N:=N) (w0:=w0) (M:=M) (ds:=ds) (n':=nd 65536 (vl 65536 l)) hr q_o;rw[j] at this;exact this
theorem zk1:iC []= []:=rfl
theorem zfF(l:List Nat)(d:Nat):iC l++[iv d]=iC (l++[d]):=by unfold iC;rw[Ar];rfl
theorem zat{j:Nat}{w:World}{M:Nat->Prop}{E n m c:Nat}{a:Option Addr}{xs:List Value}{L:List Res}(hh:Holds j M L w)(hL:Has L (.row (.slice a m c) E 1 n xs)):SlA w a xs:=(Fc (Mi:=No) hh hL (λ_ h=>h.elim)).sla
end Go.Nt
namespace Go.Proofs.YtdnlngbjpdbffaaGreatDoor
open Go Go.Sy Go.Nt Go.RowKit
attribute [local irreducible] Sy SyL SyX Sy.Fn callFunc zg zac iC
theorem zeO(a:Option Addr)(k c:Nat)(l:List Nat)(w:World)(hk:l.length=k)(H:k<=c)(G:∀d∈l,d<65536)(I:SlA w a (iC l))(hb:k<1000000000):
  q_G 230 [.slice a k c] w (.slice a (nd 65536 (vl 65536 l)) c):=by
 refine zt Tryz.func230 Tryz.ntmps230 ?_;repeat' (first|refine s_t ?_|refine zA [0,1] ?_;refine zb ?_)
 refine zL (γ:=Nat) (λn=>[(0,.slice a k c),(3,.int .i64 n)]) (λ_=>[]) (λn=>n<=k/\∀p,n<=p->p<k->l[p]?=some 0) (λn=>n) k ⟨A7 _,λp m q=>absurd q q_o⟩ ?_ ?_ ?_
 ·exact q_h
 ·exact q_h
 rintro n ⟨J,E⟩;rcases AE n with h0|h0
 ·subst h0;have A:=(zpj 65536 q_e l 0 G q_o (λp m q=>E p m q_o) (.inl rfl)).1;rw[A];repeat' (first|refine s_0 ?_|refine q_k 2 ?_;refine q_x zH ?_|refine q_k 4 ?_;refine q_x (zce (l:=0) (h:=0) (n':=0) (c':=c)) ?_)
  exact q_r
 have j:IntKind.i64.wrap ((n:Int)-1)=((n-1:Nat):Int):=q_w;obtain⟨b,o,rfl,hr⟩:=zhQ I (by rw[zhO];omega);obtain⟨d,r⟩:∃d,l[n-1]?=some d:=⟨l[n-1]'q_o,A2 _⟩;have F:=hr (n-1) _ (zoy r);by_cases hd0:d=0
 ·subst hd0;repeat' (first|refine s_t ?_|refine q_k 2 ?_;refine q_x zH ?_;refine q_v (zK (hr:=j)) ?_;refine zQ ?_;refine q_v (zo (hv:=F)) ?_;refine zaH ?_;refine zb ?_|refine q_k 3 ?_;refine q_x (zK (hr:=j)) ?_)
  refine zC (n-1) ⟨by omega,λp m q=>?_⟩ ?_ ?_ ?_
  ·rcases AG p n with h|h
   ·obtain rfl:p=n-1:=q_o;exact r
   ·exact E p h q
  ·show n-1<n;omega
  ·exact q_h
  ·exact q_h
 ·have A:=(zpj 65536 q_e l n G q_o (λp m q=>E p m q_o) (.inr ⟨d,r,hd0⟩)).1;rw[A];have B:decide (((d:Nat):Int)=0)=false:=q_f;repeat' (first|refine s_0 ?_|refine q_k 2 ?_;refine q_x zH ?_;refine q_v (zK (hr:=j)) ?_;refine zQ ?_;refine q_v (zo (hv:=F)) ?_;refine q_x (zS (hr:=B)) ?_|refine q_k 4 ?_;refine q_x (zce (l:=0) (h:=n) (n':=n) (c':=c)) ?_)
  exact q_r
theorem zlr(v:Nat)(w:World)(hv:v<9223372036854775808):
  Sy.Fn Tryz.prog 159 [.int .i64 v] w No (zc7 v):=by
 refine zt Tryz.func159 Tryz.ntmps159 ?_;have G:=zbj 65536 v 4 q_e q_o;have H:=zcD 65536 v;repeat' (first|refine s_t ?_|refine zA [0,1] ?_;refine zb ?_)
 refine zbg (zaT 3 1) ?_;refine zL (γ:=Nat×Option Addr×Nat) (λg=>[(0,.int .i64 ((v/65536^g.1:Nat):Int)),(3,.slice g.2.1 g.1 g.2.2)]) (λg=>[.row (.slice g.2.1 g.1 g.2.2) 3 1 g.1 (iC (dg 65536 g.1 v))])
  (λg=>g.1<=nd 65536 v) (λg=>nd 65536 v-g.1) (0,none,0) (AA _) ?_ ?_ ?_
 ·(repeat' (first|exact GZ|refine Fb rfl ?_ ?_|rfl))
  rw[Ao,CH]
 ·show SubR [.row (.slice none 0 0) 3 1 0 (iC [])] _;rw[zk1];exact q_h
 rintro⟨i,a,c⟩ F;dsimp only at F ⊢;by_cases hlt:i<nd 65536 v
 ·have r:0<v/65536^i:=by
   have E:=(zdU 65536 q_e v).2 q_o;exact DK (BE (AB q_e q_o) E) (AU q_e)
  have q:=Bz v (65536^i);have hys:iC (dg 65536 i v)++[iv (v/65536^i%65536)]=iC (dg 65536 (i+1) v):=by
   rw[zfF,zi7];simp only[dg]
  have j:v/65536^i/65536=v/65536^(i+1):=by rw[Aq,<-AN]
  generalize v/65536^i=y at*;have O:(y:Int).tmod 65536=((y%65536:Nat):Int):=zex y 65536;have K:IntKind.i64.wrap ((y:Int).tdiv 65536)=((y/65536:Nat):Int):=zdw (k:=65536) q_o;generalize I:y%65536=d at*;repeat' (first|refine s_t ?_|refine q_k 2 ?_;refine q_v zH ?_|refine q_k 3 ?_;refine q_v (zbI (hr:=O)) ?_;(refine q_s zz ?_;rintro _ _ ⟨_,rfl,rfl⟩);(refine q_s (zaz (k:=i) (m:=1) (hn:=rfl) (hkm:=rfl) (hys:=hys)) ?_;rintro _ _ ⟨rfl,A,B,rfl⟩);refine zb ?_|refine q_k 4 ?_;refine q_x (zbz (hr:=K)) ?_)
  refine zC (i+1,A,B) (by show i+1<=_;omega) ?_ ?_ ?_
  ·show nd 65536 v-(i+1)<nd 65536 v-i;omega
  ·rw[j];exact q_h
  ·exact q_h
 ·obtain rfl:i=nd 65536 v:=q_o;have J:v/65536^nd 65536 v=0:=An (zaV 65536 v q_e);rw[J,show iC (dg 65536 (nd 65536 v) v)=zac v from (zfB v).symm];repeat' (first|refine s_0 ?_|refine q_k 2 ?_;refine q_v zH ?_|refine q_k 5 ?_)
  exact q_r
theorem zxC(a:Option Addr)(len c:Nat)(A:List UInt8)(w:World)(hl:A.length=len)(hb:SlA w a (A.map v8))(hx:len<100000000):
  Sy.Fn Tryz.prog 155 [.slice a len c] w No (zc7 (bev 256 (bn A))):=by
 refine zt Tryz.func155 Tryz.ntmps155 ?_;have a7:(bn A).length=len:=by unfold bn;rw[A0,hl]
 have Z:IntKind.i64.wrap ((len:Int)-1)=(len:Int)-1:=IntWalk.i64_in _ q_o;repeat' (first|refine s_t ?_|refine zA [0,1] ?_;refine zb ?_|refine q_k 2 ?_;refine q_x (zK (hr:=Z)) ?_)
 refine zbg (zaT 3 1) ?_;refine zL (γ:=List Nat×Option Addr×Nat) (λg=>[(0,.slice a len c),(3,.slice g.2.1 g.1.length g.2.2),(4,.int .i64 ((len:Int)-1-2*(g.1.length:Int)))])
  (λg=>[.row (.slice g.2.1 g.1.length g.2.2) 3 1 g.1.length (iC g.1)])
  (λg=>2*g.1.length<=len+1/\(∀d∈g.1,d<65536)/\vl 65536 g.1=bev 256 ((bn A).drop (len-2*g.1.length))) (λg=>len+1-2*g.1.length) ([],none,0)
  ⟨by show 2*0<=_;omega,(λd hd=>by cases hd),by show 0=bev 256 ((bn A).drop (len-2*0));rw[Ba q_o];rfl⟩ ?_ ?_ ?_
 ·(repeat' (first|exact GZ|refine Fb rfl ?_ ?_|rfl))
  show Value.int .i64 ((len:Int)-1)= .int .i64 ((len:Int)-1-2*((0:Nat):Int));congr 1;omega
 ·show SubR [.row (.slice none 0 0) 3 1 0 (iC [])] _;rw[zk1];exact q_h
 rintro⟨l,a1,c1⟩ ⟨hq,j,hv⟩;dsimp only at hq j hv ⊢;obtain⟨q,E⟩:∃q,q=l.length:=⟨_,rfl⟩;rw[<-E] at hq hv ⊢;by_cases hlt:2*q+1<=len
 ·obtain⟨b,o,rfl,hr⟩:=zhQ hb (by rw[A0];omega);obtain⟨i,hi⟩:∃i,i=len-1-2*q:=⟨_,rfl⟩;have V:((len:Int)-1-2*(q:Int))=((i:Nat):Int):=q_o;have J:IntKind.i64.wrap ((i:Int)-2)=(i:Int)-2:=IntWalk.i64_in _ q_o;have K:(i:Int)-2=(len:Int)-1-2*((q+1:Nat):Int):=q_o;obtain⟨u,hu⟩:∃u,A[i]?=some u:=⟨A[i]'q_o,A2 _⟩;have G:w.cell? ⟨b,o+i,none⟩=some (v8 u):=hr i (v8 u) (by rw[AW,hu];rfl);have O:(bn A)[i]?=some u.toNat:=by unfold bn;rw[AW,hu];rfl
  have a8:=u.toNat_lt;have H:IntKind.i64.wrap (Wd.n8 u)=((u.toNat:Nat):Int):=IntWalk.i64_in _ (by have:=Wd.n8_lt u;have:=Wd.n8_nonneg u;omega);rw[V];by_cases h0:i=0
  ·have hstep:=ztL (bn A) u.toNat l (by rw[<-h0];exact O) q_o (by rw[hv];congr 2;omega);have B:decide ((0:Int)<(i:Int))=false:=q_f;repeat' (first|refine s_t ?_|refine q_k 3 ?_;refine q_v zO ?_|refine q_k 5 ?_;refine zQ ?_;refine q_v (zo (hv:=G)) ?_;refine q_x (zam (hr:=H)) ?_|refine q_k 6 ?_;refine q_v (zH (hr:=B)) ?_|refine q_k 8 ?_;(refine q_s zz ?_;rintro _ _ ⟨_,rfl,rfl⟩);(refine q_s (zaz (k:=q) (m:=1) (hn:=rfl) (hkm:=rfl) (hys:=zfF l u.toNat)) ?_;rintro _ _ ⟨rfl,R,S,rfl⟩);refine zb ?_|refine q_k 4 ?_;refine q_x (zK (hr:=J)) ?_)
   have r:(l++[u.toNat]).length=q+1:=by rw[A4,<-E];rfl
   refine zC (l++[u.toNat],R,S) ⟨by dsimp only;omega,zil j q_o,?_⟩ ?_ ?_ ?_
   ·dsimp only;rw[hstep,r,show len-2*(q+1)=0 by omega];rfl
   ·dsimp only;omega
   ·dsimp only;rw[r,<-K];exact q_h
   ·dsimp only;rw[r];exact q_h
  ·obtain⟨v,Q⟩:∃v,A[i-1]?=some v:=⟨A[i-1]'q_o,A2 _⟩;have I:w.cell? ⟨b,o+(i-1),none⟩=some (v8 v):=hr (i-1) (v8 v) (by rw[AW,Q];rfl);have a6:(bn A)[i-1]?=some v.toNat:=by unfold bn;rw[AW,Q];rfl
   have a9:=v.toNat_lt;have T:IntKind.i64.wrap (Wd.n8 v)=((v.toNat:Nat):Int):=IntWalk.i64_in _ (by have:=Wd.n8_lt v;have:=Wd.n8_nonneg v;omega);have W:IntKind.i64.wrap ((i:Int)-1)=((i-1:Nat):Int):=q_w;have X:IntKind.i64.wrap (256*((v.toNat:Nat):Int))=((256*v.toNat:Nat):Int):=q_w;have Y:IntKind.i64.wrap (((u.toNat:Nat):Int)+((256*v.toNat:Nat):Int))=((u.toNat+256*v.toNat:Nat):Int):=q_w;have hstep:=zsv (bn A) (i-1) u.toNat v.toNat l (by rw[show i-1+1=i by omega];exact O) a6 q_o (by rw[hv];congr 2;omega);have B:decide ((0:Int)<(i:Int))=true:=q_d;repeat' (first|refine s_t ?_|refine q_k 3 ?_;refine q_v zO ?_|refine q_k 5 ?_;refine zQ ?_;refine q_v (zo (hv:=G)) ?_;refine q_x (zam (hr:=H)) ?_|refine q_k 6 ?_;refine q_v (zH (hr:=B)) ?_|refine q_k 7 ?_;refine q_v (zK (hr:=W)) ?_;refine zQ ?_;refine q_v (zo (hv:=I)) ?_;refine q_v (zam (hr:=T)) ?_;refine q_v (zaM (hr:=X)) ?_;refine q_x (zD (hr:=Y)) ?_|refine q_k 8 ?_;(refine q_s zz ?_;rintro _ _ ⟨_,rfl,rfl⟩);(refine q_s (zaz (k:=q) (m:=1) (hn:=rfl) (hkm:=rfl) (hys:=zfF l (u.toNat+256*v.toNat))) ?_;rintro _ _ ⟨rfl,R,S,rfl⟩);refine zb ?_|refine q_k 4 ?_;refine q_x (zK (hr:=J)) ?_)
   have r:(l++[u.toNat+256*v.toNat]).length=q+1:=by rw[A4,<-E];rfl
   refine zC (l++[u.toNat+256*v.toNat],R,S) ⟨by dsimp only;omega,zil j q_o,?_⟩ ?_ ?_ ?_
   ·dsimp only;rw[hstep,r];congr 2;omega
   ·dsimp only;omega
   ·dsimp only;rw[r,<-K];exact q_h
   ·dsimp only;rw[r];exact q_h
 ·have B:decide ((0:Int)<=(len:Int)-1-2*(q:Int))=false:=q_f;rw[show len-2*q=0 by omega,BL] at hv;rw[<-hv];refine zfJ (λw' U=>(FF U F5:q<=c1)) λF=>?_;repeat' (first|refine s_0 ?_|refine q_k 3 ?_;refine q_v (zO (hr:=B)) ?_|refine q_k 9 ?_;refine q_v (za (hc:=λw' _ _ U=>zeO a1 q c1 l w' E.symm F j (zat U (by exact F1 F5)) q_o)) ?_;refine zb ?_)
  refine zcp (zfE Eu E.symm j) ?_;exact q_r
theorem zs8(a:Option Addr)(c x:Nat)(w:World)(W:SlA w a (zac x))(hx:nd 65536 x<100000000):
  Sy.Fn Tryz.prog 223 [.slice a (nd 65536 x) c] w No (λv R=>∃a1 I,v= .slice a1 (nd 256 x) I/\R= [.row (.slice a1 (nd 256 x) I) 5 1 (nd 256 x) ((byt x).map v8)]):=by
 refine zt Tryz.func223 Tryz.ntmps223 ?_;have A:=λr (G:Keep No w r)=>zlz a c x r (W.to G (λ_ h=> .inr h)).sla q_o;have B:=λi r (G:Keep No w r)=>zcm a c x i r (W.to G (λ_ h=> .inr h)).sla;have H:=znS 8 x q_e;rw[show(2:Nat)^8=256 from rfl] at H;have hm:nd 2 x<=16*nd 65536 x:=zbj 2 x _ q_e (by rw[<-znF];exact zaV 65536 x q_e);have j:=zhR x;have J:=ztD 256 x;generalize nd 65536 x=k at*;have T:IntKind.i64.wrap (((nd 2 x:Nat):Int)+7)=((nd 2 x+7:Nat):Int):=q_w;have hq:IntKind.i64.wrap ((((nd 2 x+7:Nat):Int)).tdiv 8)=((nd 256 x:Nat):Int):=by rw[H];exact zdw (k:=8) q_o
 have a7:nd 256 x<=400000000:=q_o;generalize nd 256 x=n,nd 2 x=m at*;obtain⟨l,V⟩:∃l,l=byt x:=⟨_,rfl⟩;have O:∀i,i<n->l[i]?=some (UInt8.ofNat (x/256^(n-1-i)%256)):=λi hi=>by
  rw[V];unfold byt;rw[AW,J i hi];rfl
 rw[<-V] at j ⊢;repeat' (first|refine s_t ?_|refine zA [0,2] ?_;refine zb ?_|refine q_k 1 ?_;refine q_v (za (hc:=zr A)) ?_;refine q_v (zD (hr:=T)) ?_;refine q_x (zbz (hr:=hq)) ?_|refine q_k 3 ?_;refine q_x zK ?_)
 refine zbg (zaT 5 1) ?_;refine zL (γ:=Nat×Option Addr×Nat) (λg=>[(0,.slice a k c),(4,.slice g.2.1 g.1 g.2.2),(5,.int .i64 ((n:Int)-1-(g.1:Int)))]) (λg=>[.row (.slice g.2.1 g.1 g.2.2) 5 1 g.1 ((l.take g.1).map v8)])
  (λg=>g.1<=n) (λg=>n-g.1) (0,none,0) (AA _) ?_ ?_ ?_
 ·(repeat' (first|exact GZ|refine Fb rfl ?_ ?_|rfl))
  show Value.int .i64 ((n:Int)-1)= .int .i64 ((n:Int)-1-((0:Nat):Int));congr 1;omega
 ·exact q_h
 rintro⟨q,a1,I⟩ U;dsimp only at U ⊢;by_cases hlt:q<n
 ·obtain⟨p,hp⟩:∃p,p=n-1-q:=⟨_,rfl⟩;have Q:(n:Int)-1-(q:Int)=((p:Nat):Int):=q_o;have S:IntKind.i64.wrap ((p:Int)-1)=(n:Int)-1-((q+1:Nat):Int):=q_w;have hu:=O q hlt;rw[<-hp] at hu;have K:=λr G=>B (p/2) r G;have E:=zkz 256 2 x (p/2) (p%2) (AC _ q_e);rw[show 2*(p/2)+p%2=p by omega,show(256:Nat)^2=65536 from rfl,show(256:Nat)^(p%2)=2^(8*(p%2)) by rw[show(256:Nat)=2^8 from rfl,<-BG]] at E;have Z:x/65536^(p/2)%65536<65536:=AC _ q_e;generalize x/65536^(p/2)%65536=d at*;have q1:IntKind.i64.wrap ((p:Int).tdiv 2)=((p/2:Nat):Int):=zdw (k:=2) q_o;have q2:(p:Int).tmod 2=((p%2:Nat):Int):=zex p 2;have q3:IntKind.i64.wrap (8*((p%2:Nat):Int))=((8*(p%2):Nat):Int):=q_w;have q4:=zzs d (8*(p%2)) .i64 q_o;have q5:((d/2^(8*(p%2)):Nat):Int).tmod 256=((x/256^p%256:Nat):Int):=by rw[<-E];exact zex _ 256
  have a6:x/256^p%256<256:=AC _ q_e;generalize x/256^p%256=e at*;have q6:IntKind.u8.wrap ((e:Nat):Int)=Wd.n8 (UInt8.ofNat e):=by rw[Wd.wrap_u8_nat,Wd.n8_of_nat]
  generalize UInt8.ofNat e=u at*;have hys:(l.take q).map v8++[v8 u]=(l.take (q+1)).map v8:=by
   rw[CE,hu,Ar];rfl
  rw[Q];repeat' (first|refine s_t ?_|refine q_k 4 ?_;refine q_v zO ?_|refine q_k 6 ?_;refine q_v (zbz (hr:=q1)) ?_;refine q_v (za (hc:=zr K)) ?_;refine zb ?_;refine q_v (zbI (hr:=q2)) ?_;refine q_v (zaM (hr:=q3)) ?_;refine q_v (zcl (hr:=q4)) ?_;refine q_v (zbI (hr:=q5)) ?_;refine q_v (zam (hr:=q6)) ?_;(refine q_s zz ?_;rintro _ _ ⟨_,rfl,rfl⟩);(refine q_s (zaz (k:=q) (m:=1) (hn:=rfl) (hkm:=rfl) (hys:=hys)) ?_;rintro _ _ ⟨rfl,X,Y,rfl⟩);refine zb ?_|refine q_k 5 ?_;refine q_x (zK (hr:=S)) ?_)
  refine zC (q+1,X,Y) (by show q+1<=n;omega) ?_ ?_ ?_
  ·show n-(q+1)<n-q;omega
  ·exact q_h
  ·exact q_h
 obtain rfl:q=n:=q_o;have F:decide ((0:Int)<=(q:Int)-1-(q:Int))=false:=q_f;rw[<-j,C3];rw[<-j] at F;repeat' (first|refine s_0 ?_|refine q_k 4 ?_;refine q_v (zO (hr:=F)) ?_|refine q_k 7 ?_)
 exact q_r
end Go.Proofs.YtdnlngbjpdbffaaGreatDoor
namespace Go.Sy
open Go
theorem ziN(z0:Value)(n:Nat):(Builtin.zeroCells #[z0] n).toList=List.replicate n z0:=by
 unfold Builtin.zeroCells;apply Ca;intro i;simp[CM];by_cases h:i<n
 ·simp[h,C5]
 ·simp[h]
variable {P:Program}
theorem zkC(w:World){t tn ty e bytes:Nat}{i:TypeInfo}{zv z0:Value}{kq kn:IntKind}(Q:P.underlying t=some (.slice e))(E:P.underlying tn=some (.int kn))(R:P.info? e=some i)(hz:i.zero=some zv)(G:i.size=1)(Y:i.bytes=bytes)(K:zv.cells= #[z0])(hone:z0.oneCell'=true)
  {v:Value}{k m:Nat}{xs:List Value}(q:w.ownsRow 0 e 1 v k xs)(b1:k+m<=maxLen)(b2:(k+m)*bytes<=140737488355328):
  ∃v' w',(Builtin.append_ #[t,tn] ty #[v,.int kq (m:Int)]).run P w= .ok v' w'/\w'.ownsRow 0 e 1 v' (k+m) (xs++List.replicate m z0)/\w.grownBy w' v.ownBlock/\∀b,v'.ownBlock=some b->v.ownBlock=some b\/w.heap.size<=b:=by
 subst Y
 have U:k+m<=9223372036854775807:=by simp only[maxLen] at b1;omega
 have A:(xs++List.replicate m z0).length=(k+m)*1:=by rw[A4,q.1,AL];omega
 have S:m*i.bytes<=281474976710656:=by have:m*i.bytes<=(k+m)*i.bytes:=AP _ q_o;omega
 have hw:IntKind.i64.wrap (m:Int)=m:=by rw[IntKind.wrap_i64];omega
 have T:¬((m:Int)<0):=q_o;have O:¬(281474976710656<(m:Int)*(i.bytes:Int)):=by rw[<-Bg];omega
 have grown:∀(old:Nat),old<k+m->∀(row:Option Nat),
   (w.drew.alloc (.cells (xs.toArray++Builtin.zeroCells zv.cells m++Builtin.zeroCells zv.cells (grownCap w (k+m) old e-(k+m))) e)).ownsRow 0 e 1
    (.slice (some ⟨w.heap.size,0,none⟩) (k+m) (grownCap w (k+m) old e)) (k+m) (xs++List.replicate m z0)/\
   w.grownBy (w.drew.alloc (.cells (xs.toArray++Builtin.zeroCells zv.cells m++Builtin.zeroCells zv.cells (grownCap w (k+m) old e-(k+m))) e)) row:=by
  intro old ho row;have a6:=grownCap_ge w (k+m) old e;have I:grownCap w (k+m) old e<=maxLen:=grownCap_le_maxLen w (k+m) old e b1;refine⟨⟨A,.inr ⟨w.heap.size,_,_,rfl,AA _,heap_alloc_new w.drew _,a6,I,?_,?_⟩⟩,⟨rfl,rfl,rfl,by simp,λj hj _=>heap_alloc_old w.drew _ hj⟩⟩
  ·simp only[Array.size_append,DR,size_zeroCells,K,q.1];simp;omega
  ·simp only[Array.toList_append,K,ziN];rw[<-A];exact Cv
 rcases q.2 with ⟨rfl,rfl⟩|⟨g,cap,r,rfl,X,hg,a7,I,Z,J⟩
 ·have hx:xs= []:=Dg (by simpa using q.1);subst hx;by_cases hm:m=0
  ·subst hm;refine⟨.slice none 0 0,w,?_,World.ownsRow_nil w 0 e 1,⟨rfl,rfl,rfl,A7 _,λ_ _ _=>rfl⟩,λb H=> .inl H⟩;simp[Builtin.append_,run_underlying Q,run_underlying E,sizeOf,typeInfo,R,asInt,asIntOf,IntKind.wrap_i64]
  ·have hr:=Lib.run_append_grow_zeros (P:=P) w t tn ty e i zv kq kn Q E R hz none 0 0 [] (by simp[Builtin.firstCells]) m q_o q_o q_o q_o S (growslice_fits q_o b2);obtain⟨V,W⟩:=grown 0 q_o (Value.ownBlock (.slice none 0 0));exact⟨_,_,hr,V,W,λb H=> .inr (by simp[Value.ownBlock] at H;omega)⟩
 ·by_cases hroom:k+m<=cap
  ·have b0:k+m<=r.size:=by rw[Z];omega
   have F:=run_storeCells_at P g (k*1) e (List.replicate m z0) 0 r w hg (by simp;omega) (by intro u hu;rw[List.eq_of_mem_replicate hu];exact hone);simp only[BZ] at F;refine⟨.slice (some ⟨g,0,none⟩) (k+m) cap,w.setRow g (r.toList.take (k*1)++List.replicate m z0++r.toList.drop (k*1+(List.replicate m z0).length)).toArray,?_,⟨A,.inr ⟨g,cap,_,rfl,X,setRow_heap w g r _ e _ hg,hroom,I,?_,?_⟩⟩,⟨rfl,rfl,rfl,by simp,λj _ hj=>setRow_other w g j _ (λe=>hj (by simp[Value.ownBlock,e]))⟩,λb H=> .inl H⟩
   ·by_cases hm:m=0
    ·subst hm;simp only[Cf,AJ,Cj,BZ,Bc] at F ⊢;simp[Builtin.append_,run_underlying Q,run_underlying E,sizeOf,typeInfo,R,asInt,asIntOf,IntKind.wrap_i64,a7,G,Addr.add_lit];have B:Sem.run P (storeCells { block:=g,off:=k } []) w=Result.ok () (w.setRow g r):=by simpa using F
     rw[B];rfl
    ·have a9:(Builtin.zeroCells zv.cells m).toList=List.replicate m z0:=by rw[K,ziN]
     have a8:¬(m*i.size=0):=by rw[G];omega
     simp[Builtin.append_,run_underlying Q,run_underlying E,sizeOf,typeInfo,zeroValue,R,hz,asInt,asIntOf,hw,T,O,hroom,a8,Addr.add_lit,a9,G,hm];have B:Sem.run P (storeCells { block:=g,off:=k } (List.replicate m z0)) w=Result.ok () (w.setRow g (List.take k r.toList++(List.replicate m z0++List.drop (k+m) r.toList)).toArray):=by simpa using F
     rw[B];rfl
   ·simp only[DR,A4,AS,As,AL,Array.length_toList];omega
   ·rw[J,<-A];exact Cv
  ·have holds:∀j u,xs[j]?=some u->w.cell? ((⟨g,0,none⟩:Addr).add j)=some u:=q.cells (g:=g) rfl;have hf:=run_firstCells_some (P:=P) w.drew i.size k ⟨g,0,none⟩ k cap xs (by rw[G];exact q.1) holds;have hr:=Lib.run_append_grow_zeros (P:=P) w t tn ty e i zv kq kn Q E R hz (some ⟨g,0,none⟩) k cap xs hf m q_o q_o q_o q_o S (growslice_fits q_o b2);obtain⟨V,W⟩:=grown cap q_o (Value.ownBlock (.slice (some ⟨g,0,none⟩) k cap));exact⟨_,_,hr,V,W,λb H=> .inr (by simp[Value.ownBlock] at H;omega)⟩
variable {ro:Option Nat}{N:Nat}{w0:World}{M:Nat->Prop}{ds:List Deferred}{g:Nat->Option Value}{L:List Res}{o:Oper}{t tn:TypeId}{y ye:Ty}
theorem zla{k m e:Nat}{v z0:Value}{kq kn:IntKind}{xs:List Value}{L1:List Res}{xo so:Operand}{l:Int}(hm:l=(m:Int))(hL:Rem L (.row v e 1 k xs) L1)(ho:o.op= .call { callee:=.builtin .append,args:=#[so,xo],argTypes:=#[t,tn] } :=by exact rfl)
  (hs:ev g so=some v:=by exact rfl)(hx:ev g xo=some (.int kq l):=by exact rfl)(T:zah P t=some y:=by exact ty rfl)(hy:y.desc= .slice e:=by exact rfl)(Z:P.underlying tn=some (.int kn):=by exact tyI rfl rfl)(he:zah P e=some ye:=by exact ty rfl)(Y:ye.size=1:=by exact rfl)(hz:zbd P e=some [z0]:=by exact zc rfl)(hone:z0.oneCell'=true:=by exact rfl)(b1:k+m<=maxLen:=by first|(unfold maxLen;omega)|fail)(b2:(k+m)*ye.bytes<=140737488355328:=by first|(dsimp only;omega)|omega|fail){km:Nat}{ys:List Value}(hkm:k+m=km:=by exact rfl)(hys:xs++List.replicate m z0=ys:=by exact rfl):
  OpT P ro N w0 M ds o g L (λS L'=>L'= .row S e 1 km ys::L1/\∃a c,S= .slice a km c):=by
 subst hkm;subst hys;subst hm;refine FH (by rw[ho];rfl) λa w X q=>?_;obtain⟨d,i',hd,b0,R,_⟩:=zX T;rw[hy] at R;have:=zbp R;subst this;obtain⟨de,ie,a9,I,_,V,U,_⟩:=zX he;unfold zbd at hz;rw[I] at hz;simp only[Ac,Ab] at hz;obtain⟨zv,a7,a6⟩:=hz;have K:=q.perm (hL.append (X:=X)).perm;have O:w.ownsRow 0 e 1 v k xs:=K.hold.all _ A3;have j:=λb A=>K.hold.mine (.row v e 1 k xs) A3 b A;obtain⟨S,w',Q,G,W,F⟩:=zkC (P:=P) (ty:=o.type) (kq:=kq) w hd Z I a7 (V.trans Y) U (B9.1 a6) hone O b1 b2;have J:Keep (λb=>v.ownBlock=some b) w w':=Keep.grown W;have H:Keep M w0 w':=q.keep.trans J (λb A=>j b A);refine⟨.value S,S,w',_,?_,.inl rfl,⟨rfl,?_⟩,H,?_⟩
 ·have e1: #[so,xo].map a.eval= #[v,.int kq (m:Int)]:=by simp[q.agr.eval hs,q.agr.eval hx]
  simp only[execOp,ho,resolve,invoke,builtin,e1,Sem.run_bind,Sem.run_pure,Result.andThen_ok,Q]
 ·obtain⟨_,⟨h2,h3⟩|⟨b,c,a8,hv,_⟩⟩:=G
  ·exact⟨none,0,by rw[h2,h3]⟩
  ·exact⟨_,c,hv⟩
 ·have T:=K.hold.tail;refine Holds.cons (L:=L1++X) (T.keep J (λr E b A B=>(Ah.1 K.hold.apart).1 r E b B A)) G (λr E b A B=>?_) (λb A=>?_)
  ·rcases F b A with h|h
   ·exact(Ah.1 K.hold.apart).1 r E b h B
   ·have:=FD (T.all r E) B;omega
  ·rcases F b A with h|h
   ·exact j b h
   ·exact .inl (BE q.keep.size h)
end Go.Sy
