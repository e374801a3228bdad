/- Lemmas of this proof. -/
import Derived.Test.YtdnlngbjpdbffaaGreatDoorWJ12
import Derived.Test.YtdnlngbjpdbffaaGreatDoorWJ11
import Derived.Lib.AppendZerosOnto
set_option maxRecDepth 10000
set_option linter.all false
namespace Go.Sy
open Go
theorem ztk{N:Nat}{w0:World}{M:Nat->Prop}{ds:List Deferred}{L L1:List Res}{a:Option Addr}{E s n n' c:Nat}{xs:List Value}(hr:Rem L (.row (.slice a n c) E s n xs) L1)(hn:n'<=n):Conv N w0 M ds L (.row (.slice a n' c) E s n' (xs.take (n'*s))::L1):=by
 intro g T w X S;have q:=S.perm (hr.perm.append_right X);have B:w.ownsRow 0 E s (.slice a n c) n xs:=q.hold.all _ A3;have j:∀b,(Value.slice a n' c).ownBlock=some b->(Value.slice a n c).ownBlock=some b:=λb B=>by
  cases a with
  |none=>cases B
  |some a=>exact B
 refine⟨q.size,q.agr,q.keep,q.hold.tail.cons ?_ (λr H A m=>?_) (λA m=>q.hold.mine _ A3 A (j A m))⟩
 ·obtain⟨U,⟨F,G⟩|⟨I,cap,C,F,G,J,V,K,O,Q⟩⟩:=B
  ·subst G;obtain rfl:n'=0:=q_o;cases F;exact⟨by simp,.inl ⟨rfl,rfl⟩⟩
  ·cases F;have R:n'*s<=n*s:=AP s hn;exact⟨by rw[AR];omega,.inr ⟨I,c,C,rfl,G,J,by omega,K,O,by rw[<-Q,List.take_take,BM R]⟩⟩
 ·exact(Ag.1 q.hold.apart).1 r H A (j A m)
end Go.Sy
namespace Go.Nt
open Go Go.Sy
theorem zzi(d r:Nat)(k:IntKind)(h:r<64):Op.shift .shr .i64 (d:Int) k (r:Int)=pure (.int .i64 ((d/2^r:Nat):Int)):=by
 have j:¬((r:Int)<0):=q_o;have m:¬64<=r:=q_o;simp[Op.shift,j,m,IntKind.bits]
def iC(l:List Nat):List Value:=l.map iv
theorem zhx(l:List Nat):(iC l).length=l.length:=A0 _
theorem znY{l:List Nat}{i d:Nat}(h:l[i]?=some d):(iC l)[i]?=some (iv d):=by unfold iC;rw[AY,h];rfl
theorem zx8(l:List Nat):(iC l).all (·.oneCell')=true:=zyF l
theorem zfB(x:Nat):zac x=iC (cd 65536 x):=rfl
theorem zgO(x:Nat):(zac x).length=nd 65536 x:=by rw[zfB,zhx,zi1]
theorem zh8(x i:Nat)(h:i<nd 65536 x):(zac x)[i]?=some (iv (x/65536^i%65536)):=by
 rw[zfB];exact znY (by unfold cd;exact zfc _ _ _ _ h)
theorem zhA{w:World}{a:Option Addr}{B:List Value}(h:SlA w a B)(j:0<B.length):∃b o,a=some ⟨b,o,none⟩/\w.rangeAt b o B:=by
 rcases h with h|h
 ·rw[h] at j;exact absurd j q_e
 ·exact h
theorem znf(n:Nat):65536^n=2^(16*n):=by rw[show(65536:Nat)=2^16 from rfl,<-BE]
end Go.Nt
namespace Go.Proofs.YtdnlngbjpdbffaaGreatDoor
open Go Go.Sy Go.Nt Go.RowKit
def zc0(x:Nat)(v:Value)(R:List Res):Prop:=∃a c,v= .slice a (nd 65536 x) c/\R= [.row (.slice a (nd 65536 x) c) 3 1 (nd 65536 x) (zac x)]
attribute [local irreducible] Sy SyL SyX Sy.Fn callFunc zg zac iC
theorem zci(a:Option Addr)(c x i:Nat)(w:World)(B:SlA w a (zac x)):
  q_G 231 [.slice a (nd 65536 x) c,.int .i64 i] w (iv (x/65536^i%65536)):=by
 refine zt Tryz.func231 Tryz.ntmps231 ?_;have q:=zgO x;have j:=zh8 x i;have m:=zaS 65536 x q_e;generalize nd 65536 x=n at*;by_cases h:i<n
 ·obtain⟨b,o,rfl,A⟩:=zhA B q_o;have r:=A i _ (j h);generalize x/65536^i%65536=d at*;repeat' (first|refine s_0 ?_|refine q_k 0 ?_|refine q_k 1 ?_;refine zag ?_;refine zb ?_;refine q_x zP ?_|refine q_k 3 ?_;refine zQ ?_;refine q_x (zn (hv:=r)) ?_)
  exact q_r
 ·have C:x/65536^i=0:=Al (AI m (AB q_e q_o));rw[C];repeat' (first|refine s_0 ?_|refine zD [0,2] ?_;refine zb ?_|refine q_k 1 ?_;refine zag ?_;refine zb ?_;refine q_x zP ?_)
  exact q_r
theorem zr5(a:Option Addr)(n c:Nat)(i:Int)(w:World)(j:i<0):
  q_G 231 [.slice a n c,.int .i64 i] w (iv 0):=by
 refine zt Tryz.func231 Tryz.ntmps231 ?_;repeat' (first|refine s_0 ?_|refine zD [0,2] ?_;refine zb ?_|refine q_k 1 ?_;refine zag ?_;refine zb ?_)
 exact q_r
theorem zqo(a:Option Addr)(c x i:Nat)(w:World)(C:SlA w a (zac x))(A:i<9223372036854775808):
  q_G 274 [.slice a (nd 65536 x) c,.int .i64 i] w (iv (x/2^i%2)):=by
 refine zt Tryz.func274 Tryz.ntmps274 ?_;have q:=λm (B:Keep No w m)=>zci a c x (i/16) m (C.to B (λ_ h=> .inr h)).sla;have j:=zkq 2 16 x (i/16) (i%16) (AC _ q_e);rw[show 16*(i/16)+i%16=i by omega,show(2:Nat)^16=65536 from rfl] at j;have r:x/65536^(i/16)%65536<65536:=AC _ q_e;generalize x/65536^(i/16)%65536=d at*;have E:IntKind.i64.wrap ((i:Int).tdiv 16)=((i/16:Nat):Int):=zdn (k:=16) A;have F:(i:Int).tmod 16=((i%16:Nat):Int):=zeq i 16;have G:=zzi d (i%16) .i64 q_o;have H:((d/2^(i%16):Nat):Int).tmod 2=((x/2^i%2:Nat):Int):=by rw[<-j];exact zeq _ 2
 repeat' (first|refine s_0 ?_|refine q_k 0 ?_|refine q_k 1 ?_;refine zag ?_|refine q_k 3 ?_;refine q_v (zbv (hr:=E)) ?_;refine q_v (za (hc:=zu q)) ?_;refine zb ?_;refine q_v (zbE (hr:=F)) ?_;refine q_v (zce (hr:=G)) ?_;refine q_x (zbE (hr:=H)) ?_)
 exact q_r
theorem zkJ(a:Option Addr)(c x:Nat)(w:World)(Q:SlA w a (zac x))(hx:nd 65536 x<1000000000):
  q_G 221 [.slice a (nd 65536 x) c] w (.int .i64 ((nd 2 x:Nat):Int)):=by
 refine zt Tryz.func221 Tryz.ntmps221 ?_;have r:=λi E (F:Keep No w E) (H:i<9223372036854775808)=>zqo a c x i E (Q.to F (λ_ h=> .inr h)).sla H;have B:=zaS 65536 x q_e;rw[znf] at B;generalize nd 65536 x=n at*;have K:IntKind.i64.wrap (16*(n:Int))=((16*n:Nat):Int):=q_w;repeat' (first|refine s_t ?_|refine q_k 0 ?_|refine q_k 1 ?_;refine q_x (zaJ (hr:=K)) ?_)
 refine zN (γ:=Nat) (λi=>[(0,.slice a n c),(3,.int .i64 i)]) (λ_=>[]) (λi=>i<=16*n/\x<2^i) (λi=>i) (16*n) ⟨A6 _,B⟩ ?_ ?_ ?_
 ·exact q_h
 ·exact q_h
 rintro i ⟨H,m⟩;rcases AD i with h0|h0
 ·subst h0;have:nd 2 x=0:=zct 2 x 0 q_e m (λh=>absurd h q_e);rw[this];repeat' (first|refine s_0 ?_|refine q_k 2 ?_;refine q_x zH ?_|refine q_k 4 ?_)
  exact q_r
 have j:IntKind.i64.wrap ((i:Int)-1)=((i-1:Nat):Int):=q_w;have r:=λE F=>r (i-1) E F q_o;have A:=Aa x (2^(i-1));have O:=AC x (show 0<2^(i-1) from AV q_e);have G:2^i=2^(i-1)*2:=by rw[<-AN,show(i-1).succ=i by omega]
 have I:x/2^(i-1)<2:=by
  rw[AW (AV q_e),AK,<-G];exact m
 by_cases C:x/2^(i-1)=0
 ·rw[C] at r;repeat' (first|refine s_t ?_|refine q_k 2 ?_;refine q_x zH ?_;refine q_v (zI (hr:=j)) ?_;refine q_v (za (hc:=zu r)) ?_;refine zaD ?_;refine zb ?_|refine q_k 3 ?_;refine q_x (zI (hr:=j)) ?_)
  refine zE (i-1) ⟨by omega,?_⟩ ?_ ?_ ?_
  ·rw[C,Cy,AZ] at A;omega
  ·show i-1<i;omega
  ·exact q_h
  ·exact q_h
 ·have J:x/2^(i-1)=1:=by
   revert I C
   generalize x/2^(i-1)=q;intro I C;omega
  rw[J] at r A;have:nd 2 x=i:=zct 2 x i q_e m (λ_=>by omega);rw[this];repeat' (first|refine s_0 ?_|refine q_k 2 ?_;refine q_x zH ?_;refine q_v (zI (hr:=j)) ?_;refine q_v (za (hc:=zu r)) ?_;refine zaD ?_;refine zb ?_|refine q_k 4 ?_)
  exact q_r
end Go.Proofs.YtdnlngbjpdbffaaGreatDoor
namespace Go.Nt
open Go Go.Sy
variable {N:Nat}{w0:World}{M:Nat->Prop}{ds:List Deferred}{L L1:List Res}
theorem zur{l:List Nat}(m:∀d∈l,d<65536):nd 65536 (vl 65536 l)<=l.length/\(iC l).take (nd 65536 (vl 65536 l)*1)=zac (vl 65536 l):=by
 have j:=zbc 65536 (vl 65536 l) l.length q_e (zfa 65536 l m);refine⟨j,?_⟩;rw[Ak,zfB];unfold iC cd;rw[<-C9];congr 1;have q:=zg9 65536 l m;rw[<-zxM 65536 l.length (nd 65536 (vl 65536 l)) (vl 65536 l) j,q]
theorem zfA{a:Option Addr}{E k c:Nat}{l:List Nat}(hr:Rem L (.row (.slice a k c) E 1 k (iC l)) L1)(hk:l.length=k)(m:∀d∈l,d<65536):
  Conv N w0 M ds L (.row (.slice a (nd 65536 (vl 65536 l)) c) E 1 (nd 65536 (vl 65536 l)) (zac (vl 65536 l))::L1):=by
 obtain⟨q,j⟩:=zur m;have:=ztk (N:=N) (w0:=w0) (M:=M) (ds:=ds) (n':=nd 65536 (vl 65536 l)) hr q_o;rw[j] at this;exact this
theorem zkL:iC []= []:=rfl
theorem zfH(l:List Nat)(d:Nat):iC l++[iv d]=iC (l++[d]):=by unfold iC;rw[Aq];rfl
theorem zas{j:Nat}{w:World}{M:Nat->Prop}{E n m c:Nat}{a:Option Addr}{xs:List Value}{L:List Res}(hh:Holds j M L w)(hL:Has L (.row (.slice a m c) E 1 n xs)):SlA w a xs:=(Sy.Fd (Mi:=No) hh hL (λ_ h=>h.elim)).sla
end Go.Nt
namespace Go.Proofs.YtdnlngbjpdbffaaGreatDoor
open Go Go.Sy Go.Nt Go.RowKit
attribute [local irreducible] Sy SyL SyX Sy.Fn callFunc zg zac iC
theorem zeE(a:Option Addr)(k c:Nat)(l:List Nat)(w:World)(hk:l.length=k)(G:k<=c)(F:∀d∈l,d<65536)(H:SlA w a (iC l))(hb:k<1000000000):
  q_G 230 [.slice a k c] w (.slice a (nd 65536 (vl 65536 l)) c):=by
 refine zt Tryz.func230 Tryz.ntmps230 ?_;repeat' (first|refine s_t ?_|refine zD [0,1] ?_;refine zb ?_)
 refine zN (γ:=Nat) (λn=>[(0,.slice a k c),(3,.int .i64 n)]) (λ_=>[]) (λn=>n<=k/\∀p,n<=p->p<k->l[p]?=some 0) (λn=>n) k ⟨A6 _,λp m q=>absurd q q_o⟩ ?_ ?_ ?_
 ·exact q_h
 ·exact q_h
 rintro n ⟨I,C⟩;rcases AD n with h0|h0
 ·subst h0;have A:=(zoT 65536 q_e l 0 F q_o (λp m q=>C p m q_o) (.inl rfl)).1;rw[A];repeat' (first|refine s_0 ?_|refine q_k 2 ?_;refine q_x zH ?_|refine q_k 4 ?_;refine q_x (zb8 (l:=0) (h:=0) (n':=0) (c':=c)) ?_)
  exact q_r
 have j:IntKind.i64.wrap ((n:Int)-1)=((n-1:Nat):Int):=q_w;obtain⟨b,o,rfl,hr⟩:=zhA H (by rw[zhx];omega);obtain⟨d,r⟩:∃d,l[n-1]?=some d:=⟨l[n-1]'q_o,A1 _⟩;have E:=hr (n-1) _ (znY r);by_cases hd0:d=0
 ·subst hd0;repeat' (first|refine s_t ?_|refine q_k 2 ?_;refine q_x zH ?_;refine q_v (zI (hr:=j)) ?_;refine zQ ?_;refine q_v (zn (hv:=E)) ?_;refine zaD ?_;refine zb ?_|refine q_k 3 ?_;refine q_x (zI (hr:=j)) ?_)
  refine zE (n-1) ⟨by omega,λp m q=>?_⟩ ?_ ?_ ?_
  ·rcases AF p n with h|h
   ·obtain rfl:p=n-1:=q_o;exact r
   ·exact C p h q
  ·show n-1<n;omega
  ·exact q_h
  ·exact q_h
 ·have A:=(zoT 65536 q_e l n F q_o (λp m q=>C p m q_o) (.inr ⟨d,r,hd0⟩)).1;rw[A];have B:decide (((d:Nat):Int)=0)=false:=q_f;repeat' (first|refine s_0 ?_|refine q_k 2 ?_;refine q_x zH ?_;refine q_v (zI (hr:=j)) ?_;refine zQ ?_;refine q_v (zn (hv:=E)) ?_;refine q_x (zS (hr:=B)) ?_|refine q_k 4 ?_;refine q_x (zb8 (l:=0) (h:=n) (n':=n) (c':=c)) ?_)
  exact q_r
theorem zlb(v:Nat)(w:World)(hv:v<9223372036854775808):
  Sy.Fn Tryz.prog 159 [.int .i64 v] w No (zc0 v):=by
 refine zt Tryz.func159 Tryz.ntmps159 ?_;have F:=zbc 65536 v 4 q_e q_o;have G:=zct 65536 v;repeat' (first|refine s_t ?_|refine zD [0,1] ?_;refine zb ?_)
 refine zbz (za3 3 1) ?_;refine zN (γ:=Nat×Option Addr×Nat) (λg=>[(0,.int .i64 ((v/65536^g.1:Nat):Int)),(3,.slice g.2.1 g.1 g.2.2)]) (λg=>[.row (.slice g.2.1 g.1 g.2.2) 3 1 g.1 (iC (dg 65536 g.1 v))])
  (λg=>g.1<=nd 65536 v) (λg=>nd 65536 v-g.1) (0,none,0) (A9 _) ?_ ?_ ?_
 ·(repeat' (first|exact FP|refine FX rfl ?_ ?_|rfl))
  rw[An,CF]
 ·show SubR [.row (.slice none 0 0) 3 1 0 (iC [])] _;rw[zkL];exact q_h
 rintro⟨i,a,c⟩ E;dsimp only at E ⊢;by_cases hlt:i<nd 65536 v
 ·have r:0<v/65536^i:=by
   have C:=(zdR 65536 q_e v).2 q_o;exact DI (BG (AB q_e q_o) C) (AV q_e)
  have q:=Bv v (65536^i);have hys:iC (dg 65536 i v)++[iv (v/65536^i%65536)]=iC (dg 65536 (i+1) v):=by
   rw[zfH,ziP];simp only[dg]
  have j:v/65536^i/65536=v/65536^(i+1):=by rw[Ap,<-AN]
  generalize v/65536^i=y at*;have K:(y:Int).tmod 65536=((y%65536:Nat):Int):=zeq y 65536;have J:IntKind.i64.wrap ((y:Int).tdiv 65536)=((y/65536:Nat):Int):=zdn (k:=65536) q_o;generalize H:y%65536=d at*;repeat' (first|refine s_t ?_|refine q_k 2 ?_;refine q_v zH ?_|refine q_k 3 ?_;refine q_v (zbE (hr:=K)) ?_;(refine q_s zz ?_;rintro _ _ ⟨_,rfl,rfl⟩);(refine q_s (zaE (k:=i) (m:=1) (hn:=rfl) (hkm:=rfl) (hys:=hys)) ?_;rintro _ _ ⟨rfl,A,B,rfl⟩);refine zb ?_|refine q_k 4 ?_;refine q_x (zbv (hr:=J)) ?_)
  refine zE (i+1,A,B) (by show i+1<=_;omega) ?_ ?_ ?_
  ·show nd 65536 v-(i+1)<nd 65536 v-i;omega
  ·rw[j];exact q_h
  ·exact q_h
 ·obtain rfl:i=nd 65536 v:=q_o;have I:v/65536^nd 65536 v=0:=Al (zaS 65536 v q_e);rw[I,show iC (dg 65536 (nd 65536 v) v)=zac v from (zfB v).symm];repeat' (first|refine s_0 ?_|refine q_k 2 ?_;refine q_v zH ?_|refine q_k 5 ?_)
  exact q_r
theorem zxC(a:Option Addr)(len c:Nat)(A:List UInt8)(w:World)(hl:A.length=len)(hb:SlA w a (A.map v8))(hx:len<100000000):
  Sy.Fn Tryz.prog 155 [.slice a len c] w No (zc0 (bev 256 (bn A))):=by
 refine zt Tryz.func155 Tryz.ntmps155 ?_;have a6:(bn A).length=len:=by unfold bn;rw[A0,hl]
 have Y:IntKind.i64.wrap ((len:Int)-1)=(len:Int)-1:=IntWalk.i64_in _ q_o;repeat' (first|refine s_t ?_|refine zD [0,1] ?_;refine zb ?_|refine q_k 2 ?_;refine q_x (zI (hr:=Y)) ?_)
 refine zbz (za3 3 1) ?_;refine zN (γ:=List Nat×Option Addr×Nat) (λg=>[(0,.slice a len c),(3,.slice g.2.1 g.1.length g.2.2),(4,.int .i64 ((len:Int)-1-2*(g.1.length:Int)))])
  (λg=>[.row (.slice g.2.1 g.1.length g.2.2) 3 1 g.1.length (iC g.1)])
  (λg=>2*g.1.length<=len+1/\(∀d∈g.1,d<65536)/\vl 65536 g.1=bev 256 ((bn A).drop (len-2*g.1.length))) (λg=>len+1-2*g.1.length) ([],none,0)
  ⟨by show 2*0<=_;omega,(λd hd=>by cases hd),by show 0=bev 256 ((bn A).drop (len-2*0));rw[BX q_o];rfl⟩ ?_ ?_ ?_
 ·(repeat' (first|exact FP|refine FX rfl ?_ ?_|rfl))
  show Value.int .i64 ((len:Int)-1)= .int .i64 ((len:Int)-1-2*((0:Nat):Int));congr 1;omega
 ·show SubR [.row (.slice none 0 0) 3 1 0 (iC [])] _;rw[zkL];exact q_h
 rintro⟨l,a1,c1⟩ ⟨hq,j,hv⟩;dsimp only at hq j hv ⊢;obtain⟨q,C⟩:∃q,q=l.length:=⟨_,rfl⟩;rw[<-C] at hq hv ⊢;by_cases hlt:2*q+1<=len
 ·obtain⟨b,o,rfl,hr⟩:=zhA hb (by rw[A0];omega);obtain⟨i,hi⟩:∃i,i=len-1-2*q:=⟨_,rfl⟩;have U:((len:Int)-1-2*(q:Int))=((i:Nat):Int):=q_o;have I:IntKind.i64.wrap ((i:Int)-2)=(i:Int)-2:=IntWalk.i64_in _ q_o;have J:(i:Int)-2=(len:Int)-1-2*((q+1:Nat):Int):=q_o;obtain⟨u,hu⟩:∃u,A[i]?=some u:=⟨A[i]'q_o,A1 _⟩;have F:w.cell? ⟨b,o+i,none⟩=some (v8 u):=hr i (v8 u) (by rw[AY,hu];rfl);have K:(bn A)[i]?=some u.toNat:=by unfold bn;rw[AY,hu];rfl
  have a7:=u.toNat_lt;have G:IntKind.i64.wrap (Wd.n8 u)=((u.toNat:Nat):Int):=IntWalk.i64_in _ (by have:=Wd.n8_lt u;have:=Wd.n8_nonneg u;omega);rw[U];by_cases h0:i=0
  ·have hstep:=zsk (bn A) u.toNat l (by rw[<-h0];exact K) q_o (by rw[hv];congr 2;omega);have B:decide ((0:Int)<(i:Int))=false:=q_f;repeat' (first|refine s_t ?_|refine q_k 3 ?_;refine q_v zP ?_|refine q_k 5 ?_;refine zQ ?_;refine q_v (zn (hv:=F)) ?_;refine q_x (zam (hr:=G)) ?_|refine q_k 6 ?_;refine q_v (zH (hr:=B)) ?_|refine q_k 8 ?_;(refine q_s zz ?_;rintro _ _ ⟨_,rfl,rfl⟩);(refine q_s (zaE (k:=q) (m:=1) (hn:=rfl) (hkm:=rfl) (hys:=zfH l u.toNat)) ?_;rintro _ _ ⟨rfl,Q,R,rfl⟩);refine zb ?_|refine q_k 4 ?_;refine q_x (zI (hr:=I)) ?_)
   have r:(l++[u.toNat]).length=q+1:=by rw[A2,<-C];rfl
   refine zE (l++[u.toNat],Q,R) ⟨by dsimp only;omega,zhX j q_o,?_⟩ ?_ ?_ ?_
   ·dsimp only;rw[hstep,r,show len-2*(q+1)=0 by omega];rfl
   ·dsimp only;omega
   ·dsimp only;rw[r,<-J];exact q_h
   ·dsimp only;rw[r];exact q_h
  ·obtain⟨v,O⟩:∃v,A[i-1]?=some v:=⟨A[i-1]'q_o,A1 _⟩;have H:w.cell? ⟨b,o+(i-1),none⟩=some (v8 v):=hr (i-1) (v8 v) (by rw[AY,O];rfl);have Z:(bn A)[i-1]?=some v.toNat:=by unfold bn;rw[AY,O];rfl
   have a8:=v.toNat_lt;have S:IntKind.i64.wrap (Wd.n8 v)=((v.toNat:Nat):Int):=IntWalk.i64_in _ (by have:=Wd.n8_lt v;have:=Wd.n8_nonneg v;omega);have V:IntKind.i64.wrap ((i:Int)-1)=((i-1:Nat):Int):=q_w;have W:IntKind.i64.wrap (256*((v.toNat:Nat):Int))=((256*v.toNat:Nat):Int):=q_w;have X:IntKind.i64.wrap (((u.toNat:Nat):Int)+((256*v.toNat:Nat):Int))=((u.toNat+256*v.toNat:Nat):Int):=q_w;have hstep:=zsg (bn A) (i-1) u.toNat v.toNat l (by rw[show i-1+1=i by omega];exact K) Z q_o (by rw[hv];congr 2;omega);have B:decide ((0:Int)<(i:Int))=true:=q_d;repeat' (first|refine s_t ?_|refine q_k 3 ?_;refine q_v zP ?_|refine q_k 5 ?_;refine zQ ?_;refine q_v (zn (hv:=F)) ?_;refine q_x (zam (hr:=G)) ?_|refine q_k 6 ?_;refine q_v (zH (hr:=B)) ?_|refine q_k 7 ?_;refine q_v (zI (hr:=V)) ?_;refine zQ ?_;refine q_v (zn (hv:=H)) ?_;refine q_v (zam (hr:=S)) ?_;refine q_v (zaJ (hr:=W)) ?_;refine q_x (zF (hr:=X)) ?_|refine q_k 8 ?_;(refine q_s zz ?_;rintro _ _ ⟨_,rfl,rfl⟩);(refine q_s (zaE (k:=q) (m:=1) (hn:=rfl) (hkm:=rfl) (hys:=zfH l (u.toNat+256*v.toNat))) ?_;rintro _ _ ⟨rfl,Q,R,rfl⟩);refine zb ?_|refine q_k 4 ?_;refine q_x (zI (hr:=I)) ?_)
   have r:(l++[u.toNat+256*v.toNat]).length=q+1:=by rw[A2,<-C];rfl
   refine zE (l++[u.toNat+256*v.toNat],Q,R) ⟨by dsimp only;omega,zhX j q_o,?_⟩ ?_ ?_ ?_
   ·dsimp only;rw[hstep,r];congr 2;omega
   ·dsimp only;omega
   ·dsimp only;rw[r,<-J];exact q_h
   ·dsimp only;rw[r];exact q_h
 ·have B:decide ((0:Int)<=(len:Int)-1-2*(q:Int))=false:=q_f;rw[show len-2*q=0 by omega,BJ] at hv;rw[<-hv];refine zfu (λw' T=>(FJ T F1:q<=c1)) λE=>?_;repeat' (first|refine s_0 ?_|refine q_k 3 ?_;refine q_v (zP (hr:=B)) ?_|refine q_k 9 ?_;refine q_v (za (hc:=λw' _ _ T=>zeE a1 q c1 l w' C.symm E j (zas T (by exact Ey F1)) q_o)) ?_;refine zb ?_)
  refine zcf (zfA Es C.symm j) ?_;exact q_r
theorem zsU(a:Option Addr)(c x:Nat)(w:World)(V:SlA w a (zac x))(hx:nd 65536 x<100000000):
  Sy.Fn Tryz.prog 223 [.slice a (nd 65536 x) c] w No (λv R=>∃a1 H,v= .slice a1 (nd 256 x) H/\R= [.row (.slice a1 (nd 256 x) H) 5 1 (nd 256 x) ((byt x).map v8)]):=by
 refine zt Tryz.func223 Tryz.ntmps223 ?_;have A:=λr (F:Keep No w r)=>zkJ a c x r (V.to F (λ_ h=> .inr h)).sla q_o;have B:=λi r (F:Keep No w r)=>zci a c x i r (V.to F (λ_ h=> .inr h)).sla;have G:=zom 8 x q_e;rw[show(2:Nat)^8=256 from rfl] at G;have hm:nd 2 x<=16*nd 65536 x:=zbc 2 x _ q_e (by rw[<-znf];exact zaS 65536 x q_e);have j:=zhy x;have I:=ztj 256 x;generalize nd 65536 x=k at*;have S:IntKind.i64.wrap (((nd 2 x:Nat):Int)+7)=((nd 2 x+7:Nat):Int):=q_w;have hq:IntKind.i64.wrap ((((nd 2 x+7:Nat):Int)).tdiv 8)=((nd 256 x:Nat):Int):=by rw[G];exact zdn (k:=8) q_o
 have a6:nd 256 x<=400000000:=q_o;generalize nd 256 x=n,nd 2 x=m at*;obtain⟨l,U⟩:∃l,l=byt x:=⟨_,rfl⟩;have K:∀i,i<n->l[i]?=some (UInt8.ofNat (x/256^(n-1-i)%256)):=λi hi=>by
  rw[U];unfold byt;rw[AY,I i hi];rfl
 rw[<-U] at j ⊢;repeat' (first|refine s_t ?_|refine zD [0,2] ?_;refine zb ?_|refine q_k 1 ?_;refine q_v (za (hc:=zu A)) ?_;refine q_v (zF (hr:=S)) ?_;refine q_x (zbv (hr:=hq)) ?_|refine q_k 3 ?_;refine q_x zI ?_)
 refine zbz (za3 5 1) ?_;refine zN (γ:=Nat×Option Addr×Nat) (λg=>[(0,.slice a k c),(4,.slice g.2.1 g.1 g.2.2),(5,.int .i64 ((n:Int)-1-(g.1:Int)))]) (λg=>[.row (.slice g.2.1 g.1 g.2.2) 5 1 g.1 ((l.take g.1).map v8)])
  (λg=>g.1<=n) (λg=>n-g.1) (0,none,0) (A9 _) ?_ ?_ ?_
 ·(repeat' (first|exact FP|refine FX rfl ?_ ?_|rfl))
  show Value.int .i64 ((n:Int)-1)= .int .i64 ((n:Int)-1-((0:Nat):Int));congr 1;omega
 ·exact q_h
 rintro⟨q,a1,H⟩ T;dsimp only at T ⊢;by_cases hlt:q<n
 ·obtain⟨p,hp⟩:∃p,p=n-1-q:=⟨_,rfl⟩;have O:(n:Int)-1-(q:Int)=((p:Nat):Int):=q_o;have Q:IntKind.i64.wrap ((p:Int)-1)=(n:Int)-1-((q+1:Nat):Int):=q_w;have hu:=K q hlt;rw[<-hp] at hu;have J:=λr F=>B (p/2) r F;have C:=zkq 256 2 x (p/2) (p%2) (AC _ q_e);rw[show 2*(p/2)+p%2=p by omega,show(256:Nat)^2=65536 from rfl,show(256:Nat)^(p%2)=2^(8*(p%2)) by rw[show(256:Nat)=2^8 from rfl,<-BE]] at C;have Y:x/65536^(p/2)%65536<65536:=AC _ q_e;generalize x/65536^(p/2)%65536=d at*;have q1:IntKind.i64.wrap ((p:Int).tdiv 2)=((p/2:Nat):Int):=zdn (k:=2) q_o;have q2:(p:Int).tmod 2=((p%2:Nat):Int):=zeq p 2;have q3:IntKind.i64.wrap (8*((p%2:Nat):Int))=((8*(p%2):Nat):Int):=q_w;have q4:=zzi d (8*(p%2)) .i64 q_o;have q5:((d/2^(8*(p%2)):Nat):Int).tmod 256=((x/256^p%256:Nat):Int):=by rw[<-C];exact zeq _ 256
  have Z:x/256^p%256<256:=AC _ q_e;generalize x/256^p%256=e at*;have q6:IntKind.u8.wrap ((e:Nat):Int)=Wd.n8 (UInt8.ofNat e):=by rw[Wd.wrap_u8_nat,Wd.n8_of_nat]
  generalize UInt8.ofNat e=u at*;have hys:(l.take q).map v8++[v8 u]=(l.take (q+1)).map v8:=by
   rw[CE,hu,Aq];rfl
  rw[O];repeat' (first|refine s_t ?_|refine q_k 4 ?_;refine q_v zP ?_|refine q_k 6 ?_;refine q_v (zbv (hr:=q1)) ?_;refine q_v (za (hc:=zu J)) ?_;refine zb ?_;refine q_v (zbE (hr:=q2)) ?_;refine q_v (zaJ (hr:=q3)) ?_;refine q_v (zce (hr:=q4)) ?_;refine q_v (zbE (hr:=q5)) ?_;refine q_v (zam (hr:=q6)) ?_;(refine q_s zz ?_;rintro _ _ ⟨_,rfl,rfl⟩);(refine q_s (zaE (k:=q) (m:=1) (hn:=rfl) (hkm:=rfl) (hys:=hys)) ?_;rintro _ _ ⟨rfl,W,X,rfl⟩);refine zb ?_|refine q_k 5 ?_;refine q_x (zI (hr:=Q)) ?_)
  refine zE (q+1,W,X) (by show q+1<=n;omega) ?_ ?_ ?_
  ·show n-(q+1)<n-q;omega
  ·exact q_h
  ·exact q_h
 obtain rfl:q=n:=q_o;have E:decide ((0:Int)<=(q:Int)-1-(q:Int))=false:=q_f;rw[<-j,Bw];rw[<-j] at E;repeat' (first|refine s_0 ?_|refine q_k 4 ?_;refine q_v (zP (hr:=E)) ?_|refine q_k 7 ?_)
 exact q_r
end Go.Proofs.YtdnlngbjpdbffaaGreatDoor
namespace Go.Sy
open Go
theorem ziA(z0:Value)(n:Nat):(Builtin.zeroCells #[z0] n).toList=List.replicate n z0:=by
 unfold Builtin.zeroCells;apply Ck;intro i;simp[CI];by_cases h:i<n
 ·simp[h,C0]
 ·simp[h]
variable {P:Program}
theorem zky(w:World){t tn ty e bytes:Nat}{i:TypeInfo}{zv z0:Value}{kq kn:IntKind}(O:P.underlying t=some (.slice e))(C:P.underlying tn=some (.int kn))(Q:P.info? e=some i)(hz:i.zero=some zv)(F:i.size=1)(X:i.bytes=bytes)(J:zv.cells= #[z0])(hone:z0.oneCell'=true)
  {v:Value}{k m:Nat}{xs:List Value}(q:w.ownsRow 0 e 1 v k xs)(b1:k+m<=maxLen)(b2:(k+m)*bytes<=140737488355328):
  ∃v' w',(Builtin.append_ #[t,tn] ty #[v,.int kq (m:Int)]).run P w= .ok v' w'/\w'.ownsRow 0 e 1 v' (k+m) (xs++List.replicate m z0)/\w.grownBy w' v.ownBlock/\∀b,v'.ownBlock=some b->v.ownBlock=some b\/w.heap.size<=b:=by
 subst X
 have T:k+m<=9223372036854775807:=by simp only[maxLen] at b1;omega
 have A:(xs++List.replicate m z0).length=(k+m)*1:=by rw[A2,q.1,AJ];omega
 have R:m*i.bytes<=281474976710656:=by have:m*i.bytes<=(k+m)*i.bytes:=AP _ q_o;omega
 have hw:IntKind.i64.wrap (m:Int)=m:=by rw[IntKind.wrap_i64];omega
 have S:¬((m:Int)<0):=q_o;have K:¬(281474976710656<(m:Int)*(i.bytes:Int)):=by rw[<-Bd];omega
 have grown:∀(old:Nat),old<k+m->∀(row:Option Nat),
   (w.drew.alloc (.cells (xs.toArray++Builtin.zeroCells zv.cells m++Builtin.zeroCells zv.cells (grownCap w (k+m) old e-(k+m))) e)).ownsRow 0 e 1
    (.slice (some ⟨w.heap.size,0,none⟩) (k+m) (grownCap w (k+m) old e)) (k+m) (xs++List.replicate m z0)/\
   w.grownBy (w.drew.alloc (.cells (xs.toArray++Builtin.zeroCells zv.cells m++Builtin.zeroCells zv.cells (grownCap w (k+m) old e-(k+m))) e)) row:=by
  intro old ho row;have Z:=grownCap_ge w (k+m) old e;have H:grownCap w (k+m) old e<=maxLen:=grownCap_le_maxLen w (k+m) old e b1;refine⟨⟨A,.inr ⟨w.heap.size,_,_,rfl,A9 _,heap_alloc_new w.drew _,Z,H,?_,?_⟩⟩,⟨rfl,rfl,rfl,by simp,λj hj _=>heap_alloc_old w.drew _ hj⟩⟩
  ·simp only[Array.size_append,DP,size_zeroCells,J,q.1];simp;omega
  ·simp only[Array.toList_append,J,ziA];rw[<-A];exact Cx
 rcases q.2 with ⟨rfl,rfl⟩|⟨g,cap,r,rfl,W,hg,a6,H,Y,I⟩
 ·have hx:xs= []:=Dh (by simpa using q.1);subst hx;by_cases hm:m=0
  ·subst hm;refine⟨.slice none 0 0,w,?_,World.ownsRow_nil w 0 e 1,⟨rfl,rfl,rfl,A6 _,λ_ _ _=>rfl⟩,λb G=> .inl G⟩;simp[Builtin.append_,run_underlying O,run_underlying C,sizeOf,typeInfo,Q,asInt,asIntOf,IntKind.wrap_i64]
  ·have hr:=Lib.run_append_grow_zeros (P:=P) w t tn ty e i zv kq kn O C Q hz none 0 0 [] (by simp[Builtin.firstCells]) m q_o q_o q_o q_o R (growslice_fits q_o b2);obtain⟨U,V⟩:=grown 0 q_o (Value.ownBlock (.slice none 0 0));exact⟨_,_,hr,U,V,λb G=> .inr (by simp[Value.ownBlock] at G;omega)⟩
 ·by_cases hroom:k+m<=cap
  ·have a9:k+m<=r.size:=by rw[Y];omega
   have E:=run_storeCells_at P g (k*1) e (List.replicate m z0) 0 r w hg (by simp;omega) (by intro u hu;rw[List.eq_of_mem_replicate hu];exact hone);simp only[BU] at E;refine⟨.slice (some ⟨g,0,none⟩) (k+m) cap,w.setRow g (r.toList.take (k*1)++List.replicate m z0++r.toList.drop (k*1+(List.replicate m z0).length)).toArray,?_,⟨A,.inr ⟨g,cap,_,rfl,W,setRow_heap w g r _ e _ hg,hroom,H,?_,?_⟩⟩,⟨rfl,rfl,rfl,by simp,λj _ hj=>setRow_other w g j _ (λe=>hj (by simp[Value.ownBlock,e]))⟩,λb G=> .inl G⟩
   ·by_cases hm:m=0
    ·subst hm;simp only[CZ,AG,Ce,BU,Bb] at E ⊢;simp[Builtin.append_,run_underlying O,run_underlying C,sizeOf,typeInfo,Q,asInt,asIntOf,IntKind.wrap_i64,a6,F,Addr.add_lit];have B:Sem.run P (storeCells { block:=g,off:=k } []) w=Result.ok () (w.setRow g r):=by simpa using E
     rw[B];rfl
    ·have a8:(Builtin.zeroCells zv.cells m).toList=List.replicate m z0:=by rw[J,ziA]
     have a7:¬(m*i.size=0):=by rw[F];omega
     simp[Builtin.append_,run_underlying O,run_underlying C,sizeOf,typeInfo,zeroValue,Q,hz,asInt,asIntOf,hw,S,K,hroom,a7,Addr.add_lit,a8,F,hm];have B:Sem.run P (storeCells { block:=g,off:=k } (List.replicate m z0)) w=Result.ok () (w.setRow g (List.take k r.toList++(List.replicate m z0++List.drop (k+m) r.toList)).toArray):=by simpa using E
     rw[B];rfl
   ·simp only[DP,A2,AR,Ar,AJ,Array.length_toList];omega
   ·rw[I,<-A];exact Cx
  ·have holds:∀j u,xs[j]?=some u->w.cell? ((⟨g,0,none⟩:Addr).add j)=some u:=q.cells (g:=g) rfl;have hf:=run_firstCells_some (P:=P) w.drew i.size k ⟨g,0,none⟩ k cap xs (by rw[F];exact q.1) holds;have hr:=Lib.run_append_grow_zeros (P:=P) w t tn ty e i zv kq kn O C Q hz (some ⟨g,0,none⟩) k cap xs hf m q_o q_o q_o q_o R (growslice_fits q_o b2);obtain⟨U,V⟩:=grown cap q_o (Value.ownBlock (.slice (some ⟨g,0,none⟩) k cap));exact⟨_,_,hr,U,V,λb G=> .inr (by simp[Value.ownBlock] at G;omega)⟩
variable {ro:Option Nat}{N:Nat}{w0:World}{M:Nat->Prop}{ds:List Deferred}{g:Nat->Option Value}{L:List Res}{o:Oper}{t tn:TypeId}{y ye:Ty}
theorem zle{k m e:Nat}{v z0:Value}{kq kn:IntKind}{xs:List Value}{L1:List Res}{xo so:Operand}{l:Int}(hm:l=(m:Int))(hL:Rem L (.row v e 1 k xs) L1)(ho:o.op= .call { callee:=.builtin .append,args:=#[so,xo],argTypes:=#[t,tn] } :=by exact rfl)
  (hs:ev g so=some v:=by exact rfl)(hx:ev g xo=some (.int kq l):=by exact rfl)(S:zah P t=some y:=by exact ty rfl)(hy:y.desc= .slice e:=by exact rfl)(Y:P.underlying tn=some (.int kn):=by exact tyI rfl rfl)(he:zah P e=some ye:=by exact ty rfl)(W:ye.size=1:=by exact rfl)(hz:za9 P e=some [z0]:=by exact zc rfl)(hone:z0.oneCell'=true:=by exact rfl)(b1:k+m<=maxLen:=by first|(unfold maxLen;omega)|fail)(b2:(k+m)*ye.bytes<=140737488355328:=by first|(dsimp only;omega)|omega|fail){km:Nat}{ys:List Value}(hkm:k+m=km:=by exact rfl)(hys:xs++List.replicate m z0=ys:=by exact rfl):
  OpT P ro N w0 M ds o g L (λR L'=>L'= .row R e 1 km ys::L1/\∃a c,R= .slice a km c):=by
 subst hkm;subst hys;subst hm;refine FC (by rw[ho];rfl) λa w X q=>?_;obtain⟨d,i',hd,a9,Q,_⟩:=zV S;rw[hy] at Q;have:=zbm Q;subst this;obtain⟨de,ie,a8,H,_,U,T,_⟩:=zV he;unfold za9 at hz;rw[H] at hz;simp only[Ac,Ah] at hz;obtain⟨zv,a6,Z⟩:=hz;have J:=q.perm (hL.append (X:=X)).perm;have K:w.ownsRow 0 e 1 v k xs:=J.hold.all _ A3;have j:=λb A=>J.hold.mine (.row v e 1 k xs) A3 b A;obtain⟨R,w',O,F,V,E⟩:=zky (P:=P) (ty:=o.type) (kq:=kq) w hd Y H a6 (U.trans W) T (BA.1 Z) hone K b1 b2;have I:Keep (λb=>v.ownBlock=some b) w w':=Keep.grown V;have G:Keep M w0 w':=q.keep.trans I (λb A=>j b A);refine⟨.value R,R,w',_,?_,.inl rfl,⟨rfl,?_⟩,G,?_⟩
 ·have e1: #[so,xo].map a.eval= #[v,.int kq (m:Int)]:=by simp[q.agr.eval hs,q.agr.eval hx]
  simp only[execOp,ho,resolve,invoke,builtin,e1,Sem.run_bind,Sem.run_pure,Result.andThen_ok,O]
 ·obtain⟨_,⟨h2,h3⟩|⟨b,c,a7,hv,_⟩⟩:=F
  ·exact⟨none,0,by rw[h2,h3]⟩
  ·exact⟨_,c,hv⟩
 ·have S:=J.hold.tail;refine Holds.cons (L:=L1++X) (S.keep I (λr C b A B=>(Ag.1 J.hold.apart).1 r C b B A)) F (λr C b A B=>?_) (λb A=>?_)
  ·rcases E b A with h|h
   ·exact(Ag.1 J.hold.apart).1 r C b h B
   ·have:=FA (S.all r C) B;omega
  ·rcases E b A with h|h
   ·exact j b h
   ·exact .inl (BG q.keep.size h)
end Go.Sy
