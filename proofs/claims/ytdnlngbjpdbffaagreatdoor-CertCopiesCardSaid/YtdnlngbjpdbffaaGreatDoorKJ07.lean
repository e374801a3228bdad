/- Lemmas of this proof. -/
import Derived.Test.YtdnlngbjpdbffaaGreatDoorKJ00
set_option linter.all false
namespace Go.Nt
def vl(b:Nat):List Nat->Nat
 | []=>0
 |d::l=>d+b*vl b l
def dg(b:Nat):Nat->Nat->List Nat
 |0,_=>[]
 |k+1,x=>x%b::dg b k (x/b)
theorem zcq(b:Nat):∀k x,(dg b k x).length=k
 |0,_=>rfl
 |k+1,x=>by simp only[dg,Ac,zcq b k]
theorem zgc(x b i:Nat):x/b/b^i=x/b^(i+1):=by rw[Ak,AJ,A8]
theorem zeu(b:Nat):∀k x i,i<k->(dg b k x)[i]?=some (x/b^i%b)
 |k+1,x,0,_=>by simp[dg]
 |k+1,x,i+1,h=>by
  simp only[dg,Bq];rw[zeu b k (x/b) i q_o,zgc]
theorem zt0(b:Nat):∀k x,vl b (dg b k x)=x%b^k
 |0,x=>by simp[dg,vl,Bj]
 |k+1,x=>by
  simp only[dg,vl];rw[zt0 b k,AJ,A8 (b^k) b,Nat.mod_mul]
theorem zdv(b k x:Nat)(h:x<b^k):vl b (dg b k x)=x:=by rw[zt0,A3 h]
theorem zgw(b:Nat):∀l:List Nat,(∀d∈l,d<b)->dg b l.length (vl b l)=l
 | [],_=>rfl
 |d::l,h=>by
  have j:d<b:=h d A5;have m:0<b:=q_o;simp only[Ac,dg,vl];rw[DK,A3 j,Dr _ _ m,Al j,AR,zgw b l (λx q=>h x (A9 _ q))]
theorem zeC(b:Nat):∀l:List Nat,(∀d∈l,d<b)->vl b l<b^l.length
 | [],_=>by simp[vl]
 |d::l,h=>by
  have r:d<b:=h d A5;have j:=zeC b l (λx q=>h x (A9 _ q));have m:b*(vl b l+1)<=b*b^l.length:=CD b j;rw[Bg,Af] at m;simp only[Ac,vl];rw[AJ,A8 (b^l.length) b];omega
theorem zgF(b:Nat)(hb:0<b):∀k x,∀d∈dg b k x,d<b
 |0,_,d,h=>by cases h
 |k+1,x,d,h=>by
  rcases Ag.1 h with rfl|h
  ·exact A7 _ hb
  ·exact zgF b hb k _ d h
theorem zwf(b k x y:Nat)(hx:x<b^k)(j:y<b^k)(h:dg b k x=dg b k y):x=y:=by
 rw[<-zdv b k x hx,h,zdv b k y j]
theorem zf1(b:Nat):∀k,dg b k 0=List.replicate k 0
 |0=>rfl
 |k+1=>by simp only[dg,CC,EY,zf1 b k,CT]
theorem zhH(b:Nat):∀k x j e,x/b^j%b+e<b->(dg b k x).set j (x/b^j%b+e)=dg b k (x+e*b^j)
 |0,x,j,e,_=>by simp[dg]
 |k+1,x,0,e,h=>by
  rw[Ad,C7] at h ⊢;rw[Af];have q:0<b:=q_o;have m:x+e=x%b+e+b*(x/b):=by have:=Nat.mod_add_div x b;omega
  simp only[dg,DW];rw[m,DK,A3 h,Dr _ _ q,Al h,AR]
 |k+1,x,j+1,e,h=>by
  have q:0<b:=q_o;rw[<-zgc] at h ⊢;simp only[dg,EC];have m:x+e*b^(j+1)=x+b*(e*b^j):=by rw[AJ,<-Ao,A8]
  rw[m,DK,Dr _ _ q,zhH b k (x/b) j e h]
theorem zim(b:Nat):∀j k x,dg b (j+k) x=dg b j x++dg b k (x/b^j)
 |0,k,x=>by simp[dg]
 |j+1,k,x=>by
  rw[show j+1+k=(j+k)+1 from by omega];simp only[dg,An];rw[zim b j k (x/b),zgc]
theorem zvr(b k j x:Nat)(h:j<=k):(dg b k x).take j=dg b j x:=by
 obtain⟨i,rfl⟩:∃i,k=j+i:=⟨k-j,by omega⟩;rw[zim,By (by rw[zcq];exact A4 _),A6 (by rw[zcq];exact A4 _)]
theorem zfw(b:Nat):∀l m:List Nat,vl b (l++m)=vl b l+b^l.length*vl b m
 | [],m=>by simp[vl]
 |d::l,m=>by
  simp only[An,vl,Ac,zfw b l m];rw[Bg,AJ,A8 (b^l.length) b,Ao,Az]
def nd(b x:Nat):Nat:=if h:x=0\/b<2 then 0 else nd b (x/b)+1
termination_by x
decreasing_by
 have hx:0<x:=q_o;exact Ef hx q_o
theorem zbv(b:Nat):nd b 0=0:=by rw[nd];simp
theorem zwd(b x:Nat)(hb:2<=b)(hx:0<x):nd b x=nd b (x/b)+1:=by
 rw[nd,dif_neg q_o]
theorem zdi(b:Nat)(hb:2<=b):∀x,x<b^nd b x/\(0<nd b x->b^(nd b x-1)<=x):=by
 intro x
 induction x using Nat.strongRecOn with
 |_ x t=>
  rcases AD x with rfl|j
  ·rw[zbv];exact⟨by simp,λh=>absurd h q_o⟩
  ·rw[zwd b x hb j];obtain⟨q,r⟩:=t (x/b) (Ef j q_o);refine⟨?_,λ_=>?_⟩
   ·rw[AJ];exact(AW q_o).1 q
   ·rw[B4];rcases AD (nd b (x/b)) with h0|h0
    ·rw[h0,Ad];exact j
    ·have:=r h0;have m:=(CF (show 0<b by omega)).1 this;rw[<-AJ,CU,Nat.sub_add_cancel h0] at m;exact m
theorem zaE(b x:Nat)(hb:2<=b):x<b^nd b x:=(zdi b hb x).1
theorem zaQ(b x n:Nat)(hb:2<=b)(h:x<b^n):nd b x<=n:=by
 rcases AH n (nd b x) with j|j
 ·have m:=(zdi b hb x).2 q_o;have q:=AA (show 0<b by omega) (show n<=nd b x-1 by omega);omega
 ·exact j
theorem zch(b x n:Nat)(hb:2<=b)(h1:x<b^n)(h2:0<n->b^(n-1)<=x):nd b x=n:=by
 have j:=zaQ b x n hb h1;rcases AH (nd b x) n with h|h
 ·have m:=h2 q_o;have q:=AA (show 0<b by omega) (show nd b x<=n-1 by omega);have r:=zaE b x hb;omega
 ·omega
theorem zj1(b x:Nat)(hb:2<=b):nd b x=0↔x=0:=by
 refine⟨λh=>?_,λh=>by rw[h,zbv]⟩;have:=zaE b x hb;rw[h,Ad] at this;omega
theorem zm1(k x:Nat)(hk:0<k):nd (2^k) x=(nd 2 x+(k-1))/k:=by
 have w:2<=2^k:=by
  have:=AA (show 0<2 by decide) hk;simpa using this
 obtain⟨r,t⟩:=zdi 2 (A4 _) x;have A:nd 2 x<=k*((nd 2 x+(k-1))/k)/\(0<nd 2 x->k*((nd 2 x+(k-1))/k-1)<=nd 2 x-1)/\(nd 2 x=0->(nd 2 x+(k-1))/k=0):=by
  have B:=AV (nd 2 x+(k-1)) k;have C:=A7 (nd 2 x+(k-1)) hk;refine⟨by omega,λh=>?_,λh=>?_⟩
  ·rw[Nat.mul_sub,Af];omega
  ·rw[h,AR];exact Al q_o
 obtain⟨j,m,q⟩:=A;refine zch _ _ _ w ?_ λE=>?_
 ·rw[<-B8];exact AG r (AA q_e j)
 ·have h0:0<nd 2 x:=by
   rcases AD (nd 2 x) with h|h
   ·have:=q h;omega
   ·exact h
  rw[<-B8];exact BG (AA q_e (m h0)) (t h0)
def cd(b x:Nat):List Nat:=dg b (nd b x) x
theorem zh7(b x:Nat):(cd b x).length=nd b x:=zcq _ _ _
theorem zt1(b x:Nat)(hb:2<=b):vl b (cd b x)=x:=zdv _ _ _ (zaE b x hb)
theorem zh9(b:Nat):∀(l:List Nat) (i x:Nat),l[i]?=some x->vl b (l.take (i+1))=vl b (l.take i)+x*b^i
 | [],i,x,h=>by simp at h
 |d::l,0,x,h=>by
  simp only[C8,Bo] at h;subst h;simp[vl]
 |d::l,i+1,x,h=>by
  rw[Bq] at h;have:=zh9 b l i x h;simp only[DM,vl];rw[this,Bg,AJ,A8 (b^i) b,<-Ao b,A8 b x,Ao x,Az]
theorem zdU(b:Nat):∀(l:List Nat) (i x y:Nat),l[i]?=some x->vl b (l.set i y)+x*b^i=vl b l+y*b^i
 | [],i,x,y,h=>by simp at h
 |d::l,0,x,y,h=>by
  simp only[C8,Bo] at h;subst h;simp only[DW,vl,Ad,Af];omega
 |d::l,i+1,x,y,h=>by
  rw[Bq] at h;have:=zdU b l i x y h;simp only[EC,vl];have j:b*(vl b (l.set i y)+x*b^i)=b*(vl b l+y*b^i):=by rw[this]
  rw[Bg,Bg] at j;have m:x*b^(i+1)=b*(x*b^i):=by rw[AJ,<-Ao,A8]
  have q:y*b^(i+1)=b*(y*b^i):=by rw[AJ,<-Ao,A8]
  omega
theorem zf5(b:Nat)(l:List Nat)(j:Nat)(h:j<=l.length):vl b l=vl b (l.take j)+b^j*vl b (l.drop j):=by
 have:=zfw b (l.take j) (l.drop j);rw[B7,AU,BO h] at this;exact this
theorem zef{b:Nat}{l:List Nat}(h:∀d∈l,d<b){i x:Nat}(hx:x<b):∀d∈l.set i x,d<b:=λd m=>by
 rcases List.mem_or_eq_of_mem_set m with j|j
 ·exact h d j
 ·rw[j];exact hx
theorem zd3(b:Nat):∀k,vl b (List.replicate k 0)=0
 |0=>rfl
 |k+1=>by rw[CT];simp only[vl,zd3 b k,Bx]
theorem zwZ(B P U V j m A r q:Nat)(K:U=j*P+A)(H:V=m*P+r)(G:A<P)(w:r<P)(I:q<B)(h1:q*m<=j)(h2:q+1=B\/j<(q+1)*m)(t:U<B*V)(hv:B<=m):q*V<=U+V/\U<(q+1)*V:=by
 have F:B*P<=V:=by
  have:=AN P hv;omega
 constructor
 ·have C:q*V=q*m*P+q*r:=by rw[H,Bg,Ao]
  have E:q*m*P<=j*P:=AN P h1;have J:q*r<=B*P:=Ca (BH I) (BH w);omega
 ·rcases h2 with h2|h2
  ·rw[h2];exact t
  ·have C:(j+1)*P<=(q+1)*m*P:=AN P h2;have E:(q+1)*m*P<=(q+1)*V:=by
    rw[Ao];exact CD _ q_o
   rw[AM,BN] at C;omega
theorem zgd(U V q:Nat)(h1:q*V<=U)(h2:U<(q+1)*V):U/V=q/\U%V=U-q*V:=by
 rw[AM,BN] at h2;have j:U/V=q:=by
  rw[Nat.div_eq_iff q_o];constructor
  ·exact h1
  ·omega
 refine⟨j,?_⟩;have:=AV U V;rw[j,A8] at this;omega
theorem zv3(B q v c j lo r k:Nat)(E:q<B)(hv:v<B)(hc:c<B)(h1:q*v=j*B+lo)(h2:r+k*B=lo+c):j+k<B:=by
 have t:q*v<=(B-1)*(B-1):=Ca q_o q_o;have w:(j+k)*B<=q*v+c:=by rw[AM];omega
 rcases AH (j+k) B with h|h
 ·exact h
 ·have A:B*B<=(j+k)*B:=AN B h;obtain⟨m,rfl⟩:∃m,B=m+1:=⟨B-1,by omega⟩;rw[B4] at t;have C:(m+1)*(m+1)=m*m+m+m+1:=by rw[AM,Bg];omega
  omega
theorem zby(b x i:Nat):x%b^(i+1)=x%b^i+(x/b^i%b)*b^i:=by
 rw[AJ,Nat.mod_mul,A8 (b^i)]
structure AddJ(b k x y i:Nat)(l:List Nat)(c:Nat):Prop where
 len:l.length=k
 low:∀d∈l,d<b
 rest:∀j,i<=j->j<k->l[j]?=some (x/b^j%b)
 bit:c<=1
 sum:vl b l+c*b^i=x+y%b^i
theorem AddJ.start(b k x y:Nat)(hb:0<b)(hx:x<b^k):AddJ b k x y 0 (dg b k x) 0:=
 ⟨zcq b k x,zgF b hb k x,λj _ m=>zeu b k x j m,AE _,by rw[zdv b k x hx,Ad,Bj]⟩
theorem AddJ.step{b k x y i c z c':Nat}{l:List Nat}(h:AddJ b k x y i l c)(t:i<k)(hz:z<b)(hc:c'<=1)(e:z+c'*b=x/b^i%b+y/b^i%b+c):AddJ b k x y (i+1) (l.set i z) c':=by
 have h0:=h.rest i (A4 _) t;have A:=zdU b l i _ z h0;have m:=zby b y i;have B:=h.sum;refine⟨by rw[AI,h.len],zef h.low hz,λj C w=>?_,hc,?_⟩
 ·rw[C9 q_o];exact h.rest j q_o w
 ·have q:(z+c'*b)*b^i=(x/b^i%b+y/b^i%b+c)*b^i:=by rw[e]
  have r:c'*b^(i+1)=c'*b*b^i:=by rw[AJ,A8 (b^i) b,Ao]
  rw[AM,AM,AM] at q;rw[r,m];omega
theorem AddJ.done{b k x y c:Nat}{l:List Nat}(h:AddJ b k x y k l c)(r:y<b^k):l=dg b k (vl b l)/\vl b l<b^k/\vl b l+c*b^k=x+y:=by
 have j:=zgw b l h.low;have m:=zeC b l h.low;rw[h.len] at j m;have q:=h.sum;rw[A3 r] at q;exact⟨j.symm,m,q⟩
structure SubJ(b k x y i:Nat)(l:List Nat)(c:Nat):Prop where
 len:l.length=k
 low:∀d∈l,d<b
 rest:∀j,i<=j->j<k->l[j]?=some (x/b^j%b)
 bit:c<=1
 sum:vl b l+y%b^i=x+c*b^i
theorem SubJ.start(b k x y:Nat)(hb:0<b)(hx:x<b^k):SubJ b k x y 0 (dg b k x) 0:=
 ⟨zcq b k x,zgF b hb k x,λj _ m=>zeu b k x j m,AE _,by rw[zdv b k x hx,Ad,Bj]⟩
theorem SubJ.step{b k x y i c z c':Nat}{l:List Nat}(h:SubJ b k x y i l c)(t:i<k)(hz:z<b)(hc:c'<=1)(e:z+y/b^i%b+c=x/b^i%b+c'*b):SubJ b k x y (i+1) (l.set i z) c':=by
 have h0:=h.rest i (A4 _) t;have A:=zdU b l i _ z h0;have m:=zby b y i;have B:=h.sum;refine⟨by rw[AI,h.len],zef h.low hz,λj C w=>?_,hc,?_⟩
 ·rw[C9 q_o];exact h.rest j q_o w
 ·have q:(z+y/b^i%b+c)*b^i=(x/b^i%b+c'*b)*b^i:=by rw[e]
  have r:c'*b^(i+1)=c'*b*b^i:=by rw[AJ,A8 (b^i) b,Ao]
  rw[AM,AM,AM] at q;rw[r,m];omega
theorem SubJ.done{b k x y c:Nat}{l:List Nat}(h:SubJ b k x y k l c)(r:y<b^k):l=dg b k (vl b l)/\vl b l<b^k/\vl b l+y=x+c*b^k:=by
 have j:=zgw b l h.low;have m:=zeC b l h.low;rw[h.len] at j m;have q:=h.sum;rw[A3 r] at q;exact⟨j.symm,m,q⟩
structure MulJ(b k x y n m i j:Nat)(l:List Nat)(c:Nat):Prop where
 len:l.length=k
 low:∀d∈l,d<b
 zero:∀q,i+m<=q->q<k->l[q]?=some 0
 car:c<b
 sum:vl b l+c*b^(i+j)=(x%b^i)*y+(x/b^i%b)*b^i*(y%b^j)
theorem MulJ.start(b k x y n m:Nat)(hb:0<b):MulJ b k x y n m 0 0 (List.replicate k 0) 0:=
 ⟨AK,λd j=>by rw[(DX.1 j).2];exact hb,λq _ r=>by rw[Br,if_pos r],hb,by rw[zd3];simp[Bj]⟩
theorem MulJ.step{b k x y n m i j c u z c':Nat}{l:List Nat}(h:MulJ b k x y n m i j l c)(r:i+m<=k)(hj:j<m)(hu:l[i+j]?=some u)(hz:z<b)(hc:c'<b)(e:z+c'*b=(x/b^i%b)*(y/b^j%b)+u+c):MulJ b k x y n m i (j+1) (l.set (i+j) z) c':=by
 have F:=zdU b l (i+j) _ z hu;have t:=zby b y j;have G:=h.sum;refine⟨by rw[AI,h.len],zef h.low hz,λq E C=>?_,hc,?_⟩
 ·rw[C9 q_o];exact h.zero q E C
 ·have w:(z+c'*b)*b^(i+j)=((x/b^i%b)*(y/b^j%b)+u+c)*b^(i+j):=by rw[e]
  have A:c'*b^(i+(j+1))=c'*b*b^(i+j):=by rw[<-Az,AJ,A8 (b^(i+j)) b,Ao]
  have B:(x/b^i%b)*b^i*((y/b^j%b)*b^j)=(x/b^i%b)*(y/b^j%b)*b^(i+j):=by
   rw[As];ac_rfl
  rw[AM,AM,AM] at w;rw[A,t,Bg,B];omega
theorem MulJ.row{b k x y n m i c:Nat}{l:List Nat}(h:MulJ b k x y n m i m l c)(hk:i+m<k)(w:y<b^m):MulJ b k x y n m (i+1) 0 (l.set (i+m) c) 0:=by
 have h0:=h.zero (i+m) (A4 _) hk;have A:=zdU b l (i+m) _ c h0;have j:=zby b x i;have r:=h.sum;have t:0<b:=Av (AE _) h.car;refine⟨by rw[AI,h.len],zef h.low h.car,λq B hk=>?_,t,?_⟩
 ·rw[C9 q_o];exact h.zero q q_o hk
 ·rw[A3 w] at r;rw[j,Ad,Bj,Bx,AM];omega
theorem MulJ.done{b k x y n m:Nat}{l:List Nat}(h:MulJ b k x y n m n 0 l 0)(hx:x<b^n):vl b l=x*y:=by
 have j:=h.sum;rw[A3 hx,Ad,Bj,Bx] at j;omega
theorem znF(a c s:Nat)(h:c<2^s):a*2^s ||| c=a*2^s+c:=by
 have:=E6 h a;rw[A8] at this;exact this.symm
theorem zfn(b x y i:Nat)(r:0<b)(e:x/b^(i+1)=y/b^(i+1))(h:x/b^i%b<y/b^i%b):x<y:=by
 have t:x/b^i<y/b^i:=by
  have j:=AV (x/b^i) b;have q:=AV (y/b^i) b;rw[Ak,<-AJ] at j q;rw[CU] at j q;rw[e] at j;omega
 exact Nat.lt_of_not_le λm=>by
  have:=Eh (c:=b^i) m;omega
theorem zmE(b x y i:Nat)(e:x/b^(i+1)=y/b^(i+1))(h:x/b^i%b=y/b^i%b):x/b^i=y/b^i:=by
 have j:=AV (x/b^i) b;have m:=AV (y/b^i) b;rw[Ak,<-AJ] at j m;rw[CU] at j m;rw[e] at j;omega
theorem zh3(b p r k:Nat):b^(k*p+r)=(b^k)^p*b^r:=by rw[As,B8]
theorem zjN(b k x p r:Nat)(hr:r<k):x/(b^k)^p%b^k/b^r%b=x/b^(k*p+r)%b:=by
 rw[zh3,<-Ak];generalize x/(b^k)^p=y;have e:b^k=b^r*b^(k-r):=by rw[<-As];congr 1;omega
 rw[e,Nat.mod_mul_right_div_self];refine ED _ ?_;obtain⟨m,j⟩:∃m,k-r=m+1:=⟨k-r-1,by omega⟩;rw[j,AJ];exact Nat.dvd_mul_left _ _
theorem zqn(b k A p r v:Nat)(hr:r<k)(hv:v<b):(A*b^(k*p+r+1))/(b^k)^p%b^k=A%b^(k-(r+1))*b^(r+1)/\A%b^(k-(r+1))*b^(r+1)+v*b^r<b^k:=by
 have j:0<b:=q_o;have q:A*b^(k*p+r+1)=A*b^(r+1)*(b^k)^p:=by
  rw[Az,zh3];ac_rfl
 have e:b^k=b^(r+1)*b^(k-(r+1)):=by rw[<-As];congr 1;omega
 constructor
 ·rw[q,CJ _ (AP (AP j)),e,A8 A,Nat.mul_mod_mul_left,A8]
 ·have t:A%b^(k-(r+1))+1<=b^(k-(r+1)):=A7 _ (AP j);have w:=AN (b^(r+1)) t;rw[AM,BN,A8 (b^(k-(r+1))),<-e] at w;have m:(v+1)*b^r<=b*b^r:=AN _ hv;rw[AM,BN,A8 b,<-AJ] at m;have B:0<b^r:=AP j;rw[CU] at m;omega
def bev(b:Nat):List Nat->Nat
 | []=>0
 |d::l=>d*b^l.length+bev b l
theorem zht(b:Nat):∀l m:List Nat,bev b (l++m)=bev b l*b^m.length+bev b m
 | [],m=>by simp[bev]
 |d::l,m=>by
  simp only[An,bev,zht b l m,A2];rw[As,AM,Ao,Az]
theorem zkB(b:Nat):∀l:List Nat,bev b l=vl b l.reverse
 | []=>rfl
 |d::l=>by
  rw[EK,zfw,CV,bev,zkB b l];simp only[vl,Bx,BI];rw[A8,CW]
theorem zdR(b:Nat)(l:List Nat)(h:∀d∈l,d<b):bev b l<b^l.length:=by
 rw[zkB];have:=zeC b l.reverse (λd j=>h d (Dl.1 j));rw[CV] at this;exact this
def be(b x:Nat):List Nat:=(cd b x).reverse
theorem zvY(b x:Nat):(be b x).length=nd b x:=by unfold be;rw[CV,zh7]
theorem zwg(b x:Nat)(hb:2<=b):bev b (be b x)=x:=by unfold be;rw[zkB,List.reverse_reverse,zt1 b x hb]
theorem zqI(b x i:Nat)(j:i<nd b x):(be b x)[i]?=some (x/b^(nd b x-1-i)%b):=by
 unfold be;rw[List.getElem?_reverse (by rw[zh7];exact j),zh7];exact zeu b _ x _ q_o
theorem zm5(b:Nat):∀l:List Nat,bev b (l.dropWhile (· == 0))=bev b l
 | []=>rfl
 |d::l=>by
  rw[Co];split
  ·rename_i h;have:d=0:=by simpa using h
   subst this;rw[zm5 b l,bev,BJ,AR]
  ·rfl
theorem zqD(b:Nat)(hb:2<=b)(d:Nat)(l:List Nat)(j:0<d)(h:∀x∈d::l,x<b):nd b (bev b (d::l))=(d::l).length:=by
 refine zch b _ _ hb (zdR b _ h) λ_=>?_;rw[Ac,B4,bev];have:=AN (b^l.length) j;omega
theorem zg8(x:Nat)(h:0<x):0<nd 2 x/\2^(nd 2 x-1)<=x/\x<2^nd 2 x:=by
 have j:=zaE 2 x q_e;have h0:0<nd 2 x:=by
  rcases AD (nd 2 x) with h0|h0
  ·rw[h0,Ad] at j;omega
  ·exact h0
 exact⟨h0,(zdi 2 q_e x).2 h0,j⟩
def zbl(x:Nat):List Nat:=if h:x=0 then [] else (nd 2 x-1)::zbl (x-2^(nd 2 x-1))
termination_by x
decreasing_by
 have hp:0<2^(nd 2 x-1):=AP q_e;omega
theorem zlz:zbl 0= []:=by rw[zbl];rfl
theorem zjw(x:Nat)(h:0<x):zbl x=(nd 2 x-1)::zbl (x-2^(nd 2 x-1)):=by
 rw[zbl,dif_neg q_o]
def left:Nat->Nat->Nat
 |0,x=>x
 |k+1,x=>left k (x-2^(nd 2 x-1))
theorem zh8:∀k x,k<=(zbl x).length->zbl (left k x)=(zbl x).drop k
 |0,_,_=>rfl
 |k+1,x,h=>by
  rcases AD x with h0|h0
  ·subst h0;rw[zlz] at h;exact absurd h q_p
  ·rw[zjw x h0] at h ⊢;simp only[Ac] at h;exact zh8 k _ q_o
theorem zf6{k x:Nat}(h:k<(zbl x).length):0<left k x/\(zbl x)[k]=nd 2 (left k x)-1:=by
 have j:=zh8 k x q_o;rw[BK h] at j;have h0:0<left k x:=by
  rcases AD (left k x) with h0|h0
  ·rw[h0,zlz] at j;cases j
  ·exact h0
 rw[zjw _ h0] at j;exact⟨h0,(Dq j).1.symm⟩
theorem zft:∀k x,left (k+1) x=left k x-2^(nd 2 (left k x)-1)
 |0,_=>rfl
 |k+1,x=>by
  show left (k+1) (x-2^(nd 2 x-1))=_;exact zft k _
theorem zjK{x:Nat} :left (zbl x).length x=0:=by
 have j:=zh8 _ x (A4 _);rw[List.drop_length] at j;rcases AD (left (zbl x).length x) with h0|h0
 ·exact h0
 ·rw[zjw _ h0] at j;cases j
theorem zq6{k x:Nat}(hk:k<=(zbl x).length)(h:0<left k x):k<(zbl x).length:=by
 rcases AH k (zbl x).length with j|j
 ·exact j
 ·obtain rfl:k=(zbl x).length:=q_o;rw[zjK] at h;omega
theorem zjP:∀k x,k<=(zbl x).length->left k x=x%2^nd 2 (left k x)
 |0,x,_=>(A3 (zaE 2 x q_e)).symm
 |k+1,x,h=>by
  have C:=zjP k x q_o;obtain⟨E,H⟩:=zf6 (x:=x) (k:=k) h;obtain⟨I,w,F⟩:=zg8 _ E;rw[zft];generalize J:left k x=y at*;generalize nd 2 y=m at*;obtain⟨q,rfl⟩:∃q,m=q+1:=⟨m-1,by omega⟩;rw[B4] at w ⊢;have A:y-2^q=x%2^q:=by
   have B:x%2^(q+1)%2^q=x%2^q:=ED x (Nat.pow_dvd_pow 2 (Nat.le_succ q));rw[<-C] at B;rw[<-B];rw[AJ] at F;rw[Nat.mod_eq_sub_mod w,A3 q_o]
  have G:nd 2 (y-2^q)<=q:=zaQ _ _ _ q_e (by rw[A];exact A7 _ (AP q_e));have j:=zaE 2 (y-2^q) q_e;generalize nd 2 (y-2^q)=r at*;have t:x%2^q%2^r=x%2^r:=ED x (Nat.pow_dvd_pow 2 G);rw[<-t,<-A];exact(A3 j).symm
theorem zo2(k x:Nat)(h:k<=(zbl x).length):left k x<=x:=by
 rw[zjP k x h];exact EZ _ _
theorem zqQ(k x:Nat)(h:k<=(zbl x).length):x-left k x=x/2^nd 2 (left k x)*2^nd 2 (left k x):=by
 have j:=zjP k x h;have m:=AV x (2^nd 2 (left k x));rw[<-j,A8] at m;omega
structure Est(B X u0 v1 v0 q r:Nat):Prop where
 eq:q*v1+r=X
 up:X*B+u0<(q+1)*(v1*B+v0)
theorem Est.start(B X u0 j v0:Nat)(hv:0<j)(hu:u0<B):Est B X u0 j v0 (X/j) (X%j):=by
 have h0:=AV X j;have t:=A7 X hv;rw[A8] at h0;refine⟨h0,?_⟩;generalize X/j=q at*;have m:X+1<=(q+1)*j:=by rw[AM,BN];omega
 have r:=AN B m;rw[AM,BN] at r;rw[Bg,<-Ao];omega
def GA:=@Est.start
theorem zlv(B X u0 j v0 q r:Nat)(e:q*j+r=X):X*B+u0+q*v0=q*(j*B+v0)+(r*B+u0):=by
 rw[<-e,AM,Bg,<-Ao];omega
theorem zkX{B X u0 j v0 q r:Nat}(e:q*j+r=X)(h:r*B+u0<q*v0):X*B+u0<q*(j*B+v0):=by
 have:=zlv B X u0 j v0 q r e;omega
theorem zd0{B X u0 j v0 q r:Nat}(e:q*j+r=X)(h:q*v0<=r*B+u0):q*(j*B+v0)<=X*B+u0:=by
 have:=zlv B X u0 j v0 q r e;omega
theorem zgx{B X u0 V q:Nat}(m:X<V)(hu:u0<B)(r:B<=q):X*B+u0<q*V:=by
 have j:=AN B (show X+1<=V from m);have t:=AN V r;rw[AM,BN,A8 V B] at j;omega
theorem zjr{B X u0 j v0 q r:Nat}(e:q*j+r=X)(h:X*B+u0<q*(j*B+v0)):0<q/\Est B X u0 j v0 (q-1) (r+j):=by
 rcases AD q with h0|h0
 ·subst h0;rw[BJ] at h;omega
 ·refine⟨h0,?_,by rw[show q-1+1=q by omega];exact h⟩;obtain⟨p,rfl⟩:∃p,q=p+1:=⟨q-1,by omega⟩;rw[AM,BN] at e;rw[B4];omega
theorem znc{B X j v0 q r:Nat}(e:q*j+r=X)(t:X<j*B+v0)(m:v0<B)(hr:B<=r):q<B:=by
 rcases AH q B with h|h
 ·exact h
 ·have:=AN j h;rw[A8 B j] at this;omega
theorem zhz{B u0 v0 q r:Nat}(hv:v0<B)(j:q<=B)(hr:B<=r):q*v0<=r*B+u0:=by
 have m:=Ca j (BH hv);have t:=AN B hr;omega
theorem zri{B X j v0 q r:Nat}(e:q*j+r=X)(w:X<j*B+v0)(hv:B<=j*2)(t:v0<B)(m:2<=B):q<=B+1:=by
 rcases AH (B+1) q with h|h
 ·have:=AN j (show B+2<=q from h);rw[AM,A8 B j] at this;omega
 ·exact h
theorem zuE(B V N X j u0 q m:Nat)(E:N=(X*B+j)*B+u0)(h1:q=(X*B+j)/V)(h0:m=((X*B+j)%V*B+u0)/V)(w:0<V):q*B+m=N/V/\((X*B+j)%V*B+u0)%V=N%V:=by
 have r:=AV (X*B+j) V;have C:=AV ((X*B+j)%V*B+u0) V;rw[<-h1] at r;rw[<-h0] at C;have A:=A7 ((X*B+j)%V*B+u0) w;have t:N=V*(q*B+m)+((X*B+j)%V*B+u0)%V:=by
  rw[E];generalize X*B+j=Y at*;generalize Y%V=R at*;rw[<-r,Bg,AM,<-Ao];omega
 have G:N%V=((X*B+j)%V*B+u0)%V:=by
  rw[t,Dy];exact A3 A
 have F:N/V=q*B+m:=by
  rw[t,Cu w,Al A,BI]
 exact⟨F.symm,G.symm⟩
theorem zvv(W j lo s t:Nat)(r:W=2^s*2^t):(j*2^s+lo/2^t)*W+lo*2^s%W=(j*W+lo)*2^s:=by
 have m:lo/2^t=lo*2^s/W:=by
  rw[r,A8 (2^s) (2^t)];exact(CG lo (2^t) (AP q_e)).symm
 have q:=AV (lo*2^s) W;rw[<-m] at q;rw[AM,AM,A8 (lo/2^t) W,Ao,A8 (2^s) W,<-Ao];omega
theorem zvZ{W j y s lo t:Nat}(q:W=2^s*2^t)(h:j<y)(r:lo<W):j*2^s+lo/2^t<y*2^s:=by
 have w:lo/2^t<2^s:=(AW (AP q_e)).2 (by rw[<-q];exact r);have m:=AN (2^s) (show j+1<=y from h);rw[AM,BN] at m;omega
theorem zlJ(b x s t i:Nat)(hb:b=2^s*2^t):x*2^s/b^(i+1)%b=x/b^(i+1)%b*2^s%b+x/b^i%b/2^t:=by
 have r:0<2^s:=AP q_e;have j:0<2^t:=AP q_e;have w:x*2^s/b^(i+1)=x/b^i/2^t:=by
  rw[Ak,AJ,show b^i*b=b^i*2^t*2^s by rw[hb];ac_rfl];exact CG _ _ r
 have m:=AV (x/b^i) b;rw[Ak,<-AJ] at m;rw[CU] at m;have C:x/b^i%b<b:=A7 _ (by rw[hb];exact EL r j);rw[w];generalize x/b^i=a,x/b^i%b=d,x/b^(i+1)=h at*;have A:a/2^t=h*2^s+d/2^t:=by
  rw[<-m,show b*h=2^t*(h*2^s) by rw[hb];ac_rfl];exact Cu j _ _
 have E:d/2^t<2^s:=(AW j).2 (by rw[<-hb];exact C);rw[A,show h%b*2^s%b=h*2^s%b by rw[Dt,EM,<-Dt]];have B:h*2^s%b=(h%2^t)*2^s:=by
  rw[hb,A8 (2^s) (2^t)];exact Cd _ _ _
 have F:h%2^t*2^s+2^s<=b:=by
  have:=AN (2^s) (A7 h j);rw[Nat.succ_mul,A8 (2^t),<-hb] at this;exact this
 have q:=AV (h*2^s) b;rw[B] at q ⊢;rw[<-q,Az,Dy];exact A3 q_o
theorem zpV(b x s:Nat):x*2^s/b^0%b=x%b*2^s%b:=by
 rw[Ad,C7,Dz]
theorem zqO(b x s t i:Nat)(hb:b=2^s*2^t):x/2^s/b^i%b=x/b^i%b/2^s+x/b^(i+1)%b*2^t%b:=by
 have h0:x/2^s/b^i=x*2^t/b^(i+1):=by
  have j:0<2^t:=AP q_e;rw[Ak,AJ,show b^i*b=2^s*b^i*2^t by rw[hb];ac_rfl];exact(CG _ _ j).symm
 rw[h0,zlJ b x t s i (by rw[hb,A8]),CW]
structure DivJ(b k U V j q i:Nat)(l:List Nat)(c d:Nat):Prop where
 len:l.length=k
 low:∀d∈l,d<b
 rest:∀p,j+i<=p->p<k->l[p]?=some (U/b^p%b)
 car:c<b
 bit:d<=1
 sum:vl b l+q*(V%b^i)*b^j=U+(c+d)*b^(j+i)
theorem DivJ.start(b k U V j q:Nat)(hb:0<b)(m:U<b^k):DivJ b k U V j q 0 (dg b k U) 0 0:=
 ⟨zcq b k U,zgF b hb k U,λp _ r=>zeu b k U p r,hb,AE _,by rw[zdv b k U m,Ad,Bj];omega⟩
theorem DivJ.step{b k U V j q i z c d c' d':Nat}{l:List Nat}(h:DivJ b k U V j q i l c d)(B:j+i<k)(hz:z<b)(hc:c'<b)(A:d'<=1)(e:z+q*(V/b^i%b)+(c+d)=U/b^(j+i)%b+(c'+d')*b):DivJ b k U V j q (i+1) (l.set (j+i) z) c' d':=by
 have h0:=h.rest (j+i) (A4 _) B;have E:=zdU b l (j+i) _ z h0;have m:=zby b V i;have F:=h.sum;refine⟨by rw[AI,h.len],zef h.low hz,λp G C=>?_,hc,A,?_⟩
 ·rw[C9 q_o];exact h.rest p q_o C
 ·have r:(z+q*(V/b^i%b)+(c+d))*b^(j+i)=(U/b^(j+i)%b+(c'+d')*b)*b^(j+i):=by rw[e]
  have t:(c'+d')*b^(j+(i+1))=(c'+d')*b*b^(j+i):=by rw[<-Az,AJ,A8 (b^(j+i)) b,Ao]
  have w:q*(V/b^i%b*b^i)*b^j=q*(V/b^i%b)*b^(j+i):=by rw[As];ac_rfl
  rw[AM,AM,AM (U/b^(j+i)%b)] at r;rw[t,m,Bg,AM,w];omega
theorem zlm{b k c:Nat}{l:List Nat}(t:l.length=k)(m:∀d∈l,d<b)(hc:c<=k)(hz:∀p,c<=p->p<k->l[p]?=some 0):vl b l<b^c:=by
 have q:=zf5 b l c q_o;have j:l.drop c=List.replicate (k-c) 0:=by
  apply Cz;intro p;rw[Be,Br];split
  ·exact hz _ q_o q_o
  ·exact BL q_o
 rw[j,zd3,Bx,BI] at q;have r:=zeC b (l.take c) (λd j=>m d (Cj j));rw[AU,BO q_o] at r;omega
theorem DivJ.last{b k U V j q n z c d d':Nat}{l:List Nat}(h:DivJ b k U V j q n l c d)(hn:j+n<k)(E:V<b^n)(hz:z<b)(e:z+(c+d)=U/b^(j+n)%b+d'*b)(G:d'<=1):
  ∃r,l.set (j+n) z=dg b k r/\r<b^k/\r+q*V*b^j=U+d'*b^(j+n+1)/\(U<b^(j+n+1)->r<b^(j+n+1)):=by
 have t:0<b:=q_o;have m:=h.step (z:=z) (c':=0) (d':=d') hn hz t G (by rw[Al E,CC,AR];omega);have A:=zgw b _ m.low;have B:=zeC b _ m.low;rw[m.len] at A B;refine⟨_,A.symm,B,?_,λw=>zlm m.len m.low hn λp F H=>?_⟩
 ·have C:=m.sum;rw[A3 (AG E (AA t (Nat.le_succ n))),AR] at C;exact C
 ·rw[m.rest p F H,Al (AG w (AA t F)),CC]
structure ResJ(b k U V j i:Nat)(l:List Nat)(c:Nat):Prop where
 len:l.length=k
 low:∀d∈l,d<b
 rest:∀p,j+i<=p->p<k->l[p]?=some (U/b^p%b)
 bit:c<=1
 sum:vl b l+c*b^(j+i)=U+(V%b^i)*b^j
theorem ResJ.start(b k U V j:Nat)(hb:0<b)(m:U<b^k):ResJ b k U V j 0 (dg b k U) 0:=
 ⟨zcq b k U,zgF b hb k U,λp _ q=>zeu b k U p q,AE _,by rw[zdv b k U m,Ad,Bj];omega⟩
theorem ResJ.step{b k U V j i z c c':Nat}{l:List Nat}(h:ResJ b k U V j i l c)(w:j+i<k)(hz:z<b)(hc:c'<=1)(e:z+c'*b=U/b^(j+i)%b+V/b^i%b+c):ResJ b k U V j (i+1) (l.set (j+i) z) c':=by
 have h0:=h.rest (j+i) (A4 _) w;have B:=zdU b l (j+i) _ z h0;have m:=zby b V i;have C:=h.sum;refine⟨by rw[AI,h.len],zef h.low hz,λp E A=>?_,hc,?_⟩
 ·rw[C9 q_o];exact h.rest p q_o A
 ·have q:(z+c'*b)*b^(j+i)=(U/b^(j+i)%b+V/b^i%b+c)*b^(j+i):=by rw[e]
  have r:c'*b^(j+(i+1))=c'*b*b^(j+i):=by rw[<-Az,AJ,A8 (b^(j+i)) b,Ao]
  have t:V/b^i%b*b^i*b^j=V/b^i%b*b^(j+i):=by rw[As];ac_rfl
  rw[AM,AM,AM] at q;rw[r,m,AM,t];omega
theorem ResJ.last{b k U V j n z c d':Nat}{l:List Nat}(h:ResJ b k U V j n l c)(hn:j+n<k)(E:V<b^n)(hz:z<b)(hb:0<b)(e:z+d'*b=U/b^(j+n)%b+c):
  ∃m,l.set (j+n) z=dg b k m/\m<b^k/\m+d'*b^(j+n+1)=U+V*b^j/\(U<b^(j+n+1)->m<b^(j+n+1)):=by
 have h0:=h.rest (j+n) (A4 _) hn;have H:=zdU b l (j+n) _ z h0;have A:=h.sum;rw[A3 E] at A;have q:∀d∈l.set (j+n) z,d<b:=zef h.low hz;have t:=zgw b _ q;have w:=zeC b _ q;rw[AI,h.len] at t w;refine⟨_,t.symm,w,?_,λr=>zlm (by rw[AI,h.len]) q hn λp G F=>by
  rw[C9 q_o,h.rest p q_o F,Al (AG r (AA hb G)),CC]⟩
 have B:(z+d'*b)*b^(j+n)=(U/b^(j+n)%b+c)*b^(j+n):=by rw[e]
 have C:d'*b^(j+n+1)=d'*b*b^(j+n):=by rw[AJ,A8 (b^(j+n)) b,Ao]
 rw[AM,AM] at B;rw[C];omega
theorem zpU{b n j U V q m r:Nat}(hb:2<=b)(hn:2<=n)(I:V<b^n)(G:U<V*b^(j+1))(hv:r=V/b^(n-2))(hu:m=U/b^(j+n-2))(C:b<=r)(J:q<b)(h1:q*r<=m)(h2:q+1=b\/m<(q+1)*r):
  q*V<=U/b^j+V/\U/b^j<(q+1)*V:=by
 have t:0<b:=q_o;have H:0<b^(n-2):=AP t;have A:0<b^j:=AP t;have B:m=U/b^j/b^(n-2):=by
  rw[hu,Ak,<-As,show j+n-2=j+(n-2) by omega]
 have E:=AV (U/b^j) (b^(n-2));have F:=AV V (b^(n-2));rw[<-B,A8] at E;rw[<-hv,A8] at F;have w:U/b^j<b*V:=by
  rw[AW A];rw[AJ] at G;rw[show b*V*b^j=V*(b^j*b) by ac_rfl];exact G
 exact zwZ b (b^(n-2)) (U/b^j) V m r _ _ q E.symm F.symm (A7 _ H) (A7 _ H) J h1 h2 w C
theorem zrS{b _k _n j U V q t:Nat}(hb:0<b)(m:U/b^j<(q+1)*V)(e:t+q*V*b^j=U):t<V*b^j:=by
 have r:0<b^j:=AP hb;have w:U<(q+1)*V*b^j:=(AW r).1 m;rw[AM,BN,AM] at w;omega
theorem zrw{b n j U V q r m k:Nat}(hb:0<b)(C:V<b^n)(J:0<q)(w:q*V<=U/b^j+V)(A:r+q*V*b^j=U+b^(j+n+1))(h1:r<b^(j+n+1))(F:m+k*b^(j+n+1)=r+V*b^j)(h2:m<b^(j+n+1)):
  m+(q-1)*V*b^j=U/\m<V*b^j:=by
 have t:0<b^j:=AP hb;obtain⟨p,rfl⟩:∃p,q=p+1:=⟨q-1,by omega⟩;rw[B4];rw[AM,BN] at w A;rw[AM] at A;have G:p*V*b^j<=U:=(CF t).1 q_o;have H:V*b^j<=b^(j+n+1):=by
  have:=AN (b^j) (BH C);have I:b^n*b^j<=b^(j+n+1):=by
   rw[<-As];exact AA hb q_o
  omega
 have E:k=1:=by
  rcases AH k 1 with h|h
  ·obtain rfl:k=0:=q_o;omega
  ·rcases AH k 2 with B|B
   ·omega
   ·have:=AN (b^(j+n+1)) B;omega
 subst E;omega
theorem ztu{d o s Q U:Nat}(t:0<o)(e:Q*(o*2^s)+U=d*2^s)(h:U<o*2^s):Q=d/o/\U/2^s=d%o:=by
 have j:0<2^s:=AP q_e;have r:0<o*2^s:=EL t j;have m:d*2^s/(o*2^s)=Q:=by
  rw[<-e,A8 Q,Cu r,Al h,BI]
 have q:d*2^s%(o*2^s)=U:=by
  rw[<-e,A8 Q,Dy,A3 h]
 rw[CG _ _ j] at m;rw[Cd] at q;exact⟨m.symm,by rw[<-q,CJ _ j]⟩
theorem zsG{b n m d o s:Nat}(j:2<=b)(w:d<b^m)(t:b^(n-1)<=o)(hn:0<n)(hm:n<=m):d*2^s<o*2^s*b^(m-n+1):=by
 have q:b^(n-1)*b^(m-n+1)<=o*b^(m-n+1):=AN _ t;rw[<-As,show n-1+(m-n+1)=m by omega] at q;have r:d<o*b^(m-n+1):=q_o;rw[show o*2^s*b^(m-n+1)=o*b^(m-n+1)*2^s by ac_rfl];exact Bf r (AP q_e)
theorem ziU(b:Nat)(l:List Nat)(d:Nat):vl b (l++[d])=vl b l+d*b^l.length:=by
 rw[zfw];simp only[vl,Bx,BI];rw[A8]
theorem zhy{b:Nat}{l:List Nat}{d:Nat}(h:∀x∈l,x<b)(m:d<b):∀x∈l++[d],x<b:=by
 intro x q;rcases BE.1 q with j|j
 ·exact h x j
 ·rw[AF.1 j];exact m
theorem zm0(b:Nat)(hb:2<=b)(l:List Nat)(n:Nat)(C:∀d∈l,d<b)(hn:n<=l.length)(hz:∀p,n<=p->p<l.length->l[p]?=some 0)(h:n=0\/∃d,l[n-1]?=some d/\d≠0):
  nd b (vl b l)=n/\l.take n=cd b (vl b l):=by
 have r:=zf5 b l n hn;have j:l.drop n=List.replicate (l.length-n) 0:=by
  apply Cz;intro p;rw[Be,Br];split
  ·exact hz _ q_o q_o
  ·exact BL q_o
 rw[j,zd3,Bx,BI] at r;have t:(l.take n).length=n:=by rw[AU];omega
 have m:∀d∈l.take n,d<b:=λd j=>C d (Cj j);have w:=zeC b (l.take n) m;have A:=zgw b (l.take n) m;rw[t,<-r] at w A;have q:nd b (vl b l)=n:=by
  refine zch b _ _ hb w λF=>?_;rcases h with h|⟨d,j,h0⟩
  ·omega
  ·have B:=zh9 b l (n-1) d j;rw[show n-1+1=n by omega,<-r] at B;have E:b^(n-1)<=d*b^(n-1):=BZ _ q_o;omega
 exact⟨q,by unfold cd;rw[q,A]⟩
theorem zq8(j:List Nat)(i u v:Nat)(ds:List Nat)(hu:j[i+1]?=some u)(hv:j[i]?=some v)(w:j.length=i+2+2*ds.length)(h:vl 65536 ds=bev 256 (j.drop (i+2))):
  vl 65536 (ds++[u+256*v])=bev 256 (j.drop i):=by
 have q:j.drop i=v::j.drop (i+1):=by
  have m:i<j.length:=q_o;rw[BK m];rw[A1 m] at hv;rw[Ap hv]
 have r:j.drop (i+1)=u::j.drop (i+2):=by
  have m:i+1<j.length:=q_o;rw[BK m];rw[A1 m] at hu;rw[Ap hu]
 have t:(j.drop (i+2)).length=2*ds.length:=by rw[B5];omega
 rw[ziU,q,r,h];simp only[bev,Ac];rw[t,show(65536:Nat)=256^2 from rfl,<-B8,AJ,AM];rw[show v*(256^(2*ds.length)*256)=256*v*256^(2*ds.length) by ac_rfl];omega
theorem zqK(j:List Nat)(u:Nat)(ds:List Nat)(hu:j[0]?=some u)(m:j.length=1+2*ds.length)(h:vl 65536 ds=bev 256 (j.drop 1)):
  vl 65536 (ds++[u])=bev 256 j:=by
 cases j with
 |nil=>simp at hu
 |cons d l=>
  simp only[C8,Bo] at hu;subst hu;simp only[Ac] at m;rw[ziU,h];simp only[E5,Cb,bev];rw[show l.length=2*ds.length by omega,show(65536:Nat)=256^2 from rfl,<-B8];omega
structure OutJ(b T i:Nat)(l:List Nat)(c:Nat):Prop where
 len:l.length=i
 low:∀d∈l,d<b
 sum:vl b l+c*b^i=T
theorem OutJ.start(b:Nat):OutJ b 0 0 [] 0:=⟨rfl,(λ_ h=>by cases h),rfl⟩
theorem OutJ.step{b T T' i t:Nat}{l:List Nat}{c:Nat}(h:OutJ b T i l c)(hb:0<b)(e:T'+c*b^i=T+t*b^i):OutJ b T' (i+1) (l++[t%b]) (t/b):=by
 refine⟨by rw[A2,h.len];rfl,zhy h.low (A7 _ hb),?_⟩;have q:=h.sum;have j:=AV t b;rw[ziU,h.len];have m:t/b*b^(i+1)=b*(t/b)*b^i:=by rw[AJ];ac_rfl
 have r:t*b^i=b*(t/b)*b^i+t%b*b^i:=by rw[<-AM,j]
 rw[m];omega
theorem ztg(b x y i c:Nat):x%b^(i+1)+y%b^(i+1)+c*b^i=x%b^i+y%b^i+(x/b^i%b+y/b^i%b+c)*b^i:=by
 rw[zby,zby,AM,AM];omega
theorem ztr(b x m i c:Nat):x%b^(i+1)*m+c*b^i=x%b^i*m+(x/b^i%b*m+c)*b^i:=by
 rw[zby,AM,AM,Nat.mul_right_comm];omega
structure OutS(b x y i:Nat)(l:List Nat)(c:Nat):Prop where
 len:l.length=i
 low:∀d∈l,d<b
 bit:c<=1
 sum:vl b l+y%b^i=x%b^i+c*b^i
theorem OutS.start(b x y:Nat):OutS b x y 0 [] 0:=⟨rfl,(λ_ h=>by cases h),AE _,by simp[vl,Bj]⟩
theorem OutS.step{b x y i c t c':Nat}{l:List Nat}(h:OutS b x y i l c)(q:t<b)(hc:c'<=1)(e:t+y/b^i%b+c=x/b^i%b+c'*b):OutS b x y (i+1) (l++[t]) c':=by
 refine⟨by rw[A2,h.len];rfl,zhy h.low q,hc,?_⟩;have r:=h.sum;have j:(t+y/b^i%b+c)*b^i=(x/b^i%b+c'*b)*b^i:=by rw[e]
 have m:c'*b^(i+1)=c'*b*b^i:=by rw[AJ,A8 (b^i) b,Ao]
 rw[AM,AM,AM] at j;rw[ziU,h.len,zby,zby,m];omega
theorem OutS.done{b x y i c:Nat}{l:List Nat}(h:OutS b x y i l c)(hx:x<b^i)(q:y<=x):vl b l=x-y:=by
 have j:=h.sum;have m:=zeC b l h.low;rw[h.len] at m;rw[A3 hx,A3 q_o] at j;have:c=0:=by
  rcases AD c with h0|h0
  ·exact h0
  ·have:=AN (b^i) h0;rw[BN] at this;omega
 subst this;omega
structure MulK(b k x y i j:Nat)(l:List Nat)(c:Nat):Prop where
 len:l.length=k
 low:∀d∈l,d<b
 car:c<b
 sum:vl b l+c*b^(i+j)=(x%b^i)*y+(x/b^i%b)*b^i*(y%b^j)
theorem MulK.start(b k x y:Nat)(hb:0<b):MulK b k x y 0 0 (List.replicate k 0) 0:=
 ⟨AK,λd j=>by rw[(DX.1 j).2];exact hb,hb,by rw[zd3];simp[Bj]⟩
theorem MulK.step{b k x y i j c u z c':Nat}{l:List Nat}(h:MulK b k x y i j l c)(hu:l[i+j]?=some u)(hz:z<b)(hc:c'<b)(e:z+c'*b=u+(x/b^i%b)*(y/b^j%b)+c):MulK b k x y i (j+1) (l.set (i+j) z) c':=by
 have w:=zdU b l (i+j) _ z hu;have m:=zby b y j;have A:=h.sum;refine⟨by rw[AI,h.len],zef h.low hz,hc,?_⟩;have q:(z+c'*b)*b^(i+j)=(u+(x/b^i%b)*(y/b^j%b)+c)*b^(i+j):=by rw[e]
 have r:c'*b^(i+(j+1))=c'*b*b^(i+j):=by rw[<-Az,AJ,A8 (b^(i+j)) b,Ao]
 have t:(x/b^i%b)*b^i*((y/b^j%b)*b^j)=(x/b^i%b)*(y/b^j%b)*b^(i+j):=by
  rw[As];ac_rfl
 rw[AM,AM,AM] at q;rw[r,m,Bg,t];omega
theorem MulK.row{b k x y i j:Nat}{l:List Nat}(h:MulK b k x y i j l 0)(r:y<b^j)(hb:0<b):MulK b k x y (i+1) 0 l 0:=by
 have q:=h.sum;have m:=zby b x i;rw[A3 r] at q;refine⟨h.len,h.low,hb,?_⟩;rw[m,Ad,Bj,Bx,AM];omega
theorem MulK.place{b k x y i j c m:Nat}{l:List Nat}(h:MulK b k x y i j l c)(hb:0<b)(t:y<b^m)(hm:m<=j)(hc:0<c):j<=m:=by
 have A:=h.sum;have w:=zby b x i;have q:y<b^j:=AG t (AA hb hm);rw[A3 q,<-AM,<-w] at A;have B:x%b^(i+1)<b^(i+1):=A7 _ (AP hb);have E:x%b^(i+1)*y<=b^(i+1)*y:=AN _ (BH B);have C:b^(i+1)*y<b^(i+1)*b^m:=DC t (AP hb);rw[<-As] at C;have F:b^(i+j)<=c*b^(i+j):=BZ _ hc;rcases AH m j with r|r
 ·have:=AA (n:=b) hb (show i+1+m<=i+j by omega);omega
 ·exact r
theorem MulK.done{b k x y n:Nat}{l:List Nat}(h:MulK b k x y n 0 l 0)(hx:x<b^n):vl b l=x*y:=by
 have j:=h.sum;rw[A3 hx,Ad,Bj,Bx] at j;omega
theorem zsi{b x y t c:Nat}(hx:x<b)(q:y<b)(m:t<b)(hc:c<b):(t+x*y+c)/b<b:=by
 refine(AW q_o).2 ?_;have j:=Ca (show x<=b-1 by omega) (show y<=b-1 by omega);obtain⟨p,rfl⟩:∃p,b=p+1:=⟨b-1,by omega⟩;rw[B4] at j;rw[AM,Bg];omega
theorem zpO{b n R V t d:Nat}(w:0<d)(r:V/b^n=d)(q:R/b^n=t)(hb:0<b):R/V<=t/d:=by
 have A:0<b^n:=AP hb;have m:d*b^n<=V:=by rw[<-r];exact DN V _
 have j:R/V<=R/(d*b^n):=Nat.div_le_div_left m (EL w A);rw[A8,<-Ak,q] at j;exact j
end Go.Nt
