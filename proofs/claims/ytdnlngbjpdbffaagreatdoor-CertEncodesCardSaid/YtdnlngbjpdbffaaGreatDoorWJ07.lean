/- Lemmas of this proof. -/
import Derived.Test.YtdnlngbjpdbffaaGreatDoorWJ00
set_option linter.all false
namespace Go.Nt
def vl(b:Nat):List Nat->Nat
 | []=>0
 |d::l=>d+b*vl b l
def dg(b:Nat):Nat->Nat->List Nat
 |0,_=>[]
 |k+1,x=>x%b::dg b k (x/b)
theorem zcU(b:Nat):∀k x,(dg b k x).length=k
 |0,_=>rfl
 |k+1,x=>by simp[dg,AQ,zcU]
theorem zgE(x b i:Nat):x/b/b^i=x/b^(i+1):=by simp[Ap,AN,AK]
theorem zfc(b:Nat):∀k x i,i<k->(dg b k x)[i]?=some (x/b^i%b)
 |k+1,x,0,_=>by simp[dg]
 |k+1,x,i+1,h=>by
  simp only[dg,B9];rw[zfc b k (x/b) i q_o,zgE]
theorem zvS(b:Nat):∀k x,vl b (dg b k x)=x%b^k
 |0,x=>by simp[dg,vl,C0]
 |k+1,x=>by simp[dg,vl,zvS,AN,AK,Nat.mod_mul]
theorem zeA(b k x:Nat)(h:x<b^k):vl b (dg b k x)=x:=by rw[zvS,A7 h]
theorem zg9(b:Nat):∀l:List Nat,(∀d∈l,d<b)->dg b l.length (vl b l)=l
 | [],_=>rfl
 |d::l,h=>by
  have j:d<b:=h d A3;have m:0<b:=q_o;simp only[AQ,dg,vl];rw[D9,A7 j,Df _ _ m,Al j,AZ,zg9 b l (λx q=>h x (A4 _ q))]
theorem zfa(b:Nat):∀l:List Nat,(∀d∈l,d<b)->vl b l<b^l.length
 | [],_=>by simp[vl]
 |d::l,h=>by
  have r:d<b:=h d A3;have j:=zfa b l (λx m=>h x (A4 _ m));have q:b*(vl b l+1)<=b*b^l.length:=CL b j
  grind [vl]
theorem zhe(b:Nat)(hb:0<b):∀k x,∀d∈dg b k x,d<b
 |0,_,d,h=>by cases h
 |k+1,x,d,h=>by
  rcases AS.1 h with rfl|h
  ·exact AC _ hb
  ·exact zhe b hb k _ d h
theorem zyl(b k x y:Nat)(hx:x<b^k)(j:y<b^k)(h:dg b k x=dg b k y):x=y:=by grind [zeA]
theorem zgs(b:Nat):∀k,dg b k 0=List.replicate k 0
 |0=>rfl
 |k+1=>by simp[dg,CA,EG,zgs,DA]
theorem zhR(b:Nat):∀k x j e,x/b^j%b+e<b->(dg b k x).set j (x/b^j%b+e)=dg b k (x+e*b^j)
 |0,x,j,e,_=>by simp[dg]
 |k+1,x,0,e,h=>by
  rw[An,CF] at h ⊢;rw[Ak];have q:0<b:=q_o;have m:x+e=x%b+e+b*(x/b):=by have:=Nat.mod_add_div x b;omega
  simp only[dg,DE];rw[m,D9,A7 h,Df _ _ q,Al h,AZ]
 |k+1,x,j+1,e,h=>by
  have q:0<b:=q_o;rw[<-zgE] at h ⊢;simp only[dg,Dw];have m:x+e*b^(j+1)=x+b*(e*b^j):=by rw[AN,<-B7,AK]
  rw[m,D9,Df _ _ q,zhR b k (x/b) j e h]
theorem ziP(b:Nat):∀j k x,dg b (j+k) x=dg b j x++dg b k (x/b^j)
 |0,k,x=>by simp[dg]
 |j+1,k,x=>by
  rw[show j+1+k=(j+k)+1 from by omega];simp only[dg,Ab];rw[ziP b j k (x/b),zgE]
theorem zxM(b k j x:Nat)(h:j<=k):(dg b k x).take j=dg b j x:=by
 obtain⟨i,rfl⟩:∃i,k=j+i:=⟨k-j,by omega⟩;simp[ziP,Cb,zcU,A6,A8]
theorem zgd(b:Nat):∀l m:List Nat,vl b (l++m)=vl b l+b^l.length*vl b m
 | [],m=>by simp[vl]
 |d::l,m=>by
  simp only[Ab,vl,AQ,zgd b l m]
  grind
def nd(b x:Nat):Nat:=if h:x=0\/b<2 then 0 else nd b (x/b)+1
termination_by x
decreasing_by
 have hx:0<x:=q_o;exact EN hx q_o
theorem zbZ(b:Nat):nd b 0=0:=by rw[nd];simp
theorem zyn(b x:Nat)(hb:2<=b)(hx:0<x):nd b x=nd b (x/b)+1:=by
 rw[nd,dif_neg q_o]
theorem zdR(b:Nat)(hb:2<=b):∀x,x<b^nd b x/\(0<nd b x->b^(nd b x-1)<=x):=by
 intro x
 induction x using Nat.strongRecOn with
 |_ x m=>
  rcases AD x with rfl|j
  ·simp[zbZ,absurd]
  ·rw[zyn b x hb j];obtain⟨q,r⟩:=m (x/b) (EN j q_o);refine⟨?_,λ_=>?_⟩
   ·grind [Nat.pow_succ,Nat.div_lt_iff_lt_mul]
   ·rw[Au];rcases AD (nd b (x/b)) with h0|h0
    ·rw[h0,An];exact j
    grind [Nat.le_div_iff_mul_le,Nat.pow_succ,Nat.succ_eq_add_one,Nat.sub_add_cancel]
theorem zaS(b x:Nat)(hb:2<=b):x<b^nd b x:=(zdR b hb x).1
theorem zbc(b x n:Nat)(hb:2<=b)(h:x<b^n):nd b x<=n:=by
 rcases AF n (nd b x) with j|j
 ·have m:=(zdR b hb x).2 q_o;have q:=AB (show 0<b by omega) (show n<=nd b x-1 by omega);omega
 ·exact j
theorem zct(b x n:Nat)(hb:2<=b)(h1:x<b^n)(h2:0<n->b^(n-1)<=x):nd b x=n:=by
 have j:=zbc b x n hb h1;rcases AF (nd b x) n with h|h
 ·have m:=h2 q_o;have q:=AB (show 0<b by omega) (show nd b x<=n-1 by omega);have r:=zaS b x hb;omega
 ·omega
theorem zq9(b x:Nat)(hb:2<=b):nd b x=0↔x=0:=by
 refine⟨λh=>?_,λh=>by rw[h,zbZ]⟩;have:=zaS b x hb
 simp_all
theorem zom(k x:Nat)(hk:0<k):nd (2^k) x=(nd 2 x+(k-1))/k:=by
 have j:2<=2^k:=by
  have:=AB (show 0<2 by decide) hk;simpa using this
 obtain⟨A,B⟩:=zdR 2 (A6 _) x;have m:nd 2 x<=k*((nd 2 x+(k-1))/k)/\(0<nd 2 x->k*((nd 2 x+(k-1))/k-1)<=nd 2 x-1)/\(nd 2 x=0->(nd 2 x+(k-1))/k=0):=by
  have C:=Aa (nd 2 x+(k-1)) k;have E:=AC (nd 2 x+(k-1)) hk;refine⟨by omega,λh=>?_,λh=>?_⟩
  ·rw[Nat.mul_sub,Ak];omega
  ·simp_all
 obtain⟨q,r,w⟩:=m;refine zct _ _ _ j ?_ λF=>?_
 ·rw[<-BE]
  grind [Nat.lt_of_lt_of_le,Nat.pow_le_pow_right]
 ·have h0:0<nd 2 x:=by
   rcases AD (nd 2 x) with h|h
   ·omega
   ·exact h
  rw[<-BE]
  grind [Nat.le_trans,Nat.pow_le_pow_right]
def cd(b x:Nat):List Nat:=dg b (nd b x) x
theorem zi1(b x:Nat):(cd b x).length=nd b x:=zcU _ _ _
theorem zvR(b x:Nat)(hb:2<=b):vl b (cd b x)=x:=zeA _ _ _ (zaS b x hb)
theorem zi6(b:Nat):∀(l:List Nat) (i x:Nat),l[i]?=some x->vl b (l.take (i+1))=vl b (l.take i)+x*b^i
 | [],i,x,h=>by simp at h
 |d::l,0,x,h=>by
  simp only[C6,Bp] at h;subst h;simp[vl]
 |d::l,i+1,x,h=>by
  rw[B9] at h;have:=zi6 b l i x h;simp only[By,vl];rw[this,CV,AN,AK (b^i) b,<-B7 b,AK b x,B7 x,BI]
theorem zer(b:Nat):∀(l:List Nat) (i x y:Nat),l[i]?=some x->vl b (l.set i y)+x*b^i=vl b l+y*b^i
 | [],i,x,y,h=>by simp at h
 |d::l,0,x,y,h=>by
  simp only[C6,Bp] at h;subst h;simp only[DE,vl,An,Ak];omega
 |d::l,i+1,x,y,h=>by
  rw[B9] at h;have:=zer b l i x y h;simp only[Dw,vl];have j:b*(vl b (l.set i y)+x*b^i)=b*(vl b l+y*b^i):=by rw[this]
  rw[CV,CV] at j;have m:x*b^(i+1)=b*(x*b^i):=by rw[AN,<-B7,AK]
  have q:y*b^(i+1)=b*(y*b^i):=by rw[AN,<-B7,AK]
  omega
theorem zgH(b:Nat)(l:List Nat)(j:Nat)(h:j<=l.length):vl b l=vl b (l.take j)+b^j*vl b (l.drop j):=by grind [zgd,List.take_append_drop,List.length_take,Nat.min_eq_left]
theorem zeY{b:Nat}{l:List Nat}(h:∀d∈l,d<b){i x:Nat}(hx:x<b):∀d∈l.set i x,d<b:=λd j=>by grind
theorem zeH(b:Nat):∀k,vl b (List.replicate k 0)=0
 |0=>rfl
 |k+1=>by simp[List.replicate_succ,vl,zeH,Nat.mul_zero]
theorem zzK(B P U V j m C r q:Nat)(L:U=j*P+C)(I:V=m*P+r)(H:C<P)(A:r<P)(J:q<B)(h1:q*m<=j)(h2:q+1=B\/j<(q+1)*m)(w:U<B*V)(hv:B<=m):q*V<=U+V/\U<(q+1)*V:=by
 have G:B*P<=V:=by
  have:=AP P hv;omega
 constructor
 ·have E:q*V=q*m*P+q*r:=by rw[I,CV,B7]
  have F:q*m*P<=j*P:=AP P h1;have K:q*r<=B*P:=CN (BP J) (BP A);omega
 ·rcases h2 with h2|h2
  ·rw[h2];exact w
  ·have E:(j+1)*P<=(q+1)*m*P:=AP P h2;have F:(q+1)*m*P<=(q+1)*V:=by
    rw[B7];exact CL _ q_o
   grind
theorem zgC(U V q:Nat)(h1:q*V<=U)(h2:U<(q+1)*V):U/V=q/\U%V=U-q*V:=by
 rw[Nat.add_mul,Nat.one_mul] at h2
 grind [Nat.div_eq_iff,Nat.div_add_mod,Nat.mul_comm]
theorem zyi(B q v c j lo r k:Nat)(E:q<B)(hv:v<B)(hc:c<B)(h1:q*v=j*B+lo)(h2:r+k*B=lo+c):j+k<B:=by
 have w:q*v<=(B-1)*(B-1):=CN q_o q_o;have A:(j+k)*B<=q*v+c:=by rw[B2];omega
 rcases AF (j+k) B with h|h
 ·exact h
 ·have C:B*B<=(j+k)*B:=AP B h;obtain⟨m,rfl⟩:∃m,B=m+1:=⟨B-1,by omega⟩
  grind
theorem zbU(b x i:Nat):x%b^(i+1)=x%b^i+(x/b^i%b)*b^i:=by grind [Nat.pow_succ,Nat.mod_mul,Nat.mul_comm]
structure AddJ(b k x y i:Nat)(l:List Nat)(c:Nat):Prop where
 len:l.length=k
 low:∀d∈l,d<b
 rest:∀j,i<=j->j<k->l[j]?=some (x/b^j%b)
 bit:c<=1
 sum:vl b l+c*b^i=x+y%b^i
theorem AddJ.start(b k x y:Nat)(hb:0<b)(hx:x<b^k):AddJ b k x y 0 (dg b k x) 0:=
 ⟨zcU b k x,zhe b hb k x,λj _ m=>zfc b k x j m,A9 _,by rw[zeA b k x hx,An,C0]⟩
theorem AddJ.step{b k x y i c z c':Nat}{l:List Nat}(h:AddJ b k x y i l c)(m:i<k)(hz:z<b)(hc:c'<=1)(e:z+c'*b=x/b^i%b+y/b^i%b+c):AddJ b k x y (i+1) (l.set i z) c':=by
 have h0:=h.rest i (A6 _) m;have r:=zer b l i _ z h0;have w:=zbU b y i;have A:=h.sum;refine⟨by rw[AO,h.len],zeY h.low hz,λj B q=>?_,hc,?_⟩
 ·rw[C7 q_o];exact h.rest j q_o q
 grind
theorem AddJ.done{b k x y c:Nat}{l:List Nat}(h:AddJ b k x y k l c)(r:y<b^k):l=dg b k (vl b l)/\vl b l<b^k/\vl b l+c*b^k=x+y:=by
 have j:=zg9 b l h.low;have m:=zfa b l h.low;rw[h.len] at j m;have q:=h.sum
 grind [Nat.mod_eq_of_lt]
structure SubJ(b k x y i:Nat)(l:List Nat)(c:Nat):Prop where
 len:l.length=k
 low:∀d∈l,d<b
 rest:∀j,i<=j->j<k->l[j]?=some (x/b^j%b)
 bit:c<=1
 sum:vl b l+y%b^i=x+c*b^i
theorem SubJ.start(b k x y:Nat)(hb:0<b)(hx:x<b^k):SubJ b k x y 0 (dg b k x) 0:=
 ⟨zcU b k x,zhe b hb k x,λj _ m=>zfc b k x j m,A9 _,by rw[zeA b k x hx,An,C0]⟩
theorem SubJ.step{b k x y i c z c':Nat}{l:List Nat}(h:SubJ b k x y i l c)(m:i<k)(hz:z<b)(hc:c'<=1)(e:z+y/b^i%b+c=x/b^i%b+c'*b):SubJ b k x y (i+1) (l.set i z) c':=by
 have h0:=h.rest i (A6 _) m;have r:=zer b l i _ z h0;have w:=zbU b y i;have A:=h.sum;refine⟨by rw[AO,h.len],zeY h.low hz,λj B q=>?_,hc,?_⟩
 ·rw[C7 q_o];exact h.rest j q_o q
 grind
theorem SubJ.done{b k x y c:Nat}{l:List Nat}(h:SubJ b k x y k l c)(r:y<b^k):l=dg b k (vl b l)/\vl b l<b^k/\vl b l+y=x+c*b^k:=by
 have j:=zg9 b l h.low;have m:=zfa b l h.low;rw[h.len] at j m;have q:=h.sum
 grind [Nat.mod_eq_of_lt]
structure MulJ(b k x y n m i j:Nat)(l:List Nat)(c:Nat):Prop where
 len:l.length=k
 low:∀d∈l,d<b
 zero:∀q,i+m<=q->q<k->l[q]?=some 0
 car:c<b
 sum:vl b l+c*b^(i+j)=(x%b^i)*y+(x/b^i%b)*b^i*(y%b^j)
theorem MulJ.start(b k x y n m:Nat)(hb:0<b):MulJ b k x y n m 0 0 (List.replicate k 0) 0:=
 ⟨AJ,λd j=>by simp_all,λq _ r=>by simp_all,hb,by rw[zeH];simp[C0]⟩
theorem MulJ.step{b k x y n m i j c u z c':Nat}{l:List Nat}(h:MulJ b k x y n m i j l c)(r:i+m<=k)(hj:j<m)(hu:l[i+j]?=some u)(hz:z<b)(hc:c'<b)(e:z+c'*b=(x/b^i%b)*(y/b^j%b)+u+c):MulJ b k x y n m i (j+1) (l.set (i+j) z) c':=by
 have B:=zer b l (i+j) _ z hu;have C:=zbU b y j;have E:=h.sum;refine⟨by rw[AO,h.len],zeY h.low hz,λq A w=>?_,hc,?_⟩
 ·rw[C7 q_o];exact h.zero q A w
 grind
theorem MulJ.row{b k x y n m i c:Nat}{l:List Nat}(h:MulJ b k x y n m i m l c)(hk:i+m<k)(w:y<b^m):MulJ b k x y n m (i+1) 0 (l.set (i+m) c) 0:=by
 have h0:=h.zero (i+m) (A6 _) hk;have A:=zer b l (i+m) _ c h0;have B:=zbU b x i;have j:=h.sum;have r:0<b:=B1 (A9 _) h.car;refine⟨by rw[AO,h.len],zeY h.low h.car,λq C hk=>?_,r,?_⟩
 ·rw[C7 q_o];exact h.zero q q_o hk
 ·rw[A7 w] at j
  grind
theorem MulJ.done{b k x y n m:Nat}{l:List Nat}(h:MulJ b k x y n m n 0 l 0)(hx:x<b^n):vl b l=x*y:=by
 have j:=h.sum;rw[Nat.mod_eq_of_lt hx,Nat.pow_zero,Nat.mod_one,Nat.mul_zero] at j;omega
theorem or_add(a c s:Nat)(h:c<2^s):a*2^s ||| c=a*2^s+c:=by grind [Nat.two_pow_add_eq_or_of_lt,Nat.mul_comm]
theorem zfT(b x y i:Nat)(r:0<b)(e:x/b^(i+1)=y/b^(i+1))(h:x/b^i%b<y/b^i%b):x<y:=by
 have w:x/b^i<y/b^i:=by
  have j:=Aa (x/b^i) b;have q:=Aa (y/b^i) b;rw[Ap,<-AN] at j q;rw[Dl] at j q;rw[e] at j;omega
 exact Nat.lt_of_not_le λm=>by
  have:=EW (c:=b^i) m;omega
theorem zox(b x y i:Nat)(e:x/b^(i+1)=y/b^(i+1))(h:x/b^i%b=y/b^i%b):x/b^i=y/b^i:=by grind [Nat.div_add_mod,Nat.div_div_eq_div_mul,Nat.pow_succ,Nat.succ_eq_add_one]
theorem ziF(b p r k:Nat):b^(k*p+r)=(b^k)^p*b^r:=by rw[Av,BE]
theorem zkq(b k x p r:Nat)(hr:r<k):x/(b^k)^p%b^k/b^r%b=x/b^(k*p+r)%b:=by
 rw[ziF,<-Ap];generalize x/(b^k)^p=y;have e:b^k=b^r*b^(k-r):=by rw[<-Av];congr 1;omega
 rw[e,Nat.mod_mul_right_div_self];refine Nat.mod_mod_of_dvd _ ?_;obtain⟨m,j⟩:∃m,k-r=m+1:=⟨k-r-1,by omega⟩;rw[j,AN];exact Nat.dvd_mul_left _ _
theorem zsq(b k A p r v:Nat)(hr:r<k)(hv:v<b):(A*b^(k*p+r+1))/(b^k)^p%b^k=A%b^(k-(r+1))*b^(r+1)/\A%b^(k-(r+1))*b^(r+1)+v*b^r<b^k:=by
 have q:0<b:=q_o;have w:A*b^(k*p+r+1)=A*b^(r+1)*(b^k)^p:=by
  rw[BI,ziF];ac_rfl
 have e:b^k=b^(r+1)*b^(k-(r+1)):=by rw[<-Av];congr 1;omega
 constructor
 ·grind [Nat.mul_div_cancel,Nat.pow_pos,Nat.mul_comm,Nat.mul_mod_mul_left]
 ·have j:A%b^(k-(r+1))+1<=b^(k-(r+1)):=AC _ (AV q);have m:=AP (b^(r+1)) j;rw[B2,Bo,AK (b^(k-(r+1))),<-e] at m;have B:(v+1)*b^r<=b*b^r:=AP _ hv
  grind
def bev(b:Nat):List Nat->Nat
 | []=>0
 |d::l=>d*b^l.length+bev b l
theorem zia(b:Nat):∀l m:List Nat,bev b (l++m)=bev b l*b^m.length+bev b m
 | [],m=>by simp[bev]
 |d::l,m=>by simp[Ab,bev,zia,A2,Av,B2,B7,BI]
theorem zlN(b:Nat):∀l:List Nat,bev b l=vl b l.reverse
 | []=>rfl
 |d::l=>by
  rw[Cj,zgd,Bz,bev,zlN b l]
  grind [vl]
theorem ze6(b:Nat)(l:List Nat)(h:∀d∈l,d<b):bev b l<b^l.length:=by grind [zlN,zfa,List.length_reverse]
def be(b x:Nat):List Nat:=(cd b x).reverse
theorem zyR(b x:Nat):(be b x).length=nd b x:=by simp[be,Bz,zi1]
theorem zys(b x:Nat)(hb:2<=b):bev b (be b x)=x:=by grind [be,zlN,List.reverse_reverse,zvR]
theorem ztj(b x i:Nat)(j:i<nd b x):(be b x)[i]?=some (x/b^(nd b x-1-i)%b):=by
 unfold be;rw[List.getElem?_reverse (by rw[zi1];exact j),zi1];exact zfc b _ x _ q_o
theorem znV(b:Nat):∀l:List Nat,bev b (l.dropWhile (· == 0))=bev b l
 | []=>rfl
 |d::l=>by
  rw[CY];split
  ·rename_i h;have:d=0:=by simpa using h
   subst this;simp[znV,bev,BF,AZ]
  ·rfl
theorem zsK(b:Nat)(hb:2<=b)(d:Nat)(l:List Nat)(j:0<d)(h:∀x∈d::l,x<b):nd b (bev b (d::l))=(d::l).length:=by
 refine zct b _ _ hb (ze6 b _ h) λ_=>?_;rw[AQ,Au,bev];have:=AP (b^l.length) j;omega
theorem zhw(x:Nat)(h:0<x):0<nd 2 x/\2^(nd 2 x-1)<=x/\x<2^nd 2 x:=by
 have j:=zaS 2 x q_e;have h0:0<nd 2 x:=by
  rcases AD (nd 2 x) with h0|h0
  ·simp_all
  ·exact h0
 grind [zdR]
def zbB(x:Nat):List Nat:=if h:x=0 then [] else (nd 2 x-1)::zbB (x-2^(nd 2 x-1))
termination_by x
decreasing_by
 grind
theorem zmx:zbB 0= []:=by rw[zbB];rfl
theorem zoc(x:Nat)(h:0<x):zbB x=(nd 2 x-1)::zbB (x-2^(nd 2 x-1)):=by
 rw[zbB,dif_neg q_o]
def left:Nat->Nat->Nat
 |0,x=>x
 |k+1,x=>left k (x-2^(nd 2 x-1))
theorem ziM:∀k x,k<=(zbB x).length->zbB (left k x)=(zbB x).drop k
 |0,_,_=>rfl
 |k+1,x,h=>by
  rcases AD x with h0|h0
  ·subst h0;rw[zmx] at h;exact absurd h q_p
  ·rw[zoc x h0] at h ⊢;simp only[AQ] at h;exact ziM k _ q_o
theorem zgP{k x:Nat}(h:k<(zbB x).length):0<left k x/\(zbB x)[k]=nd 2 (left k x)-1:=by grind [ziM,List.drop_eq_getElem_cons,left,Nat.eq_zero_or_pos,zmx,zoc,List.cons.inj]
theorem zf8:∀k x,left (k+1) x=left k x-2^(nd 2 (left k x)-1)
 |0,_=>rfl
 |k+1,x=>by
  show left (k+1) (x-2^(nd 2 x-1))=_;exact zf8 k _
theorem zku{x:Nat} :left (zbB x).length x=0:=by
 have j:=ziM _ x (A6 _)
 grind [left,zbB]
theorem zs6{k x:Nat}(hk:k<=(zbB x).length)(h:0<left k x):k<(zbB x).length:=by
 rcases AF k (zbB x).length with j|j
 ·exact j
 ·obtain rfl:k=(zbB x).length:=q_o;rw[zku] at h;omega
theorem zkc:∀k x,k<=(zbB x).length->left k x=x%2^nd 2 (left k x)
 |0,x,_=>(A7 (zaS 2 x q_e)).symm
 |k+1,x,h=>by
  have w:=zkc k x q_o;obtain⟨A,C⟩:=zgP (x:=x) (k:=k) h;obtain⟨E,j,B⟩:=zhw _ A;rw[zf8];generalize G:left k x=y at*;generalize nd 2 y=m at*;obtain⟨q,rfl⟩:∃q,m=q+1:=⟨m-1,by omega⟩;rw[Au] at j ⊢;have F:y-2^q=x%2^q:=by
   have r:x%2^(q+1)%2^q=x%2^q:=Nat.mod_mod_of_dvd x (Nat.pow_dvd_pow 2 (Nat.le_succ q));rw[<-w] at r;rw[<-r];rw[AN] at B;rw[Nat.mod_eq_sub_mod j,A7 q_o]
  grind [nd,zbc,Nat.mod_lt,Nat.pow_pos,zaS,Nat.mod_mod_of_dvd,Nat.pow_dvd_pow,Nat.mod_eq_of_lt]
theorem zqC(k x:Nat)(h:k<=(zbB x).length):left k x<=x:=by
 rw[zkc k x h];exact EH _ _
theorem zsY(k x:Nat)(h:k<=(zbB x).length):x-left k x=x/2^nd 2 (left k x)*2^nd 2 (left k x):=by grind [zkc,Nat.div_add_mod,nd,left,Nat.mul_comm]
structure Est(B X u0 v1 v0 q r:Nat):Prop where
 eq:q*v1+r=X
 up:X*B+u0<(q+1)*(v1*B+v0)
theorem Est.start(B X u0 j v0:Nat)(hv:0<j)(hu:u0<B):Est B X u0 j v0 (X/j) (X%j):=by
 have h0:=Aa X j;have w:=AC X hv;rw[AK] at h0;refine⟨h0,?_⟩;generalize X/j=q at*;have m:X+1<=(q+1)*j:=by rw[B2,Bo];omega
 have r:=AP B m
 grind
def Fy:=@Est.start
theorem zmn(B X u0 j v0 q r:Nat)(e:q*j+r=X):X*B+u0+q*v0=q*(j*B+v0)+(r*B+u0):=by grind
theorem zlV{B X u0 j v0 q r:Nat}(e:q*j+r=X)(h:r*B+u0<q*v0):X*B+u0<q*(j*B+v0):=by
 have:=zmn B X u0 j v0 q r e;omega
theorem zez{B X u0 j v0 q r:Nat}(e:q*j+r=X)(h:q*v0<=r*B+u0):q*(j*B+v0)<=X*B+u0:=by
 have:=zmn B X u0 j v0 q r e;omega
theorem zhf{B X u0 V q:Nat}(j:X<V)(hu:u0<B)(m:B<=q):X*B+u0<q*V:=by
 have r:=AP B (show X+1<=V from j);have w:=AP V m
 grind
theorem zkr{B X u0 j v0 q r:Nat}(e:q*j+r=X)(h:X*B+u0<q*(j*B+v0)):0<q/\Est B X u0 j v0 (q-1) (r+j):=by
 rcases AD q with h0|h0
 ·simp_all
 ·refine⟨h0,?_,by grind⟩;obtain⟨p,rfl⟩:∃p,q=p+1:=⟨q-1,by omega⟩
  grind
theorem znF{B X j v0 q r:Nat}(e:q*j+r=X)(w:X<j*B+v0)(m:v0<B)(hr:B<=r):q<B:=by
 rcases AF q B with h|h
 ·exact h
 ·have:=AP j h
  grind
theorem zid{B u0 v0 q r:Nat}(hv:v0<B)(j:q<=B)(hr:B<=r):q*v0<=r*B+u0:=by
 have m:=CN j (BP hv);have w:=AP B hr;omega
theorem ztw{B X j v0 q r:Nat}(e:q*j+r=X)(A:X<j*B+v0)(hv:B<=j*2)(w:v0<B)(m:2<=B):q<=B+1:=by
 rcases AF (B+1) q with h|h
 ·have:=AP j (show B+2<=q from h)
  grind
 ·exact h
theorem zwj(B V N X u1 u0 m j:Nat)(E:N=(X*B+u1)*B+u0)(h1:m=(X*B+u1)/V)(h0:j=((X*B+u1)%V*B+u0)/V)(w:0<V):m*B+j=N/V/\((X*B+u1)%V*B+u0)%V=N%V:=by
 have q:=Aa (X*B+u1) V;have C:=Aa ((X*B+u1)%V*B+u0) V;rw[<-h1] at q;rw[<-h0] at C;have A:=AC ((X*B+u1)%V*B+u0) w;have r:N=V*(m*B+j)+((X*B+u1)%V*B+u0)%V:=by
  rw[E];generalize X*B+u1=Y at*;generalize Y%V=R at*;rw[<-q,CV,B2,<-B7];omega
 have G:N%V=((X*B+u1)%V*B+u0)%V:=by
  rw[r,EO];exact A7 A
 have F:N/V=m*B+j:=by
  rw[r,Cd w,Al A,BU]
 omega
theorem zwz(W j lo s t:Nat)(m:W=2^s*2^t):(j*2^s+lo/2^t)*W+lo*2^s%W=(j*W+lo)*2^s:=by grind [Nat.mul_comm,Nat.mul_div_mul_right,Nat.pow_pos,Nat.div_add_mod,Nat.add_mul,Nat.mul_assoc]
theorem zyO{W j y s lo t:Nat}(r:W=2^s*2^t)(h:j<y)(w:lo<W):j*2^s+lo/2^t<y*2^s:=by
 have m:lo/2^t<2^s:=(AW (AV q_e)).2 q_o;have q:=AP (2^s) (show j+1<=y from h)
 grind
theorem zl6(b x s t i:Nat)(hb:b=2^s*2^t):x*2^s/b^(i+1)%b=x/b^(i+1)%b*2^s%b+x/b^i%b/2^t:=by
 have B:0<2^s:=AV q_e;have m:0<2^t:=AV q_e;have r:x*2^s/b^(i+1)=x/b^i/2^t:=by
  rw[Ap,AN,show b^i*b=b^i*2^t*2^s by rw[hb];ac_rfl];exact Cf _ _ B
 have j:=Aa (x/b^i) b;rw[Ap,<-AN] at j;rw[Dl] at j;have F:x/b^i%b<b:=AC _ (by simp_all);rw[r];generalize x/b^i=a,x/b^i%b=d,x/b^(i+1)=h at*;have w:a/2^t=h*2^s+d/2^t:=by
  rw[<-j,show b*h=2^t*(h*2^s) by rw[hb];ac_rfl];exact Cd m _ _
 have C:d/2^t<2^s:=(AW m).2 q_o;rw[w,show h%b*2^s%b=h*2^s%b by simp];have A:h*2^s%b=(h%2^t)*2^s:=by
  rw[hb,AK (2^s) (2^t)];exact DU _ _ _
 have E:h%2^t*2^s+2^s<=b:=by
  have:=AP (2^s) (AC h m);rw[Nat.succ_mul,AK (2^t),<-hb] at this;exact this
 have q:=Aa (h*2^s) b;rw[A] at q ⊢;rw[<-q,BI,EO];exact A7 q_o
theorem zqT(b x s:Nat):x*2^s/b^0%b=x%b*2^s%b:=by simp
theorem zsl(b x s t i:Nat)(hb:b=2^s*2^t):x/2^s/b^i%b=x/b^i%b/2^s+x/b^(i+1)%b*2^t%b:=by
 have h0:x/2^s/b^i=x*2^t/b^(i+1):=by
  have j:0<2^t:=AV q_e;rw[Ap,AN,show b^i*b=2^s*b^i*2^t by rw[hb];ac_rfl];exact(Cf _ _ j).symm
 grind [zl6,Nat.mul_comm,Nat.add_comm]
structure DivJ(b k U V j q i:Nat)(l:List Nat)(c d:Nat):Prop where
 len:l.length=k
 low:∀d∈l,d<b
 rest:∀p,j+i<=p->p<k->l[p]?=some (U/b^p%b)
 car:c<b
 bit:d<=1
 sum:vl b l+q*(V%b^i)*b^j=U+(c+d)*b^(j+i)
theorem DivJ.start(b k U V j q:Nat)(hb:0<b)(m:U<b^k):DivJ b k U V j q 0 (dg b k U) 0 0:=
 ⟨zcU b k U,zhe b hb k U,λp _ r=>zfc b k U p r,hb,A9 _,by rw[zeA b k U m,An,C0];omega⟩
theorem DivJ.step{b k U V j q i z c d c' d':Nat}{l:List Nat}(h:DivJ b k U V j q i l c d)(r:j+i<k)(hz:z<b)(hc:c'<b)(m:d'<=1)(e:z+q*(V/b^i%b)+(c+d)=U/b^(j+i)%b+(c'+d')*b):DivJ b k U V j q (i+1) (l.set (j+i) z) c' d':=by
 have h0:=h.rest (j+i) (A6 _) r;have A:=zer b l (j+i) _ z h0;have B:=zbU b V i;have C:=h.sum;refine⟨by rw[AO,h.len],zeY h.low hz,λp E w=>?_,hc,m,?_⟩
 ·rw[C7 q_o];exact h.rest p q_o w
 grind
theorem zmC{b k c:Nat}{l:List Nat}(r:l.length=k)(q:∀d∈l,d<b)(hc:c<=k)(hz:∀p,c<=p->p<k->l[p]?=some 0):vl b l<b^c:=by
 have j:=zgH b l c q_o;have m:l.drop c=List.replicate (k-c) 0:=by
  apply Ck;intro p;rw[Bn,CI];split
  ·grind
  ·grind
 rw[m,zeH,Nat.mul_zero,Nat.add_zero] at j
 grind [zfa,List.mem_of_mem_take,List.length_take,Nat.min_eq_left]
theorem DivJ.last{b k U V j q n z c d d':Nat}{l:List Nat}(h:DivJ b k U V j q n l c d)(hn:j+n<k)(F:V<b^n)(hz:z<b)(e:z+(c+d)=U/b^(j+n)%b+d'*b)(H:d'<=1):
  ∃r,l.set (j+n) z=dg b k r/\r<b^k/\r+q*V*b^j=U+d'*b^(j+n+1)/\(U<b^(j+n+1)->r<b^(j+n+1)):=by
 have w:0<b:=q_o;have m:=h.step (z:=z) (c':=0) (d':=d') hn hz w H (by rw[Al F,CA,AZ];omega);have B:=zg9 b _ m.low;have C:=zfa b _ m.low;rw[m.len] at B C;refine⟨_,B.symm,C,?_,λA=>zmC m.len m.low hn λp G I=>?_⟩
 ·have E:=m.sum;rw[A7 (AI F (AB w (Nat.le_succ n))),AZ] at E;exact E
 ·rw[m.rest p G I,Al (AI A (AB w G)),CA]
structure ResJ(b k U V j i:Nat)(l:List Nat)(c:Nat):Prop where
 len:l.length=k
 low:∀d∈l,d<b
 rest:∀p,j+i<=p->p<k->l[p]?=some (U/b^p%b)
 bit:c<=1
 sum:vl b l+c*b^(j+i)=U+(V%b^i)*b^j
theorem ResJ.start(b k U V j:Nat)(hb:0<b)(m:U<b^k):ResJ b k U V j 0 (dg b k U) 0:=
 ⟨zcU b k U,zhe b hb k U,λp _ q=>zfc b k U p q,A9 _,by rw[zeA b k U m,An,C0];omega⟩
theorem ResJ.step{b k U V j i z c c':Nat}{l:List Nat}(h:ResJ b k U V j i l c)(m:j+i<k)(hz:z<b)(hc:c'<=1)(e:z+c'*b=U/b^(j+i)%b+V/b^i%b+c):ResJ b k U V j (i+1) (l.set (j+i) z) c':=by
 have h0:=h.rest (j+i) (A6 _) m;have r:=zer b l (j+i) _ z h0;have w:=zbU b V i;have A:=h.sum;refine⟨by rw[AO,h.len],zeY h.low hz,λp B q=>?_,hc,?_⟩
 ·rw[C7 q_o];exact h.rest p q_o q
 grind
theorem ResJ.last{b k U V j n z c d':Nat}{l:List Nat}(h:ResJ b k U V j n l c)(hn:j+n<k)(C:V<b^n)(hz:z<b)(hb:0<b)(e:z+d'*b=U/b^(j+n)%b+c):
  ∃m,l.set (j+n) z=dg b k m/\m<b^k/\m+d'*b^(j+n+1)=U+V*b^j/\(U<b^(j+n+1)->m<b^(j+n+1)):=by
 have h0:=h.rest (j+n) (A6 _) hn;have G:=zer b l (j+n) _ z h0;have B:=h.sum;rw[A7 C] at B;have q:∀d∈l.set (j+n) z,d<b:=zeY h.low hz;have w:=zg9 b _ q;have A:=zfa b _ q;rw[AO,h.len] at w A;refine⟨_,w.symm,A,?_,λr=>zmC (by rw[AO,h.len]) q hn λp F E=>by
  rw[C7 q_o,h.rest p q_o E,Al (AI r (AB hb F)),CA]⟩
 grind
theorem zqQ{b n j U V q m r:Nat}(hb:2<=b)(hn:2<=n)(J:V<b^n)(H:U<V*b^(j+1))(hv:r=V/b^(n-2))(hu:m=U/b^(j+n-2))(E:b<=r)(K:q<b)(h1:q*r<=m)(h2:q+1=b\/m<(q+1)*r):
  q*V<=U/b^j+V/\U/b^j<(q+1)*V:=by
 have w:0<b:=q_o;have I:0<b^(n-2):=AV w;have B:0<b^j:=AV w;have C:m=U/b^j/b^(n-2):=by
  rw[hu,Ap,<-Av,show j+n-2=j+(n-2) by omega]
 have F:=Aa (U/b^j) (b^(n-2));have G:=Aa V (b^(n-2));rw[<-C,AK] at F;rw[<-hv,AK] at G;have A:U/b^j<b*V:=by
  rw[AW B];rw[AN] at H;rw[show b*V*b^j=V*(b^j*b) by ac_rfl];exact H
 exact zzK b (b^(n-2)) (U/b^j) V m r _ _ q F.symm G.symm (AC _ I) (AC _ I) K h1 h2 A E
theorem zti{b _k _n j U V q w:Nat}(hb:0<b)(m:U/b^j<(q+1)*V)(e:w+q*V*b^j=U):w<V*b^j:=by
 have r:0<b^j:=AV hb;have A:U<(q+1)*V*b^j:=(AW r).1 m
 grind
theorem zrL{b n j U V q r m k:Nat}(hb:0<b)(E:V<b^n)(K:0<q)(A:q*V<=U/b^j+V)(B:r+q*V*b^j=U+b^(j+n+1))(h1:r<b^(j+n+1))(G:m+k*b^(j+n+1)=r+V*b^j)(h2:m<b^(j+n+1)):
  m+(q-1)*V*b^j=U/\m<V*b^j:=by
 have w:0<b^j:=AV hb;obtain⟨p,rfl⟩:∃p,q=p+1:=⟨q-1,by omega⟩;rw[Au];rw[B2,Bo] at A B;rw[B2] at B;have H:p*V*b^j<=U:=(CQ w).1 q_o;have I:V*b^j<=b^(j+n+1):=by
  have:=AP (b^j) (BP E);have J:b^n*b^j<=b^(j+n+1):=by
   rw[<-Av];exact AB hb q_o
  omega
 have F:k=1:=by
  rcases AF k 1 with h|h
  ·grind
  ·rcases AF k 2 with C|C
   ·omega
   ·have:=AP (b^(j+n+1)) C;omega
 subst F;omega
theorem zul{d o s Q U:Nat}(m:0<o)(e:Q*(o*2^s)+U=d*2^s)(h:U<o*2^s):Q=d/o/\U/2^s=d%o:=by
 have q:0<2^s:=AV q_e;have j:0<o*2^s:=EX m q;have r:d*2^s/(o*2^s)=Q:=by
  rw[<-e,AK Q,Cd j,Al h,BU]
 grind [Nat.mul_comm,Nat.mul_add_mod,Nat.mod_eq_of_lt,Nat.mul_div_mul_right,Nat.mul_mod_mul_right,Nat.mul_div_cancel]
theorem zu8{b n m d o s:Nat}(j:2<=b)(A:d<b^m)(w:b^(n-1)<=o)(hn:0<n)(hm:n<=m):d*2^s<o*2^s*b^(m-n+1):=by
 have q:b^(n-1)*b^(m-n+1)<=o*b^(m-n+1):=AP _ w;rw[<-Av,show n-1+(m-n+1)=m by omega] at q;have r:d<o*b^(m-n+1):=q_o;rw[show o*2^s*b^(m-n+1)=o*b^(m-n+1)*2^s by ac_rfl];exact Ba r (AV q_e)
theorem zjq(b:Nat)(l:List Nat)(d:Nat):vl b (l++[d])=vl b l+d*b^l.length:=by simp[zgd,vl,Cy,BU,AK]
theorem zhX{b:Nat}{l:List Nat}{d:Nat}(h:∀x∈l,x<b)(j:d<b):∀x∈l++[d],x<b:=by grind
theorem zoT(b:Nat)(hb:2<=b)(l:List Nat)(n:Nat)(C:∀d∈l,d<b)(hn:n<=l.length)(hz:∀p,n<=p->p<l.length->l[p]?=some 0)(h:n=0\/∃d,l[n-1]?=some d/\d≠0):
  nd b (vl b l)=n/\l.take n=cd b (vl b l):=by
 have q:=zgH b l n hn;have j:l.drop n=List.replicate (l.length-n) 0:=by
  apply Ck;intro p;rw[Bn,CI];split
  ·grind
  ·grind
 rw[j,zeH,Nat.mul_zero,Nat.add_zero] at q;have r:(l.take n).length=n:=by rw[AR];omega
 have m:∀d∈l.take n,d<b:=λd j=>C d (Cp j);have w:=zfa b (l.take n) m;have A:=zg9 b (l.take n) m;rw[r,<-q] at w A;have E:nd b (vl b l)=n:=by
  refine zct b _ _ hb w λG=>?_;rcases h with h|⟨d,j,h0⟩
  ·omega
  ·have B:=zi6 b l (n-1) d j;rw[show n-1+1=n by omega,<-q] at B;have F:b^(n-1)<=d*b^(n-1):=BQ _ q_o;omega
 grind [cd]
theorem zsg(j:List Nat)(i u v:Nat)(ds:List Nat)(hu:j[i+1]?=some u)(hv:j[i]?=some v)(A:j.length=i+2+2*ds.length)(h:vl 65536 ds=bev 256 (j.drop (i+2))):
  vl 65536 (ds++[u+256*v])=bev 256 (j.drop i):=by
 have q:j.drop i=v::j.drop (i+1):=by
  have m:i<j.length:=q_o;rw[BN m];rw[A1 m] at hv;rw[Am hv]
 have r:j.drop (i+1)=u::j.drop (i+2):=by
  have m:i+1<j.length:=q_o;rw[BN m];rw[A1 m] at hu;rw[Am hu]
 have w:(j.drop (i+2)).length=2*ds.length:=by rw[Ar];omega
 rw[zjq,q,r,h];simp only[bev,AQ];rw[w,show(65536:Nat)=256^2 from rfl,<-BE,AN,B2]
 grind
theorem zsk(j:List Nat)(u:Nat)(ds:List Nat)(hu:j[0]?=some u)(m:j.length=1+2*ds.length)(h:vl 65536 ds=bev 256 (j.drop 1)):
  vl 65536 (ds++[u])=bev 256 j:=by
 cases j with
 |nil=>simp at hu
 |cons d l=>
  simp only[C6,Bp] at hu;subst hu;simp only[AQ] at m;rw[zjq,h];simp only[Dm,BJ,bev];rw[show l.length=2*ds.length by omega,show(65536:Nat)=256^2 from rfl,<-BE];omega
structure OutJ(b T i:Nat)(l:List Nat)(c:Nat):Prop where
 len:l.length=i
 low:∀d∈l,d<b
 sum:vl b l+c*b^i=T
theorem OutJ.start(b:Nat):OutJ b 0 0 [] 0:=⟨rfl,(λ_ h=>by cases h),rfl⟩
theorem OutJ.step{b T T' i t:Nat}{l:List Nat}{c:Nat}(h:OutJ b T i l c)(hb:0<b)(e:T'+c*b^i=T+t*b^i):OutJ b T' (i+1) (l++[t%b]) (t/b):=by
 refine⟨by rw[A2,h.len];rfl,zhX h.low (AC _ hb),?_⟩;have j:=h.sum;have m:=Aa t b;rw[zjq,h.len]
 grind
theorem zu6(b x y i c:Nat):x%b^(i+1)+y%b^(i+1)+c*b^i=x%b^i+y%b^i+(x/b^i%b+y/b^i%b+c)*b^i:=by grind [zbU,Nat.add_mul]
theorem zuw(b x m i c:Nat):x%b^(i+1)*m+c*b^i=x%b^i*m+(x/b^i%b*m+c)*b^i:=by grind [zbU,Nat.add_mul,Nat.mul_right_comm]
structure OutS(b x y i:Nat)(l:List Nat)(c:Nat):Prop where
 len:l.length=i
 low:∀d∈l,d<b
 bit:c<=1
 sum:vl b l+y%b^i=x%b^i+c*b^i
theorem OutS.start(b x y:Nat):OutS b x y 0 [] 0:=⟨rfl,(λ_ h=>by cases h),A9 _,by simp[vl,C0]⟩
theorem OutS.step{b x y i c t c':Nat}{l:List Nat}(h:OutS b x y i l c)(q:t<b)(hc:c'<=1)(e:t+y/b^i%b+c=x/b^i%b+c'*b):OutS b x y (i+1) (l++[t]) c':=by
 refine⟨by rw[A2,h.len];rfl,zhX h.low q,hc,?_⟩;have r:=h.sum;have j:(t+y/b^i%b+c)*b^i=(x/b^i%b+c'*b)*b^i:=by rw[e]
 have m:c'*b^(i+1)=c'*b*b^i:=by rw[AN,AK (b^i) b,B7]
 rw[B2,B2,B2] at j;rw[zjq,h.len,zbU,zbU,m];omega
theorem OutS.done{b x y i c:Nat}{l:List Nat}(h:OutS b x y i l c)(hx:x<b^i)(q:y<=x):vl b l=x-y:=by
 have j:=h.sum;have m:=zfa b l h.low;rw[h.len] at m;rw[A7 hx,A7 q_o] at j;have:c=0:=by
  rcases AD c with h0|h0
  ·exact h0
  ·have:=AP (b^i) h0;omega
 subst this;omega
structure MulK(b k x y i j:Nat)(l:List Nat)(c:Nat):Prop where
 len:l.length=k
 low:∀d∈l,d<b
 car:c<b
 sum:vl b l+c*b^(i+j)=(x%b^i)*y+(x/b^i%b)*b^i*(y%b^j)
theorem MulK.start(b k x y:Nat)(hb:0<b):MulK b k x y 0 0 (List.replicate k 0) 0:=
 ⟨AJ,λd j=>by simp_all,hb,by rw[zeH];simp[C0]⟩
theorem MulK.step{b k x y i j c u z c':Nat}{l:List Nat}(h:MulK b k x y i j l c)(hu:l[i+j]?=some u)(hz:z<b)(hc:c'<b)(e:z+c'*b=u+(x/b^i%b)*(y/b^j%b)+c):MulK b k x y i (j+1) (l.set (i+j) z) c':=by
 have m:=zer b l (i+j) _ z hu;have q:=zbU b y j;have r:=h.sum;refine⟨by rw[AO,h.len],zeY h.low hz,hc,?_⟩
 grind
theorem MulK.row{b k x y i j:Nat}{l:List Nat}(h:MulK b k x y i j l 0)(q:y<b^j)(hb:0<b):MulK b k x y (i+1) 0 l 0:=by
 have m:=h.sum;have r:=zbU b x i;rw[Nat.mod_eq_of_lt q] at m;refine⟨h.len,h.low,hb,?_⟩
 grind
theorem MulK.place{b k x y i j c m:Nat}{l:List Nat}(h:MulK b k x y i j l c)(hb:0<b)(w:y<b^m)(hm:m<=j)(hc:0<c):j<=m:=by
 have B:=h.sum;have A:=zbU b x i;have q:y<b^j:=AI w (AB hb hm);rw[A7 q,<-B2,<-A] at B;have C:x%b^(i+1)<b^(i+1):=AC _ (AV hb);have F:x%b^(i+1)*y<=b^(i+1)*y:=AP _ (BP C);have E:b^(i+1)*y<b^(i+1)*b^m:=Cu w (AV hb);rw[<-Av] at E;have G:b^(i+j)<=c*b^(i+j):=BQ _ hc;rcases AF m j with r|r
 ·have:=AB (n:=b) hb (show i+1+m<=i+j by omega);omega
 ·exact r
theorem MulK.done{b k x y n:Nat}{l:List Nat}(h:MulK b k x y n 0 l 0)(hx:x<b^n):vl b l=x*y:=by
 have j:=h.sum;rw[A7 hx,An,C0,Cy] at j;omega
theorem zus{b x y t c:Nat}(hx:x<b)(q:y<b)(m:t<b)(hc:c<b):(t+x*y+c)/b<b:=by
 refine(AW q_o).2 ?_;have j:=CN (show x<=b-1 by omega) (show y<=b-1 by omega);obtain⟨p,rfl⟩:∃p,b=p+1:=⟨b-1,by omega⟩
 grind
theorem zqO{b n R V t d:Nat}(q:0<d)(m:V/b^n=d)(A:R/b^n=t)(hb:0<b):R/V<=t/d:=by
 have r:0<b^n:=AV hb;have j:d*b^n<=V:=by rw[<-m];exact DB V _
 have w:R/V<=R/(d*b^n):=Nat.div_le_div_left j (EX q r)
 grind [Nat.mul_comm,Nat.div_div_eq_div_mul]
end Go.Nt
