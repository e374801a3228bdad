/- Lemmas. -/
import Derived.Test.YtdnlngbjpdbffaaGreatDoorZJ00
set_option linter.all false
namespace Go.Nt
def vl(b:Nat):List Nat->Nat
 | []=>0
 |d::l=>d+b*vl b l
def dg(b:Nat):Nat->Nat->List Nat
 |0,_=>[]
 |k+1,x=>x%b::dg b k (x/b)
theorem zc3(b:Nat):∀k x,(dg b k x).length=k
 |0,_=>rfl
 |k+1,x=>by simp[dg,AQ,zc3]
theorem zgM(x b i:Nat):x/b/b^i=x/b^(i+1):=by simp[Aq,AN,AM]
theorem zfd(b:Nat):∀k x i,i<k->(dg b k x)[i]?=some (x/b^i%b)
 |k+1,x,0,_=>by simp[dg]
 |k+1,x,i+1,h=>by
  simp only[dg,BA];rw[zfd b k (x/b) i q_o,zgM]
theorem zwj(b:Nat):∀k x,vl b (dg b k x)=x%b^k
 |0,x=>by simp[dg,vl,C5]
 |k+1,x=>by simp[dg,vl,zwj,AN,AM,Nat.mod_mul]
theorem zeI(b k x:Nat)(h:x<b^k):vl b (dg b k x)=x:=by rw[zwj,A9 h]
theorem zhl(b:Nat):∀l:List Nat,(∀d∈l,d<b)->dg b l.length (vl b l)=l
 | [],_=>rfl
 |d::l,h=>by
  have j:d<b:=h d A3;have m:0<b:=q_o;simp only[AQ,dg,vl];rw[D9,A9 j,De _ _ m,An j,Aa,zhl b l (λx q=>h x (A1 _ q))]
theorem zfo(b:Nat):∀l:List Nat,(∀d∈l,d<b)->vl b l<b^l.length
 | [],_=>by simp[vl]
 |d::l,h=>by
  have r:d<b:=h d A3;have j:=zfo b l (λx m=>h x (A1 _ m));have q:b*(vl b l+1)<=b*b^l.length:=CP b j
  grind [vl]
theorem zhi(b:Nat)(hb:0<b):∀k x,∀d∈dg b k x,d<b
 |0,_,d,h=>by cases h
 |k+1,x,d,h=>by
  rcases AV.1 h with rfl|h
  ·exact AC _ hb
  ·exact zhi b hb k _ d h
theorem zzr(b k x y:Nat)(hx:x<b^k)(j:y<b^k)(h:dg b k x=dg b k y):x=y:=by grind [zeI]
theorem zgI(b:Nat):∀k,dg b k 0=List.replicate k 0
 |0=>rfl
 |k+1=>by simp[dg,CF,EH,zgI,DA]
theorem ziC(b:Nat):∀k x j e,x/b^j%b+e<b->(dg b k x).set j (x/b^j%b+e)=dg b k (x+e*b^j)
 |0,x,j,e,_=>by simp[dg]
 |k+1,x,0,e,h=>by
  rw[Ao,CH] at h ⊢;rw[Al];have q:0<b:=q_o;have m:x+e=x%b+e+b*(x/b):=by have:=Nat.mod_add_div x b;omega
  simp only[dg,DI];rw[m,D9,A9 h,De _ _ q,An h,Aa]
 |k+1,x,j+1,e,h=>by
  have q:0<b:=q_o;rw[<-zgM] at h ⊢;simp only[dg,Dx];have m:x+e*b^(j+1)=x+b*(e*b^j):=by rw[AN,<-B8,AM]
  rw[m,D9,De _ _ q,ziC b k (x/b) j e h]
theorem zi7(b:Nat):∀j k x,dg b (j+k) x=dg b j x++dg b k (x/b^j)
 |0,k,x=>by simp[dg]
 |j+1,k,x=>by
  rw[show j+1+k=(j+k)+1 from by omega];simp only[dg,Ae];rw[zi7 b j k (x/b),zgM]
theorem zxG(b k j x:Nat)(h:j<=k):(dg b k x).take j=dg b j x:=by
 obtain⟨i,rfl⟩:∃i,k=j+i:=⟨k-j,by omega⟩;simp[zi7,Ch,zc3,A7,A6]
theorem zgk(b:Nat):∀l m:List Nat,vl b (l++m)=vl b l+b^l.length*vl b m
 | [],m=>by simp[vl]
 |d::l,m=>by
  simp only[Ae,vl,AQ,zgk b l m]
  grind
def nd(b x:Nat):Nat:=if h:x=0\/b<2 then 0 else nd b (x/b)+1
termination_by x
decreasing_by
 have hx:0<x:=q_o;exact EQ hx q_o
theorem zb4(b:Nat):nd b 0=0:=by rw[nd];simp
theorem zy7(b x:Nat)(hb:2<=b)(hx:0<x):nd b x=nd b (x/b)+1:=by
 rw[nd,dif_neg q_o]
theorem zdU(b:Nat)(hb:2<=b):∀x,x<b^nd b x/\(0<nd b x->b^(nd b x-1)<=x):=by
 intro x
 induction x using Nat.strongRecOn with
 |_ x m=>
  rcases AE x with rfl|j
  ·simp[zb4,absurd]
  ·rw[zy7 b x hb j];obtain⟨q,r⟩:=m (x/b) (EQ j q_o);refine⟨?_,λ_=>?_⟩
   ·grind [Nat.pow_succ,Nat.div_lt_iff_lt_mul]
   ·rw[Aw];rcases AE (nd b (x/b)) with h0|h0
    ·rw[h0,Ao];exact j
    grind [Nat.le_div_iff_mul_le,Nat.pow_succ,Nat.succ_eq_add_one,Nat.sub_add_cancel]
theorem zaV(b x:Nat)(hb:2<=b):x<b^nd b x:=(zdU b hb x).1
theorem zbj(b x n:Nat)(hb:2<=b)(h:x<b^n):nd b x<=n:=by
 rcases AG n (nd b x) with j|j
 ·have m:=(zdU b hb x).2 q_o;have q:=AB (show 0<b by omega) (show n<=nd b x-1 by omega);omega
 ·exact j
theorem zcD(b x n:Nat)(hb:2<=b)(h1:x<b^n)(h2:0<n->b^(n-1)<=x):nd b x=n:=by
 have j:=zbj b x n hb h1;rcases AG (nd b x) n with h|h
 ·have m:=h2 q_o;have q:=AB (show 0<b by omega) (show nd b x<=n-1 by omega);have r:=zaV b x hb;omega
 ·omega
theorem zrw(b x:Nat)(hb:2<=b):nd b x=0↔x=0:=by
 refine⟨λh=>?_,λh=>by rw[h,zb4]⟩;have:=zaV b x hb
 simp_all
theorem znS(k x:Nat)(hk:0<k):nd (2^k) x=(nd 2 x+(k-1))/k:=by
 have j:2<=2^k:=by
  have:=AB (show 0<2 by decide) hk;simpa using this
 obtain⟨A,B⟩:=zdU 2 (A7 _) x;have m:nd 2 x<=k*((nd 2 x+(k-1))/k)/\(0<nd 2 x->k*((nd 2 x+(k-1))/k-1)<=nd 2 x-1)/\(nd 2 x=0->(nd 2 x+(k-1))/k=0):=by
  have E:=Ad (nd 2 x+(k-1)) k;have F:=AC (nd 2 x+(k-1)) hk;refine⟨by omega,λh=>?_,λh=>?_⟩
  ·rw[Nat.mul_sub,Al];omega
  ·simp_all
 obtain⟨q,r,w⟩:=m;refine zcD _ _ _ j ?_ λG=>?_
 ·rw[<-BG]
  grind [Nat.lt_of_lt_of_le,Nat.pow_le_pow_right]
 ·have h0:0<nd 2 x:=by
   rcases AE (nd 2 x) with h|h
   ·omega
   ·exact h
  rw[<-BG]
  grind [Nat.le_trans,Nat.pow_le_pow_right]
def cd(b x:Nat):List Nat:=dg b (nd b x) x
theorem zi9(b x:Nat):(cd b x).length=nd b x:=zc3 _ _ _
theorem zwm(b x:Nat)(hb:2<=b):vl b (cd b x)=x:=zeI _ _ _ (zaV b x hb)
theorem zjs(b:Nat):∀(l:List Nat) (i x:Nat),l[i]?=some x->vl b (l.take (i+1))=vl b (l.take i)+x*b^i
 | [],i,x,h=>by simp at h
 |d::l,0,x,h=>by
  simp only[C8,Bm] at h;subst h;simp[vl]
 |d::l,i+1,x,h=>by
  rw[BA] at h;have:=zjs b l i x h;simp only[C4,vl];rw[this,CZ,AN,AM (b^i) b,<-B8 b,AM b x,B8 x,BK]
theorem zeC(b:Nat):∀(l:List Nat) (i x y:Nat),l[i]?=some x->vl b (l.set i y)+x*b^i=vl b l+y*b^i
 | [],i,x,y,h=>by simp at h
 |d::l,0,x,y,h=>by
  simp only[C8,Bm] at h;subst h;simp only[DI,vl,Ao,Al];omega
 |d::l,i+1,x,y,h=>by
  rw[BA] at h;have:=zeC b l i x y h;simp only[Dx,vl];have j:b*(vl b (l.set i y)+x*b^i)=b*(vl b l+y*b^i):=by rw[this]
  rw[CZ,CZ] at j;have m:x*b^(i+1)=b*(x*b^i):=by rw[AN,<-B8,AM]
  have q:y*b^(i+1)=b*(y*b^i):=by rw[AN,<-B8,AM]
  omega
theorem zgN(b:Nat)(l:List Nat)(j:Nat)(h:j<=l.length):vl b l=vl b (l.take j)+b^j*vl b (l.drop j):=by grind [zgk,List.take_append_drop,List.length_take,Nat.min_eq_left]
theorem ze3{b:Nat}{l:List Nat}(h:∀d∈l,d<b){i x:Nat}(hx:x<b):∀d∈l.set i x,d<b:=λd j=>by grind
theorem zeN(b:Nat):∀k,vl b (List.replicate k 0)=0
 |0=>rfl
 |k+1=>by simp[List.replicate_succ,vl,zeN,Nat.mul_zero]
theorem zAi(B P U V j m E r q:Nat)(M:U=j*P+E)(J:V=m*P+r)(I:E<P)(A:r<P)(K:q<B)(h1:q*m<=j)(h2:q+1=B\/j<(q+1)*m)(w:U<B*V)(hv:B<=m):q*V<=U+V/\U<(q+1)*V:=by
 have H:B*P<=V:=by
  have:=AP P hv;omega
 constructor
 ·have F:q*V=q*m*P+q*r:=by rw[J,CZ,B8]
  have G:q*m*P<=j*P:=AP P h1;have L:q*r<=B*P:=CR (BT K) (BT A);omega
 ·rcases h2 with h2|h2
  ·rw[h2];exact w
  ·have F:(j+1)*P<=(q+1)*m*P:=AP P h2;have G:(q+1)*m*P<=(q+1)*V:=by
    rw[B8];exact CP _ q_o
   grind
theorem zgW(U V q:Nat)(h1:q*V<=U)(h2:U<(q+1)*V):U/V=q/\U%V=U-q*V:=by
 rw[Nat.add_mul,Nat.one_mul] at h2
 grind [Nat.div_eq_iff,Nat.div_add_mod,Nat.mul_comm]
theorem zyR(B q v c j lo r k:Nat)(F:q<B)(hv:v<B)(hc:c<B)(h1:q*v=j*B+lo)(h2:r+k*B=lo+c):j+k<B:=by
 have w:q*v<=(B-1)*(B-1):=CR q_o q_o;have A:(j+k)*B<=q*v+c:=by rw[B5];omega
 rcases AG (j+k) B with h|h
 ·exact h
 ·have E:B*B<=(j+k)*B:=AP B h;obtain⟨m,rfl⟩:∃m,B=m+1:=⟨B-1,by omega⟩
  grind
theorem zbZ(b x i:Nat):x%b^(i+1)=x%b^i+(x/b^i%b)*b^i:=by grind [Nat.pow_succ,Nat.mod_mul,Nat.mul_comm]
structure AddJ(b k x y i:Nat)(l:List Nat)(c:Nat):Prop where
 len:l.length=k
 low:∀d∈l,d<b
 rest:∀j,i<=j->j<k->l[j]?=some (x/b^j%b)
 bit:c<=1
 sum:vl b l+c*b^i=x+y%b^i
theorem AddJ.start(b k x y:Nat)(hb:0<b)(hx:x<b^k):AddJ b k x y 0 (dg b k x) 0:=
 ⟨zc3 b k x,zhi b hb k x,λj _ m=>zfd b k x j m,AA _,by rw[zeI b k x hx,Ao,C5]⟩
theorem AddJ.step{b k x y i c z c':Nat}{l:List Nat}(h:AddJ b k x y i l c)(m:i<k)(hz:z<b)(hc:c'<=1)(e:z+c'*b=x/b^i%b+y/b^i%b+c):AddJ b k x y (i+1) (l.set i z) c':=by
 have h0:=h.rest i (A7 _) m;have r:=zeC b l i _ z h0;have w:=zbZ b y i;have A:=h.sum;refine⟨by rw[AO,h.len],ze3 h.low hz,λj B q=>?_,hc,?_⟩
 ·rw[C9 q_o];exact h.rest j q_o q
 grind
theorem AddJ.done{b k x y c:Nat}{l:List Nat}(h:AddJ b k x y k l c)(r:y<b^k):l=dg b k (vl b l)/\vl b l<b^k/\vl b l+c*b^k=x+y:=by
 have j:=zhl b l h.low;have m:=zfo b l h.low;rw[h.len] at j m;have q:=h.sum
 grind [Nat.mod_eq_of_lt]
structure SubJ(b k x y i:Nat)(l:List Nat)(c:Nat):Prop where
 len:l.length=k
 low:∀d∈l,d<b
 rest:∀j,i<=j->j<k->l[j]?=some (x/b^j%b)
 bit:c<=1
 sum:vl b l+y%b^i=x+c*b^i
theorem SubJ.start(b k x y:Nat)(hb:0<b)(hx:x<b^k):SubJ b k x y 0 (dg b k x) 0:=
 ⟨zc3 b k x,zhi b hb k x,λj _ m=>zfd b k x j m,AA _,by rw[zeI b k x hx,Ao,C5]⟩
theorem SubJ.step{b k x y i c z c':Nat}{l:List Nat}(h:SubJ b k x y i l c)(m:i<k)(hz:z<b)(hc:c'<=1)(e:z+y/b^i%b+c=x/b^i%b+c'*b):SubJ b k x y (i+1) (l.set i z) c':=by
 have h0:=h.rest i (A7 _) m;have r:=zeC b l i _ z h0;have w:=zbZ b y i;have A:=h.sum;refine⟨by rw[AO,h.len],ze3 h.low hz,λj B q=>?_,hc,?_⟩
 ·rw[C9 q_o];exact h.rest j q_o q
 grind
theorem SubJ.done{b k x y c:Nat}{l:List Nat}(h:SubJ b k x y k l c)(r:y<b^k):l=dg b k (vl b l)/\vl b l<b^k/\vl b l+y=x+c*b^k:=by
 have j:=zhl b l h.low;have m:=zfo b l h.low;rw[h.len] at j m;have q:=h.sum
 grind [Nat.mod_eq_of_lt]
structure MulJ(b k x y n m i j:Nat)(l:List Nat)(c:Nat):Prop where
 len:l.length=k
 low:∀d∈l,d<b
 zero:∀q,i+m<=q->q<k->l[q]?=some 0
 car:c<b
 sum:vl b l+c*b^(i+j)=(x%b^i)*y+(x/b^i%b)*b^i*(y%b^j)
theorem MulJ.start(b k x y n m:Nat)(hb:0<b):MulJ b k x y n m 0 0 (List.replicate k 0) 0:=
 ⟨AL,λd j=>by simp_all,λq _ r=>by simp_all,hb,by rw[zeN];simp[C5]⟩
theorem MulJ.step{b k x y n m i j c u z c':Nat}{l:List Nat}(h:MulJ b k x y n m i j l c)(r:i+m<=k)(hj:j<m)(hu:l[i+j]?=some u)(hz:z<b)(hc:c'<b)(e:z+c'*b=(x/b^i%b)*(y/b^j%b)+u+c):MulJ b k x y n m i (j+1) (l.set (i+j) z) c':=by
 have B:=zeC b l (i+j) _ z hu;have E:=zbZ b y j;have F:=h.sum;refine⟨by rw[AO,h.len],ze3 h.low hz,λq A w=>?_,hc,?_⟩
 ·rw[C9 q_o];exact h.zero q A w
 grind
theorem MulJ.row{b k x y n m i c:Nat}{l:List Nat}(h:MulJ b k x y n m i m l c)(hk:i+m<k)(w:y<b^m):MulJ b k x y n m (i+1) 0 (l.set (i+m) c) 0:=by
 have h0:=h.zero (i+m) (A7 _) hk;have A:=zeC b l (i+m) _ c h0;have B:=zbZ b x i;have j:=h.sum;have r:0<b:=B3 (AA _) h.car;refine⟨by rw[AO,h.len],ze3 h.low h.car,λq E hk=>?_,r,?_⟩
 ·rw[C9 q_o];exact h.zero q q_o hk
 ·rw[A9 w] at j
  grind
theorem MulJ.done{b k x y n m:Nat}{l:List Nat}(h:MulJ b k x y n m n 0 l 0)(hx:x<b^n):vl b l=x*y:=by
 have j:=h.sum;rw[Nat.mod_eq_of_lt hx,Nat.pow_zero,Nat.mod_one,Nat.mul_zero] at j;omega
theorem or_add(a c s:Nat)(h:c<2^s):a*2^s ||| c=a*2^s+c:=by grind [Nat.two_pow_add_eq_or_of_lt,Nat.mul_comm]
theorem zf7(b x y i:Nat)(r:0<b)(e:x/b^(i+1)=y/b^(i+1))(h:x/b^i%b<y/b^i%b):x<y:=by
 have w:x/b^i<y/b^i:=by
  have j:=Ad (x/b^i) b;have q:=Ad (y/b^i) b;rw[Aq,<-AN] at j q;rw[Dl] at j q;rw[e] at j;omega
 exact Nat.lt_of_not_le λm=>by
  have:=EX (c:=b^i) m;omega
theorem zpc(b x y i:Nat)(e:x/b^(i+1)=y/b^(i+1))(h:x/b^i%b=y/b^i%b):x/b^i=y/b^i:=by grind [Nat.div_add_mod,Nat.div_div_eq_div_mul,Nat.pow_succ,Nat.succ_eq_add_one]
theorem zi3(b p r k:Nat):b^(k*p+r)=(b^k)^p*b^r:=by rw[Ax,BG]
theorem zkz(b k x p r:Nat)(hr:r<k):x/(b^k)^p%b^k/b^r%b=x/b^(k*p+r)%b:=by
 rw[zi3,<-Aq];generalize x/(b^k)^p=y;have e:b^k=b^r*b^(k-r):=by rw[<-Ax];congr 1;omega
 rw[e,Nat.mod_mul_right_div_self];refine Nat.mod_mod_of_dvd _ ?_;obtain⟨m,j⟩:∃m,k-r=m+1:=⟨k-r-1,by omega⟩;rw[j,AN];exact Nat.dvd_mul_left _ _
theorem zs1(b k A p r v:Nat)(hr:r<k)(hv:v<b):(A*b^(k*p+r+1))/(b^k)^p%b^k=A%b^(k-(r+1))*b^(r+1)/\A%b^(k-(r+1))*b^(r+1)+v*b^r<b^k:=by
 have q:0<b:=q_o;have w:A*b^(k*p+r+1)=A*b^(r+1)*(b^k)^p:=by
  rw[BK,zi3];ac_rfl
 have e:b^k=b^(r+1)*b^(k-(r+1)):=by rw[<-Ax];congr 1;omega
 constructor
 ·grind [Nat.mul_div_cancel,Nat.pow_pos,Nat.mul_comm,Nat.mul_mod_mul_left]
 ·have j:A%b^(k-(r+1))+1<=b^(k-(r+1)):=AC _ (AU q);have m:=AP (b^(r+1)) j;rw[B5,Bu,AM (b^(k-(r+1))),<-e] at m;have B:(v+1)*b^r<=b*b^r:=AP _ hv
  grind
def bev(b:Nat):List Nat->Nat
 | []=>0
 |d::l=>d*b^l.length+bev b l
theorem zin(b:Nat):∀l m:List Nat,bev b (l++m)=bev b l*b^m.length+bev b m
 | [],m=>by simp[bev]
 |d::l,m=>by simp[Ae,bev,zin,A4,Ax,B5,B8,BK]
theorem zmb(b:Nat):∀l:List Nat,bev b l=vl b l.reverse
 | []=>rfl
 |d::l=>by
  rw[CL,zgk,Bd,bev,zmb b l]
  grind [vl]
theorem zfn(b:Nat)(l:List Nat)(h:∀d∈l,d<b):bev b l<b^l.length:=by grind [zmb,zfo,List.length_reverse]
def be(b x:Nat):List Nat:=(cd b x).reverse
theorem zzq(b x:Nat):(be b x).length=nd b x:=by simp[be,Bd,zi9]
theorem zy9(b x:Nat)(hb:2<=b):bev b (be b x)=x:=by grind [be,zmb,List.reverse_reverse,zwm]
theorem ztD(b x i:Nat)(j:i<nd b x):(be b x)[i]?=some (x/b^(nd b x-1-i)%b):=by
 unfold be;rw[List.getElem?_reverse (by rw[zi9];exact j),zi9];exact zfd b _ x _ q_o
theorem zn1(b:Nat):∀l:List Nat,bev b (l.dropWhile (· == 0))=bev b l
 | []=>rfl
 |d::l=>by
  rw[Ce];split
  ·rename_i h;have:d=0:=by simpa using h
   subst this;simp[zn1,bev,BF,Aa]
  ·rfl
theorem zsw(b:Nat)(hb:2<=b)(d:Nat)(l:List Nat)(j:0<d)(h:∀x∈d::l,x<b):nd b (bev b (d::l))=(d::l).length:=by
 refine zcD b _ _ hb (zfn b _ h) λ_=>?_;rw[AQ,Aw,bev];have:=AP (b^l.length) j;omega
theorem zhP(x:Nat)(h:0<x):0<nd 2 x/\2^(nd 2 x-1)<=x/\x<2^nd 2 x:=by
 have j:=zaV 2 x q_e;have h0:0<nd 2 x:=by
  rcases AE (nd 2 x) with h0|h0
  ·simp_all
  ·exact h0
 grind [zdU]
def zbE(x:Nat):List Nat:=if h:x=0 then [] else (nd 2 x-1)::zbE (x-2^(nd 2 x-1))
termination_by x
decreasing_by
 grind
theorem zmK:zbE 0= []:=by rw[zbE];rfl
theorem zoU(x:Nat)(h:0<x):zbE x=(nd 2 x-1)::zbE (x-2^(nd 2 x-1)):=by
 rw[zbE,dif_neg q_o]
def left:Nat->Nat->Nat
 |0,x=>x
 |k+1,x=>left k (x-2^(nd 2 x-1))
theorem zi5:∀k x,k<=(zbE x).length->zbE (left k x)=(zbE x).drop k
 |0,_,_=>rfl
 |k+1,x,h=>by
  rcases AE x with h0|h0
  ·subst h0;rw[zmK] at h;exact absurd h q_p
  ·rw[zoU x h0] at h ⊢;simp only[AQ] at h;exact zi5 k _ q_o
theorem zgO{k x:Nat}(h:k<(zbE x).length):0<left k x/\(zbE x)[k]=nd 2 (left k x)-1:=by grind [zi5,List.drop_eq_getElem_cons,left,Nat.eq_zero_or_pos,zmK,zoU,List.cons.inj]
theorem zge:∀k x,left (k+1) x=left k x-2^(nd 2 (left k x)-1)
 |0,_=>rfl
 |k+1,x=>by
  show left (k+1) (x-2^(nd 2 x-1))=_;exact zge k _
theorem zkV{x:Nat} :left (zbE x).length x=0:=by
 have j:=zi5 _ x (A7 _)
 grind [left,zbE]
theorem zsx{k x:Nat}(hk:k<=(zbE x).length)(h:0<left k x):k<(zbE x).length:=by
 rcases AG k (zbE x).length with j|j
 ·exact j
 ·obtain rfl:k=(zbE x).length:=q_o;rw[zkV] at h;omega
theorem zkL:∀k x,k<=(zbE x).length->left k x=x%2^nd 2 (left k x)
 |0,x,_=>(A9 (zaV 2 x q_e)).symm
 |k+1,x,h=>by
  have w:=zkL k x q_o;obtain⟨A,E⟩:=zgO (x:=x) (k:=k) h;obtain⟨F,j,B⟩:=zhP _ A;rw[zge];generalize H:left k x=y at*;generalize nd 2 y=m at*;obtain⟨q,rfl⟩:∃q,m=q+1:=⟨m-1,by omega⟩;rw[Aw] at j ⊢;have G:y-2^q=x%2^q:=by
   have r:x%2^(q+1)%2^q=x%2^q:=Nat.mod_mod_of_dvd x (Nat.pow_dvd_pow 2 (Nat.le_succ q));rw[<-w] at r;rw[<-r];rw[AN] at B;rw[Nat.mod_eq_sub_mod j,A9 q_o]
  grind [nd,zbj,Nat.mod_lt,Nat.pow_pos,zaV,Nat.mod_mod_of_dvd,Nat.pow_dvd_pow,Nat.mod_eq_of_lt]
theorem zqf(k x:Nat)(h:k<=(zbE x).length):left k x<=x:=by
 rw[zkL k x h];exact EI _ _
theorem zt3(k x:Nat)(h:k<=(zbE x).length):x-left k x=x/2^nd 2 (left k x)*2^nd 2 (left k x):=by grind [zkL,Nat.div_add_mod,nd,left,Nat.mul_comm]
structure Est(B X u0 v1 v0 q r:Nat):Prop where
 eq:q*v1+r=X
 up:X*B+u0<(q+1)*(v1*B+v0)
theorem Est.start(B X u0 j v0:Nat)(hv:0<j)(hu:u0<B):Est B X u0 j v0 (X/j) (X%j):=by
 have h0:=Ad X j;have w:=AC X hv;rw[AM] at h0;refine⟨h0,?_⟩;generalize X/j=q at*;have m:X+1<=(q+1)*j:=by rw[B5,Bu];omega
 have r:=AP B m
 grind
def GB:=@Est.start
theorem zmL(B X u0 j v0 q r:Nat)(e:q*j+r=X):X*B+u0+q*v0=q*(j*B+v0)+(r*B+u0):=by grind
theorem zl5{B X u0 j v0 q r:Nat}(e:q*j+r=X)(h:r*B+u0<q*v0):X*B+u0<q*(j*B+v0):=by
 have:=zmL B X u0 j v0 q r e;omega
theorem zeS{B X u0 j v0 q r:Nat}(e:q*j+r=X)(h:q*v0<=r*B+u0):q*(j*B+v0)<=X*B+u0:=by
 have:=zmL B X u0 j v0 q r e;omega
theorem zhh{B X u0 V q:Nat}(j:X<V)(hu:u0<B)(m:B<=q):X*B+u0<q*V:=by
 have r:=AP B (show X+1<=V from j);have w:=AP V m
 grind
theorem zkR{B X u0 j v0 q r:Nat}(e:q*j+r=X)(h:X*B+u0<q*(j*B+v0)):0<q/\Est B X u0 j v0 (q-1) (r+j):=by
 rcases AE q with h0|h0
 ·simp_all
 ·refine⟨h0,?_,by grind⟩;obtain⟨p,rfl⟩:∃p,q=p+1:=⟨q-1,by omega⟩
  grind
theorem zom{B X j v0 q r:Nat}(e:q*j+r=X)(w:X<j*B+v0)(m:v0<B)(hr:B<=r):q<B:=by
 rcases AG q B with h|h
 ·exact h
 ·have:=AP j h
  grind
theorem zis{B u0 v0 q r:Nat}(hv:v0<B)(j:q<=B)(hr:B<=r):q*v0<=r*B+u0:=by
 have m:=CR j (BT hv);have w:=AP B hr;omega
theorem zsk{B X j v0 q r:Nat}(e:q*j+r=X)(A:X<j*B+v0)(hv:B<=j*2)(w:v0<B)(m:2<=B):q<=B+1:=by
 rcases AG (B+1) q with h|h
 ·have:=AP j (show B+2<=q from h)
  grind
 ·exact h
theorem zxx(B V N X u1 u0 m j:Nat)(F:N=(X*B+u1)*B+u0)(h1:m=(X*B+u1)/V)(h0:j=((X*B+u1)%V*B+u0)/V)(w:0<V):m*B+j=N/V/\((X*B+u1)%V*B+u0)%V=N%V:=by
 have q:=Ad (X*B+u1) V;have E:=Ad ((X*B+u1)%V*B+u0) V;rw[<-h1] at q;rw[<-h0] at E;have A:=AC ((X*B+u1)%V*B+u0) w;have r:N=V*(m*B+j)+((X*B+u1)%V*B+u0)%V:=by
  rw[F];generalize X*B+u1=Y at*;generalize Y%V=R at*;rw[<-q,CZ,B5,<-B8];omega
 have H:N%V=((X*B+u1)%V*B+u0)%V:=by
  rw[r,ES];exact A9 A
 have G:N/V=m*B+j:=by
  rw[r,Ck w,An A,BZ]
 omega
theorem zxA(W j lo s t:Nat)(m:W=2^s*2^t):(j*2^s+lo/2^t)*W+lo*2^s%W=(j*W+lo)*2^s:=by grind [Nat.mul_comm,Nat.mul_div_mul_right,Nat.pow_pos,Nat.div_add_mod,Nat.add_mul,Nat.mul_assoc]
theorem zy4{W j y s lo t:Nat}(r:W=2^s*2^t)(h:j<y)(w:lo<W):j*2^s+lo/2^t<y*2^s:=by
 have m:lo/2^t<2^s:=(AZ (AU q_e)).2 q_o;have q:=AP (2^s) (show j+1<=y from h)
 grind
theorem zmG(b x s t i:Nat)(hb:b=2^s*2^t):x*2^s/b^(i+1)%b=x/b^(i+1)%b*2^s%b+x/b^i%b/2^t:=by
 have B:0<2^s:=AU q_e;have m:0<2^t:=AU q_e;have r:x*2^s/b^(i+1)=x/b^i/2^t:=by
  rw[Aq,AN,show b^i*b=b^i*2^t*2^s by rw[hb];ac_rfl];exact Cm _ _ B
 have j:=Ad (x/b^i) b;rw[Aq,<-AN] at j;rw[Dl] at j;have G:x/b^i%b<b:=AC _ (by simp_all);rw[r];generalize x/b^i=a,x/b^i%b=d,x/b^(i+1)=h at*;have w:a/2^t=h*2^s+d/2^t:=by
  rw[<-j,show b*h=2^t*(h*2^s) by rw[hb];ac_rfl];exact Ck m _ _
 have E:d/2^t<2^s:=(AZ m).2 q_o;rw[w,show h%b*2^s%b=h*2^s%b by simp];have A:h*2^s%b=(h%2^t)*2^s:=by
  rw[hb,AM (2^s) (2^t)];exact DU _ _ _
 have F:h%2^t*2^s+2^s<=b:=by
  have:=AP (2^s) (AC h m);rw[Nat.succ_mul,AM (2^t),<-hb] at this;exact this
 have q:=Ad (h*2^s) b;rw[A] at q ⊢;rw[<-q,BK,ES];exact A9 q_o
theorem zrG(b x s:Nat):x*2^s/b^0%b=x%b*2^s%b:=by simp
theorem zsH(b x s t i:Nat)(hb:b=2^s*2^t):x/2^s/b^i%b=x/b^i%b/2^s+x/b^(i+1)%b*2^t%b:=by
 have h0:x/2^s/b^i=x*2^t/b^(i+1):=by
  have j:0<2^t:=AU q_e;rw[Aq,AN,show b^i*b=2^s*b^i*2^t by rw[hb];ac_rfl];exact(Cm _ _ j).symm
 grind [zmG,Nat.mul_comm,Nat.add_comm]
structure DivJ(b k U V j q i:Nat)(l:List Nat)(c d:Nat):Prop where
 len:l.length=k
 low:∀d∈l,d<b
 rest:∀p,j+i<=p->p<k->l[p]?=some (U/b^p%b)
 car:c<b
 bit:d<=1
 sum:vl b l+q*(V%b^i)*b^j=U+(c+d)*b^(j+i)
theorem DivJ.start(b k U V j q:Nat)(hb:0<b)(m:U<b^k):DivJ b k U V j q 0 (dg b k U) 0 0:=
 ⟨zc3 b k U,zhi b hb k U,λp _ r=>zfd b k U p r,hb,AA _,by rw[zeI b k U m,Ao,C5];omega⟩
theorem DivJ.step{b k U V j q i z c d c' d':Nat}{l:List Nat}(h:DivJ b k U V j q i l c d)(r:j+i<k)(hz:z<b)(hc:c'<b)(m:d'<=1)(e:z+q*(V/b^i%b)+(c+d)=U/b^(j+i)%b+(c'+d')*b):DivJ b k U V j q (i+1) (l.set (j+i) z) c' d':=by
 have h0:=h.rest (j+i) (A7 _) r;have A:=zeC b l (j+i) _ z h0;have B:=zbZ b V i;have E:=h.sum;refine⟨by rw[AO,h.len],ze3 h.low hz,λp F w=>?_,hc,m,?_⟩
 ·rw[C9 q_o];exact h.rest p q_o w
 grind
theorem znf{b k c:Nat}{l:List Nat}(r:l.length=k)(q:∀d∈l,d<b)(hc:c<=k)(hz:∀p,c<=p->p<k->l[p]?=some 0):vl b l<b^c:=by
 have j:=zgN b l c q_o;have m:l.drop c=List.replicate (k-c) 0:=by
  apply Ca;intro p;rw[Bp,CM];split
  ·grind
  ·grind
 rw[m,zeN,Nat.mul_zero,Nat.add_zero] at j
 grind [zfo,List.mem_of_mem_take,List.length_take,Nat.min_eq_left]
theorem DivJ.last{b k U V j q n z c d d':Nat}{l:List Nat}(h:DivJ b k U V j q n l c d)(hn:j+n<k)(G:V<b^n)(hz:z<b)(e:z+(c+d)=U/b^(j+n)%b+d'*b)(I:d'<=1):
  ∃r,l.set (j+n) z=dg b k r/\r<b^k/\r+q*V*b^j=U+d'*b^(j+n+1)/\(U<b^(j+n+1)->r<b^(j+n+1)):=by
 have w:0<b:=q_o;have m:=h.step (z:=z) (c':=0) (d':=d') hn hz w I (by rw[An G,CF,Aa];omega);have B:=zhl b _ m.low;have E:=zfo b _ m.low;rw[m.len] at B E;refine⟨_,B.symm,E,?_,λA=>znf m.len m.low hn λp H J=>?_⟩
 ·have F:=m.sum;rw[A9 (AK G (AB w (Nat.le_succ n))),Aa] at F;exact F
 ·rw[m.rest p H J,An (AK A (AB w H)),CF]
structure ResJ(b k U V j i:Nat)(l:List Nat)(c:Nat):Prop where
 len:l.length=k
 low:∀d∈l,d<b
 rest:∀p,j+i<=p->p<k->l[p]?=some (U/b^p%b)
 bit:c<=1
 sum:vl b l+c*b^(j+i)=U+(V%b^i)*b^j
theorem ResJ.start(b k U V j:Nat)(hb:0<b)(m:U<b^k):ResJ b k U V j 0 (dg b k U) 0:=
 ⟨zc3 b k U,zhi b hb k U,λp _ q=>zfd b k U p q,AA _,by rw[zeI b k U m,Ao,C5];omega⟩
theorem ResJ.step{b k U V j i z c c':Nat}{l:List Nat}(h:ResJ b k U V j i l c)(m:j+i<k)(hz:z<b)(hc:c'<=1)(e:z+c'*b=U/b^(j+i)%b+V/b^i%b+c):ResJ b k U V j (i+1) (l.set (j+i) z) c':=by
 have h0:=h.rest (j+i) (A7 _) m;have r:=zeC b l (j+i) _ z h0;have w:=zbZ b V i;have A:=h.sum;refine⟨by rw[AO,h.len],ze3 h.low hz,λp B q=>?_,hc,?_⟩
 ·rw[C9 q_o];exact h.rest p q_o q
 grind
theorem ResJ.last{b k U V j n z c d':Nat}{l:List Nat}(h:ResJ b k U V j n l c)(hn:j+n<k)(E:V<b^n)(hz:z<b)(hb:0<b)(e:z+d'*b=U/b^(j+n)%b+c):
  ∃m,l.set (j+n) z=dg b k m/\m<b^k/\m+d'*b^(j+n+1)=U+V*b^j/\(U<b^(j+n+1)->m<b^(j+n+1)):=by
 have h0:=h.rest (j+n) (A7 _) hn;have H:=zeC b l (j+n) _ z h0;have B:=h.sum;rw[A9 E] at B;have q:∀d∈l.set (j+n) z,d<b:=ze3 h.low hz;have w:=zhl b _ q;have A:=zfo b _ q;rw[AO,h.len] at w A;refine⟨_,w.symm,A,?_,λr=>znf (by rw[AO,h.len]) q hn λp G F=>by
  rw[C9 q_o,h.rest p q_o F,An (AK r (AB hb G)),CF]⟩
 grind
theorem zq0{b n j U V q m r:Nat}(hb:2<=b)(hn:2<=n)(K:V<b^n)(I:U<V*b^(j+1))(hv:r=V/b^(n-2))(hu:m=U/b^(j+n-2))(F:b<=r)(L:q<b)(h1:q*r<=m)(h2:q+1=b\/m<(q+1)*r):
  q*V<=U/b^j+V/\U/b^j<(q+1)*V:=by
 have w:0<b:=q_o;have J:0<b^(n-2):=AU w;have B:0<b^j:=AU w;have E:m=U/b^j/b^(n-2):=by
  rw[hu,Aq,<-Ax,show j+n-2=j+(n-2) by omega]
 have G:=Ad (U/b^j) (b^(n-2));have H:=Ad V (b^(n-2));rw[<-E,AM] at G;rw[<-hv,AM] at H;have A:U/b^j<b*V:=by
  rw[AZ B];rw[AN] at I;rw[show b*V*b^j=V*(b^j*b) by ac_rfl];exact I
 exact zAi b (b^(n-2)) (U/b^j) V m r _ _ q G.symm H.symm (AC _ J) (AC _ J) L h1 h2 A F
theorem zsL{b _k _n j U V q w:Nat}(hb:0<b)(m:U/b^j<(q+1)*V)(e:w+q*V*b^j=U):w<V*b^j:=by
 have r:0<b^j:=AU hb;have A:U<(q+1)*V*b^j:=(AZ r).1 m
 grind
theorem zsu{b n j U V q r m k:Nat}(hb:0<b)(F:V<b^n)(L:0<q)(A:q*V<=U/b^j+V)(B:r+q*V*b^j=U+b^(j+n+1))(h1:r<b^(j+n+1))(H:m+k*b^(j+n+1)=r+V*b^j)(h2:m<b^(j+n+1)):
  m+(q-1)*V*b^j=U/\m<V*b^j:=by
 have w:0<b^j:=AU hb;obtain⟨p,rfl⟩:∃p,q=p+1:=⟨q-1,by omega⟩;rw[Aw];rw[B5,Bu] at A B;rw[B5] at B;have I:p*V*b^j<=U:=(CU w).1 q_o;have J:V*b^j<=b^(j+n+1):=by
  have:=AP (b^j) (BT F);have K:b^n*b^j<=b^(j+n+1):=by
   rw[<-Ax];exact AB hb q_o
  omega
 have G:k=1:=by
  rcases AG k 1 with h|h
  ·grind
  ·rcases AG k 2 with E|E
   ·omega
   ·have:=AP (b^(j+n+1)) E;omega
 subst G;omega
theorem zup{d o s Q U:Nat}(m:0<o)(e:Q*(o*2^s)+U=d*2^s)(h:U<o*2^s):Q=d/o/\U/2^s=d%o:=by
 have q:0<2^s:=AU q_e;have j:0<o*2^s:=EY m q;have r:d*2^s/(o*2^s)=Q:=by
  rw[<-e,AM Q,Ck j,An h,BZ]
 grind [Nat.mul_comm,Nat.mul_add_mod,Nat.mod_eq_of_lt,Nat.mul_div_mul_right,Nat.mul_mod_mul_right,Nat.mul_div_cancel]
theorem zvW{b n m d o s:Nat}(j:2<=b)(A:d<b^m)(w:b^(n-1)<=o)(hn:0<n)(hm:n<=m):d*2^s<o*2^s*b^(m-n+1):=by
 have q:b^(n-1)*b^(m-n+1)<=o*b^(m-n+1):=AP _ w;rw[<-Ax,show n-1+(m-n+1)=m by omega] at q;have r:d<o*b^(m-n+1):=q_o;rw[show o*2^s*b^(m-n+1)=o*b^(m-n+1)*2^s by ac_rfl];exact Bb r (AU q_e)
theorem zj2(b:Nat)(l:List Nat)(d:Nat):vl b (l++[d])=vl b l+d*b^l.length:=by simp[zgk,vl,D8,BZ,AM]
theorem zil{b:Nat}{l:List Nat}{d:Nat}(h:∀x∈l,x<b)(j:d<b):∀x∈l++[d],x<b:=by grind
theorem zpj(b:Nat)(hb:2<=b)(l:List Nat)(n:Nat)(E:∀d∈l,d<b)(hn:n<=l.length)(hz:∀p,n<=p->p<l.length->l[p]?=some 0)(h:n=0\/∃d,l[n-1]?=some d/\d≠0):
  nd b (vl b l)=n/\l.take n=cd b (vl b l):=by
 have q:=zgN b l n hn;have j:l.drop n=List.replicate (l.length-n) 0:=by
  apply Ca;intro p;rw[Bp,CM];split
  ·grind
  ·grind
 rw[j,zeN,Nat.mul_zero,Nat.add_zero] at q;have r:(l.take n).length=n:=by rw[AS];omega
 have m:∀d∈l.take n,d<b:=λd j=>E d (Cb j);have w:=zfo b (l.take n) m;have A:=zhl b (l.take n) m;rw[r,<-q] at w A;have F:nd b (vl b l)=n:=by
  refine zcD b _ _ hb w λH=>?_;rcases h with h|⟨d,j,h0⟩
  ·omega
  ·have B:=zjs b l (n-1) d j;rw[show n-1+1=n by omega,<-q] at B;have G:b^(n-1)<=d*b^(n-1):=BU _ q_o;omega
 grind [cd]
theorem zsv(j:List Nat)(i u v:Nat)(ds:List Nat)(hu:j[i+1]?=some u)(hv:j[i]?=some v)(A:j.length=i+2+2*ds.length)(h:vl 65536 ds=bev 256 (j.drop (i+2))):
  vl 65536 (ds++[u+256*v])=bev 256 (j.drop i):=by
 have q:j.drop i=v::j.drop (i+1):=by
  have m:i<j.length:=q_o;rw[BS m];rw[A2 m] at hv;rw[Am hv]
 have r:j.drop (i+1)=u::j.drop (i+2):=by
  have m:i+1<j.length:=q_o;rw[BS m];rw[A2 m] at hu;rw[Am hu]
 have w:(j.drop (i+2)).length=2*ds.length:=by rw[As];omega
 rw[zj2,q,r,h];simp only[bev,AQ];rw[w,show(65536:Nat)=256^2 from rfl,<-BG,AN,B5]
 grind
theorem ztL(j:List Nat)(u:Nat)(ds:List Nat)(hu:j[0]?=some u)(m:j.length=1+2*ds.length)(h:vl 65536 ds=bev 256 (j.drop 1)):
  vl 65536 (ds++[u])=bev 256 j:=by
 cases j with
 |nil=>simp at hu
 |cons d l=>
  simp only[C8,Bm] at hu;subst hu;simp only[AQ] at m;rw[zj2,h];simp only[Dm,BL,bev];rw[show l.length=2*ds.length by omega,show(65536:Nat)=256^2 from rfl,<-BG];omega
structure OutJ(b T i:Nat)(l:List Nat)(c:Nat):Prop where
 len:l.length=i
 low:∀d∈l,d<b
 sum:vl b l+c*b^i=T
theorem OutJ.start(b:Nat):OutJ b 0 0 [] 0:=⟨rfl,(λ_ h=>by cases h),rfl⟩
theorem OutJ.step{b T T' i t:Nat}{l:List Nat}{c:Nat}(h:OutJ b T i l c)(hb:0<b)(e:T'+c*b^i=T+t*b^i):OutJ b T' (i+1) (l++[t%b]) (t/b):=by
 refine⟨by rw[A4,h.len];rfl,zil h.low (AC _ hb),?_⟩;have j:=h.sum;have m:=Ad t b;rw[zj2,h.len]
 grind
theorem zuV(b x y i c:Nat):x%b^(i+1)+y%b^(i+1)+c*b^i=x%b^i+y%b^i+(x/b^i%b+y/b^i%b+c)*b^i:=by grind [zbZ,Nat.add_mul]
theorem zvo(b x m i c:Nat):x%b^(i+1)*m+c*b^i=x%b^i*m+(x/b^i%b*m+c)*b^i:=by grind [zbZ,Nat.add_mul,Nat.mul_right_comm]
structure OutS(b x y i:Nat)(l:List Nat)(c:Nat):Prop where
 len:l.length=i
 low:∀d∈l,d<b
 bit:c<=1
 sum:vl b l+y%b^i=x%b^i+c*b^i
theorem OutS.start(b x y:Nat):OutS b x y 0 [] 0:=⟨rfl,(λ_ h=>by cases h),AA _,by simp[vl,C5]⟩
theorem OutS.step{b x y i c t c':Nat}{l:List Nat}(h:OutS b x y i l c)(q:t<b)(hc:c'<=1)(e:t+y/b^i%b+c=x/b^i%b+c'*b):OutS b x y (i+1) (l++[t]) c':=by
 refine⟨by rw[A4,h.len];rfl,zil h.low q,hc,?_⟩;have r:=h.sum;have j:(t+y/b^i%b+c)*b^i=(x/b^i%b+c'*b)*b^i:=by rw[e]
 have m:c'*b^(i+1)=c'*b*b^i:=by rw[AN,AM (b^i) b,B8]
 rw[B5,B5,B5] at j;rw[zj2,h.len,zbZ,zbZ,m];omega
theorem OutS.done{b x y i c:Nat}{l:List Nat}(h:OutS b x y i l c)(hx:x<b^i)(q:y<=x):vl b l=x-y:=by
 have j:=h.sum;have m:=zfo b l h.low;rw[h.len] at m;rw[A9 hx,A9 q_o] at j;have:c=0:=by
  rcases AE c with h0|h0
  ·exact h0
  ·have:=AP (b^i) h0;omega
 subst this;omega
structure MulK(b k x y i j:Nat)(l:List Nat)(c:Nat):Prop where
 len:l.length=k
 low:∀d∈l,d<b
 car:c<b
 sum:vl b l+c*b^(i+j)=(x%b^i)*y+(x/b^i%b)*b^i*(y%b^j)
theorem MulK.start(b k x y:Nat)(hb:0<b):MulK b k x y 0 0 (List.replicate k 0) 0:=
 ⟨AL,λd j=>by simp_all,hb,by rw[zeN];simp[C5]⟩
theorem MulK.step{b k x y i j c u z c':Nat}{l:List Nat}(h:MulK b k x y i j l c)(hu:l[i+j]?=some u)(hz:z<b)(hc:c'<b)(e:z+c'*b=u+(x/b^i%b)*(y/b^j%b)+c):MulK b k x y i (j+1) (l.set (i+j) z) c':=by
 have m:=zeC b l (i+j) _ z hu;have q:=zbZ b y j;have r:=h.sum;refine⟨by rw[AO,h.len],ze3 h.low hz,hc,?_⟩
 grind
theorem MulK.row{b k x y i j:Nat}{l:List Nat}(h:MulK b k x y i j l 0)(q:y<b^j)(hb:0<b):MulK b k x y (i+1) 0 l 0:=by
 have m:=h.sum;have r:=zbZ b x i;rw[Nat.mod_eq_of_lt q] at m;refine⟨h.len,h.low,hb,?_⟩
 grind
theorem MulK.place{b k x y i j c m:Nat}{l:List Nat}(h:MulK b k x y i j l c)(hb:0<b)(w:y<b^m)(hm:m<=j)(hc:0<c):j<=m:=by
 have B:=h.sum;have A:=zbZ b x i;have q:y<b^j:=AK w (AB hb hm);rw[A9 q,<-B5,<-A] at B;have E:x%b^(i+1)<b^(i+1):=AC _ (AU hb);have G:x%b^(i+1)*y<=b^(i+1)*y:=AP _ (BT E);have F:b^(i+1)*y<b^(i+1)*b^m:=Cu w (AU hb);rw[<-Ax] at F;have H:b^(i+j)<=c*b^(i+j):=BU _ hc;rcases AG m j with r|r
 ·have:=AB (n:=b) hb (show i+1+m<=i+j by omega);omega
 ·exact r
theorem MulK.done{b k x y n:Nat}{l:List Nat}(h:MulK b k x y n 0 l 0)(hx:x<b^n):vl b l=x*y:=by
 have j:=h.sum;rw[A9 hx,Ao,C5,D8] at j;omega
theorem zvw{b x y t c:Nat}(hx:x<b)(q:y<b)(m:t<b)(hc:c<b):(t+x*y+c)/b<b:=by
 refine(AZ q_o).2 ?_;have j:=CR (show x<=b-1 by omega) (show y<=b-1 by omega);obtain⟨p,rfl⟩:∃p,b=p+1:=⟨b-1,by omega⟩
 grind
theorem zrf{b n R V t d:Nat}(q:0<d)(m:V/b^n=d)(A:R/b^n=t)(hb:0<b):R/V<=t/d:=by
 have r:0<b^n:=AU hb;have j:d*b^n<=V:=by rw[<-m];exact DB V _
 have w:R/V<=R/(d*b^n):=Nat.div_le_div_left j (EY q r)
 grind [Nat.mul_comm,Nat.div_div_eq_div_mul]
end Go.Nt
