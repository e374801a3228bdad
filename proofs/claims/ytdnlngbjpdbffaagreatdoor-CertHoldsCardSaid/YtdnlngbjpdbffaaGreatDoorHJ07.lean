/- Lemmas of this proof. -/
import Derived.Test.YtdnlngbjpdbffaaGreatDoorHJ05
set_option linter.all false
namespace Go.Nt
def vl(b:Nat):List Nat->Nat
 | []=>0
 |d::l=>d+b*vl b l
def dg(b:Nat):Nat->Nat->List Nat
 |0,_=>[]
 |k+1,x=>x%b::dg b k (x/b)
theorem zdW(b:Nat):∀k x,(dg b k x).length=k
 |0,_=>rfl
 |k+1,x=>by simp[dg,AO,zdW]
theorem zid(x b i:Nat):x/b/b^i=x/b^(i+1):=by simp[Ao,AS,AN]
theorem zfE(b:Nat):∀k x i,i<k->(dg b k x)[i]?=some (x/b^i%b)
 |k+1,x,0,_=>by simp[dg]
 |k+1,x,i+1,h=>by
  simp only[dg,BS];rw[zfE b k (x/b) i q_o,zid]
theorem zuF(b:Nat):∀k x,vl b (dg b k x)=x%b^k
 |0,x=>by simp[dg,vl,CZ]
 |k+1,x=>by simp[dg,vl,zuF,AS,AN,Nat.mod_mul]
theorem zfc(b k x:Nat)(h:x<b^k):vl b (dg b k x)=x:=by rw[zuF,AA h]
theorem ziN(b:Nat):∀l:List Nat,(∀d∈l,d<b)->dg b l.length (vl b l)=l
 | [],_=>rfl
 |d::l,h=>by
  have j:d<b:=h d A4;have m:0<b:=q_o;simp only[AO,dg,vl];rw[Cw,AA j,Db _ _ m,Ap j,AU,ziN b l (λx q=>h x (A0 _ q))]
theorem zgG(b:Nat):∀l:List Nat,(∀d∈l,d<b)->vl b l<b^l.length
 | [],_=>by simp[vl]
 |d::l,h=>by
  have r:d<b:=h d A4;have j:=zgG b l (λx m=>h x (A0 _ m));have q:b*(vl b l+1)<=b*b^l.length:=CT b j
  grind [vl]
theorem zi3(b:Nat)(hb:0<b):∀k x,∀d∈dg b k x,d<b
 |0,_,d,h=>by cases h
 |k+1,x,d,h=>by
  rcases AQ.1 h with rfl|h
  ·exact AG _ hb
  ·exact zi3 b hb k _ d h
theorem zw8(b k x y:Nat)(hx:x<b^k)(j:y<b^k)(h:dg b k x=dg b k y):x=y:=by grind [zfc]
theorem zg9(b:Nat):∀k,dg b k 0=List.replicate k 0
 |0=>rfl
 |k+1=>by simp[dg,C3,EA,zg9,Cx]
theorem zkb(b:Nat):∀k x j e,x/b^j%b+e<b->(dg b k x).set j (x/b^j%b+e)=dg b k (x+e*b^j)
 |0,x,j,e,_=>by simp[dg]
 |k+1,x,0,e,h=>by
  rw[Ax,Co] at h ⊢;rw[Al];have q:0<b:=q_o;have m:x+e=x%b+e+b*(x/b):=by have:=Nat.mod_add_div x b;omega
  simp only[dg,DB];rw[m,Cw,AA h,Db _ _ q,Ap h,AU]
 |k+1,x,j+1,e,h=>by
  have q:0<b:=q_o;rw[<-zid] at h ⊢;simp only[dg,Dr];have m:x+e*b^(j+1)=x+b*(e*b^j):=by rw[AS,<-BN,AN]
  rw[m,Cw,Db _ _ q,zkb b k (x/b) j e h]
theorem zh8(b:Nat):∀l m:List Nat,vl b (l++m)=vl b l+b^l.length*vl b m
 | [],m=>by simp[vl]
 |d::l,m=>by
  simp only[Aa,vl,AO,zh8 b l m]
  grind
def nd(b x:Nat):Nat:=if h:x=0\/b<2 then 0 else nd b (x/b)+1
termination_by x
decreasing_by
 have hx:0<x:=q_o;exact EG hx q_o
theorem ziQ(b:Nat):nd b 0=0:=by rw[nd];simp
theorem zw1(b x:Nat)(hb:2<=b)(hx:0<x):nd b x=nd b (x/b)+1:=by
 rw[nd,dif_neg q_o]
theorem zey(b:Nat)(hb:2<=b):∀x,x<b^nd b x/\(0<nd b x->b^(nd b x-1)<=x):=by
 intro x
 induction x using Nat.strongRecOn with
 |_ x m=>
  rcases AM x with rfl|j
  ·simp[ziQ,absurd]
  ·rw[zw1 b x hb j];obtain⟨q,r⟩:=m (x/b) (EG j q_o);refine⟨?_,λ_=>?_⟩
   ·grind [Nat.pow_succ,Nat.div_lt_iff_lt_mul]
   ·rw[B8];rcases AM (nd b (x/b)) with h0|h0
    ·rw[h0,Ax];exact j
    grind [Nat.le_div_iff_mul_le,Nat.pow_succ,Nat.succ_eq_add_one,Nat.sub_add_cancel]
theorem zcg(b x:Nat)(hb:2<=b):x<b^nd b x:=(zey b hb x).1
theorem zcI(b x n:Nat)(hb:2<=b)(h:x<b^n):nd b x<=n:=by
 rcases AK n (nd b x) with j|j
 ·have m:=(zey b hb x).2 q_o;have q:=AR (show 0<b by omega) (show n<=nd b x-1 by omega);omega
 ·exact j
theorem zdY(b x n:Nat)(hb:2<=b)(h1:x<b^n)(h2:0<n->b^(n-1)<=x):nd b x=n:=by
 have j:=zcI b x n hb h1;rcases AK (nd b x) n with h|h
 ·have m:=h2 q_o;have q:=AR (show 0<b by omega) (show nd b x<=n-1 by omega);have r:=zcg b x hb;omega
 ·omega
theorem zro(k x:Nat)(hk:0<k):nd (2^k) x=(nd 2 x+(k-1))/k:=by
 have j:2<=2^k:=by
  have:=AR (show 0<2 by decide) hk;simpa using this
 obtain⟨A,B⟩:=zey 2 (A8 _) x;have m:nd 2 x<=k*((nd 2 x+(k-1))/k)/\(0<nd 2 x->k*((nd 2 x+(k-1))/k-1)<=nd 2 x-1)/\(nd 2 x=0->(nd 2 x+(k-1))/k=0):=by
  have E:=Ae (nd 2 x+(k-1)) k;have F:=AG (nd 2 x+(k-1)) hk;refine⟨by omega,λh=>?_,λh=>?_⟩
  ·rw[Nat.mul_sub,Al];omega
  ·simp_all
 obtain⟨q,r,w⟩:=m;refine zdY _ _ _ j ?_ λG=>?_
 ·rw[<-BO]
  grind [Nat.lt_of_lt_of_le,Nat.pow_le_pow_right]
 ·have h0:0<nd 2 x:=by
   rcases AM (nd 2 x) with h|h
   ·omega
   ·exact h
  rw[<-BO]
  grind [Nat.le_trans,Nat.pow_le_pow_right]
def cd(b x:Nat):List Nat:=dg b (nd b x) x
theorem znq(b x:Nat):(cd b x).length=nd b x:=zdW _ _ _
theorem zxW(b x:Nat)(hb:2<=b):vl b (cd b x)=x:=zfc _ _ _ (zcg b x hb)
theorem zeP(b:Nat):∀(l:List Nat) (i x y:Nat),l[i]?=some x->vl b (l.set i y)+x*b^i=vl b l+y*b^i
 | [],i,x,y,h=>by simp at h
 |d::l,0,x,y,h=>by
  simp only[CW,Bt] at h;subst h;simp only[DB,vl,Ax,Al];omega
 |d::l,i+1,x,y,h=>by
  rw[BS] at h;have:=zeP b l i x y h;simp only[Dr,vl];have j:b*(vl b (l.set i y)+x*b^i)=b*(vl b l+y*b^i):=by rw[this]
  rw[Ca,Ca] at j;have m:x*b^(i+1)=b*(x*b^i):=by rw[AS,<-BN,AN]
  have q:y*b^(i+1)=b*(y*b^i):=by rw[AS,<-BN,AN]
  omega
theorem zii(b:Nat)(l:List Nat)(j:Nat)(h:j<=l.length):vl b l=vl b (l.take j)+b^j*vl b (l.drop j):=by grind [zh8,List.take_append_drop,List.length_take,Nat.min_eq_left]
theorem zff{b:Nat}{l:List Nat}(h:∀d∈l,d<b){i x:Nat}(hx:x<b):∀d∈l.set i x,d<b:=λd j=>by grind
theorem zhE(b:Nat):∀k,vl b (List.replicate k 0)=0
 |0=>rfl
 |k+1=>by simp[List.replicate_succ,vl,zhE,Nat.mul_zero]
theorem zx5(B P U V j m E r q:Nat)(M:U=j*P+E)(J:V=m*P+r)(I:E<P)(A:r<P)(K:q<B)(h1:q*m<=j)(h2:q+1=B\/j<(q+1)*m)(w:U<B*V)(hv:B<=m):q*V<=U+V/\U<(q+1)*V:=by
 have H:B*P<=V:=by
  have:=AP P hv;omega
 constructor
 ·have F:q*V=q*m*P+q*r:=by rw[J,Ca,BN]
  have G:q*m*P<=j*P:=AP P h1;have L:q*r<=B*P:=Dt (Bh K) (Bh A);omega
 ·rcases h2 with h2|h2
  ·rw[h2];exact w
  ·have F:(j+1)*P<=(q+1)*m*P:=AP P h2;have G:(q+1)*m*P<=(q+1)*V:=by
    rw[BN];exact CT _ q_o
   grind
theorem zf5(U V q:Nat)(h1:q*V<=U)(h2:U<(q+1)*V):U/V=q/\U%V=U-q*V:=by
 rw[Nat.add_mul,Nat.one_mul] at h2
 grind [Nat.div_eq_iff,Nat.div_add_mod,Nat.mul_comm]
theorem zwC(B q v c j lo r k:Nat)(F:q<B)(hv:v<B)(hc:c<B)(h1:q*v=j*B+lo)(h2:r+k*B=lo+c):j+k<B:=by
 have w:q*v<=(B-1)*(B-1):=Dt q_o q_o;have A:(j+k)*B<=q*v+c:=by rw[BL];omega
 rcases AK (j+k) B with h|h
 ·exact h
 ·have E:B*B<=(j+k)*B:=AP B h;obtain⟨m,rfl⟩:∃m,B=m+1:=⟨B-1,by omega⟩
  grind
theorem zdM(b x i:Nat):x%b^(i+1)=x%b^i+(x/b^i%b)*b^i:=by grind [Nat.pow_succ,Nat.mod_mul,Nat.mul_comm]
structure AddJ(b k x y i:Nat)(l:List Nat)(c:Nat):Prop where
 len:l.length=k
 low:∀d∈l,d<b
 rest:∀j,i<=j->j<k->l[j]?=some (x/b^j%b)
 bit:c<=1
 sum:vl b l+c*b^i=x+y%b^i
theorem AddJ.start(b k x y:Nat)(hb:0<b)(hx:x<b^k):AddJ b k x y 0 (dg b k x) 0:=
 ⟨zdW b k x,zi3 b hb k x,λj _ m=>zfE b k x j m,AE _,by rw[zfc b k x hx,Ax,CZ]⟩
theorem AddJ.step{b k x y i c z c':Nat}{l:List Nat}(h:AddJ b k x y i l c)(m:i<k)(hz:z<b)(hc:c'<=1)(e:z+c'*b=x/b^i%b+y/b^i%b+c):AddJ b k x y (i+1) (l.set i z) c':=by
 have h0:=h.rest i (A8 _) m;have r:=zeP b l i _ z h0;have w:=zdM b y i;have A:=h.sum;refine⟨by rw[AI,h.len],zff h.low hz,λj B q=>?_,hc,?_⟩
 ·rw[By q_o];exact h.rest j q_o q
 grind
theorem AddJ.done{b k x y c:Nat}{l:List Nat}(h:AddJ b k x y k l c)(r:y<b^k):l=dg b k (vl b l)/\vl b l<b^k/\vl b l+c*b^k=x+y:=by
 have j:=ziN b l h.low;have m:=zgG b l h.low;rw[h.len] at j m;have q:=h.sum
 grind [Nat.mod_eq_of_lt]
structure SubJ(b k x y i:Nat)(l:List Nat)(c:Nat):Prop where
 len:l.length=k
 low:∀d∈l,d<b
 rest:∀j,i<=j->j<k->l[j]?=some (x/b^j%b)
 bit:c<=1
 sum:vl b l+y%b^i=x+c*b^i
theorem SubJ.start(b k x y:Nat)(hb:0<b)(hx:x<b^k):SubJ b k x y 0 (dg b k x) 0:=
 ⟨zdW b k x,zi3 b hb k x,λj _ m=>zfE b k x j m,AE _,by rw[zfc b k x hx,Ax,CZ]⟩
theorem SubJ.step{b k x y i c z c':Nat}{l:List Nat}(h:SubJ b k x y i l c)(m:i<k)(hz:z<b)(hc:c'<=1)(e:z+y/b^i%b+c=x/b^i%b+c'*b):SubJ b k x y (i+1) (l.set i z) c':=by
 have h0:=h.rest i (A8 _) m;have r:=zeP b l i _ z h0;have w:=zdM b y i;have A:=h.sum;refine⟨by rw[AI,h.len],zff h.low hz,λj B q=>?_,hc,?_⟩
 ·rw[By q_o];exact h.rest j q_o q
 grind
theorem SubJ.done{b k x y c:Nat}{l:List Nat}(h:SubJ b k x y k l c)(r:y<b^k):l=dg b k (vl b l)/\vl b l<b^k/\vl b l+y=x+c*b^k:=by
 have j:=ziN b l h.low;have m:=zgG b l h.low;rw[h.len] at j m;have q:=h.sum
 grind [Nat.mod_eq_of_lt]
structure MulJ(b k x y n m i j:Nat)(l:List Nat)(c:Nat):Prop where
 len:l.length=k
 low:∀d∈l,d<b
 zero:∀q,i+m<=q->q<k->l[q]?=some 0
 car:c<b
 sum:vl b l+c*b^(i+j)=(x%b^i)*y+(x/b^i%b)*b^i*(y%b^j)
theorem MulJ.start(b k x y n m:Nat)(hb:0<b):MulJ b k x y n m 0 0 (List.replicate k 0) 0:=
 ⟨AJ,λd j=>by simp_all,λq _ r=>by simp_all,hb,by rw[zhE];simp[CZ]⟩
theorem MulJ.step{b k x y n m i j c u z c':Nat}{l:List Nat}(h:MulJ b k x y n m i j l c)(r:i+m<=k)(hj:j<m)(hu:l[i+j]?=some u)(hz:z<b)(hc:c'<b)(e:z+c'*b=(x/b^i%b)*(y/b^j%b)+u+c):MulJ b k x y n m i (j+1) (l.set (i+j) z) c':=by
 have B:=zeP b l (i+j) _ z hu;have E:=zdM b y j;have F:=h.sum;refine⟨by rw[AI,h.len],zff h.low hz,λq A w=>?_,hc,?_⟩
 ·rw[By q_o];exact h.zero q A w
 grind
theorem MulJ.row{b k x y n m i c:Nat}{l:List Nat}(h:MulJ b k x y n m i m l c)(hk:i+m<k)(w:y<b^m):MulJ b k x y n m (i+1) 0 (l.set (i+m) c) 0:=by
 have h0:=h.zero (i+m) (A8 _) hk;have A:=zeP b l (i+m) _ c h0;have B:=zdM b x i;have j:=h.sum;have r:0<b:=BQ (AE _) h.car;refine⟨by rw[AI,h.len],zff h.low h.car,λq E hk=>?_,r,?_⟩
 ·rw[By q_o];exact h.zero q q_o hk
 ·rw[AA w] at j
  grind
theorem MulJ.done{b k x y n m:Nat}{l:List Nat}(h:MulJ b k x y n m n 0 l 0)(hx:x<b^n):vl b l=x*y:=by
 have j:=h.sum;rw[Nat.mod_eq_of_lt hx,Nat.pow_zero,Nat.mod_one,Nat.mul_zero] at j;omega
theorem or_add(a c s:Nat)(h:c<2^s):a*2^s ||| c=a*2^s+c:=by grind [Nat.two_pow_add_eq_or_of_lt,Nat.mul_comm]
theorem zjk(b x y i:Nat)(r:0<b)(e:x/b^(i+1)=y/b^(i+1))(h:x/b^i%b<y/b^i%b):x<y:=by
 have w:x/b^i<y/b^i:=by
  have j:=Ae (x/b^i) b;have q:=Ae (y/b^i) b;rw[Ao,<-AS] at j q;rw[Dh] at j q;rw[e] at j;omega
 exact Nat.lt_of_not_le λm=>by
  have:=EK (c:=b^i) m;omega
theorem zti(b x y i:Nat)(e:x/b^(i+1)=y/b^(i+1))(h:x/b^i%b=y/b^i%b):x/b^i=y/b^i:=by grind [Nat.div_add_mod,Nat.div_div_eq_div_mul,Nat.pow_succ,Nat.succ_eq_add_one]
theorem ziF(b p r k:Nat):b^(k*p+r)=(b^k)^p*b^r:=by rw[B6,BO]
theorem ztg(b k x p r:Nat)(hr:r<k):x/(b^k)^p%b^k/b^r%b=x/b^(k*p+r)%b:=by
 rw[ziF,<-Ao];generalize x/(b^k)^p=y;have e:b^k=b^r*b^(k-r):=by rw[<-B6];congr 1;omega
 rw[e,Nat.mod_mul_right_div_self];refine Nat.mod_mod_of_dvd _ ?_;obtain⟨m,j⟩:∃m,k-r=m+1:=⟨k-r-1,by omega⟩;rw[j,AS];exact Nat.dvd_mul_left _ _
theorem zrf(b k A p r v:Nat)(hr:r<k)(hv:v<b):(A*b^(k*p+r+1))/(b^k)^p%b^k=A%b^(k-(r+1))*b^(r+1)/\A%b^(k-(r+1))*b^(r+1)+v*b^r<b^k:=by
 have q:0<b:=q_o;have w:A*b^(k*p+r+1)=A*b^(r+1)*(b^k)^p:=by
  rw[BH,ziF];ac_rfl
 have e:b^k=b^(r+1)*b^(k-(r+1)):=by rw[<-B6];congr 1;omega
 constructor
 ·grind [Nat.mul_div_cancel,Nat.pow_pos,Nat.mul_comm,Nat.mul_mod_mul_left]
 ·have j:A%b^(k-(r+1))+1<=b^(k-(r+1)):=AG _ (Ab q);have m:=AP (b^(r+1)) j;rw[BL,Bm,AN (b^(k-(r+1))),<-e] at m;have B:(v+1)*b^r<=b*b^r:=AP _ hv
  grind
def bev(b:Nat):List Nat->Nat
 | []=>0
 |d::l=>d*b^l.length+bev b l
theorem zhh(b:Nat):∀l m:List Nat,bev b (l++m)=bev b l*b^m.length+bev b m
 | [],m=>by simp[bev]
 |d::l,m=>by simp[Aa,bev,zhh,A3,B6,BL,BN,BH]
theorem zlh(b:Nat):∀l:List Nat,bev b l=vl b l.reverse
 | []=>rfl
 |d::l=>by
  rw[Ck,zh8,CE,bev,zlh b l]
  grind [vl]
theorem zfA(b:Nat)(l:List Nat)(h:∀d∈l,d<b):bev b l<b^l.length:=by grind [zlh,zgG,List.length_reverse]
def be(b x:Nat):List Nat:=(cd b x).reverse
theorem zw5(b x:Nat):(be b x).length=nd b x:=by simp[be,CE,znq]
theorem zwN(b x:Nat)(hb:2<=b):bev b (be b x)=x:=by grind [be,zlh,List.reverse_reverse,zxW]
theorem zwP(b x i:Nat)(j:i<nd b x):(be b x)[i]?=some (x/b^(nd b x-1-i)%b):=by
 unfold be;rw[List.getElem?_reverse (by rw[znq];exact j),znq];exact zfE b _ x _ q_o
theorem znw(b:Nat):∀l:List Nat,bev b (l.dropWhile (· == 0))=bev b l
 | []=>rfl
 |d::l=>by
  rw[CU];split
  ·rename_i h;have:d=0:=by simpa using h
   subst this;simp[znw,bev,BA,AU]
  ·rfl
theorem zrN(b:Nat)(hb:2<=b)(d:Nat)(l:List Nat)(j:0<d)(h:∀x∈d::l,x<b):nd b (bev b (d::l))=(d::l).length:=by
 refine zdY b _ _ hb (zfA b _ h) λ_=>?_;rw[AO,B8,bev];have:=AP (b^l.length) j;omega
theorem zg8(x:Nat)(h:0<x):0<nd 2 x/\2^(nd 2 x-1)<=x/\x<2^nd 2 x:=by
 have j:=zcg 2 x q_e;have h0:0<nd 2 x:=by
  rcases AM (nd 2 x) with h0|h0
  ·simp_all
  ·exact h0
 grind [zey]
def zbt(x:Nat):List Nat:=if h:x=0 then [] else (nd 2 x-1)::zbt (x-2^(nd 2 x-1))
termination_by x
decreasing_by
 grind
theorem zlU:zbt 0= []:=by rw[zbt];rfl
theorem zmG(x:Nat)(h:0<x):zbt x=(nd 2 x-1)::zbt (x-2^(nd 2 x-1)):=by
 rw[zbt,dif_neg q_o]
def left:Nat->Nat->Nat
 |0,x=>x
 |k+1,x=>left k (x-2^(nd 2 x-1))
theorem ziq:∀k x,k<=(zbt x).length->zbt (left k x)=(zbt x).drop k
 |0,_,_=>rfl
 |k+1,x,h=>by
  rcases AM x with h0|h0
  ·subst h0;rw[zlU] at h;exact absurd h q_p
  ·rw[zmG x h0] at h ⊢;simp only[AO] at h;exact ziq k _ q_o
theorem zf6{k x:Nat}(h:k<(zbt x).length):0<left k x/\(zbt x)[k]=nd 2 (left k x)-1:=by grind [ziq,List.drop_eq_getElem_cons,left,Nat.eq_zero_or_pos,zlU,zmG,List.cons.inj]
theorem zfB:∀k x,left (k+1) x=left k x-2^(nd 2 (left k x)-1)
 |0,_=>rfl
 |k+1,x=>by
  show left (k+1) (x-2^(nd 2 x-1))=_;exact zfB k _
theorem zjI{x:Nat} :left (zbt x).length x=0:=by
 have j:=ziq _ x (A8 _)
 grind [left,zbt]
theorem zrk{k x:Nat}(hk:k<=(zbt x).length)(h:0<left k x):k<(zbt x).length:=by
 rcases AK k (zbt x).length with j|j
 ·exact j
 ·obtain rfl:k=(zbt x).length:=q_o;rw[zjI] at h;omega
theorem zjE:∀k x,k<=(zbt x).length->left k x=x%2^nd 2 (left k x)
 |0,x,_=>(AA (zcg 2 x q_e)).symm
 |k+1,x,h=>by
  have w:=zjE k x q_o;obtain⟨A,E⟩:=zf6 (x:=x) (k:=k) h;obtain⟨F,j,B⟩:=zg8 _ A;rw[zfB];generalize H:left k x=y at*;generalize nd 2 y=m at*;obtain⟨q,rfl⟩:∃q,m=q+1:=⟨m-1,by omega⟩;rw[B8] at j ⊢;have G:y-2^q=x%2^q:=by
   have r:x%2^(q+1)%2^q=x%2^q:=Nat.mod_mod_of_dvd x (Nat.pow_dvd_pow 2 (Nat.le_succ q));rw[<-w] at r;rw[<-r];rw[AS] at B;rw[Nat.mod_eq_sub_mod j,AA q_o]
  grind [nd,zcI,Nat.mod_lt,Nat.pow_pos,zcg,Nat.mod_mod_of_dvd,Nat.pow_dvd_pow,Nat.mod_eq_of_lt]
theorem zoR(k x:Nat)(h:k<=(zbt x).length):left k x<=x:=by
 rw[zjE k x h];exact Nat.mod_le _ _
theorem zsm(k x:Nat)(h:k<=(zbt x).length):x-left k x=x/2^nd 2 (left k x)*2^nd 2 (left k x):=by grind [zjE,Nat.div_add_mod,nd,left,Nat.mul_comm]
structure Est(B X u0 v1 v0 q r:Nat):Prop where
 eq:q*v1+r=X
 up:X*B+u0<(q+1)*(v1*B+v0)
theorem Est.start(B X u0 j v0:Nat)(hv:0<j)(hu:u0<B):Est B X u0 j v0 (X/j) (X%j):=by
 have h0:=Ae X j;have w:=AG X hv;rw[AN] at h0;refine⟨h0,?_⟩;generalize X/j=q at*;have m:X+1<=(q+1)*j:=by rw[BL,Bm];omega
 have r:=AP B m
 grind
def Fo:=@Est.start
theorem zlv(B X u0 j v0 q r:Nat)(e:q*j+r=X):X*B+u0+q*v0=q*(j*B+v0)+(r*B+u0):=by grind
theorem zkR{B X u0 j v0 q r:Nat}(e:q*j+r=X)(h:r*B+u0<q*v0):X*B+u0<q*(j*B+v0):=by
 have:=zlv B X u0 j v0 q r e;omega
theorem zeh{B X u0 j v0 q r:Nat}(e:q*j+r=X)(h:q*v0<=r*B+u0):q*(j*B+v0)<=X*B+u0:=by
 have:=zlv B X u0 j v0 q r e;omega
theorem zgI{B X u0 V q:Nat}(j:X<V)(hu:u0<B)(m:B<=q):X*B+u0<q*V:=by
 have r:=AP B (show X+1<=V from j);have w:=AP V m
 grind
theorem zjG{B X u0 j v0 q r:Nat}(e:q*j+r=X)(h:X*B+u0<q*(j*B+v0)):0<q/\Est B X u0 j v0 (q-1) (r+j):=by
 rcases AM q with h0|h0
 ·simp_all
 ·refine⟨h0,?_,by grind⟩;obtain⟨p,rfl⟩:∃p,q=p+1:=⟨q-1,by omega⟩
  grind
theorem zmL{B X j v0 q r:Nat}(e:q*j+r=X)(w:X<j*B+v0)(m:v0<B)(hr:B<=r):q<B:=by
 rcases AK q B with h|h
 ·exact h
 ·have:=AP j h
  grind
theorem zhx{B u0 v0 q r:Nat}(hv:v0<B)(j:q<=B)(hr:B<=r):q*v0<=r*B+u0:=by
 have m:=Dt j (Bh hv);have w:=AP B hr;omega
theorem zrt{B X j v0 q r:Nat}(e:q*j+r=X)(A:X<j*B+v0)(hv:B<=j*2)(w:v0<B)(m:2<=B):q<=B+1:=by
 rcases AK (B+1) q with h|h
 ·have:=AP j (show B+2<=q from h)
  grind
 ·exact h
theorem zv5(B V N X u1 u0 m j:Nat)(F:N=(X*B+u1)*B+u0)(h1:m=(X*B+u1)/V)(h0:j=((X*B+u1)%V*B+u0)/V)(w:0<V):m*B+j=N/V/\((X*B+u1)%V*B+u0)%V=N%V:=by
 have q:=Ae (X*B+u1) V;have E:=Ae ((X*B+u1)%V*B+u0) V;rw[<-h1] at q;rw[<-h0] at E;have A:=AG ((X*B+u1)%V*B+u0) w;have r:N=V*(m*B+j)+((X*B+u1)%V*B+u0)%V:=by
  rw[F];generalize X*B+u1=Y at*;generalize Y%V=R at*;rw[<-q,Ca,BL,<-BN];omega
 have H:N%V=((X*B+u1)%V*B+u0)%V:=by
  rw[r,EH];exact AA A
 have G:N/V=m*B+j:=by
  rw[r,Ce w,Ap A,Bi]
 omega
theorem zvx(W j lo s t:Nat)(m:W=2^s*2^t):(j*2^s+lo/2^t)*W+lo*2^s%W=(j*W+lo)*2^s:=by grind [Nat.mul_comm,Nat.mul_div_mul_right,Nat.pow_pos,Nat.div_add_mod,Nat.add_mul,Nat.mul_assoc]
theorem zxm{W j y s lo t:Nat}(r:W=2^s*2^t)(h:j<y)(w:lo<W):j*2^s+lo/2^t<y*2^s:=by
 have m:lo/2^t<2^s:=(Af (Ab q_e)).2 q_o;have q:=AP (2^s) (show j+1<=y from h)
 grind
theorem zlu(b x s t i:Nat)(hb:b=2^s*2^t):x*2^s/b^(i+1)%b=x/b^(i+1)%b*2^s%b+x/b^i%b/2^t:=by
 have B:0<2^s:=Ab q_e;have m:0<2^t:=Ab q_e;have r:x*2^s/b^(i+1)=x/b^i/2^t:=by
  rw[Ao,AS,show b^i*b=b^i*2^t*2^s by rw[hb];ac_rfl];exact DS _ _ B
 have j:=Ae (x/b^i) b;rw[Ao,<-AS] at j;rw[Dh] at j;have G:x/b^i%b<b:=AG _ (by simp_all);rw[r];generalize x/b^i=a,x/b^i%b=d,x/b^(i+1)=h at*;have w:a/2^t=h*2^s+d/2^t:=by
  rw[<-j,show b*h=2^t*(h*2^s) by rw[hb];ac_rfl];exact Ce m _ _
 have E:d/2^t<2^s:=(Af m).2 q_o;rw[w,show h%b*2^s%b=h*2^s%b by simp];have A:h*2^s%b=(h%2^t)*2^s:=by
  rw[hb,AN (2^s) (2^t)];exact DT _ _ _
 have F:h%2^t*2^s+2^s<=b:=by
  have:=AP (2^s) (AG h m);rw[Nat.succ_mul,AN (2^t),<-hb] at this;exact this
 have q:=Ae (h*2^s) b;rw[A] at q ⊢;rw[<-q,BH,EH];exact AA q_o
theorem zqg(b x s:Nat):x*2^s/b^0%b=x%b*2^s%b:=by simp
theorem zrV(b x s t i:Nat)(hb:b=2^s*2^t):x/2^s/b^i%b=x/b^i%b/2^s+x/b^(i+1)%b*2^t%b:=by
 have h0:x/2^s/b^i=x*2^t/b^(i+1):=by
  have j:0<2^t:=Ab q_e;rw[Ao,AS,show b^i*b=2^s*b^i*2^t by rw[hb];ac_rfl];exact(DS _ _ j).symm
 grind [zlu,Nat.mul_comm,Nat.add_comm]
structure DivJ(b k U V j q i:Nat)(l:List Nat)(c d:Nat):Prop where
 len:l.length=k
 low:∀d∈l,d<b
 rest:∀p,j+i<=p->p<k->l[p]?=some (U/b^p%b)
 car:c<b
 bit:d<=1
 sum:vl b l+q*(V%b^i)*b^j=U+(c+d)*b^(j+i)
theorem DivJ.start(b k U V j q:Nat)(hb:0<b)(m:U<b^k):DivJ b k U V j q 0 (dg b k U) 0 0:=
 ⟨zdW b k U,zi3 b hb k U,λp _ r=>zfE b k U p r,hb,AE _,by rw[zfc b k U m,Ax,CZ];omega⟩
theorem DivJ.step{b k U V j q i z c d c' d':Nat}{l:List Nat}(h:DivJ b k U V j q i l c d)(r:j+i<k)(hz:z<b)(hc:c'<b)(m:d'<=1)(e:z+q*(V/b^i%b)+(c+d)=U/b^(j+i)%b+(c'+d')*b):DivJ b k U V j q (i+1) (l.set (j+i) z) c' d':=by
 have h0:=h.rest (j+i) (A8 _) r;have A:=zeP b l (j+i) _ z h0;have B:=zdM b V i;have E:=h.sum;refine⟨by rw[AI,h.len],zff h.low hz,λp F w=>?_,hc,m,?_⟩
 ·rw[By q_o];exact h.rest p q_o w
 grind
theorem zlq{b k c:Nat}{l:List Nat}(r:l.length=k)(q:∀d∈l,d<b)(hc:c<=k)(hz:∀p,c<=p->p<k->l[p]?=some 0):vl b l<b^c:=by
 have j:=zii b l c q_o;have m:l.drop c=List.replicate (k-c) 0:=by
  apply Cl;intro p;rw[Bl,CX];split
  ·grind
  ·grind
 rw[m,zhE,Nat.mul_zero,Nat.add_zero] at j
 grind [zgG,List.mem_of_mem_take,List.length_take,Nat.min_eq_left]
theorem DivJ.last{b k U V j q n z c d d':Nat}{l:List Nat}(h:DivJ b k U V j q n l c d)(hn:j+n<k)(G:V<b^n)(hz:z<b)(e:z+(c+d)=U/b^(j+n)%b+d'*b)(I:d'<=1):
  ∃r,l.set (j+n) z=dg b k r/\r<b^k/\r+q*V*b^j=U+d'*b^(j+n+1)/\(U<b^(j+n+1)->r<b^(j+n+1)):=by
 have w:0<b:=q_o;have m:=h.step (z:=z) (c':=0) (d':=d') hn hz w I (by rw[Ap G,C3,AU];omega);have B:=ziN b _ m.low;have E:=zgG b _ m.low;rw[m.len] at B E;refine⟨_,B.symm,E,?_,λA=>zlq m.len m.low hn λp H J=>?_⟩
 ·have F:=m.sum;rw[AA (AZ G (AR w (Nat.le_succ n))),AU] at F;exact F
 ·rw[m.rest p H J,Ap (AZ A (AR w H)),C3]
structure ResJ(b k U V j i:Nat)(l:List Nat)(c:Nat):Prop where
 len:l.length=k
 low:∀d∈l,d<b
 rest:∀p,j+i<=p->p<k->l[p]?=some (U/b^p%b)
 bit:c<=1
 sum:vl b l+c*b^(j+i)=U+(V%b^i)*b^j
theorem ResJ.start(b k U V j:Nat)(hb:0<b)(m:U<b^k):ResJ b k U V j 0 (dg b k U) 0:=
 ⟨zdW b k U,zi3 b hb k U,λp _ q=>zfE b k U p q,AE _,by rw[zfc b k U m,Ax,CZ];omega⟩
theorem ResJ.step{b k U V j i z c c':Nat}{l:List Nat}(h:ResJ b k U V j i l c)(m:j+i<k)(hz:z<b)(hc:c'<=1)(e:z+c'*b=U/b^(j+i)%b+V/b^i%b+c):ResJ b k U V j (i+1) (l.set (j+i) z) c':=by
 have h0:=h.rest (j+i) (A8 _) m;have r:=zeP b l (j+i) _ z h0;have w:=zdM b V i;have A:=h.sum;refine⟨by rw[AI,h.len],zff h.low hz,λp B q=>?_,hc,?_⟩
 ·rw[By q_o];exact h.rest p q_o q
 grind
theorem ResJ.last{b k U V j n z c d':Nat}{l:List Nat}(h:ResJ b k U V j n l c)(hn:j+n<k)(E:V<b^n)(hz:z<b)(hb:0<b)(e:z+d'*b=U/b^(j+n)%b+c):
  ∃m,l.set (j+n) z=dg b k m/\m<b^k/\m+d'*b^(j+n+1)=U+V*b^j/\(U<b^(j+n+1)->m<b^(j+n+1)):=by
 have h0:=h.rest (j+n) (A8 _) hn;have H:=zeP b l (j+n) _ z h0;have B:=h.sum;rw[AA E] at B;have q:∀d∈l.set (j+n) z,d<b:=zff h.low hz;have w:=ziN b _ q;have A:=zgG b _ q;rw[AI,h.len] at w A;refine⟨_,w.symm,A,?_,λr=>zlq (by rw[AI,h.len]) q hn λp G F=>by
  rw[By q_o,h.rest p q_o F,Ap (AZ r (AR hb G)),C3]⟩
 grind
theorem zqc{b n j U V q m r:Nat}(hb:2<=b)(hn:2<=n)(K:V<b^n)(I:U<V*b^(j+1))(hv:r=V/b^(n-2))(hu:m=U/b^(j+n-2))(F:b<=r)(L:q<b)(h1:q*r<=m)(h2:q+1=b\/m<(q+1)*r):
  q*V<=U/b^j+V/\U/b^j<(q+1)*V:=by
 have w:0<b:=q_o;have J:0<b^(n-2):=Ab w;have B:0<b^j:=Ab w;have E:m=U/b^j/b^(n-2):=by
  rw[hu,Ao,<-B6,show j+n-2=j+(n-2) by omega]
 have G:=Ae (U/b^j) (b^(n-2));have H:=Ae V (b^(n-2));rw[<-E,AN] at G;rw[<-hv,AN] at H;have A:U/b^j<b*V:=by
  rw[Af B];rw[AS] at I;rw[show b*V*b^j=V*(b^j*b) by ac_rfl];exact I
 exact zx5 b (b^(n-2)) (U/b^j) V m r _ _ q G.symm H.symm (AG _ J) (AG _ J) L h1 h2 A F
theorem zrq{b _k _n j U V q w:Nat}(hb:0<b)(m:U/b^j<(q+1)*V)(e:w+q*V*b^j=U):w<V*b^j:=by
 have r:0<b^j:=Ab hb;have A:U<(q+1)*V*b^j:=(Af r).1 m
 grind
theorem zso{b n j U V q r m k:Nat}(hb:0<b)(F:V<b^n)(L:0<q)(A:q*V<=U/b^j+V)(B:r+q*V*b^j=U+b^(j+n+1))(h1:r<b^(j+n+1))(H:m+k*b^(j+n+1)=r+V*b^j)(h2:m<b^(j+n+1)):
  m+(q-1)*V*b^j=U/\m<V*b^j:=by
 have w:0<b^j:=Ab hb;obtain⟨p,rfl⟩:∃p,q=p+1:=⟨q-1,by omega⟩;rw[B8];rw[BL,Bm] at A B;rw[BL] at B;have I:p*V*b^j<=U:=(CI w).1 q_o;have J:V*b^j<=b^(j+n+1):=by
  have:=AP (b^j) (Bh F);have K:b^n*b^j<=b^(j+n+1):=by
   rw[<-B6];exact AR hb q_o
  omega
 have G:k=1:=by
  rcases AK k 1 with h|h
  ·grind
  ·rcases AK k 2 with E|E
   ·omega
   ·have:=AP (b^(j+n+1)) E;omega
 subst G;omega
theorem zsR{d o s Q U:Nat}(m:0<o)(e:Q*(o*2^s)+U=d*2^s)(h:U<o*2^s):Q=d/o/\U/2^s=d%o:=by
 have q:0<2^s:=Ab q_e;have j:0<o*2^s:=Nat.mul_pos m q;have r:d*2^s/(o*2^s)=Q:=by
  rw[<-e,AN Q,Ce j,Ap h,Bi]
 grind [Nat.mul_comm,Nat.mul_add_mod,Nat.mod_eq_of_lt,Nat.mul_div_mul_right,Nat.mul_mod_mul_right,Nat.mul_div_cancel]
theorem ztV{b n m d o s:Nat}(j:2<=b)(A:d<b^m)(w:b^(n-1)<=o)(hn:0<n)(hm:n<=m):d*2^s<o*2^s*b^(m-n+1):=by
 have q:b^(n-1)*b^(m-n+1)<=o*b^(m-n+1):=AP _ w;rw[<-B6,show n-1+(m-n+1)=m by omega] at q;have r:d<o*b^(m-n+1):=q_o;rw[show o*2^s*b^(m-n+1)=o*b^(m-n+1)*2^s by ac_rfl];exact Bj r (Ab q_e)
def Cg(m a b:Nat):Prop:=∃k:Int,(a:Int)-b=m*k
theorem zmE(m a b:Nat):Cg m a b↔a%m=b%m:=by
 constructor
 ·rintro⟨k,h⟩;have j:(a:Int)%m=(b:Int)%m:=by
   rw[show(a:Int)=b+m*k by omega,Int.add_mul_emod_self_left]
  have q:((a%m:Nat):Int)=((b%m:Nat):Int):=by rw[Int.natCast_emod,Int.natCast_emod,j]
  exact Int.ofNat.inj q
 ·intro h;have j:=Ae a m;have q:=Ae b m;refine⟨((a/m:Nat):Int)-((b/m:Nat):Int),?_⟩;rw[Int.mul_sub,<-BW,<-BW];omega
theorem zeb(m a:Nat):Cg m (a%m) a:=(zmE _ _ _).2 (Ef _ _)
theorem Cg.refl(m a:Nat):Cg m a a:=⟨0,by omega⟩
def Ff:=@Cg.refl
theorem Cg.symm{m a b:Nat} :Cg m a b->Cg m b a:=λ⟨k,h⟩=>⟨-k,by rw[Int.mul_neg];omega⟩
theorem Cg.trans{m a b c:Nat} :Cg m a b->Cg m b c->Cg m a c:=λ⟨k,h⟩ ⟨l,j⟩=>⟨k+l,by rw[Eg];omega⟩
theorem Cg.add{m a b c d:Nat} :Cg m a b->Cg m c d->Cg m (a+c) (b+d):=λ⟨k,h⟩ ⟨l,j⟩=>⟨k+l,by rw[Eg];omega⟩
theorem Cg.mul{m a b c d:Nat} :Cg m a b->Cg m c d->Cg m (a*c) (b*d):=λ⟨k,h⟩ ⟨l,j⟩=>⟨k*c+b*l,by rw[BW,BW];grind⟩
theorem Cg.pow{m a b:Nat}(h:Cg m a b):∀n:Nat,Cg m (a^n) (b^n)
 |0=>by rw[Nat.pow_zero,Nat.pow_zero];exact Ff _ _
 |n+1=>by rw[AS,AS];exact(Cg.pow h n).mul h
theorem Cg.mod{m a b:Nat}(h:Cg m a b):a%m=b%m:=(zmE _ _ _).1 h
def dm(m a b:Nat):Nat:=(a+(m-b%m))%m
theorem zuC{m:Nat}(a b:Nat)(h:0<m):dm m a b<m:=AG _ h
theorem zoU{m:Nat}(a b:Nat)(h:0<m):Cg m (dm m a b+b) a:=by
 refine((zeb m _).add (Ff m b)).trans ?_;have j:=AG b h;have q:=Ae b m;refine⟨1+((b/m:Nat):Int),?_⟩;rw[Eg,<-BW];omega
theorem zx1{m a b c:Nat}(h:0<m)(hc:c<m)(e:Cg m (c+b) a):dm m a b=c:=by
 have j:=(zoU a b h).trans e.symm;obtain⟨k,w⟩:=j;have q:Cg m (dm m a b) c:=⟨k,by omega⟩;have r:=q.mod;rwa[AA (zuC a b h),AA hc] at r
theorem zx2{m a b c d:Nat}(h:0<m)(j:Cg m a c)(q:Cg m b d):dm m a b=dm m c d:=
 zx1 h (zuC _ _ h) ((Cg.add (Ff _ _) q).trans ((zoU c d h).trans j.symm))
def zhS(m:Nat):Nat->Nat->Nat->Nat
 |0,_,_=>1%m
 |n+1,b,e=>bif Nat.beq (e%2) 1 then b*zhS m n (b*b%m) (e/2)%m else zhS m n (b*b%m) (e/2)
theorem zpn(m:Nat):∀n b e,e<2^n->zhS m n b e=b^e%m
 |0,b,e,h=>by
  rw[Ax] at h;obtain rfl:e=0:=q_o;rfl
 |n+1,b,e,h=>by
  rw[AS] at h;have q:=zpn m n (b*b%m) (e/2) q_o;have r:(b*b%m)^(e/2)%m=(b*b)^(e/2)%m:=((zeb m (b*b)).pow _).mod;rw[r,<-Nat.pow_two,<-BO] at q;rw[zhS,<-Nat.pow_two,q];rcases(show e%2=0\/e%2=1 by omega) with j|j
  ·rw[j,show Nat.beq 0 1=false from rfl,cond_false,show 2*(e/2)=e by omega]
  ·rw[j,show Nat.beq 1 1=true from rfl,cond_true,Nat.mul_mod_mod]
   conv=>rhs;rw[show e=2*(e/2)+1 by omega,AS,AN]
def gP:Nat->Nat
 |1=>2879
 |2=>71850239
 |3=>2444789759
 |_=>1552518092300708935130918131258481755631334049434514313202351194902966239949102107258669453876591642442910007680288864229150803718918046342632727613031282983744380820890196288509170691316593175367469551763119843371637221007210577919
def gQ(i:Nat):Nat:=gP i/2
def gL:Nat->Nat
 |1=>2
 |2=>4
 |3=>4
 |_=>96
theorem zcm{p:Nat->Prop}(h1:p 1)(h2:p 2)(j:p 3)(m:p 4)(i:Nat)(h0:1<=i)(q:i<=4):p i:=by
 rcases(show i=1\/i=2\/i=3\/i=4 by omega) with rfl|rfl|rfl|rfl
 ·exact h1
 ·exact h2
 ·exact j
 ·exact m
def gE:Nat->Nat
 |0=>0
 |_=>768
theorem zyg:zhS (gP 1) (gE 1) 4 (gQ 1)=1:=by decide +kernel
theorem zyf:zhS (gP 2) (gE 2) 4 (gQ 2)=1:=by decide +kernel
theorem zyh:zhS (gP 3) (gE 3) 4 (gQ 3)=1:=by decide +kernel
theorem zye:zhS (gP 4) (gE 4) 4 (gQ 4)=1:=by decide +kernel
theorem zxX(i:Nat)(h0:1<=i)(j:i<=4):gQ i<2^gE i:=zcm (p:=λi=>gQ i<2^gE i) (by decide +kernel) (by decide +kernel) (by decide +kernel) (by decide +kernel) i h0 j
theorem zn5(i:Nat)(h0:1<=i)(j:i<=4):nd 256 (gP i)=gL i:=
 zdY _ _ _ q_e (zcm (p:=λi=>gP i<256^gL i) (by decide +kernel) (by decide +kernel) (by decide +kernel) (by decide +kernel) i h0 j)
  λ_=>zcm (p:=λi=>256^(gL i-1)<=gP i) (by decide +kernel) (by decide +kernel) (by decide +kernel) (by decide +kernel) i h0 j
theorem zw0(i:Nat)(h0:1<=i)(j:i<=4):gP i=2*gQ i+1:=zcm (p:=λi=>gP i=2*gQ i+1) (by decide +kernel) (by decide +kernel) (by decide +kernel) (by decide +kernel) i h0 j
theorem zbD(i:Nat)(h0:1<=i)(j:i<=4):1439<=gQ i:=zcm (p:=λi=>1439<=gQ i) (by decide +kernel) (by decide +kernel) (by decide +kernel) (by decide +kernel) i h0 j
theorem g4(i:Nat)(h0:1<=i)(j:i<=4):4^gQ i%gP i=1:=by
 rw[<-zpn (gP i) (gE i) 4 (gQ i) (zxX i h0 j)];exact zcm (p:=λi=>zhS (gP i) (gE i) 4 (gQ i)=1) zyg zyf zyh zye i h0 j
theorem zla{m b q e:Nat}(h:Cg m (b^q) 1):Cg m (b^(e%q)) (b^e):=by
 conv=>rhs;rw[<-Ae e q,B6,BO]
 have j:=(h.pow (e/q)).mul (Ff m (b^(e%q)));rw[EL,Bm] at j;exact j.symm
def mem(i x:Nat):Prop:=0<x/\x<gP i/\x^gQ i%gP i=1
theorem zbW(i:Nat)(h0:1<=i)(j:i<=4):1<gP i:=by
 have:=zw0 i h0 j;have:=zbD i h0 j;omega
theorem ziE{i x:Nat}(h0:1<=i)(j:i<=4)(h:x^gQ i%gP i=1):Cg (gP i) (x^gQ i) 1:=
 (zmE _ _ _).2 (by rw[h,AA (zbW i h0 j)])
theorem zmK{i x:Nat}(h0:1<=i)(q:i<=4)(h:Cg (gP i) (x^gQ i) 1):mem i (x%gP i):=by
 have r:=zbW i h0 q;have w:=zbD i h0 q;have m:(x%gP i)^gQ i%gP i=1:=by
  rw[((zeb (gP i) x).pow (gQ i)).mod,h.mod,AA r]
 refine⟨?_,AG _ q_o,m⟩;rcases AM (x%gP i) with j|j
 ·rw[j,Nat.zero_pow q_o,C3] at m;omega
 ·exact j
theorem zi4{i:Nat}(h0:1<=i)(j:i<=4)(e:Nat):mem i (4^e%gP i):=by
 refine zmK h0 j ?_;have h:=(ziE h0 j (g4 i h0 j)).pow e;rw[EL,<-BO,AN,BO] at h;exact h
end Go.Nt
