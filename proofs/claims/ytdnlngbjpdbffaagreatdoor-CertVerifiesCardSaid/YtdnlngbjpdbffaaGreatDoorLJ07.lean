/- Numbers as rows of digits, in plain numbers. -/
import Derived.Test.YtdnlngbjpdbffaaGreatDoorLJ00
set_option linter.all false
section
namespace Go.Nt
def vl (b:Nat):List Nat->Nat
 | []=>0
 |d::l=>d+b*vl b l
def dg (b:Nat):Nat->Nat->List Nat
 |0,_=>[]
 |k+1,x=>x % b::dg b k (x / b)
theorem zbo (b:Nat): ∀k x,(dg b k x).length=k
 |0,_=>rfl
 |k+1,x=>by simp only [dg,List.length_cons,zbo b k]
theorem zdR (x b i:Nat):x / b / b ^ i=x / b ^ (i+1):=by rw [Nat.div_div_eq_div_mul,Nat.pow_succ,Nat.mul_comm]
theorem zcL (b:Nat): ∀k x i,i < k->(dg b k x)[i]?=some (x / b ^ i % b)
 |k+1,x,0,_=>by simp [dg]
 |k+1,x,i+1,h=>by
  simp only [dg,List.getElem?_cons_succ];rw [zcL b k (x / b) i q_o,zdR]
theorem zpJ (b:Nat): ∀k x,vl b (dg b k x)=x % b ^ k
 |0,x=>by simp [dg,vl,Nat.mod_one]
 |k+1,x=>by
  simp only [dg,vl];rw [zpJ b k,Nat.pow_succ,Nat.mul_comm (b ^ k) b,Nat.mod_mul]
theorem zb2 (b k x:Nat) (h:x < b ^ k):vl b (dg b k x)=x:=by rw [zpJ,Nat.mod_eq_of_lt h]
theorem zef (b:Nat): ∀l:List Nat,(∀d∈l,d < b)->dg b l.length (vl b l)=l
 | [],_=>rfl
 |d::l,h=>by
  have hd:d < b:=h d List.mem_cons_self;have hb:0 < b:=q_o;simp only [List.length_cons,dg,vl];rw [Nat.add_mul_mod_self_left,Nat.mod_eq_of_lt hd,Nat.add_mul_div_left _ _ hb,Nat.div_eq_of_lt hd,Nat.zero_add,zef b l (λx hx=>h x (List.mem_cons_of_mem _ hx))]
theorem zcS (b:Nat): ∀l:List Nat,(∀d∈l,d < b)->vl b l < b ^ l.length
 | [],_=>by simp [vl]
 |d::l,h=>by
  have hd:d < b:=h d List.mem_cons_self;have h2:=zcS b l (λx hx=>h x (List.mem_cons_of_mem _ hx));have h3:b*(vl b l+1)<=b*b ^ l.length:=Nat.mul_le_mul_left b h2;rw [Nat.mul_add,Nat.mul_one] at h3;simp only [List.length_cons,vl];rw [Nat.pow_succ,Nat.mul_comm (b ^ l.length) b];omega
theorem zei (b:Nat) (hb:0 < b): ∀k x,∀d∈dg b k x,d < b
 |0,_,d,h=>by cases h
 |k+1,x,d,h=>by
  rcases List.mem_cons.1 h with rfl|h
  ·exact Nat.mod_lt _ hb
  ·exact zei b hb k _ d h
theorem zrg (b k x y:Nat) (hx:x < b ^ k) (hy:y < b ^ k) (h:dg b k x=dg b k y):x=y:=by
 rw [<-zb2 b k x hx,h,zb2 b k y hy]
theorem zdF (b:Nat): ∀k,dg b k 0=List.replicate k 0
 |0=>rfl
 |k+1=>by simp only [dg,Nat.zero_mod,Nat.zero_div,zdF b k,List.replicate_succ]
theorem zeQ (b:Nat): ∀k x j e,x / b ^ j % b+e < b->(dg b k x).set j (x / b ^ j % b+e)=dg b k (x+e*b ^ j)
 |0,x,j,e,_=>by simp [dg]
 |k+1,x,0,e,h=>by
  rw [Nat.pow_zero,Nat.div_one] at h ⊢;rw [Nat.mul_one];have hb:0 < b:=q_o;have h1:x+e=x % b+e+b*(x / b):=by have:=Nat.mod_add_div x b;omega
  simp only [dg,List.set_cons_zero];rw [h1,Nat.add_mul_mod_self_left,Nat.mod_eq_of_lt h,Nat.add_mul_div_left _ _ hb,Nat.div_eq_of_lt h,Nat.zero_add]
 |k+1,x,j+1,e,h=>by
  have hb:0 < b:=q_o;rw [<-zdR] at h ⊢;simp only [dg,List.set_cons_succ];have h1:x+e*b ^ (j+1)=x+b*(e*b ^ j):=by rw [Nat.pow_succ,<-Nat.mul_assoc,Nat.mul_comm]
  rw [h1,Nat.add_mul_mod_self_left,Nat.add_mul_div_left _ _ hb,zeQ b k (x / b) j e h]
theorem zfO (b:Nat): ∀j k x,dg b (j+k) x=dg b j x ++ dg b k (x / b ^ j)
 |0,k,x=>by simp [dg]
 |j+1,k,x=>by
  rw [show j+1+k=(j+k)+1 from by omega];simp only [dg,List.cons_append];rw [zfO b j k (x / b),zdR]
theorem zpY (b k j x:Nat) (h:j<=k):(dg b k x).take j=dg b j x:=by
 obtain ⟨i,rfl⟩: ∃i,k=j+i:=⟨k - j,by omega⟩;rw [zfO,List.take_append_of_le_length (by rw [zbo];exact Nat.le_refl _),List.take_of_length_le (by rw [zbo];exact Nat.le_refl _)]
theorem zdv (b:Nat): ∀l m:List Nat,vl b (l ++ m)=vl b l+b ^ l.length*vl b m
 | [],m=>by simp [vl]
 |d::l,m=>by
  simp only [List.cons_append,vl,List.length_cons,zdv b l m];rw [Nat.mul_add,Nat.pow_succ,Nat.mul_comm (b ^ l.length) b,Nat.mul_assoc,Nat.add_assoc]
def nd (b x:Nat):Nat:=if h:x=0\/b < 2 then 0 else nd b (x / b)+1
termination_by x
decreasing_by
 have hx:0 < x:=q_o;exact Nat.div_lt_self hx q_o
theorem zaT (b:Nat):nd b 0=0:=by rw [nd];simp
theorem zrB (b x:Nat) (hb:2<=b) (hx:0 < x):nd b x=nd b (x / b)+1:=by
 rw [nd,dif_neg q_o]
theorem zbZ (b:Nat) (hb:2<=b): ∀x,x < b ^ nd b x/\(0 < nd b x->b ^ (nd b x - 1)<=x):=by
 intro x
 induction x using Nat.strongRecOn with
 |_ x ih=>
  rcases Nat.eq_zero_or_pos x with rfl|hx
  ·rw [zaT];exact ⟨by simp,λh=>absurd h q_o⟩
  ·rw [zrB b x hb hx];obtain ⟨h1,h2⟩:=ih (x / b) (Nat.div_lt_self hx q_o);refine ⟨?_,λ_=>?_⟩
   ·rw [Nat.pow_succ];exact (Nat.div_lt_iff_lt_mul q_o).1 h1
   ·rw [Nat.add_sub_cancel];rcases Nat.eq_zero_or_pos (nd b (x / b)) with h0|h0
    ·rw [h0,Nat.pow_zero];exact hx
    ·have:=h2 h0;have h3:=(Nat.le_div_iff_mul_le (show 0 < b by omega)).1 this;rw [<-Nat.pow_succ,Nat.succ_eq_add_one,Nat.sub_add_cancel h0] at h3;exact h3
theorem zai (b x:Nat) (hb:2<=b):x < b ^ nd b x:=(zbZ b hb x).1
theorem zao (b x n:Nat) (hb:2<=b) (h:x < b ^ n):nd b x<=n:=by
 rcases Nat.lt_or_ge n (nd b x) with h1|h1
 ·have h2:=(zbZ b hb x).2 q_o;have h3:=Nat.pow_le_pow_right (show 0 < b by omega) (show n<=nd b x - 1 by omega);omega
 ·exact h1
theorem zbh (b x n:Nat) (hb:2<=b) (h1:x < b ^ n) (h2:0 < n->b ^ (n - 1)<=x):nd b x=n:=by
 have h3:=zao b x n hb h1;rcases Nat.lt_or_ge (nd b x) n with h|h
 ·have h4:=h2 q_o;have h5:=Nat.pow_le_pow_right (show 0 < b by omega) (show nd b x<=n - 1 by omega);have h6:=zai b x hb;omega
 ·omega
theorem zlO (b x:Nat) (hb:2<=b):nd b x=0↔x=0:=by
 refine ⟨λh=>?_,λh=>by rw [h,zaT]⟩;have:=zai b x hb;rw [h,Nat.pow_zero] at this;omega
theorem zjs (k x:Nat) (hk:0 < k):nd (2 ^ k) x=(nd 2 x+(k - 1)) / k:=by
 have hb:2<=2 ^ k:=by
  have:=Nat.pow_le_pow_right (show 0 < 2 by decide) hk;simpa using this
 obtain ⟨h1,h2⟩:=zbZ 2 (Nat.le_refl _) x;have hm:nd 2 x<=k*((nd 2 x+(k - 1)) / k)/\(0 < nd 2 x->k*((nd 2 x+(k - 1)) / k - 1)<=nd 2 x - 1)/\(nd 2 x=0->(nd 2 x+(k - 1)) / k=0):=by
  have h3:=Nat.div_add_mod (nd 2 x+(k - 1)) k;have h4:=Nat.mod_lt (nd 2 x+(k - 1)) hk;refine ⟨by omega,λh=>?_,λh=>?_⟩
  ·rw [Nat.mul_sub,Nat.mul_one];omega
  ·rw [h,Nat.zero_add];exact Nat.div_eq_of_lt q_o
 obtain ⟨e1,e2,e3⟩:=hm;refine zbh _ _ _ hb ?_ λhp=>?_
 ·rw [<-Nat.pow_mul];exact Nat.lt_of_lt_of_le h1 (Nat.pow_le_pow_right q_e e1)
 ·have h0:0 < nd 2 x:=by
   rcases Nat.eq_zero_or_pos (nd 2 x) with h|h
   ·have:=e3 h;omega
   ·exact h
  rw [<-Nat.pow_mul];exact Nat.le_trans (Nat.pow_le_pow_right q_e (e2 h0)) (h2 h0)
def cd (b x:Nat):List Nat:=dg b (nd b x) x
theorem zfm (b x:Nat):(cd b x).length=nd b x:=zbo _ _ _
theorem zpD (b x:Nat) (hb:2<=b):vl b (cd b x)=x:=zb2 _ _ _ (zai b x hb)
theorem zfl (b:Nat): ∀(l:List Nat) (i x:Nat),l[i]?=some x->vl b (l.take (i+1))=vl b (l.take i)+x*b ^ i
 | [],i,x,h=>by simp at h
 |d::l,0,x,h=>by
  simp only [List.getElem?_cons_zero,Option.some.injEq] at h;subst h;simp [vl]
 |d::l,i+1,x,h=>by
  rw [List.getElem?_cons_succ] at h;have:=zfl b l i x h;simp only [List.take_succ_cons,vl];rw [this,Nat.mul_add,Nat.pow_succ,Nat.mul_comm (b ^ i) b,<-Nat.mul_assoc b,Nat.mul_comm b x,Nat.mul_assoc x,Nat.add_assoc]
theorem zck (b:Nat): ∀(l:List Nat) (i x y:Nat),l[i]?=some x->vl b (l.set i y)+x*b ^ i=vl b l+y*b ^ i
 | [],i,x,y,h=>by simp at h
 |d::l,0,x,y,h=>by
  simp only [List.getElem?_cons_zero,Option.some.injEq] at h;subst h;simp only [List.set_cons_zero,vl,Nat.pow_zero,Nat.mul_one];omega
 |d::l,i+1,x,y,h=>by
  rw [List.getElem?_cons_succ] at h;have:=zck b l i x y h;simp only [List.set_cons_succ,vl];have h2:b*(vl b (l.set i y)+x*b ^ i)=b*(vl b l+y*b ^ i):=by rw [this]
  rw [Nat.mul_add,Nat.mul_add] at h2;have e1:x*b ^ (i+1)=b*(x*b ^ i):=by rw [Nat.pow_succ,<-Nat.mul_assoc,Nat.mul_comm]
  have e2:y*b ^ (i+1)=b*(y*b ^ i):=by rw [Nat.pow_succ,<-Nat.mul_assoc,Nat.mul_comm]
  omega
theorem zdV (b:Nat) (l:List Nat) (j:Nat) (h:j<=l.length):vl b l=vl b (l.take j)+b ^ j*vl b (l.drop j):=by
 have:=zdv b (l.take j) (l.drop j);rw [List.take_append_drop,List.length_take,Nat.min_eq_left h] at this;exact this
theorem zcJ {b:Nat}{l:List Nat}(h: ∀d∈l,d < b) {i x:Nat}(hx:x < b): ∀d∈l.set i x,d < b:=λd hd=>by
 rcases List.mem_or_eq_of_mem_set hd with h1|h1
 ·exact h d h1
 ·rw [h1];exact hx
theorem zcw (b:Nat): ∀k,vl b (List.replicate k 0)=0
 |0=>rfl
 |k+1=>by rw [List.replicate_succ];simp only [vl,zcw b k,Nat.mul_zero]
theorem knuth (B P U V u012 v01 U' V' q:Nat) (hU:U=u012*P+U') (hV:V=v01*P+V') (hU':U' < P) (hV':V' < P) (hq:q < B) (h1:q*v01<=u012) (h2:q+1=B\/u012 < (q+1)*v01) (hUV:U < B*V) (hv:B<=v01):q*V<=U+V/\U < (q+1)*V:=by
 have hPV:B*P<=V:=by
  have:=Nat.mul_le_mul_right P hv;omega
 constructor
 ·have e1:q*V=q*v01*P+q*V':=by rw [hV,Nat.mul_add,Nat.mul_assoc]
  have e2:q*v01*P<=u012*P:=Nat.mul_le_mul_right P h1;have e3:q*V'<=B*P:=Nat.mul_le_mul (Nat.le_of_lt hq) (Nat.le_of_lt hV');omega
 ·rcases h2 with h2|h2
  ·rw [h2];exact hUV
  ·have e1:(u012+1)*P<=(q+1)*v01*P:=Nat.mul_le_mul_right P h2;have e2:(q+1)*v01*P<=(q+1)*V:=by
    rw [Nat.mul_assoc];exact Nat.mul_le_mul_left _ q_o
   rw [Nat.add_mul,Nat.one_mul] at e1;omega
theorem zd0 (U V q:Nat) (h1:q*V<=U) (h2:U < (q+1)*V):U / V=q/\U % V=U - q*V:=by
 rw [Nat.add_mul,Nat.one_mul] at h2;have hd:U / V=q:=by
  rw [Nat.div_eq_iff q_o];constructor
  ·exact h1
  ·omega
 refine ⟨hd,?_⟩;have:=Nat.div_add_mod U V;rw [hd,Nat.mul_comm] at this;omega
theorem zrT (B q v c hi lo lo' k:Nat) (hq:q < B) (hv:v < B) (hc:c < B) (h1:q*v=hi*B+lo) (h2:lo'+k*B=lo+c):hi+k < B:=by
 have e1:q*v<=(B - 1)*(B - 1):=Nat.mul_le_mul q_o q_o;have e2:(hi+k)*B<=q*v+c:=by rw [Nat.add_mul];omega
 rcases Nat.lt_or_ge (hi+k) B with h|h
 ·exact h
 ·have e3:B*B<=(hi+k)*B:=Nat.mul_le_mul_right B h;obtain ⟨m,rfl⟩: ∃m,B=m+1:=⟨B - 1,by omega⟩;rw [Nat.add_sub_cancel] at e1;have e4:(m+1)*(m+1)=m*m+m+m+1:=by rw [Nat.add_mul,Nat.mul_add];omega
  omega
theorem zaM (b x i:Nat):x % b ^ (i+1)=x % b ^ i+(x / b ^ i % b)*b ^ i:=by
 rw [Nat.pow_succ,Nat.mod_mul,Nat.mul_comm (b ^ i)]
structure AddJ (b k x y i:Nat) (l:List Nat) (c:Nat):Prop where
 len:l.length=k
 low: ∀d∈l,d < b
 rest: ∀j,i<=j->j < k->l[j]?=some (x / b ^ j % b)
 bit:c<=1
 sum:vl b l+c*b ^ i=x+y % b ^ i
theorem AddJ.start (b k x y:Nat) (hb:0 < b) (hx:x < b ^ k):AddJ b k x y 0 (dg b k x) 0:=
 ⟨zbo b k x,zei b hb k x,λj _ hj=>zcL b k x j hj,Nat.zero_le _,by rw [zb2 b k x hx,Nat.pow_zero,Nat.mod_one]⟩
theorem AddJ.step {b k x y i c z c':Nat}{l:List Nat}(h:AddJ b k x y i l c) (hi:i < k) (hz:z < b) (hc:c'<=1) (e:z+c'*b=x / b ^ i % b+y / b ^ i % b+c):AddJ b k x y (i+1) (l.set i z) c':=by
 have h0:=h.rest i (Nat.le_refl _) hi;have h1:=zck b l i _ z h0;have h2:=zaM b y i;have h3:=h.sum;refine ⟨by rw [List.length_set,h.len],zcJ h.low hz,λj hj hk=>?_,hc,?_⟩
 ·rw [List.getElem?_set_ne q_o];exact h.rest j q_o hk
 ·have h4:(z+c'*b)*b ^ i=(x / b ^ i % b+y / b ^ i % b+c)*b ^ i:=by rw [e]
  have h5:c'*b ^ (i+1)=c'*b*b ^ i:=by rw [Nat.pow_succ,Nat.mul_comm (b ^ i) b,Nat.mul_assoc]
  rw [Nat.add_mul,Nat.add_mul,Nat.add_mul] at h4;rw [h5,h2];omega
theorem AddJ.done {b k x y c:Nat}{l:List Nat}(h:AddJ b k x y k l c) (hy:y < b ^ k):l=dg b k (vl b l)/\vl b l < b ^ k/\vl b l+c*b ^ k=x+y:=by
 have h1:=zef b l h.low;have h2:=zcS b l h.low;rw [h.len] at h1 h2;have h3:=h.sum;rw [Nat.mod_eq_of_lt hy] at h3;exact ⟨h1.symm,h2,h3⟩
structure SubJ (b k x y i:Nat) (l:List Nat) (c:Nat):Prop where
 len:l.length=k
 low: ∀d∈l,d < b
 rest: ∀j,i<=j->j < k->l[j]?=some (x / b ^ j % b)
 bit:c<=1
 sum:vl b l+y % b ^ i=x+c*b ^ i
theorem SubJ.start (b k x y:Nat) (hb:0 < b) (hx:x < b ^ k):SubJ b k x y 0 (dg b k x) 0:=
 ⟨zbo b k x,zei b hb k x,λj _ hj=>zcL b k x j hj,Nat.zero_le _,by rw [zb2 b k x hx,Nat.pow_zero,Nat.mod_one]⟩
theorem SubJ.step {b k x y i c z c':Nat}{l:List Nat}(h:SubJ b k x y i l c) (hi:i < k) (hz:z < b) (hc:c'<=1) (e:z+y / b ^ i % b+c=x / b ^ i % b+c'*b):SubJ b k x y (i+1) (l.set i z) c':=by
 have h0:=h.rest i (Nat.le_refl _) hi;have h1:=zck b l i _ z h0;have h2:=zaM b y i;have h3:=h.sum;refine ⟨by rw [List.length_set,h.len],zcJ h.low hz,λj hj hk=>?_,hc,?_⟩
 ·rw [List.getElem?_set_ne q_o];exact h.rest j q_o hk
 ·have h4:(z+y / b ^ i % b+c)*b ^ i=(x / b ^ i % b+c'*b)*b ^ i:=by rw [e]
  have h5:c'*b ^ (i+1)=c'*b*b ^ i:=by rw [Nat.pow_succ,Nat.mul_comm (b ^ i) b,Nat.mul_assoc]
  rw [Nat.add_mul,Nat.add_mul,Nat.add_mul] at h4;rw [h5,h2];omega
theorem SubJ.done {b k x y c:Nat}{l:List Nat}(h:SubJ b k x y k l c) (hy:y < b ^ k):l=dg b k (vl b l)/\vl b l < b ^ k/\vl b l+y=x+c*b ^ k:=by
 have h1:=zef b l h.low;have h2:=zcS b l h.low;rw [h.len] at h1 h2;have h3:=h.sum;rw [Nat.mod_eq_of_lt hy] at h3;exact ⟨h1.symm,h2,h3⟩
structure MulJ (b k x y n m i j:Nat) (l:List Nat) (c:Nat):Prop where
 len:l.length=k
 low: ∀d∈l,d < b
 zero: ∀q,i+m<=q->q < k->l[q]?=some 0
 car:c < b
 sum:vl b l+c*b ^ (i+j)=(x % b ^ i)*y+(x / b ^ i % b)*b ^ i*(y % b ^ j)
theorem MulJ.start (b k x y n m:Nat) (hb:0 < b):MulJ b k x y n m 0 0 (List.replicate k 0) 0:=
 ⟨List.length_replicate,λd hd=>by rw [(List.mem_replicate.1 hd).2];exact hb,λq _ hq=>by rw [List.getElem?_replicate,if_pos hq],hb,by rw [zcw];simp [Nat.mod_one]⟩
theorem MulJ.step {b k x y n m i j c u z c':Nat}{l:List Nat}(h:MulJ b k x y n m i j l c) (_hk:i+m<=k) (hj:j < m) (hu:l[i+j]?=some u) (hz:z < b) (hc:c' < b) (e:z+c'*b=(x / b ^ i % b)*(y / b ^ j % b)+u+c):MulJ b k x y n m i (j+1) (l.set (i+j) z) c':=by
 have h1:=zck b l (i+j) _ z hu;have h2:=zaM b y j;have h3:=h.sum;refine ⟨by rw [List.length_set,h.len],zcJ h.low hz,λq hq hk=>?_,hc,?_⟩
 ·rw [List.getElem?_set_ne q_o];exact h.zero q hq hk
 ·have h4:(z+c'*b)*b ^ (i+j)=((x / b ^ i % b)*(y / b ^ j % b)+u+c)*b ^ (i+j):=by rw [e]
  have h5:c'*b ^ (i+(j+1))=c'*b*b ^ (i+j):=by rw [<-Nat.add_assoc,Nat.pow_succ,Nat.mul_comm (b ^ (i+j)) b,Nat.mul_assoc]
  have h6:(x / b ^ i % b)*b ^ i*((y / b ^ j % b)*b ^ j)=(x / b ^ i % b)*(y / b ^ j % b)*b ^ (i+j):=by
   rw [Nat.pow_add];ac_rfl
  rw [Nat.add_mul,Nat.add_mul,Nat.add_mul] at h4;rw [h5,h2,Nat.mul_add,h6];omega
theorem MulJ.row {b k x y n m i c:Nat}{l:List Nat}(h:MulJ b k x y n m i m l c) (hk:i+m < k) (hy:y < b ^ m):MulJ b k x y n m (i+1) 0 (l.set (i+m) c) 0:=by
 have h0:=h.zero (i+m) (Nat.le_refl _) hk;have h1:=zck b l (i+m) _ c h0;have h2:=zaM b x i;have h3:=h.sum;have hb:0 < b:=Nat.lt_of_le_of_lt (Nat.zero_le _) h.car;refine ⟨by rw [List.length_set,h.len],zcJ h.low h.car,λq hq hk=>?_,hb,?_⟩
 ·rw [List.getElem?_set_ne q_o];exact h.zero q q_o hk
 ·rw [Nat.mod_eq_of_lt hy] at h3;rw [h2,Nat.pow_zero,Nat.mod_one,Nat.mul_zero,Nat.add_mul];omega
theorem MulJ.done {b k x y n m:Nat}{l:List Nat}(h:MulJ b k x y n m n 0 l 0) (hx:x < b ^ n):vl b l=x*y:=by
 have h3:=h.sum;rw [Nat.mod_eq_of_lt hx,Nat.pow_zero,Nat.mod_one,Nat.mul_zero] at h3;omega
theorem zkk (a c s:Nat) (h:c < 2 ^ s):a*2 ^ s ||| c=a*2 ^ s+c:=by
 have:=Nat.two_pow_add_eq_or_of_lt h a;rw [Nat.mul_comm] at this;exact this.symm
theorem zde (b x y i:Nat) (_hb:0 < b) (e:x / b ^ (i+1)=y / b ^ (i+1)) (h:x / b ^ i % b < y / b ^ i % b):x < y:=by
 have h1:x / b ^ i < y / b ^ i:=by
  have e1:=Nat.div_add_mod (x / b ^ i) b;have e2:=Nat.div_add_mod (y / b ^ i) b;rw [Nat.div_div_eq_div_mul,<-Nat.pow_succ] at e1 e2;rw [Nat.succ_eq_add_one] at e1 e2;rw [e] at e1;omega
 exact Nat.lt_of_not_le λhle=>by
  have:=Nat.div_le_div_right (c:=b ^ i) hle;omega
theorem zjh (b x y i:Nat) (e:x / b ^ (i+1)=y / b ^ (i+1)) (h:x / b ^ i % b=y / b ^ i % b):x / b ^ i=y / b ^ i:=by
 have e1:=Nat.div_add_mod (x / b ^ i) b;have e2:=Nat.div_add_mod (y / b ^ i) b;rw [Nat.div_div_eq_div_mul,<-Nat.pow_succ] at e1 e2;rw [Nat.succ_eq_add_one] at e1 e2;rw [e] at e1;omega
theorem zfI (b p r k:Nat):b ^ (k*p+r)=(b ^ k) ^ p*b ^ r:=by rw [Nat.pow_add,Nat.pow_mul]
theorem zgx (b k x p r:Nat) (hr:r < k):x / (b ^ k) ^ p % b ^ k / b ^ r % b=x / b ^ (k*p+r) % b:=by
 rw [zfI,<-Nat.div_div_eq_div_mul];generalize x / (b ^ k) ^ p=y;have e:b ^ k=b ^ r*b ^ (k - r):=by rw [<-Nat.pow_add];congr 1;omega
 rw [e,Nat.mod_mul_right_div_self];refine Nat.mod_mod_of_dvd _ ?_;obtain ⟨m,hm⟩: ∃m,k - r=m+1:=⟨k - r - 1,by omega⟩;rw [hm,Nat.pow_succ];exact Nat.dvd_mul_left _ _
theorem znH (b k A p r v:Nat) (hr:r < k) (hv:v < b):(A*b ^ (k*p+r+1)) / (b ^ k) ^ p % b ^ k=A % b ^ (k - (r+1))*b ^ (r+1)/\A % b ^ (k - (r+1))*b ^ (r+1)+v*b ^ r < b ^ k:=by
 have hb:0 < b:=q_o;have e1:A*b ^ (k*p+r+1)=A*b ^ (r+1)*(b ^ k) ^ p:=by
  rw [Nat.add_assoc,zfI];ac_rfl
 have e:b ^ k=b ^ (r+1)*b ^ (k - (r+1)):=by rw [<-Nat.pow_add];congr 1;omega
 constructor
 ·rw [e1,Nat.mul_div_cancel _ (Nat.pow_pos (Nat.pow_pos hb)),e,Nat.mul_comm A,Nat.mul_mod_mul_left,Nat.mul_comm]
 ·have h1:A % b ^ (k - (r+1))+1<=b ^ (k - (r+1)):=Nat.mod_lt _ (Nat.pow_pos hb);have h2:=Nat.mul_le_mul_right (b ^ (r+1)) h1;rw [Nat.add_mul,Nat.one_mul,Nat.mul_comm (b ^ (k - (r+1))),<-e] at h2;have h3:(v+1)*b ^ r<=b*b ^ r:=Nat.mul_le_mul_right _ hv;rw [Nat.add_mul,Nat.one_mul,Nat.mul_comm b,<-Nat.pow_succ] at h3;have h4:0 < b ^ r:=Nat.pow_pos hb;rw [Nat.succ_eq_add_one] at h3;omega
def bev (b:Nat):List Nat->Nat
 | []=>0
 |d::l=>d*b ^ l.length+bev b l
theorem zeT (b:Nat): ∀l m:List Nat,bev b (l ++ m)=bev b l*b ^ m.length+bev b m
 | [],m=>by simp [bev]
 |d::l,m=>by
  simp only [List.cons_append,bev,zeT b l m,List.length_append];rw [Nat.pow_add,Nat.add_mul,Nat.mul_assoc,Nat.add_assoc]
theorem zhD (b:Nat): ∀l:List Nat,bev b l=vl b l.reverse
 | []=>rfl
 |d::l=>by
  rw [List.reverse_cons,zdv,List.length_reverse,bev,zhD b l];simp only [vl,Nat.mul_zero,Nat.add_zero];rw [Nat.mul_comm,Nat.add_comm]
theorem zcf (b:Nat) (l:List Nat) (h: ∀d∈l,d < b):bev b l < b ^ l.length:=by
 rw [zhD];have:=zcS b l.reverse (λd hd=>h d (List.mem_reverse.1 hd));rw [List.length_reverse] at this;exact this
def be (b x:Nat):List Nat:=(cd b x).reverse
theorem zr0 (b x:Nat):(be b x).length=nd b x:=by unfold be;rw [List.length_reverse,zfm]
theorem zrP (b x:Nat) (hb:2<=b):bev b (be b x)=x:=by unfold be;rw [zhD,List.reverse_reverse,zpD b x hb]
theorem zmG (b x i:Nat) (hi:i < nd b x):(be b x)[i]?=some (x / b ^ (nd b x - 1 - i) % b):=by
 unfold be;rw [List.getElem?_reverse (by rw [zfm];exact hi),zfm];exact zcL b _ x _ q_o
theorem zji (b:Nat): ∀l:List Nat,bev b (l.dropWhile (· == 0))=bev b l
 | []=>rfl
 |d::l=>by
  rw [List.dropWhile_cons];split
  ·rename_i h;have:d=0:=by simpa using h
   subst this;rw [zji b l,bev,Nat.zero_mul,Nat.zero_add]
  ·rfl
theorem znn (b:Nat) (hb:2<=b) (d:Nat) (l:List Nat) (hd:0 < d) (h: ∀x∈d::l,x < b):nd b (bev b (d::l))=(d::l).length:=by
 refine zbh b _ _ hb (zcf b _ h) λ_=>?_;rw [List.length_cons,Nat.add_sub_cancel,bev];have:=Nat.mul_le_mul_right (b ^ l.length) hd;omega
theorem zev (x:Nat) (h:0 < x):0 < nd 2 x/\2 ^ (nd 2 x - 1)<=x/\x < 2 ^ nd 2 x:=by
 have h1:=zai 2 x q_e;have h0:0 < nd 2 x:=by
  rcases Nat.eq_zero_or_pos (nd 2 x) with h0|h0
  ·rw [h0,Nat.pow_zero] at h1;omega
  ·exact h0
 exact ⟨h0,(zbZ 2 q_e x).2 h0,h1⟩
def ones (x:Nat):List Nat:=if h:x=0 then [] else (nd 2 x - 1)::ones (x - 2 ^ (nd 2 x - 1))
termination_by x
decreasing_by
 have hp:0 < 2 ^ (nd 2 x - 1):=Nat.pow_pos q_e;omega
theorem zir:ones 0= []:=by rw [ones];rfl
theorem zgp (x:Nat) (h:0 < x):ones x=(nd 2 x - 1)::ones (x - 2 ^ (nd 2 x - 1)):=by
 rw [ones,dif_neg q_o]
def left:Nat->Nat->Nat
 |0,x=>x
 |k+1,x=>left k (x - 2 ^ (nd 2 x - 1))
theorem zfE: ∀k x,k<=(ones x).length->ones (left k x)=(ones x).drop k
 |0,_,_=>rfl
 |k+1,x,h=>by
  rcases Nat.eq_zero_or_pos x with h0|h0
  ·subst h0;rw [zir] at h;exact absurd h q_p
  ·rw [zgp x h0] at h ⊢;simp only [List.length_cons] at h;exact zfE k _ q_o
theorem zdX {k x:Nat}(h:k < (ones x).length):0 < left k x/\(ones x)[k]=nd 2 (left k x) - 1:=by
 have h1:=zfE k x q_o;rw [List.drop_eq_getElem_cons h] at h1;have h0:0 < left k x:=by
  rcases Nat.eq_zero_or_pos (left k x) with h0|h0
  ·rw [h0,zir] at h1;cases h1
  ·exact h0
 rw [zgp _ h0] at h1;exact ⟨h0,(List.cons.inj h1).1.symm⟩
theorem zdw: ∀k x,left (k+1) x=left k x - 2 ^ (nd 2 (left k x) - 1)
 |0,_=>rfl
 |k+1,x=>by
  show left (k+1) (x - 2 ^ (nd 2 x - 1))=_;exact zdw k _
theorem zgu {x:Nat} :left (ones x).length x=0:=by
 have h1:=zfE _ x (Nat.le_refl _);rw [List.drop_length] at h1;rcases Nat.eq_zero_or_pos (left (ones x).length x) with h0|h0
 ·exact h0
 ·rw [zgp _ h0] at h1;cases h1
theorem znL {k x:Nat}(hk:k<=(ones x).length) (h:0 < left k x):k < (ones x).length:=by
 rcases Nat.lt_or_ge k (ones x).length with h1|h1
 ·exact h1
 ·obtain rfl:k=(ones x).length:=q_o;rw [zgu] at h;omega
theorem zgv: ∀k x,k<=(ones x).length->left k x=x % 2 ^ nd 2 (left k x)
 |0,x,_=>(Nat.mod_eq_of_lt (zai 2 x q_e)).symm
 |k+1,x,h=>by
  have h1:=zgv k x q_o;obtain ⟨h2,h3⟩:=zdX (x:=x) (k:=k) h;obtain ⟨h4,h5,h6⟩:=zev _ h2;rw [zdw];generalize hL:left k x=y at *;generalize nd 2 y=m at *;obtain ⟨q,rfl⟩: ∃q,m=q+1:=⟨m - 1,by omega⟩;rw [Nat.add_sub_cancel] at h5 ⊢;have h7:y - 2 ^ q=x % 2 ^ q:=by
   have h8:x % 2 ^ (q+1) % 2 ^ q=x % 2 ^ q:=Nat.mod_mod_of_dvd x (Nat.pow_dvd_pow 2 (Nat.le_succ q));rw [<-h1] at h8;rw [<-h8];rw [Nat.pow_succ] at h6;rw [Nat.mod_eq_sub_mod h5,Nat.mod_eq_of_lt q_o]
  have h9:nd 2 (y - 2 ^ q)<=q:=zao _ _ _ q_e (by rw [h7];exact Nat.mod_lt _ (Nat.pow_pos q_e));have h10:=zai 2 (y - 2 ^ q) q_e;generalize nd 2 (y - 2 ^ q)=r at *;have h11:x % 2 ^ q % 2 ^ r=x % 2 ^ r:=Nat.mod_mod_of_dvd x (Nat.pow_dvd_pow 2 h9);rw [<-h11,<-h7];exact (Nat.mod_eq_of_lt h10).symm
theorem zla (k x:Nat) (h:k<=(ones x).length):left k x<=x:=by
 rw [zgv k x h];exact Nat.mod_le _ _
theorem zno (k x:Nat) (h:k<=(ones x).length):x - left k x=x / 2 ^ nd 2 (left k x)*2 ^ nd 2 (left k x):=by
 have h1:=zgv k x h;have h2:=Nat.div_add_mod x (2 ^ nd 2 (left k x));rw [<-h1,Nat.mul_comm] at h2;omega
structure Est (B X u0 v1 v0 q r:Nat):Prop where
 eq:q*v1+r=X
 up:X*B+u0 < (q+1)*(v1*B+v0)
theorem Est.start (B X u0 v1 v0:Nat) (hv:0 < v1) (hu:u0 < B):Est B X u0 v1 v0 (X / v1) (X % v1):=by
 have h0:=Nat.div_add_mod X v1;have h3:=Nat.mod_lt X hv;rw [Nat.mul_comm] at h0;refine ⟨h0,?_⟩;generalize X / v1=q at *;have h1:X+1<=(q+1)*v1:=by rw [Nat.add_mul,Nat.one_mul];omega
 have h2:=Nat.mul_le_mul_right B h1;rw [Nat.add_mul,Nat.one_mul] at h2;rw [Nat.mul_add,<-Nat.mul_assoc];omega
theorem zh7 (B X u0 v1 v0 q r:Nat) (e:q*v1+r=X):X*B+u0+q*v0=q*(v1*B+v0)+(r*B+u0):=by
 rw [<-e,Nat.add_mul,Nat.mul_add,<-Nat.mul_assoc];omega
theorem zhC {B X u0 v1 v0 q r:Nat}(e:q*v1+r=X) (h:r*B+u0 < q*v0):X*B+u0 < q*(v1*B+v0):=by
 have:=zh7 B X u0 v1 v0 q r e;omega
theorem zct {B X u0 v1 v0 q r:Nat}(e:q*v1+r=X) (h:q*v0<=r*B+u0):q*(v1*B+v0)<=X*B+u0:=by
 have:=zh7 B X u0 v1 v0 q r e;omega
theorem zd5 {B X u0 V q:Nat}(hX:X < V) (hu:u0 < B) (hq:B<=q):X*B+u0 < q*V:=by
 have h1:=Nat.mul_le_mul_right B (show X+1<=V from hX);have h2:=Nat.mul_le_mul_right V hq;rw [Nat.add_mul,Nat.one_mul,Nat.mul_comm V B] at h1;omega
theorem zgG {B X u0 v1 v0 q r:Nat}(e:q*v1+r=X) (h:X*B+u0 < q*(v1*B+v0)):0 < q/\Est B X u0 v1 v0 (q - 1) (r+v1):=by
 rcases Nat.eq_zero_or_pos q with h0|h0
 ·subst h0;rw [Nat.zero_mul] at h;omega
 ·refine ⟨h0,?_,by rw [show q - 1+1=q by omega];exact h⟩;obtain ⟨p,rfl⟩: ∃p,q=p+1:=⟨q - 1,by omega⟩;rw [Nat.add_mul,Nat.one_mul] at e;rw [Nat.add_sub_cancel];omega
theorem zjU {B X v1 v0 q r:Nat}(e:q*v1+r=X) (hX:X < v1*B+v0) (hv0:v0 < B) (hr:B<=r):q < B:=by
 rcases Nat.lt_or_ge q B with h|h
 ·exact h
 ·have:=Nat.mul_le_mul_right v1 h;rw [Nat.mul_comm B v1] at this;omega
theorem zeZ {B u0 v0 q r:Nat}(hv:v0 < B) (hq:q<=B) (hr:B<=r):q*v0<=r*B+u0:=by
 have h1:=Nat.mul_le_mul hq (Nat.le_of_lt hv);have h2:=Nat.mul_le_mul_right B hr;omega
theorem zmT {B X v1 v0 q r:Nat}(e:q*v1+r=X) (hX:X < v1*B+v0) (hv:B<=v1*2) (hv0:v0 < B) (_hB:2<=B):q<=B+1:=by
 rcases Nat.lt_or_ge (B+1) q with h|h
 ·have:=Nat.mul_le_mul_right v1 (show B+2<=q from h);rw [Nat.add_mul,Nat.mul_comm B v1] at this;omega
 ·exact h
theorem zqm (B V N X u1 u0 q1 q0:Nat) (hN:N=(X*B+u1)*B+u0) (h1:q1=(X*B+u1) / V) (h0:q0=((X*B+u1) % V*B+u0) / V) (hV:0 < V):q1*B+q0=N / V/\((X*B+u1) % V*B+u0) % V=N % V:=by
 have e1:=Nat.div_add_mod (X*B+u1) V;have e0:=Nat.div_add_mod ((X*B+u1) % V*B+u0) V;rw [<-h1] at e1;rw [<-h0] at e0;have hl:=Nat.mod_lt ((X*B+u1) % V*B+u0) hV;have hE:N=V*(q1*B+q0)+((X*B+u1) % V*B+u0) % V:=by
  rw [hN];generalize X*B+u1=Y at *;generalize Y % V=R at *;rw [<-e1,Nat.mul_add,Nat.add_mul,<-Nat.mul_assoc];omega
 have hm:N % V=((X*B+u1) % V*B+u0) % V:=by
  rw [hE,Nat.mul_add_mod];exact Nat.mod_eq_of_lt hl
 have hd:N / V=q1*B+q0:=by
  rw [hE,Nat.mul_add_div hV,Nat.div_eq_of_lt hl,Nat.add_zero]
 exact ⟨hd.symm,hm.symm⟩
theorem zpO (W hi lo s t:Nat) (hW:W=2 ^ s*2 ^ t):(hi*2 ^ s+lo / 2 ^ t)*W+lo*2 ^ s % W=(hi*W+lo)*2 ^ s:=by
 have h1:lo / 2 ^ t=lo*2 ^ s / W:=by
  rw [hW,Nat.mul_comm (2 ^ s) (2 ^ t)];exact (Nat.mul_div_mul_right lo (2 ^ t) (Nat.pow_pos q_e)).symm
 have h2:=Nat.div_add_mod (lo*2 ^ s) W;rw [<-h1] at h2;rw [Nat.add_mul,Nat.add_mul,Nat.mul_comm (lo / 2 ^ t) W,Nat.mul_assoc,Nat.mul_comm (2 ^ s) W,<-Nat.mul_assoc];omega
theorem zrO {W hi y s lo t:Nat}(hW:W=2 ^ s*2 ^ t) (h:hi < y) (hl:lo < W):hi*2 ^ s+lo / 2 ^ t < y*2 ^ s:=by
 have h1:lo / 2 ^ t < 2 ^ s:=(Nat.div_lt_iff_lt_mul (Nat.pow_pos q_e)).2 (by rw [<-hW];exact hl);have h2:=Nat.mul_le_mul_right (2 ^ s) (show hi+1<=y from h);rw [Nat.add_mul,Nat.one_mul] at h2;omega
theorem ziq (b x s t i:Nat) (hb:b=2 ^ s*2 ^ t):x*2 ^ s / b ^ (i+1) % b=x / b ^ (i+1) % b*2 ^ s % b+x / b ^ i % b / 2 ^ t:=by
 have hs:0 < 2 ^ s:=Nat.pow_pos q_e;have ht:0 < 2 ^ t:=Nat.pow_pos q_e;have h1:x*2 ^ s / b ^ (i+1)=x / b ^ i / 2 ^ t:=by
  rw [Nat.div_div_eq_div_mul,Nat.pow_succ,show b ^ i*b=b ^ i*2 ^ t*2 ^ s by rw [hb];ac_rfl];exact Nat.mul_div_mul_right _ _ hs
 have h2:=Nat.div_add_mod (x / b ^ i) b;rw [Nat.div_div_eq_div_mul,<-Nat.pow_succ] at h2;rw [Nat.succ_eq_add_one] at h2;have hd:x / b ^ i % b < b:=Nat.mod_lt _ (by rw [hb];exact Nat.mul_pos hs ht);rw [h1];generalize x / b ^ (i+1)=h at *;generalize x / b ^ i % b=d at *;generalize x / b ^ i=a at *;have h3:a / 2 ^ t=h*2 ^ s+d / 2 ^ t:=by
  rw [<-h2,show b*h=2 ^ t*(h*2 ^ s) by rw [hb];ac_rfl];exact Nat.mul_add_div ht _ _
 have h4:d / 2 ^ t < 2 ^ s:=(Nat.div_lt_iff_lt_mul ht).2 (by rw [<-hb];exact hd);rw [h3,show h % b*2 ^ s % b=h*2 ^ s % b by rw [Nat.mul_mod,Nat.mod_mod,<-Nat.mul_mod]];have h5:h*2 ^ s % b=(h % 2 ^ t)*2 ^ s:=by
  rw [hb,Nat.mul_comm (2 ^ s) (2 ^ t)];exact Nat.mul_mod_mul_right _ _ _
 have h6:h % 2 ^ t*2 ^ s+2 ^ s<=b:=by
  have:=Nat.mul_le_mul_right (2 ^ s) (Nat.mod_lt h ht);rw [Nat.succ_mul,Nat.mul_comm (2 ^ t),<-hb] at this;exact this
 have h7:=Nat.div_add_mod (h*2 ^ s) b;rw [h5] at h7 ⊢;rw [<-h7,Nat.add_assoc,Nat.mul_add_mod];exact Nat.mod_eq_of_lt q_o
theorem zl1 (b x s:Nat):x*2 ^ s / b ^ 0 % b=x % b*2 ^ s % b:=by
 rw [Nat.pow_zero,Nat.div_one,Nat.mod_mul_mod]
theorem znS (b x s t i:Nat) (hb:b=2 ^ s*2 ^ t):x / 2 ^ s / b ^ i % b=x / b ^ i % b / 2 ^ s+x / b ^ (i+1) % b*2 ^ t % b:=by
 have h0:x / 2 ^ s / b ^ i=x*2 ^ t / b ^ (i+1):=by
  have ht:0 < 2 ^ t:=Nat.pow_pos q_e;rw [Nat.div_div_eq_div_mul,Nat.pow_succ,show b ^ i*b=2 ^ s*b ^ i*2 ^ t by rw [hb];ac_rfl];exact (Nat.mul_div_mul_right _ _ ht).symm
 rw [h0,ziq b x t s i (by rw [hb,Nat.mul_comm]),Nat.add_comm]
structure DivJ (b k U V j q i:Nat) (l:List Nat) (c d:Nat):Prop where
 len:l.length=k
 low: ∀d∈l,d < b
 rest: ∀p,j+i<=p->p < k->l[p]?=some (U / b ^ p % b)
 car:c < b
 bit:d<=1
 sum:vl b l+q*(V % b ^ i)*b ^ j=U+(c+d)*b ^ (j+i)
theorem DivJ.start (b k U V j q:Nat) (hb:0 < b) (hU:U < b ^ k):DivJ b k U V j q 0 (dg b k U) 0 0:=
 ⟨zbo b k U,zei b hb k U,λp _ hp=>zcL b k U p hp,hb,Nat.zero_le _,by rw [zb2 b k U hU,Nat.pow_zero,Nat.mod_one];omega⟩
theorem DivJ.step {b k U V j q i z c d c' d':Nat}{l:List Nat}(h:DivJ b k U V j q i l c d) (hi:j+i < k) (hz:z < b) (hc:c' < b) (hd:d'<=1) (e:z+q*(V / b ^ i % b)+(c+d)=U / b ^ (j+i) % b+(c'+d')*b):DivJ b k U V j q (i+1) (l.set (j+i) z) c' d':=by
 have h0:=h.rest (j+i) (Nat.le_refl _) hi;have h1:=zck b l (j+i) _ z h0;have h2:=zaM b V i;have h3:=h.sum;refine ⟨by rw [List.length_set,h.len],zcJ h.low hz,λp hp hk=>?_,hc,hd,?_⟩
 ·rw [List.getElem?_set_ne q_o];exact h.rest p q_o hk
 ·have h4:(z+q*(V / b ^ i % b)+(c+d))*b ^ (j+i)=(U / b ^ (j+i) % b+(c'+d')*b)*b ^ (j+i):=by rw [e]
  have h5:(c'+d')*b ^ (j+(i+1))=(c'+d')*b*b ^ (j+i):=by rw [<-Nat.add_assoc,Nat.pow_succ,Nat.mul_comm (b ^ (j+i)) b,Nat.mul_assoc]
  have h6:q*(V / b ^ i % b*b ^ i)*b ^ j=q*(V / b ^ i % b)*b ^ (j+i):=by rw [Nat.pow_add];ac_rfl
  rw [Nat.add_mul,Nat.add_mul,Nat.add_mul (U / b ^ (j+i) % b)] at h4;rw [h5,h2,Nat.mul_add,Nat.add_mul,h6];omega
theorem zh4 {b k c:Nat}{l:List Nat}(hl:l.length=k) (hlo: ∀d∈l,d < b) (hc:c<=k) (hz: ∀p,c<=p->p < k->l[p]?=some 0):vl b l < b ^ c:=by
 have h1:=zdV b l c q_o;have hd:l.drop c=List.replicate (k - c) 0:=by
  apply List.ext_getElem?;intro p;rw [List.getElem?_drop,List.getElem?_replicate];split
  ·exact hz _ q_o q_o
  ·exact List.getElem?_eq_none q_o
 rw [hd,zcw,Nat.mul_zero,Nat.add_zero] at h1;have h2:=zcS b (l.take c) (λd hd=>hlo d (List.mem_of_mem_take hd));rw [List.length_take,Nat.min_eq_left q_o] at h2;omega
theorem DivJ.last {b k U V j q n z c d d':Nat}{l:List Nat}(h:DivJ b k U V j q n l c d) (hn:j+n < k) (hV:V < b ^ n) (hz:z < b) (e:z+(c+d)=U / b ^ (j+n) % b+d'*b) (hd:d'<=1):
  ∃U',l.set (j+n) z=dg b k U'/\U' < b ^ k/\U'+q*V*b ^ j=U+d'*b ^ (j+n+1)/\(U < b ^ (j+n+1)->U' < b ^ (j+n+1)):=by
 have hb:0 < b:=q_o;have h1:=h.step (z:=z) (c':=0) (d':=d') hn hz hb hd (by rw [Nat.div_eq_of_lt hV,Nat.zero_mod,Nat.zero_add];omega);have h2:=zef b _ h1.low;have h3:=zcS b _ h1.low;rw [h1.len] at h2 h3;refine ⟨_,h2.symm,h3,?_,λhlt=>zh4 h1.len h1.low hn λp hp hk=>?_⟩
 ·have h4:=h1.sum;rw [Nat.mod_eq_of_lt (Nat.lt_of_lt_of_le hV (Nat.pow_le_pow_right hb (Nat.le_succ n))),Nat.zero_add] at h4;exact h4
 ·rw [h1.rest p hp hk,Nat.div_eq_of_lt (Nat.lt_of_lt_of_le hlt (Nat.pow_le_pow_right hb hp)),Nat.zero_mod]
structure ResJ (b k U V j i:Nat) (l:List Nat) (c:Nat):Prop where
 len:l.length=k
 low: ∀d∈l,d < b
 rest: ∀p,j+i<=p->p < k->l[p]?=some (U / b ^ p % b)
 bit:c<=1
 sum:vl b l+c*b ^ (j+i)=U+(V % b ^ i)*b ^ j
theorem ResJ.start (b k U V j:Nat) (hb:0 < b) (hU:U < b ^ k):ResJ b k U V j 0 (dg b k U) 0:=
 ⟨zbo b k U,zei b hb k U,λp _ hp=>zcL b k U p hp,Nat.zero_le _,by rw [zb2 b k U hU,Nat.pow_zero,Nat.mod_one];omega⟩
theorem ResJ.step {b k U V j i z c c':Nat}{l:List Nat}(h:ResJ b k U V j i l c) (hi:j+i < k) (hz:z < b) (hc:c'<=1) (e:z+c'*b=U / b ^ (j+i) % b+V / b ^ i % b+c):ResJ b k U V j (i+1) (l.set (j+i) z) c':=by
 have h0:=h.rest (j+i) (Nat.le_refl _) hi;have h1:=zck b l (j+i) _ z h0;have h2:=zaM b V i;have h3:=h.sum;refine ⟨by rw [List.length_set,h.len],zcJ h.low hz,λp hp hk=>?_,hc,?_⟩
 ·rw [List.getElem?_set_ne q_o];exact h.rest p q_o hk
 ·have h4:(z+c'*b)*b ^ (j+i)=(U / b ^ (j+i) % b+V / b ^ i % b+c)*b ^ (j+i):=by rw [e]
  have h5:c'*b ^ (j+(i+1))=c'*b*b ^ (j+i):=by rw [<-Nat.add_assoc,Nat.pow_succ,Nat.mul_comm (b ^ (j+i)) b,Nat.mul_assoc]
  have h6:V / b ^ i % b*b ^ i*b ^ j=V / b ^ i % b*b ^ (j+i):=by rw [Nat.pow_add];ac_rfl
  rw [Nat.add_mul,Nat.add_mul,Nat.add_mul] at h4;rw [h5,h2,Nat.add_mul,h6];omega
theorem ResJ.last {b k U V j n z c d':Nat}{l:List Nat}(h:ResJ b k U V j n l c) (hn:j+n < k) (hV:V < b ^ n) (hz:z < b) (hb:0 < b) (e:z+d'*b=U / b ^ (j+n) % b+c):
  ∃U',l.set (j+n) z=dg b k U'/\U' < b ^ k/\U'+d'*b ^ (j+n+1)=U+V*b ^ j/\(U < b ^ (j+n+1)->U' < b ^ (j+n+1)):=by
 have h0:=h.rest (j+n) (Nat.le_refl _) hn;have h1:=zck b l (j+n) _ z h0;have h3:=h.sum;rw [Nat.mod_eq_of_lt hV] at h3;have hl: ∀d∈l.set (j+n) z,d < b:=zcJ h.low hz;have h2:=zef b _ hl;have h5:=zcS b _ hl;rw [List.length_set,h.len] at h2 h5;refine ⟨_,h2.symm,h5,?_,λhlt=>zh4 (by rw [List.length_set,h.len]) hl hn λp hp hk=>by
  rw [List.getElem?_set_ne q_o,h.rest p q_o hk,Nat.div_eq_of_lt (Nat.lt_of_lt_of_le hlt (Nat.pow_le_pow_right hb hp)),Nat.zero_mod]⟩
 have h4:(z+d'*b)*b ^ (j+n)=(U / b ^ (j+n) % b+c)*b ^ (j+n):=by rw [e]
 have h6:d'*b ^ (j+n+1)=d'*b*b ^ (j+n):=by rw [Nat.pow_succ,Nat.mul_comm (b ^ (j+n)) b,Nat.mul_assoc]
 rw [Nat.add_mul,Nat.add_mul] at h4;rw [h6];omega
theorem zlG {b n j U V q u012 v01:Nat}(hb:2<=b) (hn:2<=n) (_hV:V < b ^ n) (hU:U < V*b ^ (j+1)) (hv:v01=V / b ^ (n - 2)) (hu:u012=U / b ^ (j+n - 2)) (hv1:b<=v01) (hq:q < b) (h1:q*v01<=u012) (h2:q+1=b\/u012 < (q+1)*v01):
  q*V<=U / b ^ j+V/\U / b ^ j < (q+1)*V:=by
 have hb0:0 < b:=q_o;have hp:0 < b ^ (n - 2):=Nat.pow_pos hb0;have hpj:0 < b ^ j:=Nat.pow_pos hb0;have hu':u012=U / b ^ j / b ^ (n - 2):=by
  rw [hu,Nat.div_div_eq_div_mul,<-Nat.pow_add,show j+n - 2=j+(n - 2) by omega]
 have e1:=Nat.div_add_mod (U / b ^ j) (b ^ (n - 2));have e2:=Nat.div_add_mod V (b ^ (n - 2));rw [<-hu',Nat.mul_comm] at e1;rw [<-hv,Nat.mul_comm] at e2;have hUV:U / b ^ j < b*V:=by
  rw [Nat.div_lt_iff_lt_mul hpj];rw [Nat.pow_succ] at hU;rw [show b*V*b ^ j=V*(b ^ j*b) by ac_rfl];exact hU
 exact knuth b (b ^ (n - 2)) (U / b ^ j) V u012 v01 _ _ q e1.symm e2.symm (Nat.mod_lt _ hp) (Nat.mod_lt _ hp) hq h1 h2 hUV hv1
theorem zmK {b _k _n j U V q U':Nat}(hb:0 < b) (hUV:U / b ^ j < (q+1)*V) (e:U'+q*V*b ^ j=U):U' < V*b ^ j:=by
 have hpj:0 < b ^ j:=Nat.pow_pos hb;have h1:U < (q+1)*V*b ^ j:=(Nat.div_lt_iff_lt_mul hpj).1 hUV;rw [Nat.add_mul,Nat.one_mul,Nat.add_mul] at h1;omega
theorem zm1 {b n j U V q U' U'' k:Nat}(hb:0 < b) (hV:V < b ^ n) (hq:0 < q) (hqV:q*V<=U / b ^ j+V) (e1:U'+q*V*b ^ j=U+b ^ (j+n+1)) (h1:U' < b ^ (j+n+1)) (e2:U''+k*b ^ (j+n+1)=U'+V*b ^ j) (h2:U'' < b ^ (j+n+1)):
  U''+(q - 1)*V*b ^ j=U/\U'' < V*b ^ j:=by
 have hpj:0 < b ^ j:=Nat.pow_pos hb;obtain ⟨p,rfl⟩: ∃p,q=p+1:=⟨q - 1,by omega⟩;rw [Nat.add_sub_cancel];rw [Nat.add_mul,Nat.one_mul] at hqV e1;rw [Nat.add_mul] at e1;have h3:p*V*b ^ j<=U:=(Nat.le_div_iff_mul_le hpj).1 q_o;have h4:V*b ^ j<=b ^ (j+n+1):=by
  have:=Nat.mul_le_mul_right (b ^ j) (Nat.le_of_lt hV);have h5:b ^ n*b ^ j<=b ^ (j+n+1):=by
   rw [<-Nat.pow_add];exact Nat.pow_le_pow_right hb q_o
  omega
 have hk:k=1:=by
  rcases Nat.lt_or_ge k 1 with h|h
  ·obtain rfl:k=0:=q_o;omega
  ·rcases Nat.lt_or_ge k 2 with h'|h'
   ·omega
   ·have:=Nat.mul_le_mul_right (b ^ (j+n+1)) h';omega
 subst hk;omega
theorem zpx {d o s Q U:Nat}(ho:0 < o) (e:Q*(o*2 ^ s)+U=d*2 ^ s) (h:U < o*2 ^ s):Q=d / o/\U / 2 ^ s=d % o:=by
 have hs:0 < 2 ^ s:=Nat.pow_pos q_e;have hV:0 < o*2 ^ s:=Nat.mul_pos ho hs;have h1:d*2 ^ s / (o*2 ^ s)=Q:=by
  rw [<-e,Nat.mul_comm Q,Nat.mul_add_div hV,Nat.div_eq_of_lt h,Nat.add_zero]
 have h2:d*2 ^ s % (o*2 ^ s)=U:=by
  rw [<-e,Nat.mul_comm Q,Nat.mul_add_mod,Nat.mod_eq_of_lt h]
 rw [Nat.mul_div_mul_right _ _ hs] at h1;rw [Nat.mul_mod_mul_right] at h2;exact ⟨h1.symm,by rw [<-h2,Nat.mul_div_cancel _ hs]⟩
theorem zos {b n m d o s:Nat}(_hb:2<=b) (hd:d < b ^ m) (ho:b ^ (n - 1)<=o) (hn:0 < n) (hm:n<=m):d*2 ^ s < o*2 ^ s*b ^ (m - n+1):=by
 have h1:b ^ (n - 1)*b ^ (m - n+1)<=o*b ^ (m - n+1):=Nat.mul_le_mul_right _ ho;rw [<-Nat.pow_add,show n - 1+(m - n+1)=m by omega] at h1;have h2:d < o*b ^ (m - n+1):=q_o;rw [show o*2 ^ s*b ^ (m - n+1)=o*b ^ (m - n+1)*2 ^ s by ac_rfl];exact Nat.mul_lt_mul_of_pos_right h2 (Nat.pow_pos q_e)
theorem zf2 (b:Nat) (l:List Nat) (d:Nat):vl b (l ++ [d])=vl b l+d*b ^ l.length:=by
 rw [zdv];simp only [vl,Nat.mul_zero,Nat.add_zero];rw [Nat.mul_comm]
theorem zeV {b:Nat}{l:List Nat}{d:Nat}(h: ∀x∈l,x < b) (hd:d < b): ∀x∈l ++ [d],x < b:=by
 intro x hx;rcases List.mem_append.1 hx with h1|h1
 ·exact h x h1
 ·rw [List.mem_singleton.1 h1];exact hd
theorem ziT (b:Nat) (hb:2<=b) (l:List Nat) (n:Nat) (hl: ∀d∈l,d < b) (hn:n<=l.length) (hz: ∀p,n<=p->p < l.length->l[p]?=some 0) (h:n=0\/ ∃d,l[n - 1]?=some d/\d≠0):
  nd b (vl b l)=n/\l.take n=cd b (vl b l):=by
 have h1:=zdV b l n hn;have hd:l.drop n=List.replicate (l.length - n) 0:=by
  apply List.ext_getElem?;intro p;rw [List.getElem?_drop,List.getElem?_replicate];split
  ·exact hz _ q_o q_o
  ·exact List.getElem?_eq_none q_o
 rw [hd,zcw,Nat.mul_zero,Nat.add_zero] at h1;have htl:(l.take n).length=n:=by rw [List.length_take];omega
 have hlo: ∀d∈l.take n,d < b:=λd hd=>hl d (List.mem_of_mem_take hd);have h2:=zcS b (l.take n) hlo;have h3:=zef b (l.take n) hlo;rw [htl,<-h1] at h2 h3;have hnd:nd b (vl b l)=n:=by
  refine zbh b _ _ hb h2 λhp=>?_;rcases h with h|⟨d,hd,h0⟩
  ·omega
  ·have h4:=zfl b l (n - 1) d hd;rw [show n - 1+1=n by omega,<-h1] at h4;have h5:b ^ (n - 1)<=d*b ^ (n - 1):=Nat.le_mul_of_pos_left _ q_o;omega
 exact ⟨hnd,by unfold cd;rw [hnd,h3]⟩
theorem znP (bl:List Nat) (i u v:Nat) (ds:List Nat) (hu:bl[i+1]?=some u) (hv:bl[i]?=some v) (hl:bl.length=i+2+2*ds.length) (h:vl 65536 ds=bev 256 (bl.drop (i+2))):
  vl 65536 (ds ++ [u+256*v])=bev 256 (bl.drop i):=by
 have e1:bl.drop i=v::bl.drop (i+1):=by
  have hi:i < bl.length:=q_o;rw [List.drop_eq_getElem_cons hi];rw [List.getElem?_eq_getElem hi] at hv;rw [Option.some.inj hv]
 have e2:bl.drop (i+1)=u::bl.drop (i+2):=by
  have hi:i+1 < bl.length:=q_o;rw [List.drop_eq_getElem_cons hi];rw [List.getElem?_eq_getElem hi] at hu;rw [Option.some.inj hu]
 have e3:(bl.drop (i+2)).length=2*ds.length:=by rw [List.length_drop];omega
 rw [zf2,e1,e2,h];simp only [bev,List.length_cons];rw [e3,show (65536:Nat)=256 ^ 2 from rfl,<-Nat.pow_mul,Nat.pow_succ,Nat.add_mul];rw [show v*(256 ^ (2*ds.length)*256)=256*v*256 ^ (2*ds.length) by ac_rfl];omega
theorem zmt (bl:List Nat) (u:Nat) (ds:List Nat) (hu:bl[0]?=some u) (hl:bl.length=1+2*ds.length) (h:vl 65536 ds=bev 256 (bl.drop 1)):
  vl 65536 (ds ++ [u])=bev 256 bl:=by
 cases bl with
 |nil=>simp at hu
 |cons d l=>
  simp only [List.getElem?_cons_zero,Option.some.injEq] at hu;subst hu;simp only [List.length_cons] at hl;rw [zf2,h];simp only [List.drop_succ_cons,List.drop_zero,bev];rw [show l.length=2*ds.length by omega,show (65536:Nat)=256 ^ 2 from rfl,<-Nat.pow_mul];omega
structure OutJ (b T i:Nat) (l:List Nat) (c:Nat):Prop where
 len:l.length=i
 low: ∀d∈l,d < b
 sum:vl b l+c*b ^ i=T
theorem OutJ.start (b:Nat):OutJ b 0 0 [] 0:=⟨rfl,(λ_ h=>by cases h),rfl⟩
theorem OutJ.step {b T T' i t:Nat}{l:List Nat}{c:Nat}(h:OutJ b T i l c) (hb:0 < b) (e:T'+c*b ^ i=T+t*b ^ i):OutJ b T' (i+1) (l ++ [t % b]) (t / b):=by
 refine ⟨by rw [List.length_append,h.len];rfl,zeV h.low (Nat.mod_lt _ hb),?_⟩;have h1:=h.sum;have h2:=Nat.div_add_mod t b;rw [zf2,h.len];have h3:t / b*b ^ (i+1)=b*(t / b)*b ^ i:=by rw [Nat.pow_succ];ac_rfl
 have h4:t*b ^ i=b*(t / b)*b ^ i+t % b*b ^ i:=by rw [<-Nat.add_mul,h2]
 rw [h3];omega
theorem zpj (b x y i c:Nat):x % b ^ (i+1)+y % b ^ (i+1)+c*b ^ i=x % b ^ i+y % b ^ i+(x / b ^ i % b+y / b ^ i % b+c)*b ^ i:=by
 rw [zaM,zaM,Nat.add_mul,Nat.add_mul];omega
theorem zph (b x m i c:Nat):x % b ^ (i+1)*m+c*b ^ i=x % b ^ i*m+(x / b ^ i % b*m+c)*b ^ i:=by
 rw [zaM,Nat.add_mul,Nat.add_mul,Nat.mul_right_comm];omega
structure OutS (b x y i:Nat) (l:List Nat) (c:Nat):Prop where
 len:l.length=i
 low: ∀d∈l,d < b
 bit:c<=1
 sum:vl b l+y % b ^ i=x % b ^ i+c*b ^ i
theorem OutS.start (b x y:Nat):OutS b x y 0 [] 0:=⟨rfl,(λ_ h=>by cases h),Nat.zero_le _,by simp [vl,Nat.mod_one]⟩
theorem OutS.step {b x y i c t c':Nat}{l:List Nat}(h:OutS b x y i l c) (ht:t < b) (hc:c'<=1) (e:t+y / b ^ i % b+c=x / b ^ i % b+c'*b):OutS b x y (i+1) (l ++ [t]) c':=by
 refine ⟨by rw [List.length_append,h.len];rfl,zeV h.low ht,hc,?_⟩;have h1:=h.sum;have h4:(t+y / b ^ i % b+c)*b ^ i=(x / b ^ i % b+c'*b)*b ^ i:=by rw [e]
 have h5:c'*b ^ (i+1)=c'*b*b ^ i:=by rw [Nat.pow_succ,Nat.mul_comm (b ^ i) b,Nat.mul_assoc]
 rw [Nat.add_mul,Nat.add_mul,Nat.add_mul] at h4;rw [zf2,h.len,zaM,zaM,h5];omega
theorem OutS.done {b x y i c:Nat}{l:List Nat}(h:OutS b x y i l c) (hx:x < b ^ i) (hy:y<=x):vl b l=x - y:=by
 have h1:=h.sum;have h2:=zcS b l h.low;rw [h.len] at h2;rw [Nat.mod_eq_of_lt hx,Nat.mod_eq_of_lt q_o] at h1;have:c=0:=by
  rcases Nat.eq_zero_or_pos c with h0|h0
  ·exact h0
  ·have:=Nat.mul_le_mul_right (b ^ i) h0;rw [Nat.one_mul] at this;omega
 subst this;omega
structure MulK (b k x y i j:Nat) (l:List Nat) (c:Nat):Prop where
 len:l.length=k
 low: ∀d∈l,d < b
 car:c < b
 sum:vl b l+c*b ^ (i+j)=(x % b ^ i)*y+(x / b ^ i % b)*b ^ i*(y % b ^ j)
theorem MulK.start (b k x y:Nat) (hb:0 < b):MulK b k x y 0 0 (List.replicate k 0) 0:=
 ⟨List.length_replicate,λd hd=>by rw [(List.mem_replicate.1 hd).2];exact hb,hb,by rw [zcw];simp [Nat.mod_one]⟩
theorem MulK.step {b k x y i j c u z c':Nat}{l:List Nat}(h:MulK b k x y i j l c) (hu:l[i+j]?=some u) (hz:z < b) (hc:c' < b) (e:z+c'*b=u+(x / b ^ i % b)*(y / b ^ j % b)+c):MulK b k x y i (j+1) (l.set (i+j) z) c':=by
 have h1:=zck b l (i+j) _ z hu;have h2:=zaM b y j;have h3:=h.sum;refine ⟨by rw [List.length_set,h.len],zcJ h.low hz,hc,?_⟩;have h4:(z+c'*b)*b ^ (i+j)=(u+(x / b ^ i % b)*(y / b ^ j % b)+c)*b ^ (i+j):=by rw [e]
 have h5:c'*b ^ (i+(j+1))=c'*b*b ^ (i+j):=by rw [<-Nat.add_assoc,Nat.pow_succ,Nat.mul_comm (b ^ (i+j)) b,Nat.mul_assoc]
 have h6:(x / b ^ i % b)*b ^ i*((y / b ^ j % b)*b ^ j)=(x / b ^ i % b)*(y / b ^ j % b)*b ^ (i+j):=by
  rw [Nat.pow_add];ac_rfl
 rw [Nat.add_mul,Nat.add_mul,Nat.add_mul] at h4;rw [h5,h2,Nat.mul_add,h6];omega
theorem MulK.row {b k x y i j:Nat}{l:List Nat}(h:MulK b k x y i j l 0) (hy:y < b ^ j) (hb:0 < b):MulK b k x y (i+1) 0 l 0:=by
 have h3:=h.sum;have h2:=zaM b x i;rw [Nat.mod_eq_of_lt hy] at h3;refine ⟨h.len,h.low,hb,?_⟩;rw [h2,Nat.pow_zero,Nat.mod_one,Nat.mul_zero,Nat.add_mul];omega
theorem MulK.place {b k x y i j c m:Nat}{l:List Nat}(h:MulK b k x y i j l c) (hb:0 < b) (hy:y < b ^ m) (hm:m<=j) (hc:0 < c):j<=m:=by
 have h3:=h.sum;have h2:=zaM b x i;have hyj:y < b ^ j:=Nat.lt_of_lt_of_le hy (Nat.pow_le_pow_right hb hm);rw [Nat.mod_eq_of_lt hyj,<-Nat.add_mul,<-h2] at h3;have h4:x % b ^ (i+1) < b ^ (i+1):=Nat.mod_lt _ (Nat.pow_pos hb);have h5:x % b ^ (i+1)*y<=b ^ (i+1)*y:=Nat.mul_le_mul_right _ (Nat.le_of_lt h4);have h6:b ^ (i+1)*y < b ^ (i+1)*b ^ m:=Nat.mul_lt_mul_of_pos_left hy (Nat.pow_pos hb);rw [<-Nat.pow_add] at h6;have h7:b ^ (i+j)<=c*b ^ (i+j):=Nat.le_mul_of_pos_left _ hc;rcases Nat.lt_or_ge m j with h8|h8
 ·have:=Nat.pow_le_pow_right (n:=b) hb (show i+1+m<=i+j by omega);omega
 ·exact h8
theorem MulK.done {b k x y n:Nat}{l:List Nat}(h:MulK b k x y n 0 l 0) (hx:x < b ^ n):vl b l=x*y:=by
 have h3:=h.sum;rw [Nat.mod_eq_of_lt hx,Nat.pow_zero,Nat.mod_one,Nat.mul_zero] at h3;omega
theorem zpC {b x y t c:Nat}(hx:x < b) (hy:y < b) (ht:t < b) (hc:c < b):(t+x*y+c) / b < b:=by
 refine (Nat.div_lt_iff_lt_mul q_o).2 ?_;have h1:=Nat.mul_le_mul (show x<=b - 1 by omega) (show y<=b - 1 by omega);obtain ⟨p,rfl⟩: ∃p,b=p+1:=⟨b - 1,by omega⟩;rw [Nat.add_sub_cancel] at h1;rw [Nat.add_mul,Nat.mul_add];omega
theorem zmc {b n R V t d:Nat}(hd:0 < d) (hV:V / b ^ n=d) (hR:R / b ^ n=t) (hb:0 < b):R / V<=t / d:=by
 have hp:0 < b ^ n:=Nat.pow_pos hb;have h1:d*b ^ n<=V:=by rw [<-hV];exact Nat.div_mul_le_self V _
 have h2:R / V<=R / (d*b ^ n):=Nat.div_le_div_left h1 (Nat.mul_pos hd hp);rw [Nat.mul_comm,<-Nat.div_div_eq_div_mul,hR] at h2;exact h2
end Go.Nt
end
