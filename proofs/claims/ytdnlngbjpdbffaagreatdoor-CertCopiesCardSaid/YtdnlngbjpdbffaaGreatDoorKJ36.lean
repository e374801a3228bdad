/- Lemmas of this proof. -/
import Derived.Test.YtdnlngbjpdbffaaGreatDoorKJ30
set_option maxHeartbeats 2000000
set_option maxRecDepth 10000
set_option linter.all false
namespace Go.Proofs.YtdnlngbjpdbffaaGreatDoor
open Go Go.Sy Go.Nt Go.RowKit
attribute [local irreducible] Sy SyL SyX Sy.Fn callFunc zf z8 zG iC gP gQ gL zap zab zaF zaK gel zaJ zaZ Sh.sum zaY
theorem zms{i x:Nat}(h0:1<=i)(j:i<=4)(h:mem i x)(e:Nat):mem i (x^e%gP i):=zng h0 j (by
 have:=(zhZ h0 j h.2.2).pow e;rwa[Ei,<-B8,A8,B8] at this)
theorem zpi{i x y:Nat}(h0:1<=i)(j:i<=4)(h:mem i x)(m:mem i y):mem i (x*y%gP i):=zng h0 j (by
 have:=(zhZ h0 j h.2.2).mul (zhZ h0 j m.2.2);rwa[Af,<-Nat.mul_pow] at this)
theorem zmt(x y:Nat):decide (za0 x y<0)=decide (x<y):=by
 apply decide_eq_decide.2;unfold za0;constructor
 ·intro h;rcases D8 x y with j|j|j
  ·exact j
  ·rw[if_neg q_o,if_pos j] at h;omega
  ·rw[if_neg q_o,if_neg q_o] at h;omega
 ·intro h;rw[if_pos h];decide
theorem znN(x y:Nat):decide (za0 x y=0)=decide (x=y):=by
 apply decide_eq_decide.2;unfold za0;constructor
 ·intro h;rcases D8 x y with j|j|j
  ·rw[if_pos j] at h;omega
  ·exact j
  ·rw[if_neg q_o,if_neg q_o] at h;omega
 ·rintro rfl;rw[if_neg (Ew _),if_pos rfl]
theorem zoJ(b n c:Nat)(B:List Value)(bs:List Bool)(w:World)(hn:B.length=n)(hb:bs.length=n)(I:n<=1000)(J:w.rangeAt b 0 B)
  (H:∀k v,bs[k]?=some v->(bs.take k).all id=true->∃(f:Nat) (cap:List Value),B[k]?=some (.func (.func f) #[] cap.toArray)/\(∀args w,(callFunc f args).run Tryz.prog w= .ok (.enter f args) w)/\∀F,Keep No w F->q_G f cap F (.bool v)):
  q_G 131 [.slice (some ⟨b,0,none⟩) n c] w (.bool (bs.all id)):=by
 refine zo Tryz.func131 Tryz.ntmps131 ?_;repeat' (first|refine s_t ?_|refine zK [0,1] ?_;refine zb ?_)
 refine zE (γ:=Nat) (λk=>[(5,.slice (some ⟨b,0,none⟩) n c),(6,.int .i64 n),(7,.int .i64 k)]) (λ_=>[]) (λk=>k<=n/\(bs.take k).all id=true) (λk=>n-k) 0 ⟨AE _,rfl⟩ ?_ ?_ ?_
 ·exact q_h
 ·exact q_h
 rintro k ⟨K,m⟩;rcases AH k n with h|h
 ·obtain⟨v,hv⟩:∃v,bs[k]?=some v:=⟨_,A1 q_o⟩;obtain⟨f,cap,G,A,hc⟩:=H k v hv m;have q:w.cell? ⟨b,0+k,none⟩=some (.func (.func f) #[] cap.toArray):=J k _ G;have r:decide ((k:Int)<(n:Int))=true:=q_d;have t:IntKind.i64.wrap ((k:Int)+1)=((k+1:Nat):Int):=q_w;have E:bs.take (k+1)=bs.take k++[v]:=by rw[CB,hv];rfl
  cases v with
  |false=>
   have C:bs.all id=false:=by
    rw[Bi];exact⟨false,Bk hv,by decide⟩
   rw[C];repeat' (first|refine s_t ?_|refine zg 2 ?_;refine q_v (zl (hr:=r)) ?_|refine zg 3 ?_;refine q_v (zL (j:=k)) ?_;refine q_x (zn (hv:=q)) ?_|refine q_k 4 ?_;(refine q_v (za (f:=f) (cap:=cap) (vs:=[]) (he:=A) (hc:=zq hc)) ?_);refine zJ ?_|refine q_k 5 ?_)
   exact q_r
  |true=>
   repeat' (first|refine s_t ?_|refine zg 2 ?_;refine q_v (zl (hr:=r)) ?_|refine zg 3 ?_;refine q_v (zL (j:=k)) ?_;refine q_x (zn (hv:=q)) ?_|refine q_k 4 ?_;(refine q_v (za (f:=f) (cap:=cap) (vs:=[]) (he:=A) (hc:=zq hc)) ?_);refine zJ ?_|refine zg 6 ?_;refine q_x (zA (hr:=t)) ?_)
   refine zy (k+1) ⟨h,by rw[E,Bc,m];rfl⟩ ?_ ?_ ?_
   ·show n-(k+1)<n-k;omega
   ·exact q_h
   ·exact q_h
 ·obtain rfl:k=n:=q_o;rw[A6 q_o] at m;have r:decide ((k:Int)<(k:Int))=false:=q_f;rw[m];repeat' (first|refine s_0 ?_|refine zg 2 ?_;refine q_v (zl (hr:=r)) ?_|refine q_k 7 ?_)
  exact q_r
theorem zoQ(j k q:Nat)(m:Option Addr)(w:World)(r:w.cell? ⟨j,0,none⟩=some (.slice m k q)):
  q_G 132 [.pointer (some ⟨j,0,none⟩)] w (.bool (decide ((k:Int)=2))):=by
 refine zo Tryz.func132 Tryz.ntmps132 ?_;repeat' (first|refine s_0 ?_|refine q_k 0 ?_|refine zg 1 ?_;refine q_x (zn (hv:=r)) ?_;refine q_x (zaa (hr:=rfl)) ?_)
 exact q_r
theorem zu3(F t E H r m G q:Nat)(w:World)(I:w.cell? ⟨F,0,none⟩=some (.slice (some ⟨t,E,none⟩) 2 H))(hr:w.rangeAt t E (z8 [m,G]))(A:w.rangeAt r 0 (zf q))
  (hx:m<18446744073709551616^16)(N:q<18446744073709551616^16):
  q_G 133 [.pointer (some ⟨F,0,none⟩),.pointer (some ⟨r,0,none⟩)] w (.bool (decide (m<q))):=by
 refine zo Tryz.func133 Tryz.ntmps133 ?_;have C:w.rangeAt t (E+0*16) (zf m):=λj v K=>by
  have:=hr (0*16+j) v (zdw (l:=[m,G]) (i:=0) rfl j v K);rwa[<-Az] at this
 have L:=zd m;have M:=zd q;have hc:=λO=>zc7 m q O hx N;have J:=zmt m q;repeat' (first|refine s_0 ?_|refine q_k 0 ?_|refine z5 (id:=1) 4 [[],[0],[0,1],[],[0,1,2,3],[0,1,2,3,4],[0,1,2,3,4,5]] mixed ?_ ?_;kernel_rfl;refine q_D (zn (hv:=I)) ?_;refine q_D (zbc (j:=0)) ?_;refine q_D (z9 (B:=zf m) (hv:=C)) ?_;refine q_D (z9 (B:=zf q) (hv:=A)) ?_;refine zam ?_;refine q_v (za (hc:=q_c hc)) ?_;refine q_v (zl (hr:=J)) ?_;refine zB ?_|fail)
 exact q_r
theorem zva(F t E H r G m q:Nat)(w:World)(I:w.cell? ⟨F,0,none⟩=some (.slice (some ⟨t,E,none⟩) 2 H))(hr:w.rangeAt t E (z8 [G,m]))(A:w.rangeAt r 0 (zf q))
  (hx:m<18446744073709551616^16)(N:q<18446744073709551616^16):
  q_G 135 [.pointer (some ⟨F,0,none⟩),.pointer (some ⟨r,0,none⟩)] w (.bool (decide (m<q))):=by
 refine zo Tryz.func135 Tryz.ntmps135 ?_;have C:w.rangeAt t (E+1*16) (zf m):=λj v K=>by
  have:=hr (1*16+j) v (zdw (l:=[G,m]) (i:=1) rfl j v K);rwa[<-Az] at this
 have L:=zd m;have M:=zd q;have hc:=λO=>zc7 m q O hx N;have J:=zmt m q;repeat' (first|refine s_0 ?_|refine q_k 0 ?_|refine z5 (id:=1) 4 [[],[0],[0,1],[],[0,1,2,3],[0,1,2,3,4],[0,1,2,3,4,5]] mixed ?_ ?_;kernel_rfl;refine q_D (zn (hv:=I)) ?_;refine q_D (zbc (j:=1)) ?_;refine q_D (z9 (B:=zf m) (hv:=C)) ?_;refine q_D (z9 (B:=zf q) (hv:=A)) ?_;refine zam ?_;refine q_v (za (hc:=q_c hc)) ?_;refine q_v (zl (hr:=J)) ?_;refine zB ?_|fail)
 exact q_r
theorem zuZ(i W L Z bP oP cP M X Y m A y pn pc mn mc:Nat)(pa ma:Option Addr)(pl ml:List UInt8)(w:World)(h0:1<=i)(E:i<=4)(hG:GT w)(hT:Tab w No)(h4:w.cell? ⟨W,0,none⟩=some (.int .i64 (i:Int)))(a6:w.rangeAt L 0 (zf y))
  (h9:w.cell? ⟨Z,0,none⟩=some (.slice (some ⟨bP,oP,none⟩) 2 cP))(hr:w.rangeAt bP oP (z8 [m,A]))(a7:w.rangeAt M 0 (zf (gQ i)))(c7:w.cell? ⟨X,0,none⟩=some (.slice pa pn pc))(c4:w.cell? ⟨Y,0,none⟩=some (.slice ma mn mc))
  (hp:(⟨pa,pn,pc,pl⟩:Bs).ok w)(hm:(⟨ma,mn,mc,ml⟩:Bs).ok w)(c8:pn<=1000)(c5:mn<=100000)(T:m<gQ i)(U:A<gQ i)(hy:zap (gP i) (gQ i) y=true):
  q_G 136 [.pointer (some ⟨W,0,none⟩),.pointer (some ⟨L,0,none⟩),.pointer (some ⟨Z,0,none⟩),.pointer (some ⟨M,0,none⟩),.pointer (some ⟨X,0,none⟩),.pointer (some ⟨Y,0,none⟩)] w (.bool (decide (zaZ i pl (sR i y m A) ml=m))):=by
 refine zo Tryz.func136 Tryz.ntmps136 ?_;have S:w.rangeAt bP (oP+0*16) (zf m):=λj v hj=>by
  have:=hr (0*16+j) v (zdw (l:=[m,A]) (i:=0) rfl j v hj);rwa[<-Az] at this
 have c9:w.rangeAt bP (oP+1*16) (zf A):=λj v hj=>by
  have:=hr (1*16+j) v (zdw (l:=[m,A]) (i:=1) rfl j v hj);rwa[<-Az] at this
 have a8:0<gQ i:=AG q_e (za3 i h0 E);have N:=zba i h0 E;have H:=AS T N;have V:=AS U N;have d8:=AS (zbE hy) (zbw i h0 E);have C:=λt=>zvg 0 m (gQ i) t (Av (AE _) H) H N;unfold zco at C;rw[if_neg q_o] at C;have c3:dm (gQ i) 0 m=(gQ i-m)%gQ i:=by unfold dm;rw[A3 T,AR]
 rw[c3] at C;have O:(gQ i-m)%gQ i<gQ i:=A7 _ a8;have P:=λt (F:Keep No w t)=>zvc i y ((gQ i-m)%gQ i) t h0 E (hG.to F) d8 (AS O N) hy O;have J:zap (gP i) (gQ i) (y^((gQ i-m)%gQ i)%gP i)=true:=zbq.2 (zms h0 E (zbq.1 hy) _);have Q:=λt (F:Keep No w t)=>zh1 i A t h0 E (hG.to F) V U;have K:zap (gP i) (gQ i) (4^A%gP i)=true:=zbq.2 (zeU h0 E _);have I:=λt (F:Keep No w t)=>zu9 i (4^A%gP i) (y^((gQ i-m)%gQ i)%gP i) t h0 E (hG.to F) (AS (zbE K) (zbw i h0 E)) (AS (zbE J) (zbw i h0 E)) (by rw[K,J];rfl);have c6:zap (gP i) (gQ i) (sR i y m A)=true:=zbq.2 (zpi h0 E (zbq.1 K) (zbq.1 J));have hR:sR i y m A=(4^A%gP i)*(y^((gQ i-m)%gQ i)%gP i)%gP i:=rfl;rw[<-hR] at I;have a9:=λt (F:Keep No w t)=>zis i pa ma pn pc mn mc (sR i y m A) pl ml t h0 E (hG.to F) (hT.no F) (hp.keep F) (hm.keep F) c8 c5 c6;have b1:zaZ i pl (sR i y m A) ml<gQ i:=zfV h0 E _ _ _;have b0:=λt=>zc7 (zaZ i pl (sR i y m A) ml) m t (AS b1 N) H;have b2:=znN (zaZ i pl (sR i y m A) ml) m;have b3:=λt=>zcQ ((gQ i-m)%gQ i) 0 t;have c0:=λt=>zcQ (y^((gQ i-m)%gQ i)%gP i) 0 t;have c1:=λt=>zcQ (4^A%gP i) 0 t;have c2:=λt=>zcQ (sR i y m A) 0 t;have l0:=zd m;have l1:=zd A;have ly:=zd y;have lq:=zd (gQ i);have lb:=zd (y^((gQ i-m)%gQ i)%gP i);have lr:=zd (sR i y m A);generalize gQ i=q,(gQ i-m)%gQ i=ne,y^((gQ i-m)%gQ i)%gP i=G,4^A%gP i=ps,sR i y m A=r,zaZ i pl (sR i y m A) ml=e at*;repeat' (first|refine s_0 ?_|refine q_k 0 ?_)
 refine zb2 (id:=1) mixed ?_
 (refine zbY 16 16 [[],[],[],[],[3],[3,4],[],[2,3,4,5,6],[2,3,4,5,6,7],[2,3,4,5,6,7],[2,3,4,5,6,7,8,9],[0,1,2,3,4,5,6,7,8,9,10],[0,1,2,3,4,5,6,7,8,9,10,11],[0,1,2,3,4,5,6,7,8,9,10,11],[0,1,2,3,4,5,6,7,8,9,10,11,12,13],[],[0,1,2,3,4,5,6,7,8,9,10,11,12,13,14,15]] [[],[],[],[],[],[],[],[],[],[],[],[],[],[],[],[],[]] none rfl ?_ ?_ ?_;kernel_rfl;kernel_rfl;refine q_E (zn (hv:=h4)) ?_;refine q_E (z9 (B:=zf y) (hv:=a6)) ?_;refine q_E zcP ?_;refine q_E (zn (hv:=h9)) ?_;refine q_E (zbc (j:=0)) ?_;refine q_E (z9 (B:=zf m) (hv:=S)) ?_;refine q_E (z9 (B:=zf q) (hv:=a7)) ?_;refine q_E (za (hc:=q_c C)) ?_;refine q_E zau ?_;refine q_E zau ?_;refine q_E (za (hc:=q_c b3)) ?_;refine q_E (za (hc:=zq P)) ?_;refine q_E zau ?_;refine q_E zau ?_;refine q_E (za (hc:=q_c c0)) ?_;try refine dh_0nE (h:=?_))
 refine zcW (R:=λ_=>zgK 133 (List.replicate 16 (.int .u64 0))) (λ_ _ _=>rfl) (λρ hρ=>FF zc8 λv L' h=>?_) (h:=?_)
 ·obtain⟨b,rfl,rfl⟩:=h;exact⟨[_],rfl,b,rfl,rfl⟩
 refine zdI (h:=?_);rintro ρ ⟨⟨b7,p1,p2⟩,-⟩
 (refine zb1 [[],[],[],[],[3],[3,4],[],[2,3,4,5,6],[2,3,4,5,6,7],[2,3,4,5,6,7],[2,3,4,5,6,7,8,9],[0,1,2,3,4,5,6,7,8,9,10],[0,1,2,3,4,5,6,7,8,9,10,11],[0,1,2,3,4,5,6,7,8,9,10,11],[0,1,2,3,4,5,6,7,8,9,10,11,12,13],[],[0,1,2,3,4,5,6,7,8,9,10,11,12,13,14,15]] ?_ ?_;kernel_rfl)
 refine FI (fr':=[(7,.pointer (some ⟨b7,0,none⟩)),(23,zm G),(0,.pointer (some ⟨W,0,none⟩)),(2,.pointer (some ⟨Z,0,none⟩)),(4,.pointer (some ⟨X,0,none⟩)),(5,.pointer (some ⟨Y,0,none⟩))]) (L':=[.blk b7 133 (List.replicate 16 (.int .u64 0))]) ?_ ?_ ?_;rotate_left
 ·(repeat' (first|exact FQ|refine FX rfl ?_ ?_|rfl))
  exact p1
 ·show SubR _ ((ρ 15).2++_);rw[p2];exact q_h
 repeat' (first|refine s_0 ?_|(refine zW ?_;first|refine q_n (zj (n:=G)) ?_|fail)|fail)
 refine zb2 (id:=2) mixed ?_
 (refine zbY 15 15 [[],[],[],[2],[2,3],[1,2,3,4],[1,2,3,4,5],[1,2,3,4,5],[1,2,3,4,5,6,7],[],[0,1,2,3,4,5,6,7,8,9],[0,1,2,3,4,5,6,7,8,9,10],[0,1,2,3,4,5,6,7,8,9,10],[0,1,2,3,4,5,6,7,8,9,10,11,12],[],[0,1,2,3,4,5,6,7,8,9,10,11,12,13,14]] [[],[],[],[],[],[],[],[],[],[],[],[],[],[],[],[]] none rfl ?_ ?_ ?_;kernel_rfl;kernel_rfl;refine q_E (zn (hv:=h4)) ?_;refine q_E (zn (hv:=h4)) ?_;refine q_E (zn (hv:=h9)) ?_;refine q_E (zbc (j:=1)) ?_;refine q_E (z9 (B:=zf A) (hv:=c9)) ?_;refine q_E (za (hc:=zq Q)) ?_;refine q_E zau ?_;refine q_E zau ?_;refine q_E (za (hc:=q_c c1)) ?_;refine q_E (ze (B:=zf G)) ?_;refine q_E (za (hc:=zq I)) ?_;refine q_E zau ?_;refine q_E zau ?_;refine q_E (za (hc:=q_c c2)) ?_;try refine dh_0nE (h:=?_))
 refine zcW (R:=λ_=>zgK 133 (List.replicate 16 (.int .u64 0))) (λ_ _ _=>rfl) (λρ hρ=>FF zc8 λv L' h=>?_) (h:=?_)
 ·obtain⟨b,rfl,rfl⟩:=h;exact⟨[_],rfl,b,rfl,rfl⟩
 refine zdI (h:=?_);rintro ρ ⟨⟨b8,p1,p2⟩,-⟩
 (refine zb1 [[],[],[],[2],[2,3],[1,2,3,4],[1,2,3,4,5],[1,2,3,4,5],[1,2,3,4,5,6,7],[],[0,1,2,3,4,5,6,7,8,9],[0,1,2,3,4,5,6,7,8,9,10],[0,1,2,3,4,5,6,7,8,9,10],[0,1,2,3,4,5,6,7,8,9,10,11,12],[],[0,1,2,3,4,5,6,7,8,9,10,11,12,13,14]] ?_ ?_;kernel_rfl)
 refine FI (fr':=[(8,.pointer (some ⟨b8,0,none⟩)),(37,zm r),(0,.pointer (some ⟨W,0,none⟩)),(2,.pointer (some ⟨Z,0,none⟩)),(4,.pointer (some ⟨X,0,none⟩)),(5,.pointer (some ⟨Y,0,none⟩))]) (L':=[.blk b8 133 (List.replicate 16 (.int .u64 0))]) ?_ ?_ ?_;rotate_left
 ·(repeat' (first|exact FQ|refine FX rfl ?_ ?_|rfl))
  exact p1
 ·show SubR _ ((ρ 14).2++_);rw[p2];exact q_h
 repeat' (first|refine s_0 ?_|refine z5 (id:=3) 8 [[],[],[],[],[0,1,2,3],[],[5],[5,6],[0,1,2,3,4,5,6,7],[0,1,2,3,4,5,6,7,8],[0,1,2,3,4,5,6,7,8,9]] mixed ?_ ?_;kernel_rfl;refine q_D (zn (hv:=h4)) ?_;refine q_D (zn (hv:=c7)) ?_;refine q_D (ze (B:=zf r)) ?_;refine q_D (zn (hv:=c4)) ?_;refine q_D (za (hc:=λt _ F _=>a9 t F)) ?_;refine q_D (zn (hv:=h9)) ?_;refine q_D (zbc (j:=0)) ?_;refine q_D (z9 (B:=zf m) (hv:=S)) ?_;refine zam ?_;refine q_v (za (hc:=q_c b0)) ?_;refine q_v (zaa (hr:=b2)) ?_;refine zB ?_|(refine zW ?_;first|refine q_n (zj (n:=r)) ?_|fail)|fail)
 exact q_r
theorem zsl(l:List Nat):(z8 l).all (·.oneCell')=true:=by
 induction l with
 |nil=>rw[BF.1 (show(z8 []).length=0 from zeL [])];rfl
 |cons x l ih=>rw[zgz,Bc,zeK,ih];rfl
theorem zqi:z8 []= []:=BF.1 (show(z8 []).length=0 from zeL [])
def vfs(b4 b5 b6 b9 b10 b12:Nat):List Value:=
 [.func (.func 132) #[] #[.pointer (some ⟨b9,0,none⟩)],.func (.func 133) #[] #[.pointer (some ⟨b9,0,none⟩),.pointer (some ⟨b12,0,none⟩)],.func (.func 135) #[] #[.pointer (some ⟨b9,0,none⟩),.pointer (some ⟨b12,0,none⟩)],.func (.func 136) #[] #[.pointer (some ⟨b4,0,none⟩),.pointer (some ⟨b10,0,none⟩),.pointer (some ⟨b9,0,none⟩),.pointer (some ⟨b12,0,none⟩),.pointer (some ⟨b5,0,none⟩),.pointer (some ⟨b6,0,none⟩)]]
theorem zrG(r C E F j m q A:Nat)(t:Option Addr)(w:World)(G:w.cell? ⟨j,0,none⟩=some (.slice t 0 A))(H:w.rangeAt r 0 (vfs C E F j m q)):
  q_G 131 [.slice (some ⟨r,0,none⟩) 4 4] w (.bool false):=by
 refine zoJ r 4 4 _ [false,false,false,false] w rfl rfl q_e H ?_;intro k v J B;rcases k with _|k
 ·obtain rfl:false=v:=Ap J;exact⟨_,[.pointer (some ⟨j,0,none⟩)],rfl,en rfl,λK I=>zoQ j 0 A t K (I.cell G (λh=>h))⟩
 ·rw[DM,BP] at B;exact absurd B q_p
theorem zvj(i O I J K q r m F G t A y N pc M X:Nat)(Y W:Option Addr)(pl ml:List UInt8)(w:World)(h0:1<=i)(Z:i<=4)(hG:GT w)(hT:Tab w No)(h4:w.cell? ⟨I,0,none⟩=some (.int .i64 (i:Int)))(P:w.rangeAt r 0 (zf y))
  (L:w.cell? ⟨q,0,none⟩=some (.slice (some ⟨F,0,none⟩) 2 G))(hr:w.rangeAt F 0 (z8 [t,A]))(B:w.rangeAt m 0 (zf (gQ i)))(S:w.cell? ⟨J,0,none⟩=some (.slice Y N pc))(Q:w.cell? ⟨K,0,none⟩=some (.slice W M X))
  (hp:(⟨Y,N,pc,pl⟩:Bs).ok w)(hm:(⟨W,M,X,ml⟩:Bs).ok w)(T:N<=1000)(R:M<=100000)(U:t<18446744073709551616^16)(V:A<18446744073709551616^16)(hy:zap (gP i) (gQ i) y=true)(hF:w.rangeAt O 0 (vfs I J K q r m)):
  q_G 131 [.slice (some ⟨O,0,none⟩) 4 4] w (.bool ([true,decide (t<gQ i),decide (A<gQ i),decide (zaZ i pl (sR i y t A) ml=t)].all id)):=by
 have hW:=zba i h0 Z;refine zoJ O 4 4 _ _ w rfl rfl q_e hF ?_;intro k v H ht;rcases k with _|_|_|_|k
 ·obtain rfl:=Ap H;exact⟨_,[.pointer (some ⟨q,0,none⟩)],rfl,en rfl,λE j=>zoQ q 2 G _ E (j.cell L (λh=>h))⟩
 ·obtain rfl:=Ap H;exact⟨_,[.pointer (some ⟨q,0,none⟩),.pointer (some ⟨m,0,none⟩)],rfl,en rfl,λE j=>zu3 q F 0 G m t A _ E (j.cell L (λh=>h)) (za5 hr j (λh=>h)) (za5 B j (λh=>h)) U hW⟩
 ·obtain rfl:=Ap H;exact⟨_,[.pointer (some ⟨q,0,none⟩),.pointer (some ⟨m,0,none⟩)],rfl,en rfl,λE j=>zva q F 0 G m t A _ E (j.cell L (λh=>h)) (za5 hr j (λh=>h)) (za5 B j (λh=>h)) V hW⟩
 ·obtain rfl:=Ap H;have C:(true&&(decide (t<gQ i)&&(decide (A<gQ i)&&true)))=true:=ht;rw[Ax,Dp,AB,decide_eq_true_eq,decide_eq_true_eq] at C;exact⟨_,[.pointer (some ⟨I,0,none⟩),.pointer (some ⟨r,0,none⟩),.pointer (some ⟨q,0,none⟩),.pointer (some ⟨m,0,none⟩),.pointer (some ⟨J,0,none⟩),.pointer (some ⟨K,0,none⟩)],rfl,en rfl,λE j=>
   zuZ i I r q F 0 G m J K t A y N pc M X Y W pl ml E h0 Z (hG.to j) (hT.no j) (j.cell h4 (λh=>h)) (za5 P j (λh=>h)) (j.cell L (λh=>h)) (za5 hr j (λh=>h)) (za5 B j (λh=>h)) (j.cell S (λh=>h)) (j.cell Q (λh=>h)) (hp.keep j) (hm.keep j) T R C.1 C.2 hy⟩
 ·cases H
theorem zwb{i:Nat}(h0:1<=i)(j:i<=4):1<=gL i:=zck (p:=λi=>1<=gL i) (by decide +kernel) (by decide +kernel) (by decide +kernel) (by decide +kernel) i h0 j
theorem zmU{z:Int}{pl ml j:List UInt8}(h:(gel z pl).2≠0\/65536<ml.length):zdM z pl ml j=2:=if_pos h
theorem zjD{z:Int}{pl ml j:List UInt8}(h:¬((gel z pl).2≠0\/65536<ml.length))(m:j.length≠2*gL z.toNat):zdM z pl ml j=10:=by
 unfold zdM;rw[if_neg h,if_pos m]
theorem zo7{i:Nat}{pl ml q:List UInt8}(h:¬((gel (i:Int) pl).2≠0\/65536<ml.length))(w:q.length=2*gL i){j m:Nat}(r:j=bev 256 (bn (q.take (gL i))))(t:m=bev 256 (bn (q.drop (gL i)))):
  zdM (i:Int) pl ml q=if ([true,decide (j<gQ i),decide (m<gQ i),decide (zaZ i pl (sR i (gel (i:Int) pl).1 j m) ml=j)].all id)=true then 0 else 10:=by
 unfold zdM;rw[if_neg h,B6,if_neg q_o,<-r,<-t];simp only[BP,E9,id,AB,decide_eq_true_eq,and_true,true_and];by_cases h0:gQ i<=j\/gQ i<=m
 ·rw[if_pos h0,if_neg q_o]
 ·rw[if_neg h0];by_cases hc:zaZ i pl (sR i (gel (i:Int) pl).1 j m) ml=j
  ·rw[if_pos hc,if_pos q_o]
  ·rw[if_neg hc,if_neg (λh=>hc h.2.2)]
theorem zrz(z:Int)(pa ma sa:Option Addr)(Y pc Q mc S sc:Nat)(pl ml j:List UInt8)(w:World)(hG:GT w)(hT:Tab w No)(hS:ST w)(hp:(⟨pa,Y,pc,pl⟩:Bs).ok w)(hm:(⟨ma,Q,mc,ml⟩:Bs).ok w)(hs:(⟨sa,S,sc,j⟩:Bs).ok w)(b7:Y<=1000)(b3:Q<=100000)(d8:S<=1000):
  q_G 56 [.int .i64 z,.slice pa Y pc,.slice ma Q mc,.slice sa S sc] w (.int .i64 (zdM z pl ml j)):=by
 refine zo Tryz.func56 Tryz.ntmps56 ?_;have N:=λF (t:Keep No w F)=>zrE z pa Y pc pl F (hG.to t) hp.len hp.cap (hp.keep t).sla;have P:=λF (t:Keep No w F)=>zvi z F (hG.to t);have c8:ml.length=Q:=hm.len;have c9:j.length=S:=hs.len;have c7:=zd (gel z pl).1;by_cases hw:(gel z pl).2≠0\/65536<ml.length
 ·rw[zmU hw];have b1:=zd (zgX z).1;repeat' (first|refine s_0 ?_|refine zg 0 ?_;refine zi ?_;intro _;refine zi ?_;intro _;refine zV ?_;intro _)
  refine zjl (γ:=Unit) 0 (λ_=>[]) (λ_=>[]) (λ_=>True) rfl ?_ (λ_ _=>?_);rotate_left
  ·repeat' (first|refine s_0 ?_|refine zbL ?_|refine q_k 12 ?_)
   exact q_r
  by_cases he:(gel z pl).2=0
  ·have g1:decide ((gel z pl).2≠0)=false:=decide_eq_false (λh=>h he);have gm:decide (65536<(Q:Int))=true:=decide_eq_true (by have:=hw.resolve_left (λh=>h he);omega);generalize (zgX z).2=e',(zgX z).1=q,(gel z pl).2=e,(gel z pl).1=y at*;repeat' (first|refine s_0 ?_|refine zfU ?_|refine zcL ?_|refine zeS ?_|refine zg 1 ?_;refine zi ?_;intro _|refine zg 2 ?_;refine zk ?_;refine zk ?_;refine q_v (za (hc:=zq N)) ?_;refine zb ?_;refine zi ?_;intro _;refine q_y (zj (n:=y)) ?_|refine zg 3 ?_;refine zk ?_;refine q_v (za (hc:=zq P)) ?_;refine zb ?_;refine zi ?_;intro _;refine q_y (zj (n:=q)) ?_|refine q_k 4 ?_;refine q_v (zaC (hr:=g1)) ?_|refine zg 5 ?_;refine zk ?_;refine zb ?_;refine q_v (zF (hr:=gm)) ?_)
   exact zZ () trivial FQ F2
  ·have g1:decide ((gel z pl).2≠0)=true:=decide_eq_true he;generalize (zgX z).2=e',(zgX z).1=q,(gel z pl).2=e,(gel z pl).1=y at*;repeat' (first|refine s_0 ?_|refine zfU ?_|refine zcL ?_|refine zeS ?_|refine zg 1 ?_;refine zi ?_;intro _|refine zg 2 ?_;refine zk ?_;refine zk ?_;refine q_v (za (hc:=zq N)) ?_;refine zb ?_;refine zi ?_;intro _;refine q_y (zj (n:=y)) ?_|refine zg 3 ?_;refine zk ?_;refine q_v (za (hc:=zq P)) ?_;refine zb ?_;refine zi ?_;intro _;refine q_y (zj (n:=q)) ?_|refine q_k 4 ?_;refine q_v (zaC (hr:=g1)) ?_)
   exact zZ () trivial FQ F2
 have he:(gel z pl).2=0:=EI λh=>hw (.inl h);have A:=zg1 he;obtain⟨i,rfl,hi,h0,h5⟩:=zcs A.1;rw[hi] at A;have hy:zap (gP i) (gQ i) (gel (i:Int) pl).1=true:=by rw[A.2.2.2];exact A.2.2.1
 have b0:zgX (i:Int)=(gQ i,0):=by unfold zgX;rw[if_pos A.1,hi]
 rw[b0] at P;rw[he] at N;have b1:=zd (gQ i);have gm:decide (65536<(Q:Int))=false:=decide_eq_false (λh=>hw (.inr q_o));have U:zaY (i:Int)=gL i:=by unfold zaY;rw[if_pos A.1,hi]
 have V:=zdp A.1;rw[hi] at V;have a9:∀x∈zbd (i:Int) j,x<18446744073709551616^16:=by
  unfold zbd;split
  ·intro x hx;cases hx
  ·rename_i h;rw[U] at h ⊢;intro x hx;simp only[Ag,Bm,or_false] at hx;rcases hx with rfl|rfl
   ·exact zi6 (by rw[AU];omega)
   ·exact zi6 (by rw[B5];omega)
 have c5:(zbd (i:Int) j).length<=2:=by unfold zbd;split <;> simp
 repeat' (first|refine s_t ?_|refine zdd ?_|refine zg 0 ?_;refine zi ?_;intro _;refine zi ?_;intro _;refine zV ?_;intro _|refine zg 1 ?_;refine zi ?_;intro _|refine zg 2 ?_;refine zk ?_;refine zk ?_;refine q_v (za (hc:=zq N)) ?_;refine zb ?_;refine zi ?_;intro _;refine q_y (zj (n:=(gel (i:Int) pl).1)) ?_|refine zg 3 ?_;refine zk ?_;refine q_v (za (hc:=zq P)) ?_;refine zb ?_;refine zi ?_;intro _;refine q_y (zj (n:=gQ i)) ?_|refine q_k 4 ?_;refine zat ?_|refine zg 5 ?_;refine zk ?_;refine zb ?_;refine q_v (zF (hr:=gm)) ?_|refine zg 6 ?_;refine zk ?_;refine zb ?_;(refine q_s (zh (hc:=λF X t I=>zsF (i:Int) sa S sc j F (hs.keep t) q_o)) ?_;rintro _ _ ⟨R,rfl,bI,bS,aS,cS,rfl,rfl⟩))
 rename_i b4 b5 b6 T G H;refine zbn (zaO 133 16) ?_;unfold zqf;have b8:z8 ((zbd (i:Int) j).take 0)= []:=by rw[CO];exact zqi
 refine zf8 (γ:=Nat×Option Addr×Nat) (xs:=zbd (i:Int) j) (Arg:=zwC) zcM rfl (en rfl) rfl (λk s=>s.1=k) (λ_ _ _=>False)
  (λs=>[.blk T 150 [.slice s.2.1 s.1 s.2.2],.row (.slice s.2.1 s.1 s.2.2) 133 16 s.1 (z8 ((zbd (i:Int) j).take s.1))])
  [.blk bS 23 [.slice aS S cS],.blk bI 3 [.int .i64 (i:Int)],.row (.slice aS S cS) 5 1 S (j.map v8)]
  [.blk H 133 (zf (gQ i)),.blk G 133 (zf (gel (i:Int) pl).1),.blk b6 23 [.slice ma Q mc],.blk b5 23 [.slice pa Y pc],.blk b4 3 [.int .i64 (i:Int)]] (0,none,0) rfl ?_ ?_ ?_ ?_ ?_ ?_
 ·dsimp only;rw[b8]
  ((try simp only[An,B3,AZ]);(repeat' (first|exact List.Perm.nil|exact CA _|apply zgH;with_reducible (focus ((repeat (first|exact F1|apply F3));done))|apply zgH;(focus ((repeat (first|exact F1|apply F3));done)))))
 ·intro F Mi X t a7 _ _;obtain⟨q1,q2⟩:=zdy (M:=No) hG (by unfold zdD;simp) (λh=>h) t a7;obtain⟨q3,q4⟩:=zdy (M:=No) hS (ER _ _) (λh=>h) t a7;exact zrB bI bS (i:Int) aS S cS j F Mi hs.len q1 q2 q3 q4
 ·rintro O x vs RA F ⟨rfl,_⟩;rfl
 ·rintro lq k t ⟨L,aP,cP⟩ vs RA W rec c2 K ⟨rfl,rfl⟩ c4 b2;dsimp only at K ⊢;subst K;have a8:z8 ((zbd (i:Int) j).take L)++z8 [(zbd (i:Int) j)[L]]=z8 ((zbd (i:Int) j).take (L+1)):=by
   rw[<-zjL,CB,A1 t];rfl
  have c6:=zd (zbd (i:Int) j)[L];have c3:L<2:=q_o;generalize (zbd (i:Int) j)[L]=x at*;obtain⟨Rn,a6⟩:∃r,r=z8 ((zbd (i:Int) j).take (L+1)):=⟨_,rfl⟩;rw[<-a6] at a8;generalize z8 ((zbd (i:Int) j).take L)=Ro at*;repeat' (first|refine s_t ?_|apply zbT;(focus ((repeat (first|exact F1|apply F3));done));assumption|refine zg 7 ?_;refine zi ?_;intro _;refine q_n (zj (n:=x)) ?_|refine zg 8 ?_;refine zk ?_;refine q_v (ze (B:=zf x)) ?_|refine q_s (zbR (x:=x)) ?_;rintro _ _ ⟨bN,rfl,rfl⟩|(refine zW ?_;first|refine q_s (zak (m:=1) (size:=16) (xs:=Ro) (news:=z8 [x]) (ys:=Rn) (km:=L+1) (hn:=zeL [x]) (h1:=zsl [x]) (hkm:=rfl) (hys:=a8)) ?_;rintro _ _ ⟨rfl,aQ,cQ,rfl⟩|refine zS ?_|fail)|fail)
  refine zfR (L+1,aQ,cQ) rfl ?_;dsimp only;rw[<-a6];exact q_h
 ·rintro⟨L,aP,cP⟩ K;dsimp only at K ⊢;subst K;rw[List.take_length];repeat' (first|refine zb0 ?_|refine zg9 ?_|fail)
  by_cases hlen:j.length=2*gL i
  ·have C:zbd (i:Int) j= [bev 256 (bn (j.take (gL i))),bev 256 (bn (j.drop (gL i)))]:=by
    unfold zbd;have:=zwb h0 h5;rw[U,if_neg q_o]
   obtain⟨Z,e0⟩:∃x,x=bev 256 (bn (j.take (gL i))):=⟨_,rfl⟩;obtain⟨x1,e1⟩:∃x,x=bev 256 (bn (j.drop (gL i))):=⟨_,rfl⟩;rw[<-e0,<-e1] at C;rw[zo7 hw hlen e0 e1];have c0:=a9 Z (by rw[C];simp);have c1:=a9 x1 (by rw[C];simp);have hl:(zbd (i:Int) j).length=2:=by rw[C];rfl
   rw[hl,C];refine ziQ (a:=aP) (n:=2) (cp:=cP) (s:=16) (E:=133) (xs:=z8 [Z,x1]) (by exact F3 F1) q_e λbP J ha _ _ _ _=>?_;subst ha;repeat' (first|refine zg 9 ?_;refine q_v zaj ?_;refine q_v zaj ?_;refine q_v zaj ?_;refine q_v zaj ?_;(refine q_s zw ?_;rintro _ _ ⟨_,rfl,rfl⟩))
   rename_i bF;refine q_v (za (hc:=λF X t I=>zvj i bF b4 b5 b6 T G H bP cP Z x1 (gel (i:Int) pl).1 Y pc Q mc pa ma pl ml F h0 h5 (hG.to t) (hT.no t) (zp (I.has (r:=.blk b4 3 [.int .i64 (i:Int)]) q_h) F0 0 _ rfl) (zp (I.has (r:=.blk G 133 (zf (gel (i:Int) pl).1)) q_h) F0) (zp (I.has (r:=.blk T 150 [.slice (some ⟨bP,0,none⟩) 2 cP]) q_h) F0 0 _ rfl) (zp (I.has (r:=.blk bP 133 (z8 [Z,x1]++J)) q_h) znJ) (zp (I.has (r:=.blk H 133 (zf (gQ i))) q_h) F0) (zp (I.has (r:=.blk b5 23 [.slice pa Y pc]) q_h) F0 0 _ rfl) (zp (I.has (r:=.blk b6 23 [.slice ma Q mc]) q_h) F0 0 _ rfl) (hp.keep t) (hm.keep t) b7 b3 c0 c1 hy (zp (I.has (r:=.blk bF 25 (vfs b4 b5 b6 T G H)) q_h) F0))) ?_;generalize ([true,decide (Z<gQ i),decide (x1<gQ i),decide (zaZ i pl (sR i (gel (i:Int) pl).1 Z x1) ml=Z)].all id)=r;cases r with
   |true=>
    repeat' (first|refine s_0 ?_|refine zbL ?_|refine q_k 10 ?_)
    exact q_r
   |false=>
    repeat' (first|refine s_0 ?_|refine zbL ?_|refine q_k 11 ?_)
    exact q_r
  ·have C:zbd (i:Int) j= []:=by
    unfold zbd;rw[U,if_pos (.inr hlen)]
   have hl:(zbd (i:Int) j).length=0:=by rw[C];rfl
   rw[zjD hw (by rw[hi];exact hlen),hl];repeat' (first|refine zg 9 ?_;refine q_v zaj ?_;refine q_v zaj ?_;refine q_v zaj ?_;refine q_v zaj ?_;(refine q_s zw ?_;rintro _ _ ⟨_,rfl,rfl⟩))
   rename_i bF;refine q_v (za (hc:=λF X t I=>zrG bF b4 b5 b6 T G H cP aP F (zp (I.has (r:=.blk T 150 [.slice aP 0 cP]) q_h) F0 0 _ rfl) (zp (I.has (r:=.blk bF 25 (vfs b4 b5 b6 T G H)) q_h) F0))) ?_;repeat' (first|refine s_0 ?_|refine zbL ?_|refine q_k 11 ?_)
   exact q_r
 ·exact λ_ _ _ _ h=>h.elim
end Go.Proofs.YtdnlngbjpdbffaaGreatDoor
