/- Lemmas. -/
import Derived.Test.YtdnlngbjpdbffaaGreatDoorZJ32
set_option maxHeartbeats 2000000
set_option maxRecDepth 10000
set_option linter.all false
namespace Go.Proofs.YtdnlngbjpdbffaaGreatDoor
open Sy Nt RowKit
attribute [local irreducible] Sy SyL SyX Sy.Fn callFunc zg zae zac iC gP gQ gL zaL zag zbc za5 gel zaW zb2 Sh.sum zbm
theorem zvb{i x:Nat}(h0:1<=i)(j:i<=4)(h:mem i x)(e:Nat):mem i (x^e%gP i):=znX h0 j (by
 have:=(zjz h0 j h.2.2).pow e;rwa[Ea,<-BG,AM,BG] at this)
theorem zys{i x y:Nat}(h0:1<=i)(j:i<=4)(h:mem i x)(m:mem i y):mem i (x*y%gP i):=znX h0 j (by
 have:=(zjz h0 j h.2.2).mul (zjz h0 j m.2.2);rwa[Al,<-Nat.mul_pow] at this)
theorem zoP(x y:Nat):decide (zbA x y<0)=decide (x<y):=by
 apply decide_eq_decide.2;unfold zbA;constructor
 ·intro h;rcases Cp x y with j|j|j
  ·exact j
  ·rw[if_neg q_o,if_pos j] at h;omega
  ·rw[if_neg q_o,if_neg q_o] at h;omega
 ·intro h;rw[if_pos h];decide
theorem zva(x y:Nat):decide (zbA x y=0)=decide (x=y):=by
 apply decide_eq_decide.2;unfold zbA;constructor
 ·intro h;rcases Cp x y with j|j|j
  ·rw[if_pos j] at h;omega
  ·exact j
  ·rw[if_neg q_o,if_neg q_o] at h;omega
 ·rintro rfl;rw[if_neg (Eo _),if_pos rfl]
theorem zqA(b n c:Nat)(E:List Value)(bs:List Bool)(w:World)(hn:E.length=n)(hb:bs.length=n)(K:n<=1000)(L:w.rangeAt b 0 E)
  (J:∀k v,bs[k]?=some v->(bs.take k).all id=true->∃(f:Nat) (cap:List Value),E[k]?=some (.func (.func f) #[] cap.toArray)/\(∀args w,(callFunc f args).run Tryz.prog w= .ok (.enter f args) w)/\∀H,Keep No w H->q_G f cap H (.bool v)):
  q_G 131 [.slice (some ⟨b,0,none⟩) n c] w (.bool (bs.all id)):=by
 refine zt Tryz.func131 Tryz.ntmps131 ?_;repeat' first|refine s_t ?_|refine zA [0,1] ?_;refine zb ?_
 refine zL (γ:=Nat) (λk=>[(5,.slice (some ⟨b,0,none⟩) n c),(6,.int .i64 n),(7,.int .i64 k)]) (λ_=>[]) (λk=>k<=n/\(bs.take k).all id=true) (λk=>n-k) 0 ⟨AA _,rfl⟩ ?_ ?_ ?_
 ·exact q_h
 ·exact q_h
 rintro k ⟨M,m⟩;rcases AG k n with h|h
 ·obtain⟨v,hv⟩:∃v,bs[k]?=some v:=⟨_,A2 q_o⟩;obtain⟨f,cap,I,B,hc⟩:=J k v hv m;have q:w.cell? ⟨b,0+k,none⟩=some (.func (.func f) #[] cap.toArray):=L k _ I;have r:decide ((k:Int)<(n:Int))=true:=q_d;have A:IntKind.i64.wrap ((k:Int)+1)=((k+1:Nat):Int):=q_w;have G:bs.take (k+1)=bs.take k++[v]:=by rw[CE,hv];rfl
  cases v with
  |false=>
   have F:bs.all id=false:=by
    rw[BW];exact⟨false,BB hv,by decide⟩
   rw[F];repeat' first|refine s_t ?_|refine zf 2 ?_;refine q_v (zn (hr:=r)) ?_|refine zf 3 ?_;refine q_v (zq (j:=k)) ?_;refine q_x (zo (hv:=q)) ?_|refine q_k 4 ?_;(refine q_v (za (f:=f) (cap:=cap) (vs:=[]) (he:=B) (hc:=zr hc)) ?_);refine zI ?_|refine q_k 5 ?_
   exact q_r
  |true=>
   repeat' first|refine s_t ?_|refine zf 2 ?_;refine q_v (zn (hr:=r)) ?_|refine zf 3 ?_;refine q_v (zq (j:=k)) ?_;refine q_x (zo (hv:=q)) ?_|refine q_k 4 ?_;(refine q_v (za (f:=f) (cap:=cap) (vs:=[]) (he:=B) (hc:=zr hc)) ?_);refine zI ?_|refine zf 6 ?_;refine q_x (zD (hr:=A)) ?_
   refine zC (k+1) ⟨h,by rw[G,BQ,m];rfl⟩ ?_ ?_ ?_
   ·show n-(k+1)<n-k;omega
   ·exact q_h
   ·exact q_h
 ·obtain rfl:k=n:=q_o;rw[A6 q_o] at m;have r:decide ((k:Int)<(k:Int))=false:=q_f;rw[m];repeat' first|refine s_0 ?_|refine zf 2 ?_;refine q_v (zn (hr:=r)) ?_|refine q_k 7 ?_
  exact q_r
theorem zqQ(j k q:Nat)(m:Option Addr)(w:World)(r:w.cell? ⟨j,0,none⟩=some (.slice m k q)):
  q_G 132 [.pointer (some ⟨j,0,none⟩)] w (.bool (decide ((k:Int)=2))):=by
 refine zt Tryz.func132 Tryz.ntmps132 ?_;repeat' first|refine s_0 ?_|refine q_k 0 ?_|refine zf 1 ?_;refine q_x (zo (hv:=r)) ?_;refine q_x (zS (hr:=rfl)) ?_
 exact q_r
theorem zwU(H A G J r m I q:Nat)(w:World)(K:w.cell? ⟨H,0,none⟩=some (.slice (some ⟨A,G,none⟩) 2 J))(hr:w.rangeAt A G (zae [m,I]))(E:w.rangeAt r 0 (zg q))
  (hx:m<18446744073709551616^16)(P:q<18446744073709551616^16):
  q_G 133 [.pointer (some ⟨H,0,none⟩),.pointer (some ⟨r,0,none⟩)] w (.bool (decide (m<q))):=by
 refine zt Tryz.func133 Tryz.ntmps133 ?_;have F:w.rangeAt A (G+0*16) (zg m):=λj v M=>by
  have:=hr (0*16+j) v (zej (l:=[m,I]) (i:=0) rfl j v M);rwa[<-BK] at this
 have N:=zd m;have O:=zd q;have hc:=λQ=>zdM m q Q hx P;have L:=zoP m q;repeat' first|refine s_0 ?_|refine q_k 0 ?_|refine zai (id:=1) 4 [[],[0],[0,1],[],[0,1,2,3],[0,1,2,3,4],[0,1,2,3,4,5]] mixed ?_ ?_;kernel_rfl;refine q_D (zo (hv:=K)) ?_;refine q_D (zbv (j:=0)) ?_;refine q_D (zW (B:=zg m) (hv:=F)) ?_;refine q_D (zW (B:=zg q) (hv:=E)) ?_;refine zaF ?_;refine q_v (za (hc:=q_c hc)) ?_;refine q_v (zn (hr:=L)) ?_;refine zw ?_|fail
 exact q_r
theorem zw4(H A G J r I m q:Nat)(w:World)(K:w.cell? ⟨H,0,none⟩=some (.slice (some ⟨A,G,none⟩) 2 J))(hr:w.rangeAt A G (zae [I,m]))(E:w.rangeAt r 0 (zg q))
  (hx:m<18446744073709551616^16)(P:q<18446744073709551616^16):
  q_G 135 [.pointer (some ⟨H,0,none⟩),.pointer (some ⟨r,0,none⟩)] w (.bool (decide (m<q))):=by
 refine zt Tryz.func135 Tryz.ntmps135 ?_;have F:w.rangeAt A (G+1*16) (zg m):=λj v M=>by
  have:=hr (1*16+j) v (zej (l:=[I,m]) (i:=1) rfl j v M);rwa[<-BK] at this
 have N:=zd m;have O:=zd q;have hc:=λQ=>zdM m q Q hx P;have L:=zoP m q;repeat' first|refine s_0 ?_|refine q_k 0 ?_|refine zai (id:=1) 4 [[],[0],[0,1],[],[0,1,2,3],[0,1,2,3,4],[0,1,2,3,4,5]] mixed ?_ ?_;kernel_rfl;refine q_D (zo (hv:=K)) ?_;refine q_D (zbv (j:=1)) ?_;refine q_D (zW (B:=zg m) (hv:=F)) ?_;refine q_D (zW (B:=zg q) (hv:=E)) ?_;refine zaF ?_;refine q_v (za (hc:=q_c hc)) ?_;refine q_v (zn (hr:=L)) ?_;refine zw ?_|fail
 exact q_r
theorem zyh(i Y N b9 bP oP cP O Z b6 m E y pn pc mn mc:Nat)(pa ma:Option Addr)(pl ml:List UInt8)(w:World)(h0:1<=i)(G:i<=4)(hG:GT w)(hT:Tab w No)(h4:w.cell? ⟨Y,0,none⟩=some (.int .i64 (i:Int)))(a6:w.rangeAt N 0 (zg y))
  (h9:w.cell? ⟨b9,0,none⟩=some (.slice (some ⟨bP,oP,none⟩) 2 cP))(hr:w.rangeAt bP oP (zae [m,E]))(a7:w.rangeAt O 0 (zg (gQ i)))(c7:w.cell? ⟨Z,0,none⟩=some (.slice pa pn pc))(c4:w.cell? ⟨b6,0,none⟩=some (.slice ma mn mc))
  (hp:(⟨pa,pn,pc,pl⟩:Bs).ok w)(hm:(⟨ma,mn,mc,ml⟩:Bs).ok w)(c8:pn<=1000)(c5:mn<=100000)(V:m<gQ i)(W:E<gQ i)(hy:zaL (gP i) (gQ i) y=true):
  q_G 136 [.pointer (some ⟨Y,0,none⟩),.pointer (some ⟨N,0,none⟩),.pointer (some ⟨b9,0,none⟩),.pointer (some ⟨O,0,none⟩),.pointer (some ⟨Z,0,none⟩),.pointer (some ⟨b6,0,none⟩)] w (.bool (decide (zb2 i pl (sR i y m E) ml=m))):=by
 refine zt Tryz.func136 Tryz.ntmps136 ?_;have U:w.rangeAt bP (oP+0*16) (zg m):=λj v hj=>by
  have:=hr (0*16+j) v (zej (l:=[m,E]) (i:=0) rfl j v hj);rwa[<-BK] at this
 have c9:w.rangeAt bP (oP+1*16) (zg E):=λj v hj=>by
  have:=hr (1*16+j) v (zej (l:=[m,E]) (i:=1) rfl j v hj);rwa[<-BK] at this
 have a8:0<gQ i:=AK q_e (zbL i h0 G);have P:=zci i h0 G;have J:=Ai V P;have X:=Ai W P;have d8:=Ai (zeo hy) (zcq i h0 G);have F:=λA=>zw6 0 m (gQ i) A (B3 (AA _) J) J P;unfold zcM at F;rw[if_neg q_o] at F;have c3:dm (gQ i) 0 m=(gQ i-m)%gQ i:=by unfold dm;rw[A9 V,Aa]
 rw[c3] at F;have Q:(gQ i-m)%gQ i<gQ i:=AC _ a8;have S:=λA (H:Keep No w A)=>zyt i y ((gQ i-m)%gQ i) A h0 G (hG.to H) d8 (Ai Q P) hy Q;have L:zaL (gP i) (gQ i) (y^((gQ i-m)%gQ i)%gP i)=true:=zdJ.2 (zvb h0 G (zdJ.1 hy) _);have T:=λA (H:Keep No w A)=>zi0 i E A h0 G (hG.to H) X W;have M:zaL (gP i) (gQ i) (4^E%gP i)=true:=zdJ.2 (zjS h0 G _);have K:=λA (H:Keep No w A)=>zxk i (4^E%gP i) (y^((gQ i-m)%gQ i)%gP i) A h0 G (hG.to H) (Ai (zeo M) (zcq i h0 G)) (Ai (zeo L) (zcq i h0 G)) (by rw[M,L];rfl);have c6:zaL (gP i) (gQ i) (sR i y m E)=true:=zdJ.2 (zys h0 G (zdJ.1 M) (zdJ.1 L));have hR:sR i y m E=(4^E%gP i)*(y^((gQ i-m)%gQ i)%gP i)%gP i:=rfl;rw[<-hR] at K;have a9:=λA (H:Keep No w A)=>zjt i pa ma pn pc mn mc (sR i y m E) pl ml A h0 G (hG.to H) (hT.no H) (hp.keep H) (hm.keep H) c8 c5 c6;have b1:zb2 i pl (sR i y m E) ml<gQ i:=zjW h0 G _ _ _;have b0:=λA=>zdM (zb2 i pl (sR i y m E) ml) m A (Ai b1 P) J;have b2:=zva (zb2 i pl (sR i y m E) ml) m;have b3:=λA=>zdr ((gQ i-m)%gQ i) 0 A;have c0:=λA=>zdr (y^((gQ i-m)%gQ i)%gP i) 0 A;have c1:=λA=>zdr (4^E%gP i) 0 A;have c2:=λA=>zdr (sR i y m E) 0 A;have l0:=zd m;have l1:=zd E;have ly:=zd y;have lq:=zd (gQ i);have lb:=zd (y^((gQ i-m)%gQ i)%gP i);have lr:=zd (sR i y m E);generalize gQ i=q,(gQ i-m)%gQ i=ne,y^((gQ i-m)%gQ i)%gP i=I,4^E%gP i=ps,sR i y m E=r,zb2 i pl (sR i y m E) ml=e at*;repeat' first|refine s_0 ?_|refine q_k 0 ?_
 refine zc0 (id:=1) mixed ?_
 (refine zc1 16 16 [[],[],[],[],[3],[3,4],[],[2,3,4,5,6],[2,3,4,5,6,7],[2,3,4,5,6,7],[2,3,4,5,6,7,8,9],[0,1,2,3,4,5,6,7,8,9,10],[0,1,2,3,4,5,6,7,8,9,10,11],[0,1,2,3,4,5,6,7,8,9,10,11],[0,1,2,3,4,5,6,7,8,9,10,11,12,13],[],[0,1,2,3,4,5,6,7,8,9,10,11,12,13,14,15]] [[],[],[],[],[],[],[],[],[],[],[],[],[],[],[],[],[]] none rfl ?_ ?_ ?_;kernel_rfl;kernel_rfl;refine q_E (zo (hv:=h4)) ?_;refine q_E (zW (B:=zg y) (hv:=a6)) ?_;refine q_E zdt ?_;refine q_E (zo (hv:=h9)) ?_;refine q_E (zbv (j:=0)) ?_;refine q_E (zW (B:=zg m) (hv:=U)) ?_;refine q_E (zW (B:=zg q) (hv:=a7)) ?_;refine q_E (za (hc:=q_c F)) ?_;refine q_E zas ?_;refine q_E zas ?_;refine q_E (za (hc:=q_c b3)) ?_;refine q_E (za (hc:=zr S)) ?_;refine q_E zas ?_;refine q_E zas ?_;refine q_E (za (hc:=q_c c0)) ?_;try refine dh_0nE (h:=?_))
 refine zfX (R:=λ_=>zj5 133 (List.replicate 16 (.int .u64 0))) (λ_ _ _=>rfl) (λρ hρ=>FM zeR λv L' h=>?_) (h:=?_)
 ·obtain⟨b,rfl,rfl⟩:=h;exact⟨[_],rfl,b,rfl,rfl⟩
 refine zfm (h:=?_);rintro ρ ⟨⟨b7,p1,p2⟩,-⟩
 (refine zc2 [[],[],[],[],[3],[3,4],[],[2,3,4,5,6],[2,3,4,5,6,7],[2,3,4,5,6,7],[2,3,4,5,6,7,8,9],[0,1,2,3,4,5,6,7,8,9,10],[0,1,2,3,4,5,6,7,8,9,10,11],[0,1,2,3,4,5,6,7,8,9,10,11],[0,1,2,3,4,5,6,7,8,9,10,11,12,13],[],[0,1,2,3,4,5,6,7,8,9,10,11,12,13,14,15]] ?_ ?_;kernel_rfl)
 refine FL (fr':=[(7,.pointer (some ⟨b7,0,none⟩)),(23,zu I),(0,.pointer (some ⟨Y,0,none⟩)),(2,.pointer (some ⟨b9,0,none⟩)),(4,.pointer (some ⟨Z,0,none⟩)),(5,.pointer (some ⟨b6,0,none⟩))]) (L':=[.blk b7 133 (List.replicate 16 (.int .u64 0))]) ?_ ?_ ?_;rotate_left
 ·(repeat' (first|exact GZ|refine Fb rfl ?_ ?_|rfl))
  exact p1
 ·show SubR _ ((ρ 15).2++_);rw[p2];exact q_h
 repeat' first|refine s_0 ?_|(refine zx ?_;first|refine q_n (zl (n:=I)) ?_|fail)|fail
 refine zc0 (id:=2) mixed ?_
 (refine zc1 15 15 [[],[],[],[2],[2,3],[1,2,3,4],[1,2,3,4,5],[1,2,3,4,5],[1,2,3,4,5,6,7],[],[0,1,2,3,4,5,6,7,8,9],[0,1,2,3,4,5,6,7,8,9,10],[0,1,2,3,4,5,6,7,8,9,10],[0,1,2,3,4,5,6,7,8,9,10,11,12],[],[0,1,2,3,4,5,6,7,8,9,10,11,12,13,14]] [[],[],[],[],[],[],[],[],[],[],[],[],[],[],[],[]] none rfl ?_ ?_ ?_;kernel_rfl;kernel_rfl;refine q_E (zo (hv:=h4)) ?_;refine q_E (zo (hv:=h4)) ?_;refine q_E (zo (hv:=h9)) ?_;refine q_E (zbv (j:=1)) ?_;refine q_E (zW (B:=zg E) (hv:=c9)) ?_;refine q_E (za (hc:=zr T)) ?_;refine q_E zas ?_;refine q_E zas ?_;refine q_E (za (hc:=q_c c1)) ?_;refine q_E (ze (B:=zg I)) ?_;refine q_E (za (hc:=zr K)) ?_;refine q_E zas ?_;refine q_E zas ?_;refine q_E (za (hc:=q_c c2)) ?_;try refine dh_0nE (h:=?_))
 refine zfX (R:=λ_=>zj5 133 (List.replicate 16 (.int .u64 0))) (λ_ _ _=>rfl) (λρ hρ=>FM zeR λv L' h=>?_) (h:=?_)
 ·obtain⟨b,rfl,rfl⟩:=h;exact⟨[_],rfl,b,rfl,rfl⟩
 refine zfm (h:=?_);rintro ρ ⟨⟨b8,p1,p2⟩,-⟩
 (refine zc2 [[],[],[],[2],[2,3],[1,2,3,4],[1,2,3,4,5],[1,2,3,4,5],[1,2,3,4,5,6,7],[],[0,1,2,3,4,5,6,7,8,9],[0,1,2,3,4,5,6,7,8,9,10],[0,1,2,3,4,5,6,7,8,9,10],[0,1,2,3,4,5,6,7,8,9,10,11,12],[],[0,1,2,3,4,5,6,7,8,9,10,11,12,13,14]] ?_ ?_;kernel_rfl)
 refine FL (fr':=[(8,.pointer (some ⟨b8,0,none⟩)),(37,zu r),(0,.pointer (some ⟨Y,0,none⟩)),(2,.pointer (some ⟨b9,0,none⟩)),(4,.pointer (some ⟨Z,0,none⟩)),(5,.pointer (some ⟨b6,0,none⟩))]) (L':=[.blk b8 133 (List.replicate 16 (.int .u64 0))]) ?_ ?_ ?_;rotate_left
 ·(repeat' (first|exact GZ|refine Fb rfl ?_ ?_|rfl))
  exact p1
 ·show SubR _ ((ρ 14).2++_);rw[p2];exact q_h
 repeat' first|refine s_0 ?_|refine zai (id:=3) 8 [[],[],[],[],[0,1,2,3],[],[5],[5,6],[0,1,2,3,4,5,6,7],[0,1,2,3,4,5,6,7,8],[0,1,2,3,4,5,6,7,8,9]] mixed ?_ ?_;kernel_rfl;refine q_D (zo (hv:=h4)) ?_;refine q_D (zo (hv:=c7)) ?_;refine q_D (ze (B:=zg r)) ?_;refine q_D (zo (hv:=c4)) ?_;refine q_D (za (hc:=λA _ H _=>a9 A H)) ?_;refine q_D (zo (hv:=h9)) ?_;refine q_D (zbv (j:=0)) ?_;refine q_D (zW (B:=zg m) (hv:=U)) ?_;refine zaF ?_;refine q_v (za (hc:=q_c b0)) ?_;refine q_v (zS (hr:=b2)) ?_;refine zw ?_|(refine zx ?_;first|refine q_n (zl (n:=r)) ?_|fail)|fail
 exact q_r
theorem zuw(l:List Nat):(zae l).all (·.oneCell')=true:=by
 induction l with
 |nil=>rw[Av.1 (show(zae []).length=0 from zfy [])];rfl
 |cons x l ih=>rw[zhq,BQ,zfG,ih];rfl
theorem zsg:zae []= []:=Av.1 (show(zae []).length=0 from zfy [])
def vfs(b4 b5 b6 b9 b10 b12:Nat):List Value:=
 [.func (.func 132) #[] #[.pointer (some ⟨b9,0,none⟩)],.func (.func 133) #[] #[.pointer (some ⟨b9,0,none⟩),.pointer (some ⟨b12,0,none⟩)],.func (.func 135) #[] #[.pointer (some ⟨b9,0,none⟩),.pointer (some ⟨b12,0,none⟩)],.func (.func 136) #[] #[.pointer (some ⟨b4,0,none⟩),.pointer (some ⟨b10,0,none⟩),.pointer (some ⟨b9,0,none⟩),.pointer (some ⟨b12,0,none⟩),.pointer (some ⟨b5,0,none⟩),.pointer (some ⟨b6,0,none⟩)]]
theorem ztK(r F G H j m q B:Nat)(A:Option Addr)(w:World)(I:w.cell? ⟨j,0,none⟩=some (.slice A 0 B))(J:w.rangeAt r 0 (vfs F G H j m q)):
  q_G 131 [.slice (some ⟨r,0,none⟩) 4 4] w (.bool false):=by
 refine zqA r 4 4 _ [false,false,false,false] w rfl rfl q_e J ?_;intro k v L E;rcases k with _|k
 ·obtain rfl:false=v:=Am L;exact⟨_,[.pointer (some ⟨j,0,none⟩)],rfl,en rfl,λM K=>zqQ j 0 B A M (K.cell I (λh=>h))⟩
 ·rw[C4,BV] at E;exact absurd E q_p
theorem zyj(i Q K L M q r m H I A B y P pc O Z:Nat)(pa Y:Option Addr)(pl ml:List UInt8)(w:World)(h0:1<=i)(h5:i<=4)(hG:GT w)(hT:Tab w No)(h4:w.cell? ⟨K,0,none⟩=some (.int .i64 (i:Int)))(R:w.rangeAt r 0 (zg y))
  (N:w.cell? ⟨q,0,none⟩=some (.slice (some ⟨H,0,none⟩) 2 I))(hr:w.rangeAt H 0 (zae [A,B]))(E:w.rangeAt m 0 (zg (gQ i)))(U:w.cell? ⟨L,0,none⟩=some (.slice pa P pc))(S:w.cell? ⟨M,0,none⟩=some (.slice Y O Z))
  (hp:(⟨pa,P,pc,pl⟩:Bs).ok w)(hm:(⟨Y,O,Z,ml⟩:Bs).ok w)(V:P<=1000)(T:O<=100000)(W:A<18446744073709551616^16)(X:B<18446744073709551616^16)(hy:zaL (gP i) (gQ i) y=true)(hF:w.rangeAt Q 0 (vfs K L M q r m)):
  q_G 131 [.slice (some ⟨Q,0,none⟩) 4 4] w (.bool ([true,decide (A<gQ i),decide (B<gQ i),decide (zb2 i pl (sR i y A B) ml=A)].all id)):=by
 have hW:=zci i h0 h5;refine zqA Q 4 4 _ _ w rfl rfl q_e hF ?_;intro k v J ht;rcases k with _|_|_|_|k
 ·obtain rfl:=Am J;exact⟨_,[.pointer (some ⟨q,0,none⟩)],rfl,en rfl,λG j=>zqQ q 2 I _ G (j.cell N (λh=>h))⟩
 ·obtain rfl:=Am J;exact⟨_,[.pointer (some ⟨q,0,none⟩),.pointer (some ⟨m,0,none⟩)],rfl,en rfl,λG j=>zwU q H 0 I m A B _ G (j.cell N (λh=>h)) (za0 hr j (λh=>h)) (za0 E j (λh=>h)) W hW⟩
 ·obtain rfl:=Am J;exact⟨_,[.pointer (some ⟨q,0,none⟩),.pointer (some ⟨m,0,none⟩)],rfl,en rfl,λG j=>zw4 q H 0 I m A B _ G (j.cell N (λh=>h)) (za0 hr j (λh=>h)) (za0 E j (λh=>h)) X hW⟩
 ·obtain rfl:=Am J;have F:(true&&(decide (A<gQ i)&&(decide (B<gQ i)&&true)))=true:=ht;rw[B2,DF,A8,decide_eq_true_eq,decide_eq_true_eq] at F;exact⟨_,[.pointer (some ⟨K,0,none⟩),.pointer (some ⟨r,0,none⟩),.pointer (some ⟨q,0,none⟩),.pointer (some ⟨m,0,none⟩),.pointer (some ⟨L,0,none⟩),.pointer (some ⟨M,0,none⟩)],rfl,en rfl,λG j=>
   zyh i K r q H 0 I m L M A B y P pc O Z pa Y pl ml G h0 h5 (hG.to j) (hT.no j) (j.cell h4 (λh=>h)) (za0 R j (λh=>h)) (j.cell N (λh=>h)) (za0 hr j (λh=>h)) (za0 E j (λh=>h)) (j.cell U (λh=>h)) (j.cell S (λh=>h)) (hp.keep j) (hm.keep j) V T F.1 F.2 hy⟩
 ·cases J
theorem zy2{i:Nat}(h0:1<=i)(j:i<=4):1<=gL i:=zcK (p:=λi=>1<=gL i) (by decide +kernel) (by decide +kernel) (by decide +kernel) (by decide +kernel) i h0 j
theorem zvn{z:Int}{pl ml j:List UInt8}(h:(gel z pl).2≠0\/65536<ml.length):zfV z pl ml j=2:=if_pos h
theorem zpb{z:Int}{pl ml j:List UInt8}(h:¬((gel z pl).2≠0\/65536<ml.length))(m:j.length≠2*gL z.toNat):zfV z pl ml j=10:=by
 unfold zfV;rw[if_neg h,if_pos m]
theorem zwK{i:Nat}{pl ml q:List UInt8}(h:¬((gel (i:Int) pl).2≠0\/65536<ml.length))(A:q.length=2*gL i){j m:Nat}(r:j=bev 256 (bn (q.take (gL i))))(w:m=bev 256 (bn (q.drop (gL i)))):
  zfV (i:Int) pl ml q=if ([true,decide (j<gQ i),decide (m<gQ i),decide (zb2 i pl (sR i (gel (i:Int) pl).1 j m) ml=j)].all id)=true then 0 else 10:=by
 unfold zfV;rw[if_neg h,Bn,if_neg q_o,<-r,<-w];simp only[BV,Dt,id,A8,decide_eq_true_eq,and_true,true_and];by_cases h0:gQ i<=j\/gQ i<=m
 ·rw[if_pos h0,if_neg q_o]
 ·rw[if_neg h0];by_cases hc:zb2 i pl (sR i (gel (i:Int) pl).1 j m) ml=j
  ·rw[if_pos hc,if_pos q_o]
  ·rw[if_neg hc,if_neg (λh=>hc h.2.2)]
theorem zti(z:Int)(pa ma sa:Option Addr)(pn pc T mc U sc:Nat)(pl ml j:List UInt8)(w:World)(hG:GT w)(hT:Tab w No)(hS:ST w)(hp:(⟨pa,pn,pc,pl⟩:Bs).ok w)(hm:(⟨ma,T,mc,ml⟩:Bs).ok w)(hs:(⟨sa,U,sc,j⟩:Bs).ok w)(b7:pn<=1000)(b3:T<=100000)(d8:U<=1000):
  q_G 56 [.int .i64 z,.slice pa pn pc,.slice ma T mc,.slice sa U sc] w (.int .i64 (zfV z pl ml j)):=by
 refine zt Tryz.func56 Tryz.ntmps56 ?_;have Q:=λH (A:Keep No w H)=>ztS z pa pn pc pl H (hG.to A) hp.len hp.cap (hp.keep A).sla;have S:=λH (A:Keep No w H)=>zyf z H (hG.to A);have c8:ml.length=T:=hm.len;have c9:j.length=U:=hs.len;have c7:=zd (gel z pl).1;by_cases hw:(gel z pl).2≠0\/65536<ml.length
 ·rw[zvn hw];have b1:=zd (zhL z).1;repeat' first|refine s_0 ?_|refine zf 0 ?_;refine zk λ_=>?_;refine zk λ_=>?_;refine z9 λ_=>?_
  refine zkc (γ:=Unit) 0 (λ_=>[]) (λ_=>[]) (λ_=>True) rfl ?_ (λ_ _=>?_);rotate_left
  ·repeat' first|refine s_0 ?_|refine zbY ?_|refine q_k 12 ?_
   exact q_r
  by_cases he:(gel z pl).2=0
  ·have g1:decide ((gel z pl).2≠0)=false:=decide_eq_false (λh=>h he);have gm:decide (65536<(T:Int))=true:=decide_eq_true (by have:=hw.resolve_left (λh=>h he);omega);generalize (zhL z).2=e',(zhL z).1=q,(gel z pl).2=e,(gel z pl).1=y at*;repeat' first|refine s_0 ?_|refine zgH ?_|refine zdh ?_|refine zfz ?_|refine zf 1 ?_;refine zk λ_=>?_|refine zf 2 ?_;refine zm ?_;refine zm ?_;refine q_v (za (hc:=zr Q)) ?_;refine zb ?_;refine zk λ_=>?_;refine q_y (zl (n:=y)) ?_|refine zf 3 ?_;refine zm ?_;refine q_v (za (hc:=zr S)) ?_;refine zb ?_;refine zk λ_=>?_;refine q_y (zl (n:=q)) ?_|refine q_k 4 ?_;refine q_v (zad (hr:=g1)) ?_|refine zf 5 ?_;refine zm ?_;refine zb ?_;refine q_v (zH (hr:=gm)) ?_
   exact zaj () trivial GZ Ev
  ·have g1:decide ((gel z pl).2≠0)=true:=decide_eq_true he;generalize (zhL z).2=e',(zhL z).1=q,(gel z pl).2=e,(gel z pl).1=y at*;repeat' first|refine s_0 ?_|refine zgH ?_|refine zdh ?_|refine zfz ?_|refine zf 1 ?_;refine zk λ_=>?_|refine zf 2 ?_;refine zm ?_;refine zm ?_;refine q_v (za (hc:=zr Q)) ?_;refine zb ?_;refine zk λ_=>?_;refine q_y (zl (n:=y)) ?_|refine zf 3 ?_;refine zm ?_;refine q_v (za (hc:=zr S)) ?_;refine zb ?_;refine zk λ_=>?_;refine q_y (zl (n:=q)) ?_|refine q_k 4 ?_;refine q_v (zad (hr:=g1)) ?_
   exact zaj () trivial GZ Ev
 have he:(gel z pl).2=0:=Classical.byContradiction λh=>hw (.inl h);have F:=zk3 he;obtain⟨i,rfl,hi,h0,h5⟩:=zdj F.1;rw[hi] at F;have hy:zaL (gP i) (gQ i) (gel (i:Int) pl).1=true:=by rw[F.2.2.2];exact F.2.2.1
 have b0:zhL (i:Int)=(gQ i,0):=by unfold zhL;rw[if_pos F.1,hi]
 rw[b0] at S;rw[he] at Q;have b1:=zd (gQ i);have gm:decide (65536<(T:Int))=false:=decide_eq_false (λh=>hw (.inr q_o));have Y:zbm (i:Int)=gL i:=by unfold zbm;rw[if_pos F.1,hi]
 have Z:=zf5 F.1;rw[hi] at Z;have a9:∀x∈zbw (i:Int) j,x<18446744073709551616^16:=by
  unfold zbw;split
  ·intro x hx;cases hx
  ·rename_i h;rw[Y] at h ⊢;intro x hx;simp only[AV,Bi,or_false] at hx;rcases hx with rfl|rfl
   ·exact znD (by rw[AS];omega)
   ·exact znD (by rw[As];omega)
 have c5:(zbw (i:Int) j).length<=2:=by unfold zbw;split <;> simp
 repeat' first|refine s_t ?_|refine zdO ?_|refine zf 0 ?_;refine zk λ_=>?_;refine zk λ_=>?_;refine z9 λ_=>?_|refine zf 1 ?_;refine zk λ_=>?_|refine zf 2 ?_;refine zm ?_;refine zm ?_;refine q_v (za (hc:=zr Q)) ?_;refine zb ?_;refine zk λ_=>?_;refine q_y (zl (n:=(gel (i:Int) pl).1)) ?_|refine zf 3 ?_;refine zm ?_;refine q_v (za (hc:=zr S)) ?_;refine zb ?_;refine zk λ_=>?_;refine q_y (zl (n:=gQ i)) ?_|refine q_k 4 ?_;refine zaJ ?_|refine zf 5 ?_;refine zm ?_;refine zb ?_;refine q_v (zH (hr:=gm)) ?_|refine zf 6 ?_;refine zm ?_;refine zb ?_;(refine q_s (zi (hc:=λH X A L=>zuK (i:Int) sa U sc j H (hs.keep A) q_o)) ?_;rintro _ _ ⟨R,rfl,bI,bS,aS,cS,rfl,rfl⟩)
 rename_i b4 b5 b6 V I K;refine zbg (zaT 133 16) ?_;unfold zrP;have b8:zae ((zbw (i:Int) j).take 0)= []:=by rw[By];exact zsg
 refine zgQ (γ:=Nat×Option Addr×Nat) (xs:=zbw (i:Int) j) (Arg:=zzW) zde rfl (en rfl) rfl (λk s=>s.1=k) (λ_ _ _=>False)
  (λs=>[.blk V 150 [.slice s.2.1 s.1 s.2.2],.row (.slice s.2.1 s.1 s.2.2) 133 16 s.1 (zae ((zbw (i:Int) j).take s.1))])
  [.blk bS 23 [.slice aS U cS],.blk bI 3 [.int .i64 (i:Int)],.row (.slice aS U cS) 5 1 U (j.map v8)]
  [.blk K 133 (zg (gQ i)),.blk I 133 (zg (gel (i:Int) pl).1),.blk b6 23 [.slice ma T mc],.blk b5 23 [.slice pa pn pc],.blk b4 3 [.int .i64 (i:Int)]] (0,none,0) rfl ?_ ?_ ?_ ?_ ?_ ?_
 ·dsimp only;rw[b8]
  ((try simp only[Ae,Ag,AJ]);(repeat' (first|exact List.Perm.nil|exact Ay _|apply zhu;with_reducible (focus ((repeat (first|exact Eu|apply Ew));done))|apply zhu;(focus ((repeat (first|exact Eu|apply Ew));done)))))
 ·intro H Mi X A a7 _ _;obtain⟨q1,q2⟩:=zeM (M:=No) hG (by unfold zek;simp) (λh=>h) A a7;obtain⟨q3,q4⟩:=zeM (M:=No) hS (E8 _ _) (λh=>h) A a7;exact ztO bI bS (i:Int) aS U cS j H Mi hs.len q1 q2 q3 q4
 ·rintro O x vs RA H ⟨rfl,_⟩;rfl
 ·rintro lq k A ⟨P,aP,cP⟩ vs RA W rec c2 N ⟨rfl,rfl⟩ c4 b2;dsimp only at N ⊢;subst N;have a8:zae ((zbw (i:Int) j).take P)++zae [(zbw (i:Int) j)[P]]=zae ((zbw (i:Int) j).take (P+1)):=by
   rw[<-zkB,CE,A2 A];rfl
  have c6:=zd (zbw (i:Int) j)[P];have c3:P<2:=q_o;generalize (zbw (i:Int) j)[P]=x at*;obtain⟨Rn,a6⟩:∃r,r=zae ((zbw (i:Int) j).take (P+1)):=⟨_,rfl⟩;rw[<-a6] at a8;generalize zae ((zbw (i:Int) j).take P)=Ro at*;repeat' first|refine s_t ?_|apply zcR;(focus ((repeat (first|exact Eu|apply Ew));done));assumption|refine zf 7 ?_;refine zk λ_=>?_;refine q_n (zl (n:=x)) ?_|refine zf 8 ?_;refine zm ?_;refine q_v (ze (B:=zg x)) ?_|refine q_s (zcb (x:=x)) ?_;rintro _ _ ⟨bN,rfl,rfl⟩|(refine zx ?_;first|refine q_s (zaz (m:=1) (size:=16) (xs:=Ro) (news:=zae [x]) (ys:=Rn) (km:=P+1) (hn:=zfy [x]) (h1:=zuw [x]) (hkm:=rfl) (hys:=a8)) ?_;rintro _ _ ⟨rfl,aQ,cQ,rfl⟩|refine zP ?_|fail)|fail
  refine zgE (P+1,aQ,cQ) rfl ?_;dsimp only;rw[<-a6];exact q_h
 ·rintro⟨P,aP,cP⟩ N;dsimp only at N ⊢;subst N;rw[List.take_length];repeat' first|refine zdf ?_|refine zh3 ?_|fail
  by_cases hlen:j.length=2*gL i
  ·have G:zbw (i:Int) j= [bev 256 (bn (j.take (gL i))),bev 256 (bn (j.drop (gL i)))]:=by
    unfold zbw;have:=zy2 h0 h5;rw[Y,if_neg q_o]
   obtain⟨x0,e0⟩:∃x,x=bev 256 (bn (j.take (gL i))):=⟨_,rfl⟩;obtain⟨x1,e1⟩:∃x,x=bev 256 (bn (j.drop (gL i))):=⟨_,rfl⟩;rw[<-e0,<-e1] at G;rw[zwK hw hlen e0 e1];have c0:=a9 x0 (by rw[G];simp);have c1:=a9 x1 (by rw[G];simp);have hl:(zbw (i:Int) j).length=2:=by rw[G];rfl
   rw[hl,G];refine zmh (a:=aP) (n:=2) (cp:=cP) (s:=16) (E:=133) (xs:=zae [x0,x1]) (by exact Ew Eu) q_e λbP J ha _ _ _ _=>?_;subst ha;repeat' first|refine zf 9 ?_;refine q_v zab ?_;refine q_v zab ?_;refine q_v zab ?_;refine q_v zab ?_;(refine q_s zz ?_;rintro _ _ ⟨_,rfl,rfl⟩)
   rename_i bF;refine q_v (za (hc:=λH X A L=>zyj i bF b4 b5 b6 V I K bP cP x0 x1 (gel (i:Int) pl).1 pn pc T mc pa ma pl ml H h0 h5 (hG.to A) (hT.no A) (zp (L.has (r:=.blk b4 3 [.int .i64 (i:Int)]) q_h) Ex 0 _ rfl) (zp (L.has (r:=.blk I 133 (zg (gel (i:Int) pl).1)) q_h) Ex) (zp (L.has (r:=.blk V 150 [.slice (some ⟨bP,0,none⟩) 2 cP]) q_h) Ex 0 _ rfl) (zp (L.has (r:=.blk bP 133 (zae [x0,x1]++J)) q_h) zoh) (zp (L.has (r:=.blk K 133 (zg (gQ i))) q_h) Ex) (zp (L.has (r:=.blk b5 23 [.slice pa pn pc]) q_h) Ex 0 _ rfl) (zp (L.has (r:=.blk b6 23 [.slice ma T mc]) q_h) Ex 0 _ rfl) (hp.keep A) (hm.keep A) b7 b3 c0 c1 hy (zp (L.has (r:=.blk bF 25 (vfs b4 b5 b6 V I K)) q_h) Ex))) ?_;generalize ([true,decide (x0<gQ i),decide (x1<gQ i),decide (zb2 i pl (sR i (gel (i:Int) pl).1 x0 x1) ml=x0)].all id)=r;cases r with
   |true=>
    repeat' first|refine s_0 ?_|refine zbY ?_|refine q_k 10 ?_
    exact q_r
   |false=>
    repeat' first|refine s_0 ?_|refine zbY ?_|refine q_k 11 ?_
    exact q_r
  ·have G:zbw (i:Int) j= []:=by
    unfold zbw;rw[Y,if_pos (.inr hlen)]
   have hl:(zbw (i:Int) j).length=0:=by rw[G];rfl
   rw[zpb hw (by rw[hi];exact hlen),hl];repeat' first|refine zf 9 ?_;refine q_v zab ?_;refine q_v zab ?_;refine q_v zab ?_;refine q_v zab ?_;(refine q_s zz ?_;rintro _ _ ⟨_,rfl,rfl⟩)
   rename_i bF;refine q_v (za (hc:=λH X A L=>ztK bF b4 b5 b6 V I K cP aP H (zp (L.has (r:=.blk V 150 [.slice aP 0 cP]) q_h) Ex 0 _ rfl) (zp (L.has (r:=.blk bF 25 (vfs b4 b5 b6 V I K)) q_h) Ex))) ?_;repeat' first|refine s_0 ?_|refine zbY ?_|refine q_k 11 ?_
   exact q_r
 ·exact λ_ _ _ _ h=>h.elim
end Go.Proofs.YtdnlngbjpdbffaaGreatDoor
