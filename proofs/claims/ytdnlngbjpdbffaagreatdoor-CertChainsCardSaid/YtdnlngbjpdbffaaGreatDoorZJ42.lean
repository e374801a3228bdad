/- Lemmas. -/
import Derived.Test.YtdnlngbjpdbffaaGreatDoorZJ41
set_option maxHeartbeats 4000000
set_option maxRecDepth 10000
set_option linter.all false
namespace Go.Proofs.YtdnlngbjpdbffaaGreatDoor
open Sy Ct RowKit
attribute [local irreducible] Sy SyL SyX SyC SyF SyG SyH Sy.Fn Sy.FnP callFunc
variable {ro:Option Nat}{N:Nat}{w0:World}{M:Nat->Prop}{ds:List Deferred}{g:Nat->Option Value}{L:List Res}{o:Oper}
theorem zle{z0 F G z3 z4 z5 H I J:Operand}{n f u k:Int}{q:Bool}{w B A E:Value}{a a2:Option Addr}{m c r j:Nat}(T:o.op= .build 45 #[(0,z0),(1,F),(2,G),(3,z3),(4,z4),(5,z5),(6,H),(7,I),(8,J)]:=by exact rfl)(h0:ev g z0=some (.int .i64 n):=by exact rfl)(h1:ev g F=some (.agg #[w,B]):=by exact rfl)(h2:ev g G=some (.agg #[A,E]):=by exact rfl)(K:ev g z3=some (.int .i64 f):=by exact rfl)(O:ev g z4=some (.int .i64 u):=by exact rfl)(P:ev g z5=some (.bool q):=by exact rfl)(Q:ev g H=some (.int .i64 k):=by exact rfl)(R:ev g I=some (.slice a m c):=by exact rfl)(S:ev g J=some (.slice a2 r j):=by exact rfl):
  OpT Tryz.prog ro N w0 M ds o g L (Det (.agg ([.int .i64 n,w,B,A,E,.int .i64 f,.int .i64 u,.bool q,.int .i64 k,.slice a m c,.slice a2 r j]:List Value).toArray) L):=
 zgg (parts:=#[(0,z0),(1,F),(2,G),(3,z3),(4,z4),(5,z5),(6,H),(7,I),(8,J)]) (vs:=[.int .i64 n,.agg #[w,B],.agg #[A,E],.int .i64 f,.int .i64 u,.bool q,.int .i64 k,.slice a m c,.slice a2 r j]) (C:=[.int .i64 n,w,B,A,E,.int .i64 f,.int .i64 u,.bool q,.int .i64 k,.slice a m c,.slice a2 r j]) (by exact(.cons (cs:=[.int .i64 n]) (off:=0) (n:=1) rfl rfl rfl (A5 rfl) (.cons (cs:=[w,B]) (off:=1) (n:=2) rfl rfl rfl (A5 rfl) (.cons (cs:=[A,E]) (off:=3) (n:=2) rfl rfl rfl (A5 rfl) (.cons (cs:=[.int .i64 f]) (off:=5) (n:=1) rfl rfl rfl (A5 rfl) (.cons (cs:=[.int .i64 u]) (off:=6) (n:=1) rfl rfl rfl (A5 rfl) (.cons (cs:=[.bool q]) (off:=7) (n:=1) rfl rfl rfl (A5 rfl) (.cons (cs:=[.int .i64 k]) (off:=8) (n:=1) rfl rfl rfl (A5 rfl) (.cons (cs:=[.slice a m c]) (off:=9) (n:=1) rfl rfl rfl (A5 rfl) (.cons (cs:=[.slice a2 r j]) (off:=10) (n:=1) rfl rfl rfl (A5 rfl) .nil)))))))))) T (by simp[evs,h0,h1,h2,K,O,P,Q,R,S]) (ty rfl) rfl rfl (zc rfl)
theorem zyn:∀l:List UInt8,l= []->(match l with| []=>false|c::_=>c != 0)=false:=by rintro _ rfl;rfl
theorem zyQ(x:UInt8):(x != 0)=decide ((x.toNat:Int)≠0):=by
 by_cases h:x=0
 ·rw[h];rfl
 ·have:x.toNat≠0:=λe=>h (Bf.1 e);rw[decide_eq_true (by omega:((x.toNat:Int)≠0))];simp[h]
theorem zxU(s:Bs)(w:World)(hs:s.ok w)(hb:s.n<1000000):Sy.Fn Tryz.prog 47 [s.val] w No (zhw (zhJ s.l)):=by
 refine zt Tryz.func47 Tryz.ntmps47 ?_;have hv:s.val= .slice s.a s.n s.c:=rfl;have c8:=λm (E:Keep No w m)=>zg1 s 0 m (hs.keep E) hb q_e;have c5:=λm (E:Keep No w m)=>zg1 s 1 m (hs.keep E) hb q_e;rw[hv] at c8 c5 ⊢;unfold zdS at c8 c5;unfold zhw zaD;repeat' first|refine s_0 ?_|refine zf 0 ?_;refine zk λ_=>?_
 rename_i b2;repeat' first|refine s_0 ?_|refine q_k 1 ?_;(refine q_s (zi (hc:=zr c8)) ?_;rintro _ _ ⟨R,rfl,s1,rfl,e3,d8,j0,rfl⟩);refine zb ?_
 have F:=d8 w hs;have A:=λj (hj:j<=30) m (E:Keep No w m)=>zg1 s1 j m (F.keep E) q_o hj;have h9:s1.val= .slice s1.a s1.n s1.c:=rfl;rw[h9] at A ⊢;unfold zdS at A;repeat' first|refine q_k 2 ?_;(refine q_s (zi (hc:=λm X E hh=>A 5 q_e m E)) ?_;rintro _ _ ⟨R,rfl,s5,rfl,h6,d9,j1,rfl⟩)
 have h2:=d9 w F;have c6:=λm (E:Keep No w m)=>zds s5 m (h2.keep E) q_o;unfold zdS at c6;have i5:s5.val= .slice s5.a s5.n s5.c:=rfl;rw[i5] at c6 ⊢;repeat' first|refine s_0 ?_|(refine zx ?_;first|refine q_s (zi (hc:=zr c6)) ?_;rintro _ _ ⟨R,rfl,sA,rfl,h7,e0,j2,rfl⟩|refine zw ?_|fail)|fail
 have h3:=e0 w h2;have a7:=h3.len;have i7:sA.val= .slice sA.a sA.n sA.c:=rfl;rw[i7];have h4:zaN (item (item s.l 0) 5)=sA.l:=by rw[h7,h6,e3]
 obtain⟨qb,c9⟩:∃q:Bool,q=(match sA.l with| []=>false|c::_=>c != 0):=⟨_,rfl⟩;have e2:zhJ s.l=⟨zfs (item s1.l 0),zdE (item s1.l 1),zdE (item s1.l 2),zcr (item s1.l 3),zcr (item s1.l 4),qb,zcr (item s1.l 6),zaN (item s1.l 7),zaN (item s.l 1)⟩:=by
  rw[c9,<-h4,e3];rfl
 rw[e2];dsimp only;rcases AE sA.n with hz|hz
 ·have g:decide ((sA.n:Int)>0)=false:=q_f;have h8:qb=false:=by
   have i9:sA.l= []:=Av.1 q_o;rw[c9];exact zyn _ i9
  rw[h8]
  (refine zdm (id:=3) [0] true [] [0,3,6,9,12,15,16,17,24,27,30] [(1,[]),(2,[]),(4,[]),(5,[]),(7,[]),(8,[]),(10,[]),(11,[]),(13,[]),(14,[]),(18,[19,20,21,22,23]),(25,[]),(26,[]),(28,[]),(29,[]),(31,[]),(32,[33]),(34,[])] mixed q_h ?_ ?_;kernel_rfl;refine ygv zV (k:=?_);refine ygv zV (k:=?_);refine ygv zV (k:=?_);refine ygv zV (k:=?_);refine ygv zV (k:=?_);refine ygv zV (k:=?_);refine ygv zfk (k:=?_);refine ygv (zH (hr:=g)) (k:=?_);refine ygv zV (k:=?_);refine ygv zV (k:=?_);refine ygv zV (k:=?_);refine yg0 ?_;try refine yg0 ?_;try refine yg0 ?_;try refine yg0 ?_;try refine yg0 ?_;try refine yg0 ?_;try refine yg0 ?_;try refine yg0 ?_;try refine yg0 ?_;try refine yg0 ?_;try refine yg0 ?_;try refine yg0 ?_;try refine yg0 ?_;try refine yg0 ?_;try refine yg0 ?_;try refine yg0 ?_;try refine yg0 ?_;try refine yg0 ?_;try refine zg5 ?_)
  refine yhs (zi (hc:=λm X E hh=>A 0 q_e m E)) (k:=?_);rintro _ _ ⟨R,rfl,t0,rfl,a8,K,e4,rfl⟩;refine yg0 ?_;have b7:=K w F;rw[show t0.val= .slice t0.a t0.n t0.c from rfl];have W:=λm (E:Keep No w m)=>zm4 t0 m (b7.keep E) q_o;rw[show t0.val= .slice t0.a t0.n t0.c from rfl,a8] at W;refine yhv (za (hc:=zr W)) (k:=?_);refine yg0 ?_;refine yhs (zi (hc:=λm X E hh=>A 1 q_e m E)) (k:=?_);rintro _ _ ⟨R,rfl,t1,rfl,a9,O,e5,rfl⟩;refine yg0 ?_;have b8:=O w F;rw[show t1.val= .slice t1.a t1.n t1.c from rfl];have G:=λm (E:Keep No w m)=>zig t1 m (b8.keep E) q_o;rw[show t1.val= .slice t1.a t1.n t1.c from rfl,a9] at G;unfold zh6 at G;refine yhs (zi (hc:=zr G)) (k:=?_);rintro _ _ ⟨R,rfl,a1,k1,rfl,rfl⟩;refine yg0 ?_;refine yhs (zi (hc:=λm X E hh=>A 2 q_e m E)) (k:=?_);rintro _ _ ⟨R,rfl,t2,rfl,b0,P,e6,rfl⟩;refine yg0 ?_;have b9:=P w F;rw[show t2.val= .slice t2.a t2.n t2.c from rfl];have H:=λm (E:Keep No w m)=>zig t2 m (b9.keep E) q_o;rw[show t2.val= .slice t2.a t2.n t2.c from rfl,b0] at H;unfold zh6 at H;refine yhs (zi (hc:=zr H)) (k:=?_);rintro _ _ ⟨R,rfl,a2,k2,rfl,rfl⟩;refine yg0 ?_;refine yhs (zi (hc:=λm X E hh=>A 3 q_e m E)) (k:=?_);rintro _ _ ⟨R,rfl,t3,rfl,b1,Q,e7,rfl⟩;refine yg0 ?_;have c0:=Q w F;rw[show t3.val= .slice t3.a t3.n t3.c from rfl];have Y:=λm (E:Keep No w m)=>zfQ t3 m (c0.keep E) q_o;rw[show t3.val= .slice t3.a t3.n t3.c from rfl,b1] at Y;refine yhv (za (hc:=zr Y)) (k:=?_);refine yg0 ?_;refine yhs (zi (hc:=λm X E hh=>A 4 q_e m E)) (k:=?_);rintro _ _ ⟨R,rfl,t4,rfl,b3,S,e8,rfl⟩;refine yg0 ?_;have c1:=S w F;rw[show t4.val= .slice t4.a t4.n t4.c from rfl];have Z:=λm (E:Keep No w m)=>zfQ t4 m (c1.keep E) q_o;rw[show t4.val= .slice t4.a t4.n t4.c from rfl,b3] at Z;refine yhv (za (hc:=zr Z)) (k:=?_);refine yg0 ?_;refine yhv zV (k:=?_);refine ygn (k:=?_);refine ygn (k:=?_);refine ygn (k:=?_);refine ygn (k:=?_);refine ygv zcz (k:=?_);refine yg0 ?_;refine yhs (zi (hc:=λm X E hh=>A 6 q_e m E)) (k:=?_);rintro _ _ ⟨R,rfl,t6,rfl,b4,T,e9,rfl⟩;refine yg0 ?_;have c2:=T w F;rw[show t6.val= .slice t6.a t6.n t6.c from rfl];have a6:=λm (E:Keep No w m)=>zfQ t6 m (c2.keep E) q_o;rw[show t6.val= .slice t6.a t6.n t6.c from rfl,b4] at a6;refine yhv (za (hc:=zr a6)) (k:=?_);refine yg0 ?_;refine yhs (zi (hc:=λm X E hh=>A 7 q_e m E)) (k:=?_);rintro _ _ ⟨R,rfl,t7,rfl,b5,U,f8,rfl⟩;refine yg0 ?_;have c3:=U w F;rw[show t7.val= .slice t7.a t7.n t7.c from rfl];have I:=λm (E:Keep No w m)=>zim t7 m (c3.keep E) q_o;rw[show t7.val= .slice t7.a t7.n t7.c from rfl,b5] at I;unfold zbf zbK at I;refine yhs (zi (hc:=zr I)) (k:=?_);rintro _ _ ⟨R,rfl,a3,k3,rfl,rfl⟩;refine yg0 ?_;refine yhs (zi (hc:=zr c5)) (k:=?_);rintro _ _ ⟨R,rfl,t8,rfl,b6,V,f9,rfl⟩;refine yg0 ?_;have c4:=V w hs;rw[show t8.val= .slice t8.a t8.n t8.c from rfl];have J:=λm (E:Keep No w m)=>zim t8 m (c4.keep E) q_o;rw[show t8.val= .slice t8.a t8.n t8.c from rfl,b6] at J;unfold zbf zbK at J;refine yhs (zi (hc:=zr J)) (k:=?_);rintro _ _ ⟨R,rfl,a4,k4,rfl,rfl⟩;unfold zT;refine ygv zle (k:=?_);refine yg0 ?_;refine yhn (zG (h1:=rfl)) (k:=?_);refine zg5 ?_;repeat' first|refine s_0 ?_|fail
  exact zar rfl (zE (B:=zF ⟨a1,k1,a2,k2,a3,k3,a4,k4⟩ ⟨zfs (item s1.l 0),zdE (item s1.l 1),zdE (item s1.l 2),zcr (item s1.l 3),zcr (item s1.l 4),_,zcr (item s1.l 6),zaN (item s1.l 7),zaN (item s.l 1)⟩) rfl (ty rfl) rfl Ey Ex rfl) q_h ⟨⟨a1,k1,a2,k2,a3,k3,a4,k4⟩,rfl,rfl⟩
 ·have g:decide ((sA.n:Int)>0)=true:=q_d;obtain⟨y,rr,e1⟩:∃y r,sA.l=y::r:=by
   cases h:sA.l with
   |nil=>rw[h] at a7;simp at a7;omega
   |cons y r=>exact⟨y,r,rfl⟩
  obtain⟨bx,ox,i8,c7⟩:=zca h3.sla (i:=0) (by rw[e1];simp);have h5:w.cell? ⟨bx,ox+0,none⟩=some (.int .u8 (y.toNat:Int)):=c7 0 _ (by rw[e1];rfl);have gx:decide ((y.toNat:Int)≠0)=qb:=by rw[c9,e1];exact(zyQ y).symm
  rw[i8]
  (refine zdm (id:=3) [0] true [] [0,3,6,9,12,15,16,17,24,27,30] [(1,[]),(2,[]),(4,[]),(5,[]),(7,[]),(8,[]),(10,[]),(11,[]),(13,[]),(14,[]),(18,[19,20,21,22,23]),(25,[]),(26,[]),(28,[]),(29,[]),(31,[]),(32,[33]),(34,[])] mixed q_h ?_ ?_;kernel_rfl;refine ygv zV (k:=?_);refine ygv zV (k:=?_);refine ygv zV (k:=?_);refine ygv zV (k:=?_);refine ygv zV (k:=?_);refine ygv zV (k:=?_);refine ygv zfk (k:=?_);refine ygv (zH (hr:=g)) (k:=?_);refine ygv zV (k:=?_);refine ygv zV (k:=?_);refine ygv zV (k:=?_);refine yg0 ?_;try refine yg0 ?_;try refine yg0 ?_;try refine yg0 ?_;try refine yg0 ?_;try refine yg0 ?_;try refine yg0 ?_;try refine yg0 ?_;try refine yg0 ?_;try refine yg0 ?_;try refine yg0 ?_;try refine yg0 ?_;try refine yg0 ?_;try refine yg0 ?_;try refine yg0 ?_;try refine yg0 ?_;try refine yg0 ?_;try refine yg0 ?_;try refine zg5 ?_)
  refine yhs (zi (hc:=λm X E hh=>A 0 q_e m E)) (k:=?_);rintro _ _ ⟨R,rfl,t0,rfl,a8,K,e4,rfl⟩;refine yg0 ?_;have b7:=K w F;rw[show t0.val= .slice t0.a t0.n t0.c from rfl];have W:=λm (E:Keep No w m)=>zm4 t0 m (b7.keep E) q_o;rw[show t0.val= .slice t0.a t0.n t0.c from rfl,a8] at W;refine yhv (za (hc:=zr W)) (k:=?_);refine yg0 ?_;refine yhs (zi (hc:=λm X E hh=>A 1 q_e m E)) (k:=?_);rintro _ _ ⟨R,rfl,t1,rfl,a9,O,e5,rfl⟩;refine yg0 ?_;have b8:=O w F;rw[show t1.val= .slice t1.a t1.n t1.c from rfl];have G:=λm (E:Keep No w m)=>zig t1 m (b8.keep E) q_o;rw[show t1.val= .slice t1.a t1.n t1.c from rfl,a9] at G;unfold zh6 at G;refine yhs (zi (hc:=zr G)) (k:=?_);rintro _ _ ⟨R,rfl,a1,k1,rfl,rfl⟩;refine yg0 ?_;refine yhs (zi (hc:=λm X E hh=>A 2 q_e m E)) (k:=?_);rintro _ _ ⟨R,rfl,t2,rfl,b0,P,e6,rfl⟩;refine yg0 ?_;have b9:=P w F;rw[show t2.val= .slice t2.a t2.n t2.c from rfl];have H:=λm (E:Keep No w m)=>zig t2 m (b9.keep E) q_o;rw[show t2.val= .slice t2.a t2.n t2.c from rfl,b0] at H;unfold zh6 at H;refine yhs (zi (hc:=zr H)) (k:=?_);rintro _ _ ⟨R,rfl,a2,k2,rfl,rfl⟩;refine yg0 ?_;refine yhs (zi (hc:=λm X E hh=>A 3 q_e m E)) (k:=?_);rintro _ _ ⟨R,rfl,t3,rfl,b1,Q,e7,rfl⟩;refine yg0 ?_;have c0:=Q w F;rw[show t3.val= .slice t3.a t3.n t3.c from rfl];have Y:=λm (E:Keep No w m)=>zfQ t3 m (c0.keep E) q_o;rw[show t3.val= .slice t3.a t3.n t3.c from rfl,b1] at Y;refine yhv (za (hc:=zr Y)) (k:=?_);refine yg0 ?_;refine yhs (zi (hc:=λm X E hh=>A 4 q_e m E)) (k:=?_);rintro _ _ ⟨R,rfl,t4,rfl,b3,S,e8,rfl⟩;refine yg0 ?_;have c1:=S w F;rw[show t4.val= .slice t4.a t4.n t4.c from rfl];have Z:=λm (E:Keep No w m)=>zfQ t4 m (c1.keep E) q_o;rw[show t4.val= .slice t4.a t4.n t4.c from rfl,b3] at Z;refine yhv (za (hc:=zr Z)) (k:=?_);refine yg0 ?_;refine yhv zV (k:=?_);refine ygv zV (k:=?_);refine ygv (zq (j:=0)) (k:=?_);refine ygv (zo (hv:=h5)) (k:=?_);refine ygv (zad (hr:=gx)) (k:=?_);refine ygv zcz (k:=?_);refine yg0 ?_;refine yhs (zi (hc:=λm X E hh=>A 6 q_e m E)) (k:=?_);rintro _ _ ⟨R,rfl,t6,rfl,b4,T,e9,rfl⟩;refine yg0 ?_;have c2:=T w F;rw[show t6.val= .slice t6.a t6.n t6.c from rfl];have a6:=λm (E:Keep No w m)=>zfQ t6 m (c2.keep E) q_o;rw[show t6.val= .slice t6.a t6.n t6.c from rfl,b4] at a6;refine yhv (za (hc:=zr a6)) (k:=?_);refine yg0 ?_;refine yhs (zi (hc:=λm X E hh=>A 7 q_e m E)) (k:=?_);rintro _ _ ⟨R,rfl,t7,rfl,b5,U,f8,rfl⟩;refine yg0 ?_;have c3:=U w F;rw[show t7.val= .slice t7.a t7.n t7.c from rfl];have I:=λm (E:Keep No w m)=>zim t7 m (c3.keep E) q_o;rw[show t7.val= .slice t7.a t7.n t7.c from rfl,b5] at I;unfold zbf zbK at I;refine yhs (zi (hc:=zr I)) (k:=?_);rintro _ _ ⟨R,rfl,a3,k3,rfl,rfl⟩;refine yg0 ?_;refine yhs (zi (hc:=zr c5)) (k:=?_);rintro _ _ ⟨R,rfl,t8,rfl,b6,V,f9,rfl⟩;refine yg0 ?_;have c4:=V w hs;rw[show t8.val= .slice t8.a t8.n t8.c from rfl];have J:=λm (E:Keep No w m)=>zim t8 m (c4.keep E) q_o;rw[show t8.val= .slice t8.a t8.n t8.c from rfl,b6] at J;unfold zbf zbK at J;refine yhs (zi (hc:=zr J)) (k:=?_);rintro _ _ ⟨R,rfl,a4,k4,rfl,rfl⟩;unfold zT;refine ygv zle (k:=?_);refine yg0 ?_;refine yhn (zG (h1:=rfl)) (k:=?_);refine zg5 ?_;repeat' first|refine s_0 ?_|fail
  exact zar rfl (zE (B:=zF ⟨a1,k1,a2,k2,a3,k3,a4,k4⟩ ⟨zfs (item s1.l 0),zdE (item s1.l 1),zdE (item s1.l 2),zcr (item s1.l 3),zcr (item s1.l 4),_,zcr (item s1.l 6),zaN (item s1.l 7),zaN (item s.l 1)⟩) rfl (ty rfl) rfl Ey Ex rfl) q_h ⟨⟨a1,k1,a2,k2,a3,k3,a4,k4⟩,rfl,rfl⟩
open Nt
theorem zpI(s:List UInt8)(h:1<=s.length)(j:zcE true s=true):zbD s=decide (s.length<=32):=by
 unfold zbD;rw[j,decide_eq_true h];simp
theorem zw8(l:List UInt8)(w:World)(G:l.length<1000000000):q_G 163 [zT l] w (.bool (l.all zfT)):=by
 refine zt Tryz.func163 Tryz.ntmps163 ?_;unfold zT;repeat' first|refine s_t ?_|refine zA [0,1] ?_;refine zb ?_
 refine zL (γ:=Nat) (λi=>[(0,.string (str l)),(3,.int .i64 (i:Int))]) (λ_=>[]) (λi=>i<=l.length/\(l.take i).all zfT=true) (λi=>l.length-i) 0 ⟨AA _,rfl⟩ ?_ ?_ ?_
 ·exact q_h
 ·exact q_h
 rintro i ⟨F,q⟩;by_cases hlt:i<l.length
 ·have g1:decide ((i:Int)<(l.length:Int))=true:=q_d;have g5:IntKind.i64.wrap ((i:Int)+1)=((i+1:Nat):Int):=q_w;have hv:(str l).data[i]?=some l[i]:=by show l.toArray[i]?=_;rw[BJ,A2 hlt]
  have A:l.take (i+1)=l.take i++[l[i]]:=zaE hlt;have r:l[i]∈l:=AX hlt;generalize l[i]=x at*;have E:x.toNat<33\/(33<=x.toNat/\126<x.toNat)\/(33<=x.toNat/\x.toNat<=126):=q_o;have m:¬(33<=x.toNat/\x.toNat<=126)->l.all zfT=false:=λh=>by
   rw[BW];exact⟨x,r,by simp only[zfT,A8,decide_eq_true_eq];exact h⟩
  rcases E with h|⟨h,B⟩|⟨h,B⟩
  ·rw[m q_o];repeat' first|refine s_t ?_|refine q_k 2 ?_;refine q_v (zn (hr:=g1)) ?_|refine q_k 4 ?_;refine q_v (zR (j:=i) (hv:=hv)) ?_;refine zaf ?_;refine zb ?_|refine q_k 5 ?_
   exact q_r
  ·rw[m q_o];repeat' first|refine s_t ?_|refine q_k 2 ?_;refine q_v (zn (hr:=g1)) ?_|refine q_k 4 ?_;refine q_v (zR (j:=i) (hv:=hv)) ?_;refine zaf ?_;refine zb ?_;refine q_v (zR (j:=i) (hv:=hv)) ?_;refine q_x zH ?_|refine q_k 5 ?_
   exact q_r
  ·repeat' first|refine s_t ?_|refine q_k 2 ?_;refine q_v (zn (hr:=g1)) ?_|refine q_k 4 ?_;refine q_v (zR (j:=i) (hv:=hv)) ?_;refine zaf ?_;refine zb ?_;refine q_v (zR (j:=i) (hv:=hv)) ?_;refine q_x zH ?_|refine q_k 3 ?_;refine q_x (zD (hr:=g5)) ?_
   refine zC (i+1) ⟨hlt,?_⟩ ?_ ?_ ?_
   ·rw[A,BQ,q];simp only[BV,Dt,zfT,decide_eq_true h,decide_eq_true B,B2]
   ·show l.length-(i+1)<l.length-i;omega
   ·exact q_h
   ·exact q_h
 obtain rfl:i=l.length:=q_o;rw[A6 (A7 _)] at q;have g1:decide ((l.length:Int)<(l.length:Int))=false:=q_f;rw[q];repeat' first|refine s_0 ?_|refine q_k 2 ?_;refine q_v (zn (hr:=g1)) ?_|refine q_k 6 ?_
 exact q_r
def ziL(l:List UInt8)(i:Nat):Bool:=decide (i=0) || decide (l[i-1]?=some 46)
theorem zsE(l:List UInt8)(w:World)(T:l.length<1000000000):q_G 164 [zT l] w (.bool (zbD l)):=by
 refine zt Tryz.func164 Tryz.ntmps164 ?_;unfold zT;repeat' first|refine s_t ?_|refine zA [0,1] ?_;refine zb ?_
 refine zL (γ:=Nat) (λi=>[(0,.string (str l)),(3,.int .i64 (i:Int))]) (λ_=>[]) (λi=>i<=l.length/\zcE true l=zcE (ziL l i) (l.drop i)/\(i=l.length->0<l.length->ziL l i=false)) (λi=>l.length-i) 0 ⟨AA _,rfl,λQ R=>by omega⟩ ?_ ?_ ?_
 ·exact q_h
 ·exact q_h
 rintro i ⟨S,A,F⟩;by_cases hlt:i<l.length
 ·have g1:decide ((i:Int)<(l.length:Int))=true:=q_d;have g5:IntKind.i64.wrap ((i:Int)+1)=((i+1:Nat):Int):=q_w;have g6:IntKind.i64.wrap ((l.length:Int)-1)=(l.length:Int)-1:=IntWalk.i64_in _ q_o;have hv:(str l).data[i]?=some l[i]:=by show l.toArray[i]?=_;rw[BJ,A2 hlt]
  have O:l.drop i=l[i]::l.drop (i+1):=BS hlt;have q:∀c,l[i]=c->ziL l (i+1)=decide (c=46):=λc K=>by
   unfold ziL;rw[show i+1-1=i by omega,A2 hlt,K];simp
  have m:zcE (ziL l i) (l.drop i)=false->zbD l=false:=λh=>by
   unfold zbD;rw[A,h,Cy]
  rw[O,zcE] at A m;generalize U:l[i]=x at*;have q:=q x rfl;by_cases h46:x=46
  ·subst h46;rw[if_pos rfl] at A m;rw[decide_eq_true rfl] at q;by_cases h0:i=0
   ·subst h0;rw[m (by simp[ziL])];repeat' first|refine s_t ?_|refine q_k 2 ?_;refine q_v (zn (hr:=g1)) ?_|refine q_k 4 ?_;refine q_x (zR (j:=0) (hv:=hv)) ?_|refine q_k 5 ?_;refine zaH ?_;refine zb ?_;refine zaH ?_;refine zb ?_|refine q_k 6 ?_
    exact q_r
   by_cases hz:i+1=l.length
   ·rw[m (by rw[Ba q_o];simp[zcE])];have I:decide ((i:Int)=0)=false:=q_f;have k1:decide ((i:Int)=(l.length:Int)-1)=true:=q_d;repeat' first|refine s_t ?_|refine q_k 2 ?_;refine q_v (zn (hr:=g1)) ?_|refine q_k 4 ?_;refine q_x (zR (j:=i) (hv:=hv)) ?_|refine q_k 5 ?_;refine zaH ?_;refine zb ?_;refine q_x (zS (hr:=I)) ?_;refine q_v (zK (hr:=g6)) ?_;refine q_x (zS (hr:=k1)) ?_|refine q_k 6 ?_
    exact q_r
   have I:decide ((i:Int)=0)=false:=q_f;have k1:decide ((i:Int)=(l.length:Int)-1)=false:=q_f;have g7:IntKind.i64.wrap ((i:Int)-1)=((i-1:Nat):Int):=q_w;have H:(str l).data[i-1]?=some l[i-1]:=by show l.toArray[i-1]?=_;rw[BJ,A2 q_o]
   have G:ziL l i=decide (l[i-1]=46):=by
    unfold ziL;rw[decide_eq_false h0,A2 (show i-1<l.length by omega)];simp
   generalize l[i-1]'q_o=y at*;by_cases hy:y=46
   ·subst hy;rw[m (by rw[G];simp)];repeat' first|refine s_t ?_|refine q_k 2 ?_;refine q_v (zn (hr:=g1)) ?_|refine q_k 4 ?_;refine q_x (zR (j:=i) (hv:=hv)) ?_|refine q_k 5 ?_;refine zaH ?_;refine zb ?_;refine q_x (zS (hr:=I)) ?_;refine q_v (zK (hr:=g6)) ?_;refine q_x (zS (hr:=k1)) ?_;refine q_v (zK (hr:=g7)) ?_;refine q_v (zR (j:=i-1) (hv:=H)) ?_;refine zaH ?_;refine zb ?_|refine q_k 6 ?_
    exact q_r
   ·have k2:decide ((y.toNat:Int)=46)=false:=decide_eq_false (λh=>hy (by
     apply Bf.1;show y.toNat=46;omega))
    repeat' first|refine s_t ?_|refine q_k 2 ?_;refine q_v (zn (hr:=g1)) ?_|refine q_k 4 ?_;refine q_x (zR (j:=i) (hv:=hv)) ?_|refine q_k 5 ?_;refine zaH ?_;refine zb ?_;refine q_x (zS (hr:=I)) ?_;refine q_v (zK (hr:=g6)) ?_;refine q_x (zS (hr:=k1)) ?_;refine q_v (zK (hr:=g7)) ?_;refine q_v (zR (j:=i-1) (hv:=H)) ?_;refine q_x (zS (hr:=k2)) ?_|refine q_k 7 ?_;refine zaJ ?_;refine zb ?_|refine q_k 3 ?_;refine q_x (zD (hr:=g5)) ?_
    refine zC (i+1) ⟨hlt,?_,λQ R=>by omega⟩ ?_ ?_ ?_
    ·rw[A,G,q,decide_eq_false hy];simp
    ·show l.length-(i+1)<l.length-i;omega
    ·exact q_h
    ·exact q_h
  rw[if_neg h46] at A m;rw[decide_eq_false h46] at q;have P:x.toNat≠46:=λh=>h46 (by apply Bf.1;exact h);have K:x.toNat=45\/(65<=x.toNat/\x.toNat<=90)\/(48<=x.toNat/\x.toNat<=57)\/(x.toNat≠45/\x.toNat<48)\/(57<x.toNat/\x.toNat<65)\/90<x.toNat:=q_o;have r:zcL x=decide (x.toNat=45\/(65<=x.toNat/\x.toNat<=90)\/(48<=x.toNat/\x.toNat<=57)):=by
   rw[CN];simp only[zcL,Be,A8,decide_eq_true_eq];omega
  have E:zcL x=true->zcE true l=zcE (ziL l (i+1)) (l.drop (i+1)):=λh=>by rw[A,h,B2,q]
  have B:zcL x=false->zbD l=false:=λh=>m (by rw[h,BX]);rcases K with h|⟨h,J⟩|⟨h,J⟩|⟨h,J⟩|⟨h,J⟩|h
  ·have e:=E (by rw[r];exact decide_eq_true q_o);repeat' first|refine s_t ?_|refine q_k 2 ?_;refine q_v (zn (hr:=g1)) ?_|refine q_k 4 ?_;refine q_x (zR (j:=i) (hv:=hv)) ?_|refine q_k 5 ?_;refine zaH ?_;refine zb ?_|refine q_k 7 ?_;refine zaJ ?_;refine zb ?_;refine zaJ ?_;refine zb ?_|refine q_k 3 ?_;refine q_x (zD (hr:=g5)) ?_
   refine zC (i+1) ⟨hlt,e,λ_ _=>q⟩ ?_ ?_ ?_
   ·show l.length-(i+1)<l.length-i;omega
   ·exact q_h
   ·exact q_h
  ·have e:=E (by rw[r];exact decide_eq_true q_o);repeat' first|refine s_t ?_|refine q_k 2 ?_;refine q_v (zn (hr:=g1)) ?_|refine q_k 4 ?_;refine q_x (zR (j:=i) (hv:=hv)) ?_|refine q_k 5 ?_;refine zaH ?_;refine zb ?_|refine q_k 7 ?_;refine zaJ ?_;refine zb ?_;refine zaJ ?_;refine zb ?_;refine q_x zO ?_;refine q_x zaA ?_;refine zI ?_;refine zb ?_|refine q_k 3 ?_;refine q_x (zD (hr:=g5)) ?_
   refine zC (i+1) ⟨hlt,e,λ_ _=>q⟩ ?_ ?_ ?_
   ·show l.length-(i+1)<l.length-i;omega
   ·exact q_h
   ·exact q_h
  ·have e:=E (by rw[r];exact decide_eq_true q_o);repeat' first|refine s_t ?_|refine q_k 2 ?_;refine q_v (zn (hr:=g1)) ?_|refine q_k 4 ?_;refine q_x (zR (j:=i) (hv:=hv)) ?_|refine q_k 5 ?_;refine zaH ?_;refine zb ?_|refine q_k 7 ?_;refine zaJ ?_;refine zb ?_;refine zaJ ?_;refine zb ?_;refine q_x zO ?_;refine zI ?_;refine zb ?_;refine q_x zO ?_;refine q_x zaA ?_;refine zI ?_;refine zb ?_|refine q_k 3 ?_;refine q_x (zD (hr:=g5)) ?_
   refine zC (i+1) ⟨hlt,e,λ_ _=>q⟩ ?_ ?_ ?_
   ·show l.length-(i+1)<l.length-i;omega
   ·exact q_h
   ·exact q_h
  ·rw[B (by rw[r];exact decide_eq_false q_o)];repeat' first|refine s_t ?_|refine q_k 2 ?_;refine q_v (zn (hr:=g1)) ?_|refine q_k 4 ?_;refine q_x (zR (j:=i) (hv:=hv)) ?_|refine q_k 5 ?_;refine zaH ?_;refine zb ?_|refine q_k 7 ?_;refine zaJ ?_;refine zb ?_;refine zaJ ?_;refine zb ?_;refine q_x zO ?_;refine zI ?_;refine zb ?_;refine q_x zO ?_;refine zI ?_;refine zb ?_|refine q_k 8 ?_
   exact q_r
  ·rw[B (by rw[r];exact decide_eq_false q_o)];repeat' first|refine s_t ?_|refine q_k 2 ?_;refine q_v (zn (hr:=g1)) ?_|refine q_k 4 ?_;refine q_x (zR (j:=i) (hv:=hv)) ?_|refine q_k 5 ?_;refine zaH ?_;refine zb ?_|refine q_k 7 ?_;refine zaJ ?_;refine zb ?_;refine zaJ ?_;refine zb ?_;refine q_x zO ?_;refine zI ?_;refine zb ?_;refine q_x zO ?_;refine q_x zaA ?_;refine zI ?_;refine zb ?_|refine q_k 8 ?_
   exact q_r
  ·rw[B (by rw[r];exact decide_eq_false q_o)];repeat' first|refine s_t ?_|refine q_k 2 ?_;refine q_v (zn (hr:=g1)) ?_|refine q_k 4 ?_;refine q_x (zR (j:=i) (hv:=hv)) ?_|refine q_k 5 ?_;refine zaH ?_;refine zb ?_|refine q_k 7 ?_;refine zaJ ?_;refine zb ?_;refine zaJ ?_;refine zb ?_;refine q_x zO ?_;refine q_x zaA ?_;refine zI ?_;refine zb ?_;refine q_x zO ?_;refine q_x zaA ?_;refine zI ?_;refine zb ?_|refine q_k 8 ?_
   exact q_r
 obtain rfl:i=l.length:=q_o;have g1:decide ((l.length:Int)<(l.length:Int))=false:=q_f;rcases AE l.length with h0|h0
 ·have e:zbD l=false:=by unfold zbD;rw[h0];rfl
  rw[e];have k1:decide ((l.length:Int)>=1)=false:=q_f;repeat' first|refine s_0 ?_|refine q_k 2 ?_;refine q_v (zn (hr:=g1)) ?_|refine q_k 9 ?_;refine q_x (zO (hr:=k1)) ?_
  exact q_r
 have e:zbD l=decide (l.length<=32):=zpI l h0 (by rw[A,F rfl h0,List.drop_length];rfl);rw[e];have k1:decide ((l.length:Int)>=1)=true:=q_d;have k2:decide ((l.length:Int)<=32)=decide (l.length<=32):=decide_eq_decide.2 q_o;repeat' first|refine s_0 ?_|refine q_k 2 ?_;refine q_v (zn (hr:=g1)) ?_|refine q_k 9 ?_;refine q_x (zO (hr:=k1)) ?_;refine q_x (zaA (hr:=k2)) ?_
 exact q_r
theorem zsD(a:Option Addr)(k:Nat)(p:Prin)(w:World)(h:PrinIn w (zbe a k p) p)(hb:p.parts.length<1000000)(hr:p.realm.length<1000000000)(hx:∀x∈p.parts,x.length<1000000000):q_G 71 [.agg (zbe a k p).toArray] w (.bool p.ok):=by
 obtain⟨⟨R,U,P,W,V,s1,Y⟩,-⟩:=h;cases P;refine zt Tryz.func71 Tryz.ntmps71 ?_;have J:=λO=>zsE p.realm O hr;unfold Prin.ok zbe zT at*;obtain⟨m,K⟩:=p;dsimp only at*;repeat' first|refine s_t ?_|refine zf 0 ?_;refine z9 λ_=>?_|refine q_k 1 ?_
 rename_i b;refine zL (γ:=Nat) (λi=>[(1,.pointer (some ⟨b,0,none⟩)),(3,.int .i64 (i:Int))]) (λ_=>[.blk b 43 [.slice a m.length k,.string (str K)]]) (λi=>i<=m.length/\(m.take i).all zb6=true) (λi=>m.length-i) 0 ⟨AA _,rfl⟩ ?_ ?_ ?_
 ·exact q_h
 ·exact q_h
 rintro i ⟨T,G⟩;by_cases hlt:i<m.length
 ·obtain⟨S,X,rfl,E⟩:=zca s1 (i:=i) (by rw[A0];omega);have q:=E i _ (zcX zT q_o);unfold zT at q;have g2:decide ((i:Int)<(m.length:Int))=true:=q_d;have g5:IntKind.i64.wrap ((i:Int)+1)=((i+1:Nat):Int):=q_w;have t1:m.take (i+1)=m.take i++[m[i]]:=zaE q_o;have H:m[i]∈m:=AX hlt;have B:=λO=>zw8 m[i] O (hx _ H);unfold zT at B;have A:zb6 m[i]=false->(decide (1<=m.length)&&decide (m.length<=4)&&zbD K&&m.all zb6)=false:=λh=>by
   have:m.all zb6=false:=by rw[BW];exact⟨_,H,by rw[h];decide⟩
   rw[this,Cy]
  have I:zb6 m[i]=true->(m.take (i+1)).all zb6=true:=λh=>by rw[t1,BQ,G];simp[h]
  generalize m[i]=y at*;have hc:y.length<1\/(1<=y.length/\32<y.length)\/(1<=y.length/\y.length<=32/\y.all zfT=false)\/(1<=y.length/\y.length<=32/\y.all zfT=true):=by
   rcases AG y.length 1 with h|h
   ·exact .inl h
   rcases AG 32 y.length with F|F
   ·exact .inr (.inl ⟨h,F⟩)
   cases hb:y.all zfT
   ·exact .inr (.inr (.inl ⟨h,F,rfl⟩))
   ·exact .inr (.inr (.inr ⟨h,F,rfl⟩))
  rcases hc with h|⟨h,F⟩|⟨h,F,r⟩|⟨h,F,r⟩
  ·rw[A (by unfold zb6;rw[decide_eq_false q_o];rfl)];have k1:decide ((y.length:Int)<1)=true:=q_d;repeat' first|refine s_t ?_|refine q_k 2 ?_;refine zm ?_;refine zb ?_;refine q_v (zn (hr:=g2)) ?_|refine q_k 4 ?_;refine zm ?_;refine zb ?_;refine q_v (zq (j:=i)) ?_;refine q_x (zo (hv:=q)) ?_;refine q_x (zn (hr:=k1)) ?_|refine q_k 5 ?_
   exact q_r
  ·rw[A (by unfold zb6;rw[decide_eq_true h,decide_eq_false q_o];rfl)];have k1:decide ((y.length:Int)<1)=false:=q_f;have k2:decide ((y.length:Int)>32)=true:=q_d;repeat' first|refine s_t ?_|refine q_k 2 ?_;refine zm ?_;refine zb ?_;refine q_v (zn (hr:=g2)) ?_|refine q_k 4 ?_;refine zm ?_;refine zb ?_;refine q_v (zq (j:=i)) ?_;refine q_x (zo (hv:=q)) ?_;refine q_x (zn (hr:=k1)) ?_;refine zm ?_;refine zb ?_;refine q_v (zq (j:=i)) ?_;refine q_x (zo (hv:=q)) ?_;refine q_x (zH (hr:=k2)) ?_|refine q_k 5 ?_
   exact q_r
  ·rw[A (by unfold zb6;rw[r,Cy])];rw[r] at B;have k1:decide ((y.length:Int)<1)=false:=q_f;have k2:decide ((y.length:Int)>32)=false:=q_f;repeat' first|refine s_t ?_|refine q_k 2 ?_;refine zm ?_;refine zb ?_;refine q_v (zn (hr:=g2)) ?_|refine q_k 4 ?_;refine zm ?_;refine zb ?_;refine q_v (zq (j:=i)) ?_;refine q_x (zo (hv:=q)) ?_;refine q_x (zn (hr:=k1)) ?_;refine zm ?_;refine zb ?_;refine q_v (zq (j:=i)) ?_;refine q_x (zo (hv:=q)) ?_;refine q_x (zH (hr:=k2)) ?_;refine zm ?_;refine zb ?_;refine q_v (zq (j:=i)) ?_;refine q_v (zo (hv:=q)) ?_;refine q_v (za (hc:=q_c B)) ?_;refine zI ?_;refine zb ?_|refine q_k 5 ?_
   exact q_r
  ·have Q:=I (by unfold zb6;rw[decide_eq_true h,decide_eq_true F,r];rfl);rw[r] at B;have k1:decide ((y.length:Int)<1)=false:=q_f;have k2:decide ((y.length:Int)>32)=false:=q_f;repeat' first|refine s_t ?_|refine q_k 2 ?_;refine zm ?_;refine zb ?_;refine q_v (zn (hr:=g2)) ?_|refine q_k 4 ?_;refine zm ?_;refine zb ?_;refine q_v (zq (j:=i)) ?_;refine q_x (zo (hv:=q)) ?_;refine q_x (zn (hr:=k1)) ?_;refine zm ?_;refine zb ?_;refine q_v (zq (j:=i)) ?_;refine q_x (zo (hv:=q)) ?_;refine q_x (zH (hr:=k2)) ?_;refine zm ?_;refine zb ?_;refine q_v (zq (j:=i)) ?_;refine q_v (zo (hv:=q)) ?_;refine q_v (za (hc:=q_c B)) ?_;refine zI ?_;refine zb ?_|refine q_k 3 ?_;refine q_x (zD (hr:=g5)) ?_
   refine zC (i+1) ⟨hlt,Q⟩ ?_ ?_ ?_
   ·show m.length-(i+1)<m.length-i;omega
   ·exact q_h
   ·exact q_h
 obtain rfl:i=m.length:=q_o;rw[C3] at G;rw[G,DF];have g2:decide ((m.length:Int)<(m.length:Int))=false:=q_f;have g6:decide ((m.length:Int)>=1)=decide (1<=m.length):=decide_eq_decide.2 q_o;have g7:decide ((m.length:Int)<=4)=decide (m.length<=4):=decide_eq_decide.2 q_o;generalize zbD K=z,decide (m.length<=4)=y,decide (1<=m.length)=x at*;have hc:x=false\/(x=true/\y=false)\/(x=true/\y=true):=by cases x <;> cases y <;> simp
 rcases hc with rfl|⟨rfl,rfl⟩|⟨rfl,rfl⟩;all_goals repeat' first|refine s_0 ?_|refine q_k 2 ?_;refine zm ?_;refine zb ?_;refine q_v (zn (hr:=g2)) ?_|refine q_k 6 ?_;refine zm ?_;refine zb ?_;refine q_x (zO (hr:=g6)) ?_;(first|refine zm ?_|skip|fail);(try refine zb ?_);(first|refine q_v (zaA (hr:=g7)) ?_|skip|fail);(try refine zb ?_);(first|refine zm ?_|skip|fail);(first|refine q_v (za (hc:=q_c J)) ?_|refine zaG rfl rfl rfl ?_|skip);(try refine zb ?_)
 all_goals exact q_r
theorem zsi(v a b:Int)(w:World):q_G 41 [.int .i64 v,.int .i64 a,.int .i64 b] w (.bool (decide (a<=v)&&decide (v<=b))):=by
 refine zt Tryz.func41 Tryz.ntmps41 ?_;obtain⟨x,g1⟩:∃x,decide (v>=a)=x:=⟨_,rfl⟩;rw[show decide (a<=v)=x from g1];generalize j:decide (v<=b)=y at*;cases x;all_goals repeat' first|refine s_0 ?_|refine q_k 0 ?_|refine q_k 1 ?_;refine q_x (zO (hr:=g1)) ?_;(first|refine q_v (zaA (hr:=j)) ?_|skip|fail);(try refine zb ?_)
 all_goals exact q_r
end Go.Proofs.YtdnlngbjpdbffaaGreatDoor
namespace Go.Ct
theorem Cert.ok_spec(sv:Int->List UInt8->Bool)(c:Cert):c.ok sv=((decide (0<=c.serial)&&decide (c.serial<=4611686018427387904))&&c.issuer.ok&&c.subject.ok&&decide (0<=c.fr)&&decide (c.fr<=c.til)&&decide (c.til<=1099511627776)&&sv c.group c.pub&&decide (c.sig.length<=192)):=by
 unfold Cert.ok;generalize decide (0<=c.serial)=j;generalize decide (c.sig.length<=192)=m;generalize sv c.group c.pub=q;cases j <;> cases m <;> cases q <;> simp
end Go.Ct
namespace Go.Proofs.YtdnlngbjpdbffaaGreatDoor
open Sy Ct Nt RowKit
attribute [local irreducible] Sy SyL SyX SyC SyF Sy.Fn callFunc
theorem zzu{j m q r w A B:Bool} :j=false\/(j=true/\m=false)\/(j=true/\m=true/\q=false)\/(j=true/\m=true/\q=true/\r=false)\/(j=true/\m=true/\q=true/\r=true/\w=false)\/(j=true/\m=true/\q=true/\r=true/\w=true/\A=false)\/(j=true/\m=true/\q=true/\r=true/\w=true/\A=true/\B=false)\/(j=true/\m=true/\q=true/\r=true/\w=true/\A=true/\B=true):=by
 cases j <;> cases m <;> cases q <;> cases r <;> cases w <;> cases A <;> cases B <;> simp
theorem zry(p:Pl)(c:Cert)(w:World)(K:GT w)(h:CertAt w p c)(m:c.fine):q_G 33 [.agg (zF p c).toArray] w (.bool (c.ok svK)):=by
 refine zt Tryz.func33 Tryz.ntmps33 ?_;have O:=λj=>zsi c.serial 0 4611686018427387904 j;have P:=λj (q:Keep No w j)=>zsD _ _ _ j (h.iss.keep q) m.i.1 m.i.2.1 m.i.2.2;have Q:=λj (q:Keep No w j)=>zsD _ _ _ j (h.sub.keep q) m.s.1 m.s.2.1 m.s.2.2;have I:=λj (q:Keep No w j)=>ztl c.group p.a3 c.pub.length p.k3 c.pub j rfl (h.pub.keep q).sla;rw[show decide ((gel c.group c.pub).2=0)=svK c.group c.pub from rfl] at I;rw[Cert.ok_spec];have g8:decide ((c.sig.length:Int)<=192)=decide (c.sig.length<=192):=decide_eq_decide.2 q_o;obtain⟨J,g4⟩:∃x,decide (c.fr>=0)=x:=⟨_,rfl⟩;rw[show decide (0<=c.fr)=J from g4];unfold zF zbe at*;clear h m K;obtain⟨serial,⟨r,A⟩,⟨E,F⟩,fr,til,auth,group,pub,sig⟩:=c;dsimp only at*;generalize decide (sig.length<=192)=X,svK group pub=W,H:decide (til<=1099511627776)=V,G:decide (fr<=til)=U,Prin.ok ⟨E,F⟩=T,Prin.ok ⟨r,A⟩=S,(decide (0<=serial)&&decide (serial<=4611686018427387904))=R at*;rcases @zzu R S T J U V W with rfl|⟨rfl,rfl⟩|⟨rfl,rfl,rfl⟩|⟨rfl,rfl,rfl,rfl⟩|⟨rfl,rfl,rfl,rfl,rfl⟩|⟨rfl,rfl,rfl,rfl,rfl,rfl⟩|⟨rfl,rfl,rfl,rfl,rfl,rfl,rfl⟩|⟨rfl,rfl,rfl,rfl,rfl,rfl,rfl⟩
 all_goals repeat' first|refine s_0 ?_|refine zf 0 ?_;refine z9 λ_=>?_|refine q_k 1 ?_;refine zm ?_;refine q_v (za (hc:=q_c O)) ?_;refine zb ?_;(first|refine q_v (ze (B:=[.slice p.a1 r.length p.k1,zT A]) (hv:=FK rfl)) ?_|skip|fail);(first|refine q_v (za (hc:=zr P)) ?_|refine zaG rfl rfl rfl ?_|skip);(try refine zb ?_);(first|refine q_v (ze (B:=[.slice p.a2 E.length p.k2,zT F]) (hv:=FK rfl)) ?_|skip|fail);(first|refine q_v (za (hc:=zr Q)) ?_|refine zaG rfl rfl rfl ?_|skip);(try refine zb ?_);(first|refine zm ?_|skip|fail);(first|refine q_v (zO (hr:=g4)) ?_|refine zaG rfl rfl rfl ?_|skip);(try refine zb ?_);(first|refine zm ?_|skip|fail);(try refine zb ?_);(first|refine zm ?_|skip|fail);(first|refine q_v (zaA (hr:=G)) ?_|refine zaG rfl rfl rfl ?_|skip);(try refine zb ?_);(first|refine zm ?_|skip|fail);(first|refine q_v (zaA (hr:=H)) ?_|refine zaG rfl rfl rfl ?_|skip);(try refine zb ?_);(first|refine zm ?_|skip|fail);(try refine zb ?_);(first|refine zm ?_|skip|fail);(first|refine q_v (za (hc:=zr I)) ?_|refine zaG rfl rfl rfl ?_|skip);(try refine zb ?_);(first|refine zm ?_|skip|fail);(try refine zb ?_);(first|refine q_v (zaA (hr:=g8)) ?_|skip|fail);(try refine zb ?_)
 all_goals exact q_r
end Go.Proofs.YtdnlngbjpdbffaaGreatDoor
