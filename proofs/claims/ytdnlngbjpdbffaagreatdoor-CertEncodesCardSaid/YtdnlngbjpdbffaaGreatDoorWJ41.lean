/- Lemmas of this proof. -/
import Derived.Test.YtdnlngbjpdbffaaGreatDoorWJ40
set_option maxHeartbeats 4000000
set_option maxRecDepth 10000
set_option linter.all false
namespace Go.Proofs.YtdnlngbjpdbffaaGreatDoor
open Go Go.Sy Go.Ct Go.RowKit
attribute [local irreducible] Sy SyL SyX SyC SyF SyG SyH Sy.Fn Sy.FnP callFunc
variable {ro:Option Nat}{N:Nat}{w0:World}{M:Nat->Prop}{ds:List Deferred}{g:Nat->Option Value}{L:List Res}{o:Oper}
theorem zkF{z0 F G z3 z4 z5 H I J:Operand}{n f u k:Int}{q:Bool}{w B A E:Value}{a a2:Option Addr}{m c r j:Nat}(T:o.op= .build 45 #[(0,z0),(1,F),(2,G),(3,z3),(4,z4),(5,z5),(6,H),(7,I),(8,J)]:=by exact rfl)(h0:ev g z0=some (.int .i64 n):=by exact rfl)(h1:ev g F=some (.agg #[w,B]):=by exact rfl)(h2:ev g G=some (.agg #[A,E]):=by exact rfl)(K:ev g z3=some (.int .i64 f):=by exact rfl)(O:ev g z4=some (.int .i64 u):=by exact rfl)(P:ev g z5=some (.bool q):=by exact rfl)(Q:ev g H=some (.int .i64 k):=by exact rfl)(R:ev g I=some (.slice a m c):=by exact rfl)(S:ev g J=some (.slice a2 r j):=by exact rfl):
  OpT Tryz.prog ro N w0 M ds o g L (Det (.agg ([.int .i64 n,w,B,A,E,.int .i64 f,.int .i64 u,.bool q,.int .i64 k,.slice a m c,.slice a2 r j]:List Value).toArray) L):=
 zgb (parts:=#[(0,z0),(1,F),(2,G),(3,z3),(4,z4),(5,z5),(6,H),(7,I),(8,J)]) (vs:=[.int .i64 n,.agg #[w,B],.agg #[A,E],.int .i64 f,.int .i64 u,.bool q,.int .i64 k,.slice a m c,.slice a2 r j]) (C:=[.int .i64 n,w,B,A,E,.int .i64 f,.int .i64 u,.bool q,.int .i64 k,.slice a m c,.slice a2 r j]) (by exact(.cons (cs:=[.int .i64 n]) (off:=0) (n:=1) rfl rfl rfl (A5 rfl) (.cons (cs:=[w,B]) (off:=1) (n:=2) rfl rfl rfl (A5 rfl) (.cons (cs:=[A,E]) (off:=3) (n:=2) rfl rfl rfl (A5 rfl) (.cons (cs:=[.int .i64 f]) (off:=5) (n:=1) rfl rfl rfl (A5 rfl) (.cons (cs:=[.int .i64 u]) (off:=6) (n:=1) rfl rfl rfl (A5 rfl) (.cons (cs:=[.bool q]) (off:=7) (n:=1) rfl rfl rfl (A5 rfl) (.cons (cs:=[.int .i64 k]) (off:=8) (n:=1) rfl rfl rfl (A5 rfl) (.cons (cs:=[.slice a m c]) (off:=9) (n:=1) rfl rfl rfl (A5 rfl) (.cons (cs:=[.slice a2 r j]) (off:=10) (n:=1) rfl rfl rfl (A5 rfl) .nil)))))))))) T (by simp[evs,h0,h1,h2,K,O,P,Q,R,S]) (ty rfl) rfl rfl (zc rfl)
theorem zwl:∀l:List UInt8,l= []->(match l with| []=>false|c::_=>c != 0)=false:=by rintro _ rfl;rfl
theorem zyb(x:UInt8):(x != 0)=decide ((x.toNat:Int)≠0):=by
 by_cases h:x=0
 ·rw[h];rfl
 ·have:x.toNat≠0:=λe=>h (Bc.1 e);rw[decide_eq_true (by omega:((x.toNat:Int)≠0))];simp[h]
theorem zxT(s:Bs)(w:World)(hs:s.ok w)(hb:s.n<1000000):Sy.Fn Tryz.prog 47 [s.val] w No (zhj (zfL s.l)):=by
 refine zt Tryz.func47 Tryz.ntmps47 ?_;have hv:s.val= .slice s.a s.n s.c:=rfl;have c7:=λm (C:Keep No w m)=>zgJ s 0 m (hs.keep C) hb q_e;have c4:=λm (C:Keep No w m)=>zgJ s 1 m (hs.keep C) hb q_e;rw[hv] at c7 c4 ⊢;unfold zd0 at c7 c4;unfold zhj zaa;repeat' (first|refine s_0 ?_|refine zf 0 ?_;refine zj ?_;intro _)
 rename_i b2;repeat' (first|refine s_0 ?_|refine q_k 1 ?_;(refine q_s (zi (hc:=zu c7)) ?_;rintro _ _ ⟨R,rfl,s1,rfl,e2,c9,i9,rfl⟩);refine zb ?_)
 have E:=c9 w hs;have A:=λj (hj:j<=30) m (C:Keep No w m)=>zgJ s1 j m (E.keep C) q_o hj;have h8:s1.val= .slice s1.a s1.n s1.c:=rfl;rw[h8] at A ⊢;unfold zd0 at A;repeat' (first|refine q_k 2 ?_;(refine q_s (zi (hc:=λm X C hh=>A 5 q_e m C)) ?_;rintro _ _ ⟨R,rfl,s5,rfl,h5,d8,j0,rfl⟩))
 have f9:=d8 w E;have c5:=λm (C:Keep No w m)=>zdH s5 m (f9.keep C) q_o;unfold zd0 at c5;have h9:s5.val= .slice s5.a s5.n s5.c:=rfl;rw[h9] at c5 ⊢;repeat' (first|refine s_0 ?_|(refine zy ?_;first|refine q_s (zi (hc:=zu c5)) ?_;rintro _ _ ⟨R,rfl,sA,rfl,h6,d9,j1,rfl⟩|refine zw ?_|fail)|fail)
 have h2:=d9 w f9;have a6:=h2.len;have i5:sA.val= .slice sA.a sA.n sA.c:=rfl;rw[i5];have h3:zaL (item (item s.l 0) 5)=sA.l:=by rw[h6,h5,e2]
 obtain⟨qb,c8⟩:∃q:Bool,q=(match sA.l with| []=>false|c::_=>c != 0):=⟨_,rfl⟩;have e1:zfL s.l=⟨zfn (item s1.l 0),zdu (item s1.l 1),zdu (item s1.l 2),zcj (item s1.l 3),zcj (item s1.l 4),qb,zcj (item s1.l 6),zaL (item s1.l 7),zaL (item s.l 1)⟩:=by
  rw[c8,<-h3,e2];rfl
 rw[e1];dsimp only;rcases AD sA.n with hz|hz
 ·have g:decide ((sA.n:Int)>0)=false:=q_f;have h7:qb=false:=by
   have i8:sA.l= []:=As.1 q_o;rw[c8];exact zwl _ i8
  rw[h7]
  (refine zdy (id:=3) [0] true [] [0,3,6,9,12,15,16,17,24,27,30] [(1,[]),(2,[]),(4,[]),(5,[]),(7,[]),(8,[]),(10,[]),(11,[]),(13,[]),(14,[]),(18,[19,20,21,22,23]),(25,[]),(26,[]),(28,[]),(29,[]),(31,[]),(32,[33]),(34,[])] mixed q_h ?_ ?_;kernel_rfl;refine ygv zZ (k:=?_);refine ygv zZ (k:=?_);refine ygv zZ (k:=?_);refine ygv zZ (k:=?_);refine ygv zZ (k:=?_);refine ygv zZ (k:=?_);refine ygv ze9 (k:=?_);refine ygv (zH (hr:=g)) (k:=?_);refine ygv zZ (k:=?_);refine ygv zZ (k:=?_);refine ygv zZ (k:=?_);refine yg0 ?_;try refine yg0 ?_;try refine yg0 ?_;try refine yg0 ?_;try refine yg0 ?_;try refine yg0 ?_;try refine yg0 ?_;try refine yg0 ?_;try refine yg0 ?_;try refine yg0 ?_;try refine yg0 ?_;try refine yg0 ?_;try refine yg0 ?_;try refine yg0 ?_;try refine yg0 ?_;try refine yg0 ?_;try refine yg0 ?_;try refine yg0 ?_;try refine zin ?_)
  refine yhs (zi (hc:=λm X C hh=>A 0 q_e m C)) (k:=?_);rintro _ _ ⟨R,rfl,t0,rfl,a7,J,e3,rfl⟩;refine yg0 ?_;have b6:=J w E;rw[show t0.val= .slice t0.a t0.n t0.c from rfl];have V:=λm (C:Keep No w m)=>zl7 t0 m (b6.keep C) q_o;rw[show t0.val= .slice t0.a t0.n t0.c from rfl,a7] at V;refine yhv (za (hc:=zu V)) (k:=?_);refine yg0 ?_;refine yhs (zi (hc:=λm X C hh=>A 1 q_e m C)) (k:=?_);rintro _ _ ⟨R,rfl,t1,rfl,a8,K,e4,rfl⟩;refine yg0 ?_;have b7:=K w E;rw[show t1.val= .slice t1.a t1.n t1.c from rfl];have F:=λm (C:Keep No w m)=>zhZ t1 m (b7.keep C) q_o;rw[show t1.val= .slice t1.a t1.n t1.c from rfl,a8] at F;unfold zhM at F;refine yhs (zi (hc:=zu F)) (k:=?_);rintro _ _ ⟨R,rfl,a1,k1,rfl,rfl⟩;refine yg0 ?_;refine yhs (zi (hc:=λm X C hh=>A 2 q_e m C)) (k:=?_);rintro _ _ ⟨R,rfl,t2,rfl,a9,O,e5,rfl⟩;refine yg0 ?_;have b8:=O w E;rw[show t2.val= .slice t2.a t2.n t2.c from rfl];have G:=λm (C:Keep No w m)=>zhZ t2 m (b8.keep C) q_o;rw[show t2.val= .slice t2.a t2.n t2.c from rfl,a9] at G;unfold zhM at G;refine yhs (zi (hc:=zu G)) (k:=?_);rintro _ _ ⟨R,rfl,a2,k2,rfl,rfl⟩;refine yg0 ?_;refine yhs (zi (hc:=λm X C hh=>A 3 q_e m C)) (k:=?_);rintro _ _ ⟨R,rfl,t3,rfl,b0,P,e6,rfl⟩;refine yg0 ?_;have b9:=P w E;rw[show t3.val= .slice t3.a t3.n t3.c from rfl];have W:=λm (C:Keep No w m)=>zft t3 m (b9.keep C) q_o;rw[show t3.val= .slice t3.a t3.n t3.c from rfl,b0] at W;refine yhv (za (hc:=zu W)) (k:=?_);refine yg0 ?_;refine yhs (zi (hc:=λm X C hh=>A 4 q_e m C)) (k:=?_);rintro _ _ ⟨R,rfl,t4,rfl,b1,Q,e7,rfl⟩;refine yg0 ?_;have c0:=Q w E;rw[show t4.val= .slice t4.a t4.n t4.c from rfl];have Y:=λm (C:Keep No w m)=>zft t4 m (c0.keep C) q_o;rw[show t4.val= .slice t4.a t4.n t4.c from rfl,b1] at Y;refine yhv (za (hc:=zu Y)) (k:=?_);refine yg0 ?_;refine yhv zZ (k:=?_);refine ygn (k:=?_);refine ygn (k:=?_);refine ygn (k:=?_);refine ygn (k:=?_);refine ygv zdc (k:=?_);refine yg0 ?_;refine yhs (zi (hc:=λm X C hh=>A 6 q_e m C)) (k:=?_);rintro _ _ ⟨R,rfl,t6,rfl,b3,S,e8,rfl⟩;refine yg0 ?_;have c1:=S w E;rw[show t6.val= .slice t6.a t6.n t6.c from rfl];have Z:=λm (C:Keep No w m)=>zft t6 m (c1.keep C) q_o;rw[show t6.val= .slice t6.a t6.n t6.c from rfl,b3] at Z;refine yhv (za (hc:=zu Z)) (k:=?_);refine yg0 ?_;refine yhs (zi (hc:=λm X C hh=>A 7 q_e m C)) (k:=?_);rintro _ _ ⟨R,rfl,t7,rfl,b4,T,e9,rfl⟩;refine yg0 ?_;have c2:=T w E;rw[show t7.val= .slice t7.a t7.n t7.c from rfl];have H:=λm (C:Keep No w m)=>zii t7 m (c2.keep C) q_o;rw[show t7.val= .slice t7.a t7.n t7.c from rfl,b4] at H;unfold zbi zbG at H;refine yhs (zi (hc:=zu H)) (k:=?_);rintro _ _ ⟨R,rfl,a3,k3,rfl,rfl⟩;refine yg0 ?_;refine yhs (zi (hc:=zu c4)) (k:=?_);rintro _ _ ⟨R,rfl,t8,rfl,b5,U,f8,rfl⟩;refine yg0 ?_;have c3:=U w hs;rw[show t8.val= .slice t8.a t8.n t8.c from rfl];have I:=λm (C:Keep No w m)=>zii t8 m (c3.keep C) q_o;rw[show t8.val= .slice t8.a t8.n t8.c from rfl,b5] at I;unfold zbi zbG at I;refine yhs (zi (hc:=zu I)) (k:=?_);rintro _ _ ⟨R,rfl,a4,k4,rfl,rfl⟩;unfold zT;refine ygv zkF (k:=?_);refine yg0 ?_;refine yhn (zC (h1:=rfl)) (k:=?_);refine zin ?_;repeat' (first|refine s_0 ?_|fail)
  exact zap rfl (zB (B:=zG ⟨a1,k1,a2,k2,a3,k3,a4,k4⟩ ⟨zfn (item s1.l 0),zdu (item s1.l 1),zdu (item s1.l 2),zcj (item s1.l 3),zcj (item s1.l 4),_,zcj (item s1.l 6),zaL (item s1.l 7),zaL (item s.l 1)⟩) rfl (ty rfl) rfl Ev Et rfl) q_h ⟨⟨a1,k1,a2,k2,a3,k3,a4,k4⟩,rfl,rfl⟩
 ·have g:decide ((sA.n:Int)>0)=true:=q_d;obtain⟨y,rr,e0⟩:∃y r,sA.l=y::r:=by
   cases h:sA.l with
   |nil=>rw[h] at a6;simp at a6;omega
   |cons y r=>exact⟨y,r,rfl⟩
  obtain⟨bx,ox,i7,c6⟩:=zb2 h2.sla (i:=0) (by rw[e0];simp);have h4:w.cell? ⟨bx,ox+0,none⟩=some (.int .u8 (y.toNat:Int)):=c6 0 _ (by rw[e0];rfl);have gx:decide ((y.toNat:Int)≠0)=qb:=by rw[c8,e0];exact(zyb y).symm
  rw[i7]
  (refine zdy (id:=3) [0] true [] [0,3,6,9,12,15,16,17,24,27,30] [(1,[]),(2,[]),(4,[]),(5,[]),(7,[]),(8,[]),(10,[]),(11,[]),(13,[]),(14,[]),(18,[19,20,21,22,23]),(25,[]),(26,[]),(28,[]),(29,[]),(31,[]),(32,[33]),(34,[])] mixed q_h ?_ ?_;kernel_rfl;refine ygv zZ (k:=?_);refine ygv zZ (k:=?_);refine ygv zZ (k:=?_);refine ygv zZ (k:=?_);refine ygv zZ (k:=?_);refine ygv zZ (k:=?_);refine ygv ze9 (k:=?_);refine ygv (zH (hr:=g)) (k:=?_);refine ygv zZ (k:=?_);refine ygv zZ (k:=?_);refine ygv zZ (k:=?_);refine yg0 ?_;try refine yg0 ?_;try refine yg0 ?_;try refine yg0 ?_;try refine yg0 ?_;try refine yg0 ?_;try refine yg0 ?_;try refine yg0 ?_;try refine yg0 ?_;try refine yg0 ?_;try refine yg0 ?_;try refine yg0 ?_;try refine yg0 ?_;try refine yg0 ?_;try refine yg0 ?_;try refine yg0 ?_;try refine yg0 ?_;try refine yg0 ?_;try refine zin ?_)
  refine yhs (zi (hc:=λm X C hh=>A 0 q_e m C)) (k:=?_);rintro _ _ ⟨R,rfl,t0,rfl,a7,J,e3,rfl⟩;refine yg0 ?_;have b6:=J w E;rw[show t0.val= .slice t0.a t0.n t0.c from rfl];have V:=λm (C:Keep No w m)=>zl7 t0 m (b6.keep C) q_o;rw[show t0.val= .slice t0.a t0.n t0.c from rfl,a7] at V;refine yhv (za (hc:=zu V)) (k:=?_);refine yg0 ?_;refine yhs (zi (hc:=λm X C hh=>A 1 q_e m C)) (k:=?_);rintro _ _ ⟨R,rfl,t1,rfl,a8,K,e4,rfl⟩;refine yg0 ?_;have b7:=K w E;rw[show t1.val= .slice t1.a t1.n t1.c from rfl];have F:=λm (C:Keep No w m)=>zhZ t1 m (b7.keep C) q_o;rw[show t1.val= .slice t1.a t1.n t1.c from rfl,a8] at F;unfold zhM at F;refine yhs (zi (hc:=zu F)) (k:=?_);rintro _ _ ⟨R,rfl,a1,k1,rfl,rfl⟩;refine yg0 ?_;refine yhs (zi (hc:=λm X C hh=>A 2 q_e m C)) (k:=?_);rintro _ _ ⟨R,rfl,t2,rfl,a9,O,e5,rfl⟩;refine yg0 ?_;have b8:=O w E;rw[show t2.val= .slice t2.a t2.n t2.c from rfl];have G:=λm (C:Keep No w m)=>zhZ t2 m (b8.keep C) q_o;rw[show t2.val= .slice t2.a t2.n t2.c from rfl,a9] at G;unfold zhM at G;refine yhs (zi (hc:=zu G)) (k:=?_);rintro _ _ ⟨R,rfl,a2,k2,rfl,rfl⟩;refine yg0 ?_;refine yhs (zi (hc:=λm X C hh=>A 3 q_e m C)) (k:=?_);rintro _ _ ⟨R,rfl,t3,rfl,b0,P,e6,rfl⟩;refine yg0 ?_;have b9:=P w E;rw[show t3.val= .slice t3.a t3.n t3.c from rfl];have W:=λm (C:Keep No w m)=>zft t3 m (b9.keep C) q_o;rw[show t3.val= .slice t3.a t3.n t3.c from rfl,b0] at W;refine yhv (za (hc:=zu W)) (k:=?_);refine yg0 ?_;refine yhs (zi (hc:=λm X C hh=>A 4 q_e m C)) (k:=?_);rintro _ _ ⟨R,rfl,t4,rfl,b1,Q,e7,rfl⟩;refine yg0 ?_;have c0:=Q w E;rw[show t4.val= .slice t4.a t4.n t4.c from rfl];have Y:=λm (C:Keep No w m)=>zft t4 m (c0.keep C) q_o;rw[show t4.val= .slice t4.a t4.n t4.c from rfl,b1] at Y;refine yhv (za (hc:=zu Y)) (k:=?_);refine yg0 ?_;refine yhv zZ (k:=?_);refine ygv zZ (k:=?_);refine ygv (zq (j:=0)) (k:=?_);refine ygv (zn (hv:=h4)) (k:=?_);refine ygv (zaf (hr:=gx)) (k:=?_);refine ygv zdc (k:=?_);refine yg0 ?_;refine yhs (zi (hc:=λm X C hh=>A 6 q_e m C)) (k:=?_);rintro _ _ ⟨R,rfl,t6,rfl,b3,S,e8,rfl⟩;refine yg0 ?_;have c1:=S w E;rw[show t6.val= .slice t6.a t6.n t6.c from rfl];have Z:=λm (C:Keep No w m)=>zft t6 m (c1.keep C) q_o;rw[show t6.val= .slice t6.a t6.n t6.c from rfl,b3] at Z;refine yhv (za (hc:=zu Z)) (k:=?_);refine yg0 ?_;refine yhs (zi (hc:=λm X C hh=>A 7 q_e m C)) (k:=?_);rintro _ _ ⟨R,rfl,t7,rfl,b4,T,e9,rfl⟩;refine yg0 ?_;have c2:=T w E;rw[show t7.val= .slice t7.a t7.n t7.c from rfl];have H:=λm (C:Keep No w m)=>zii t7 m (c2.keep C) q_o;rw[show t7.val= .slice t7.a t7.n t7.c from rfl,b4] at H;unfold zbi zbG at H;refine yhs (zi (hc:=zu H)) (k:=?_);rintro _ _ ⟨R,rfl,a3,k3,rfl,rfl⟩;refine yg0 ?_;refine yhs (zi (hc:=zu c4)) (k:=?_);rintro _ _ ⟨R,rfl,t8,rfl,b5,U,f8,rfl⟩;refine yg0 ?_;have c3:=U w hs;rw[show t8.val= .slice t8.a t8.n t8.c from rfl];have I:=λm (C:Keep No w m)=>zii t8 m (c3.keep C) q_o;rw[show t8.val= .slice t8.a t8.n t8.c from rfl,b5] at I;unfold zbi zbG at I;refine yhs (zi (hc:=zu I)) (k:=?_);rintro _ _ ⟨R,rfl,a4,k4,rfl,rfl⟩;unfold zT;refine ygv zkF (k:=?_);refine yg0 ?_;refine yhn (zC (h1:=rfl)) (k:=?_);refine zin ?_;repeat' (first|refine s_0 ?_|fail)
  exact zap rfl (zB (B:=zG ⟨a1,k1,a2,k2,a3,k3,a4,k4⟩ ⟨zfn (item s1.l 0),zdu (item s1.l 1),zdu (item s1.l 2),zcj (item s1.l 3),zcj (item s1.l 4),_,zcj (item s1.l 6),zaL (item s1.l 7),zaL (item s.l 1)⟩) rfl (ty rfl) rfl Ev Et rfl) q_h ⟨⟨a1,k1,a2,k2,a3,k3,a4,k4⟩,rfl,rfl⟩
end Go.Proofs.YtdnlngbjpdbffaaGreatDoor
namespace Go.Ct
theorem zpq(s:List UInt8)(h:1<=s.length)(j:zcv true s=true):zbA s=decide (s.length<=32):=by
 unfold zbA;rw[j,decide_eq_true h];simp
end Go.Ct
namespace Go.Proofs.YtdnlngbjpdbffaaGreatDoor
open Go Go.Sy Go.Ct Go.Nt Go.RowKit
attribute [local irreducible] Sy SyL SyX SyC SyF Sy.Fn callFunc
theorem zxE(l:List UInt8)(w:World)(F:l.length<1000000000):q_G 163 [zT l] w (.bool (l.all zfQ)):=by
 refine zt Tryz.func163 Tryz.ntmps163 ?_;unfold zT;repeat' (first|refine s_t ?_|refine zD [0,1] ?_;refine zb ?_)
 refine zN (γ:=Nat) (λi=>[(0,.string (str l)),(3,.int .i64 (i:Int))]) (λ_=>[]) (λi=>i<=l.length/\(l.take i).all zfQ=true) (λi=>l.length-i) 0 ⟨A9 _,rfl⟩ ?_ ?_ ?_
 ·exact q_h
 ·exact q_h
 rintro i ⟨E,q⟩;by_cases hlt:i<l.length
 ·have g1:decide ((i:Int)<(l.length:Int))=true:=q_d;have g5:IntKind.i64.wrap ((i:Int)+1)=((i+1:Nat):Int):=q_w;have hv:(str l).data[i]?=some l[i]:=by show l.toArray[i]?=_;rw[BH,A1 hlt]
  have A:l.take (i+1)=l.take i++[l[i]]:=zaO hlt;have r:l[i]∈l:=Ad hlt;generalize l[i]=x at*;have C:x.toNat<33\/(33<=x.toNat/\126<x.toNat)\/(33<=x.toNat/\x.toNat<=126):=q_o;have m:¬(33<=x.toNat/\x.toNat<=126)->l.all zfQ=false:=λh=>by
   rw[Bk];exact⟨x,r,by simp only[zfQ,AA,decide_eq_true_eq];exact h⟩
  rcases C with h|⟨h,B⟩|⟨h,B⟩
  ·rw[m q_o];repeat' (first|refine s_t ?_|refine q_k 2 ?_;refine q_v (zo (hr:=g1)) ?_|refine q_k 4 ?_;refine q_v (zR (j:=i) (hv:=hv)) ?_;refine zag ?_;refine zb ?_|refine q_k 5 ?_)
   exact q_r
  ·rw[m q_o];repeat' (first|refine s_t ?_|refine q_k 2 ?_;refine q_v (zo (hr:=g1)) ?_|refine q_k 4 ?_;refine q_v (zR (j:=i) (hv:=hv)) ?_;refine zag ?_;refine zb ?_;refine q_v (zR (j:=i) (hv:=hv)) ?_;refine q_x zH ?_|refine q_k 5 ?_)
   exact q_r
  ·repeat' (first|refine s_t ?_|refine q_k 2 ?_;refine q_v (zo (hr:=g1)) ?_|refine q_k 4 ?_;refine q_v (zR (j:=i) (hv:=hv)) ?_;refine zag ?_;refine zb ?_;refine q_v (zR (j:=i) (hv:=hv)) ?_;refine q_x zH ?_|refine q_k 3 ?_;refine q_x (zF (hr:=g5)) ?_)
   refine zE (i+1) ⟨hlt,?_⟩ ?_ ?_ ?_
   ·rw[A,BW,q];simp only[BS,Du,zfQ,decide_eq_true h,decide_eq_true B,B6]
   ·show l.length-(i+1)<l.length-i;omega
   ·exact q_h
   ·exact q_h
 obtain rfl:i=l.length:=q_o;rw[A8 (A6 _)] at q;have g1:decide ((l.length:Int)<(l.length:Int))=false:=q_f;rw[q];repeat' (first|refine s_0 ?_|refine q_k 2 ?_;refine q_v (zo (hr:=g1)) ?_|refine q_k 6 ?_)
 exact q_r
def ziu(l:List UInt8)(i:Nat):Bool:=decide (i=0) || decide (l[i-1]?=some 46)
theorem ztt(l:List UInt8)(w:World)(S:l.length<1000000000):q_G 164 [zT l] w (.bool (zbA l)):=by
 refine zt Tryz.func164 Tryz.ntmps164 ?_;unfold zT;repeat' (first|refine s_t ?_|refine zD [0,1] ?_;refine zb ?_)
 refine zN (γ:=Nat) (λi=>[(0,.string (str l)),(3,.int .i64 (i:Int))]) (λ_=>[]) (λi=>i<=l.length/\zcv true l=zcv (ziu l i) (l.drop i)/\(i=l.length->0<l.length->ziu l i=false)) (λi=>l.length-i) 0 ⟨A9 _,rfl,λP Q=>by omega⟩ ?_ ?_ ?_
 ·exact q_h
 ·exact q_h
 rintro i ⟨R,A,E⟩;by_cases hlt:i<l.length
 ·have g1:decide ((i:Int)<(l.length:Int))=true:=q_d;have g5:IntKind.i64.wrap ((i:Int)+1)=((i+1:Nat):Int):=q_w;have g6:IntKind.i64.wrap ((l.length:Int)-1)=(l.length:Int)-1:=IntWalk.i64_in _ q_o;have hv:(str l).data[i]?=some l[i]:=by show l.toArray[i]?=_;rw[BH,A1 hlt]
  have K:l.drop i=l[i]::l.drop (i+1):=BN hlt;have q:∀c,l[i]=c->ziu l (i+1)=decide (c=46):=λc J=>by
   unfold ziu;rw[show i+1-1=i by omega,A1 hlt,J];simp
  have m:zcv (ziu l i) (l.drop i)=false->zbA l=false:=λh=>by
   unfold zbA;rw[A,h,DN]
  rw[K,zcv] at A m;generalize T:l[i]=x at*;have q:=q x rfl;by_cases h46:x=46
  ·subst h46;rw[if_pos rfl] at A m;rw[decide_eq_true rfl] at q;by_cases h0:i=0
   ·subst h0;rw[m (by simp[ziu])];repeat' (first|refine s_t ?_|refine q_k 2 ?_;refine q_v (zo (hr:=g1)) ?_|refine q_k 4 ?_;refine q_x (zR (j:=0) (hv:=hv)) ?_|refine q_k 5 ?_;refine zaD ?_;refine zb ?_;refine zaD ?_;refine zb ?_|refine q_k 6 ?_)
    exact q_r
   by_cases hz:i+1=l.length
   ·rw[m (by rw[BX q_o];simp[zcv])];have H:decide ((i:Int)=0)=false:=q_f;have k1:decide ((i:Int)=(l.length:Int)-1)=true:=q_d;repeat' (first|refine s_t ?_|refine q_k 2 ?_;refine q_v (zo (hr:=g1)) ?_|refine q_k 4 ?_;refine q_x (zR (j:=i) (hv:=hv)) ?_|refine q_k 5 ?_;refine zaD ?_;refine zb ?_;refine q_x (zS (hr:=H)) ?_;refine q_v (zI (hr:=g6)) ?_;refine q_x (zS (hr:=k1)) ?_|refine q_k 6 ?_)
    exact q_r
   have H:decide ((i:Int)=0)=false:=q_f;have k1:decide ((i:Int)=(l.length:Int)-1)=false:=q_f;have g7:IntKind.i64.wrap ((i:Int)-1)=((i-1:Nat):Int):=q_w;have G:(str l).data[i-1]?=some l[i-1]:=by show l.toArray[i-1]?=_;rw[BH,A1 q_o]
   have F:ziu l i=decide (l[i-1]=46):=by
    unfold ziu;rw[decide_eq_false h0,A1 (show i-1<l.length by omega)];simp
   generalize l[i-1]'q_o=y at*;by_cases hy:y=46
   ·subst hy;rw[m (by rw[F];simp)];repeat' (first|refine s_t ?_|refine q_k 2 ?_;refine q_v (zo (hr:=g1)) ?_|refine q_k 4 ?_;refine q_x (zR (j:=i) (hv:=hv)) ?_|refine q_k 5 ?_;refine zaD ?_;refine zb ?_;refine q_x (zS (hr:=H)) ?_;refine q_v (zI (hr:=g6)) ?_;refine q_x (zS (hr:=k1)) ?_;refine q_v (zI (hr:=g7)) ?_;refine q_v (zR (j:=i-1) (hv:=G)) ?_;refine zaD ?_;refine zb ?_|refine q_k 6 ?_)
    exact q_r
   ·have k2:decide ((y.toNat:Int)=46)=false:=decide_eq_false (λh=>hy (by
     apply Bc.1;show y.toNat=46;omega))
    repeat' (first|refine s_t ?_|refine q_k 2 ?_;refine q_v (zo (hr:=g1)) ?_|refine q_k 4 ?_;refine q_x (zR (j:=i) (hv:=hv)) ?_|refine q_k 5 ?_;refine zaD ?_;refine zb ?_;refine q_x (zS (hr:=H)) ?_;refine q_v (zI (hr:=g6)) ?_;refine q_x (zS (hr:=k1)) ?_;refine q_v (zI (hr:=g7)) ?_;refine q_v (zR (j:=i-1) (hv:=G)) ?_;refine q_x (zS (hr:=k2)) ?_|refine q_k 7 ?_;refine zaA ?_;refine zb ?_|refine q_k 3 ?_;refine q_x (zF (hr:=g5)) ?_)
    refine zE (i+1) ⟨hlt,?_,λP Q=>by omega⟩ ?_ ?_ ?_
    ·rw[A,F,q,decide_eq_false hy];simp
    ·show l.length-(i+1)<l.length-i;omega
    ·exact q_h
    ·exact q_h
  rw[if_neg h46] at A m;rw[decide_eq_false h46] at q;have O:x.toNat≠46:=λh=>h46 (by apply Bc.1;exact h);have J:x.toNat=45\/(65<=x.toNat/\x.toNat<=90)\/(48<=x.toNat/\x.toNat<=57)\/(x.toNat≠45/\x.toNat<48)\/(57<x.toNat/\x.toNat<65)\/90<x.toNat:=q_o;have r:zcB x=decide (x.toNat=45\/(65<=x.toNat/\x.toNat<=90)\/(48<=x.toNat/\x.toNat<=57)):=by
   rw[CJ];simp only[zcB,Be,AA,decide_eq_true_eq];omega
  have C:zcB x=true->zcv true l=zcv (ziu l (i+1)) (l.drop (i+1)):=λh=>by rw[A,h,B6,q]
  have B:zcB x=false->zbA l=false:=λh=>m (by rw[h,BZ]);rcases J with h|⟨h,I⟩|⟨h,I⟩|⟨h,I⟩|⟨h,I⟩|h
  ·have e:=C (by rw[r];exact decide_eq_true q_o);repeat' (first|refine s_t ?_|refine q_k 2 ?_;refine q_v (zo (hr:=g1)) ?_|refine q_k 4 ?_;refine q_x (zR (j:=i) (hv:=hv)) ?_|refine q_k 5 ?_;refine zaD ?_;refine zb ?_|refine q_k 7 ?_;refine zaA ?_;refine zb ?_;refine zaA ?_;refine zb ?_|refine q_k 3 ?_;refine q_x (zF (hr:=g5)) ?_)
   refine zE (i+1) ⟨hlt,e,λ_ _=>q⟩ ?_ ?_ ?_
   ·show l.length-(i+1)<l.length-i;omega
   ·exact q_h
   ·exact q_h
  ·have e:=C (by rw[r];exact decide_eq_true q_o);repeat' (first|refine s_t ?_|refine q_k 2 ?_;refine q_v (zo (hr:=g1)) ?_|refine q_k 4 ?_;refine q_x (zR (j:=i) (hv:=hv)) ?_|refine q_k 5 ?_;refine zaD ?_;refine zb ?_|refine q_k 7 ?_;refine zaA ?_;refine zb ?_;refine zaA ?_;refine zb ?_;refine q_x zP ?_;refine q_x zaF ?_;refine zJ ?_;refine zb ?_|refine q_k 3 ?_;refine q_x (zF (hr:=g5)) ?_)
   refine zE (i+1) ⟨hlt,e,λ_ _=>q⟩ ?_ ?_ ?_
   ·show l.length-(i+1)<l.length-i;omega
   ·exact q_h
   ·exact q_h
  ·have e:=C (by rw[r];exact decide_eq_true q_o);repeat' (first|refine s_t ?_|refine q_k 2 ?_;refine q_v (zo (hr:=g1)) ?_|refine q_k 4 ?_;refine q_x (zR (j:=i) (hv:=hv)) ?_|refine q_k 5 ?_;refine zaD ?_;refine zb ?_|refine q_k 7 ?_;refine zaA ?_;refine zb ?_;refine zaA ?_;refine zb ?_;refine q_x zP ?_;refine zJ ?_;refine zb ?_;refine q_x zP ?_;refine q_x zaF ?_;refine zJ ?_;refine zb ?_|refine q_k 3 ?_;refine q_x (zF (hr:=g5)) ?_)
   refine zE (i+1) ⟨hlt,e,λ_ _=>q⟩ ?_ ?_ ?_
   ·show l.length-(i+1)<l.length-i;omega
   ·exact q_h
   ·exact q_h
  ·rw[B (by rw[r];exact decide_eq_false q_o)];repeat' (first|refine s_t ?_|refine q_k 2 ?_;refine q_v (zo (hr:=g1)) ?_|refine q_k 4 ?_;refine q_x (zR (j:=i) (hv:=hv)) ?_|refine q_k 5 ?_;refine zaD ?_;refine zb ?_|refine q_k 7 ?_;refine zaA ?_;refine zb ?_;refine zaA ?_;refine zb ?_;refine q_x zP ?_;refine zJ ?_;refine zb ?_;refine q_x zP ?_;refine zJ ?_;refine zb ?_|refine q_k 8 ?_)
   exact q_r
  ·rw[B (by rw[r];exact decide_eq_false q_o)];repeat' (first|refine s_t ?_|refine q_k 2 ?_;refine q_v (zo (hr:=g1)) ?_|refine q_k 4 ?_;refine q_x (zR (j:=i) (hv:=hv)) ?_|refine q_k 5 ?_;refine zaD ?_;refine zb ?_|refine q_k 7 ?_;refine zaA ?_;refine zb ?_;refine zaA ?_;refine zb ?_;refine q_x zP ?_;refine zJ ?_;refine zb ?_;refine q_x zP ?_;refine q_x zaF ?_;refine zJ ?_;refine zb ?_|refine q_k 8 ?_)
   exact q_r
  ·rw[B (by rw[r];exact decide_eq_false q_o)];repeat' (first|refine s_t ?_|refine q_k 2 ?_;refine q_v (zo (hr:=g1)) ?_|refine q_k 4 ?_;refine q_x (zR (j:=i) (hv:=hv)) ?_|refine q_k 5 ?_;refine zaD ?_;refine zb ?_|refine q_k 7 ?_;refine zaA ?_;refine zb ?_;refine zaA ?_;refine zb ?_;refine q_x zP ?_;refine q_x zaF ?_;refine zJ ?_;refine zb ?_;refine q_x zP ?_;refine q_x zaF ?_;refine zJ ?_;refine zb ?_|refine q_k 8 ?_)
   exact q_r
 obtain rfl:i=l.length:=q_o;have g1:decide ((l.length:Int)<(l.length:Int))=false:=q_f;rcases AD l.length with h0|h0
 ·have e:zbA l=false:=by unfold zbA;rw[h0];rfl
  rw[e];have k1:decide ((l.length:Int)>=1)=false:=q_f;repeat' (first|refine s_0 ?_|refine q_k 2 ?_;refine q_v (zo (hr:=g1)) ?_|refine q_k 9 ?_;refine q_x (zP (hr:=k1)) ?_)
  exact q_r
 have e:zbA l=decide (l.length<=32):=zpq l h0 (by rw[A,E rfl h0,List.drop_length];rfl);rw[e];have k1:decide ((l.length:Int)>=1)=true:=q_d;have k2:decide ((l.length:Int)<=32)=decide (l.length<=32):=decide_eq_decide.2 q_o;repeat' (first|refine s_0 ?_|refine q_k 2 ?_;refine q_v (zo (hr:=g1)) ?_|refine q_k 9 ?_;refine q_x (zP (hr:=k1)) ?_;refine q_x (zaF (hr:=k2)) ?_)
 exact q_r
theorem zsm(a:Option Addr)(k:Nat)(p:Prin)(w:World)(h:PrinIn w (zba a k p) p)(hb:p.parts.length<1000000)(hr:p.realm.length<1000000000)(hx:∀x∈p.parts,x.length<1000000000):q_G 71 [.agg (zba a k p).toArray] w (.bool p.ok):=by
 obtain⟨⟨Q,T,O,V,U,s1,X⟩,-⟩:=h;cases O;refine zt Tryz.func71 Tryz.ntmps71 ?_;have I:=λK=>ztt p.realm K hr;unfold Prin.ok zba zT at*;obtain⟨m,J⟩:=p;dsimp only at*;repeat' (first|refine s_t ?_|refine zf 0 ?_;refine zW ?_;intro _|refine q_k 1 ?_)
 rename_i b;refine zN (γ:=Nat) (λi=>[(1,.pointer (some ⟨b,0,none⟩)),(3,.int .i64 (i:Int))]) (λ_=>[.blk b 43 [.slice a m.length k,.string (str J)]]) (λi=>i<=m.length/\(m.take i).all zb0=true) (λi=>m.length-i) 0 ⟨A9 _,rfl⟩ ?_ ?_ ?_
 ·exact q_h
 ·exact q_h
 rintro i ⟨S,F⟩;by_cases hlt:i<m.length
 ·obtain⟨R,W,rfl,C⟩:=zb2 s1 (i:=i) (by rw[A0];omega);have q:=C i _ (zcM zT q_o);unfold zT at q;have g2:decide ((i:Int)<(m.length:Int))=true:=q_d;have g5:IntKind.i64.wrap ((i:Int)+1)=((i+1:Nat):Int):=q_w;have t1:m.take (i+1)=m.take i++[m[i]]:=zaO q_o;have G:m[i]∈m:=Ad hlt;have B:=λK=>zxE m[i] K (hx _ G);unfold zT at B;have A:zb0 m[i]=false->(decide (1<=m.length)&&decide (m.length<=4)&&zbA J&&m.all zb0)=false:=λh=>by
   have:m.all zb0=false:=by rw[Bk];exact⟨_,G,by rw[h];decide⟩
   rw[this,DN]
  have H:zb0 m[i]=true->(m.take (i+1)).all zb0=true:=λh=>by rw[t1,BW,F];simp[h]
  generalize m[i]=y at*;have hc:y.length<1\/(1<=y.length/\32<y.length)\/(1<=y.length/\y.length<=32/\y.all zfQ=false)\/(1<=y.length/\y.length<=32/\y.all zfQ=true):=by
   rcases AF y.length 1 with h|h
   ·exact .inl h
   rcases AF 32 y.length with E|E
   ·exact .inr (.inl ⟨h,E⟩)
   cases hb:y.all zfQ
   ·exact .inr (.inr (.inl ⟨h,E,rfl⟩))
   ·exact .inr (.inr (.inr ⟨h,E,rfl⟩))
  rcases hc with h|⟨h,E⟩|⟨h,E,r⟩|⟨h,E,r⟩
  ·rw[A (by unfold zb0;rw[decide_eq_false q_o];rfl)];have k1:decide ((y.length:Int)<1)=true:=q_d;repeat' (first|refine s_t ?_|refine q_k 2 ?_;refine zm ?_;refine zb ?_;refine q_v (zo (hr:=g2)) ?_|refine q_k 4 ?_;refine zm ?_;refine zb ?_;refine q_v (zq (j:=i)) ?_;refine q_x (zn (hv:=q)) ?_;refine q_x (zo (hr:=k1)) ?_|refine q_k 5 ?_)
   exact q_r
  ·rw[A (by unfold zb0;rw[decide_eq_true h,decide_eq_false q_o];rfl)];have k1:decide ((y.length:Int)<1)=false:=q_f;have k2:decide ((y.length:Int)>32)=true:=q_d;repeat' (first|refine s_t ?_|refine q_k 2 ?_;refine zm ?_;refine zb ?_;refine q_v (zo (hr:=g2)) ?_|refine q_k 4 ?_;refine zm ?_;refine zb ?_;refine q_v (zq (j:=i)) ?_;refine q_x (zn (hv:=q)) ?_;refine q_x (zo (hr:=k1)) ?_;refine zm ?_;refine zb ?_;refine q_v (zq (j:=i)) ?_;refine q_x (zn (hv:=q)) ?_;refine q_x (zH (hr:=k2)) ?_|refine q_k 5 ?_)
   exact q_r
  ·rw[A (by unfold zb0;rw[r,DN])];rw[r] at B;have k1:decide ((y.length:Int)<1)=false:=q_f;have k2:decide ((y.length:Int)>32)=false:=q_f;repeat' (first|refine s_t ?_|refine q_k 2 ?_;refine zm ?_;refine zb ?_;refine q_v (zo (hr:=g2)) ?_|refine q_k 4 ?_;refine zm ?_;refine zb ?_;refine q_v (zq (j:=i)) ?_;refine q_x (zn (hv:=q)) ?_;refine q_x (zo (hr:=k1)) ?_;refine zm ?_;refine zb ?_;refine q_v (zq (j:=i)) ?_;refine q_x (zn (hv:=q)) ?_;refine q_x (zH (hr:=k2)) ?_;refine zm ?_;refine zb ?_;refine q_v (zq (j:=i)) ?_;refine q_v (zn (hv:=q)) ?_;refine q_v (za (hc:=q_c B)) ?_;refine zJ ?_;refine zb ?_|refine q_k 5 ?_)
   exact q_r
  ·have P:=H (by unfold zb0;rw[decide_eq_true h,decide_eq_true E,r];rfl);rw[r] at B;have k1:decide ((y.length:Int)<1)=false:=q_f;have k2:decide ((y.length:Int)>32)=false:=q_f;repeat' (first|refine s_t ?_|refine q_k 2 ?_;refine zm ?_;refine zb ?_;refine q_v (zo (hr:=g2)) ?_|refine q_k 4 ?_;refine zm ?_;refine zb ?_;refine q_v (zq (j:=i)) ?_;refine q_x (zn (hv:=q)) ?_;refine q_x (zo (hr:=k1)) ?_;refine zm ?_;refine zb ?_;refine q_v (zq (j:=i)) ?_;refine q_x (zn (hv:=q)) ?_;refine q_x (zH (hr:=k2)) ?_;refine zm ?_;refine zb ?_;refine q_v (zq (j:=i)) ?_;refine q_v (zn (hv:=q)) ?_;refine q_v (za (hc:=q_c B)) ?_;refine zJ ?_;refine zb ?_|refine q_k 3 ?_;refine q_x (zF (hr:=g5)) ?_)
   refine zE (i+1) ⟨hlt,P⟩ ?_ ?_ ?_
   ·show m.length-(i+1)<m.length-i;omega
   ·exact q_h
   ·exact q_h
 obtain rfl:i=m.length:=q_o;rw[Bw] at F;rw[F,Dd];have g2:decide ((m.length:Int)<(m.length:Int))=false:=q_f;have g6:decide ((m.length:Int)>=1)=decide (1<=m.length):=decide_eq_decide.2 q_o;have g7:decide ((m.length:Int)<=4)=decide (m.length<=4):=decide_eq_decide.2 q_o;generalize zbA J=z,decide (m.length<=4)=y,decide (1<=m.length)=x at*;have hc:x=false\/(x=true/\y=false)\/(x=true/\y=true):=by cases x <;> cases y <;> simp
 rcases hc with rfl|⟨rfl,rfl⟩|⟨rfl,rfl⟩;all_goals repeat' (first|refine s_0 ?_|refine q_k 2 ?_;refine zm ?_;refine zb ?_;refine q_v (zo (hr:=g2)) ?_|refine q_k 6 ?_;refine zm ?_;refine zb ?_;refine q_x (zP (hr:=g6)) ?_;(first|refine zm ?_|skip|fail);(try refine zb ?_);(first|refine q_v (zaF (hr:=g7)) ?_|skip|fail);(try refine zb ?_);(first|refine zm ?_|skip|fail);(first|refine q_v (za (hc:=q_c I)) ?_|refine zaC rfl rfl rfl ?_|skip);(try refine zb ?_))
 all_goals exact q_r
theorem zyw(v a b:Int)(w:World):q_G 41 [.int .i64 v,.int .i64 a,.int .i64 b] w (.bool (decide (a<=v)&&decide (v<=b))):=by
 refine zt Tryz.func41 Tryz.ntmps41 ?_;obtain⟨x,g1⟩:∃x,decide (v>=a)=x:=⟨_,rfl⟩;rw[show decide (a<=v)=x from g1];generalize j:decide (v<=b)=y at*;cases x;all_goals repeat' (first|refine s_0 ?_|refine q_k 0 ?_|refine q_k 1 ?_;refine q_x (zP (hr:=g1)) ?_;(first|refine q_v (zaF (hr:=j)) ?_|skip|fail);(try refine zb ?_))
 all_goals exact q_r
end Go.Proofs.YtdnlngbjpdbffaaGreatDoor
namespace Go.Ct
theorem Cert.ok_spec(sv:Int->List UInt8->Bool)(c:Cert):c.ok sv=((decide (0<=c.serial)&&decide (c.serial<=4611686018427387904))&&c.issuer.ok&&c.subject.ok&&decide (0<=c.fr)&&decide (c.fr<=c.til)&&decide (c.til<=1099511627776)&&sv c.group c.pub&&decide (c.sig.length<=192)):=by
 unfold Cert.ok;generalize decide (0<=c.serial)=j;generalize decide (c.sig.length<=192)=m;generalize sv c.group c.pub=q;cases j <;> cases m <;> cases q <;> simp
end Go.Ct
namespace Go.Proofs.YtdnlngbjpdbffaaGreatDoor
open Go Go.Sy Go.Ct Go.Nt Go.RowKit
attribute [local irreducible] Sy SyL SyX SyC SyF Sy.Fn callFunc
theorem zyW{j m q r w A B:Bool} :j=false\/(j=true/\m=false)\/(j=true/\m=true/\q=false)\/(j=true/\m=true/\q=true/\r=false)\/(j=true/\m=true/\q=true/\r=true/\w=false)\/(j=true/\m=true/\q=true/\r=true/\w=true/\A=false)\/(j=true/\m=true/\q=true/\r=true/\w=true/\A=true/\B=false)\/(j=true/\m=true/\q=true/\r=true/\w=true/\A=true/\B=true):=by
 cases j <;> cases m <;> cases q <;> cases r <;> cases w <;> cases A <;> cases B <;> simp
theorem zkP(p:Pl)(c:Cert)(w:World)(J:GT w)(h:CertAt w p c)(m:c.fine):q_G 33 [.agg (zG p c).toArray] w (.bool (c.ok svK)):=by
 refine zt Tryz.func33 Tryz.ntmps33 ?_;have K:=λj=>zyw c.serial 0 4611686018427387904 j;have O:=λj (q:Keep No w j)=>zsm _ _ _ j (h.iss.keep q) m.i.1 m.i.2.1 m.i.2.2;have P:=λj (q:Keep No w j)=>zsm _ _ _ j (h.sub.keep q) m.s.1 m.s.2.1 m.s.2.2;have H:=λj (q:Keep No w j)=>zsE c.group p.a3 c.pub.length p.k3 c.pub j rfl (h.pub.keep q).sla;rw[show decide ((gel c.group c.pub).2=0)=svK c.group c.pub from rfl] at H;rw[Cert.ok_spec];have g8:decide ((c.sig.length:Int)<=192)=decide (c.sig.length<=192):=decide_eq_decide.2 q_o;obtain⟨I,g4⟩:∃x,decide (c.fr>=0)=x:=⟨_,rfl⟩;rw[show decide (0<=c.fr)=I from g4];unfold zG zba at*;clear h m J;obtain⟨serial,⟨r,A⟩,⟨C,E⟩,fr,til,auth,group,pub,sig⟩:=c;dsimp only at*;generalize decide (sig.length<=192)=W,svK group pub=V,G:decide (til<=1099511627776)=U,F:decide (fr<=til)=T,Prin.ok ⟨C,E⟩=S,Prin.ok ⟨r,A⟩=R,(decide (0<=serial)&&decide (serial<=4611686018427387904))=Q at*;rcases @zyW Q R S I T U V with rfl|⟨rfl,rfl⟩|⟨rfl,rfl,rfl⟩|⟨rfl,rfl,rfl,rfl⟩|⟨rfl,rfl,rfl,rfl,rfl⟩|⟨rfl,rfl,rfl,rfl,rfl,rfl⟩|⟨rfl,rfl,rfl,rfl,rfl,rfl,rfl⟩|⟨rfl,rfl,rfl,rfl,rfl,rfl,rfl⟩
 all_goals repeat' (first|refine s_0 ?_|refine zf 0 ?_;refine zW ?_;intro _|refine q_k 1 ?_;refine zm ?_;refine q_v (za (hc:=q_c K)) ?_;refine zb ?_;(first|refine q_v (ze (B:=[.slice p.a1 r.length p.k1,zT A]) (hv:=FF rfl)) ?_|skip|fail);(first|refine q_v (za (hc:=zu O)) ?_|refine zaC rfl rfl rfl ?_|skip);(try refine zb ?_);(first|refine q_v (ze (B:=[.slice p.a2 C.length p.k2,zT E]) (hv:=FF rfl)) ?_|skip|fail);(first|refine q_v (za (hc:=zu P)) ?_|refine zaC rfl rfl rfl ?_|skip);(try refine zb ?_);(first|refine zm ?_|skip|fail);(first|refine q_v (zP (hr:=g4)) ?_|refine zaC rfl rfl rfl ?_|skip);(try refine zb ?_);(first|refine zm ?_|skip|fail);(try refine zb ?_);(first|refine zm ?_|skip|fail);(first|refine q_v (zaF (hr:=F)) ?_|refine zaC rfl rfl rfl ?_|skip);(try refine zb ?_);(first|refine zm ?_|skip|fail);(first|refine q_v (zaF (hr:=G)) ?_|refine zaC rfl rfl rfl ?_|skip);(try refine zb ?_);(first|refine zm ?_|skip|fail);(try refine zb ?_);(first|refine zm ?_|skip|fail);(first|refine q_v (za (hc:=zu H)) ?_|refine zaC rfl rfl rfl ?_|skip);(try refine zb ?_);(first|refine zm ?_|skip|fail);(try refine zb ?_);(first|refine q_v (zaF (hr:=g8)) ?_|skip|fail);(try refine zb ?_))
 all_goals exact q_r
end Go.Proofs.YtdnlngbjpdbffaaGreatDoor
