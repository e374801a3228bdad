/- Lemmas of this proof. -/
import Derived.Test.YtdnlngbjpdbffaaGreatDoorKJ14
set_option maxHeartbeats 2000000
set_option maxRecDepth 10000
set_option linter.all false
namespace Go.Nt
open Go Go.Sy
theorem zly(b d o i:Nat)(w:0<o):d/b^i/o=d/b^(i+1)/o*b+(d/b^(i+1)%o*b+d/b^i%b)/o/\d/b^i%o=(d/b^(i+1)%o*b+d/b^i%b)%o:=by
 have j:=AV (d/b^i) b;rw[Ak,<-AJ] at j;rw[CU] at j;generalize d/b^i%b=e,d/b^(i+1)=A at*;have m:=AV A o;generalize A%o=r,A/o=q at*;have t:d/b^i=o*(q*b)+(r*b+e):=by
  rw[<-j,<-m,Bg,A8 b r,show b*(o*q)=o*(q*b) by ac_rfl,Az]
 rw[t];exact⟨Cu w _ _,Dy _ _ _⟩
end Go.Nt
namespace Go.Proofs.YtdnlngbjpdbffaaGreatDoor
open Go Go.Sy Go.Nt Go.RowKit
attribute [local irreducible] Sy SyL SyX Sy.Fn callFunc zf
theorem zqE(d o:Nat)(w:World)(q:d<18446744073709551616^16)(E:o<18446744073709551616^16)(hn:nd 18446744073709551616 d<nd 18446744073709551616 o):
  q_G 320 [zm d,zm o] w (.tuple #[zm 0,zm d]):=by
 refine zo Tryz.func320 Tryz.ntmps320 ?_;have A:=zd d;have C:=zd o;have r:=λw=>zcz o w E;have t:=λw=>zcz d w q;have F:=zaQ 18446744073709551616 d 16 q_e q;generalize nd 18446744073709551616 d=m,nd 18446744073709551616 o=n at*;have j:decide ((m:Int)<(n:Int))=true:=q_d;repeat' (first|refine s_0 ?_|refine zg 0 ?_;refine zi ?_;intro _;refine zi ?_;intro _;refine zi ?_;intro _;refine zi ?_;intro _|refine z5 (id:=1) 3 [[],[0],[],[0,1,2],[0,1,2,3],[0,1,2,3,4]] mixed ?_ ?_;kernel_rfl;refine q_D (ze (B:=zf o)) ?_;refine q_D (za (hc:=q_c r)) ?_;refine q_D (ze (B:=zf d)) ?_;refine zam ?_;refine q_v (za (hc:=q_c t)) ?_;refine zB ?_;refine zB ?_|refine q_k 2 ?_;refine q_v (zl (hr:=j)) ?_|refine z5 (id:=3) 3 [[],[],[0],[0,1,2]] mixed ?_ ?_;kernel_rfl;refine dc (by intro _ _;first|exact zll|exact zgv|exact zek rfl (ty rfl) (.inl ⟨rfl,rfl⟩) (zc rfl)|exact zek rfl (ty rfl) (.inr ⟨_,_,_,rfl,ty rfl⟩) (zc rfl)) (k:=?_);refine q_D (ze (B:=zf d)) ?_|fail)
 refine dcn (λ_ _=>zC (B:=List.replicate 16 (Value.int IntKind.u64 0))) (k:=?_);repeat' (first|refine s_0 ?_|(refine zW ?_;first|refine q_n (zj (n:=d)) ?_|fail)|refine zam ?_|fail)
 exact zad rfl (zz (B:=List.replicate 16 (Value.int IntKind.u64 0)) rfl (ty rfl) rfl F4 F0 rfl) (zz (B:=zf d) rfl (ty rfl) rfl F4 F0 (zd _).symm) F2 ⟨by rw[<-zeF];rfl,rfl⟩
theorem zsv(d o:Nat)(w:World)(hd:d<18446744073709551616^16)(L:o<18446744073709551616)(h0:0<o)(a9:0<d):
  q_G 320 [zm d,zm o] w (.tuple #[zm (d/o),zm (d%o)]):=by
 refine zo Tryz.func320 Tryz.ntmps320 ?_;have b1:=zd d;have b6:=zd o;have M:o<18446744073709551616^16:=AG L (Nat.le_self_pow q_e _);have W:nd 18446744073709551616 o=1:=zch _ _ _ q_e (by rw[Ej];exact L) (λ_=>by rw[C5,Ad];exact h0);have h1:=λw=>zcz o w M;have h2:=λw=>zcz d w hd;rw[W] at h1;have hm:=zaQ 18446744073709551616 d 16 q_e hd;have I:=zaE 18446744073709551616 d q_e;generalize nd 18446744073709551616 d=m at*;have b9:0<m:=by
  rcases AD m with h|h
  ·subst h;rw[Ad] at I;omega
  ·exact h
 have T:=zbz d;have J:=zbz o 0 q_e;rw[Ad,C7,A3 L] at J;have V:decide ((m:Int)<((1:Nat):Int))=false:=q_f;have a7:IntKind.i64.wrap ((m:Int)-1)=(m:Int)-1:=IntWalk.i64_in _ q_o;repeat' (first|refine s_t ?_|refine zg 0 ?_;refine zi ?_;intro _;refine zi ?_;intro _;refine zi ?_;intro _;refine zi ?_;intro _|refine z5 (id:=1) 3 [[],[0],[],[0,1,2],[0,1,2,3],[0,1,2,3,4]] mixed ?_ ?_;kernel_rfl;refine q_D (ze (B:=zf o)) ?_;refine q_D (za (hc:=q_c h1)) ?_;refine q_D (ze (B:=zf d)) ?_;refine zam ?_;refine q_v (za (hc:=q_c h2)) ?_;refine zB ?_;refine zB ?_|refine q_k 2 ?_;refine q_v (zl (hr:=V)) ?_|refine q_k 4 ?_;refine zaH ?_|refine q_k 5 ?_|refine q_k 6 ?_;refine q_x (zH (hr:=a7)) ?_)
 rename_i F G A E;refine zE (γ:=Nat) (λi=>[(2,.pointer (some ⟨F,0,none⟩)),(3,.pointer (some ⟨G,0,none⟩)),(4,.pointer (some ⟨A,0,none⟩)),(5,.pointer (some ⟨E,0,none⟩)),(8,nv (d/18446744073709551616^i%o)),(9,.int .i64 ((i:Int)-1))])
  (λi=>[.blk A 131 (zf (d/18446744073709551616^i/o*18446744073709551616^i)),.blk E 131 (List.replicate 16 (Value.int IntKind.u64 0)),.blk F 131 (zf d),.blk G 131 (zf o)])
  (λi=>i<=m) (λi=>i) m (A4 _) ?_ ?_ ?_
 ·rw[Al I,CC];exact q_h
 ·show SubR [.blk A 131 (zf (d/18446744073709551616^m/o*18446744073709551616^m)),.blk E 131 (List.replicate 16 (Value.int IntKind.u64 0)),.blk F 131 (zf d),.blk G 131 (zf o)] _;rw[Al I,EY,BJ,<-natC0];exact q_h
 intro i hi;rcases AD i with hz|hp
 ·subst hz;rw[Ad,C7,Af];have b7:=zd (d/o);have hr:d%o<18446744073709551616:=AS (A7 _ h0) L;have t:=zd5 0 0 (d%o);rw[EY,CC,AR,Ad,Af,AR] at t;have t:=t hr;rw[<-natC0] at t;have b8:=zd (d%o);generalize d%o=r,d/o=Q at*;repeat' (first|refine s_0 ?_|refine q_k 7 ?_;refine q_v zP ?_|refine q_k 10 ?_;refine zD ?_;refine zS ?_)
  refine FJ (fr':=[(4,.pointer (some ⟨A,0,none⟩)),(5,.pointer (some ⟨E,0,none⟩))]) (L':=[.blk A 131 (zf Q),.blk E 131 (zf r)]) ?_ q_h (by (repeat' (first|exact F2|apply F9;with_reducible (focus ((repeat (first|exact F1|apply F3));done))|apply FC;(focus ((repeat (first|exact F1|apply F3));done))|apply FA;(focus ((repeat (first|exact F1|apply F3));done))|rfl));exact t);repeat' (first|refine z5 (id:=11) 3 [[],[],[0],[0,1,2]] mixed ?_ ?_;kernel_rfl;refine q_D (ze (B:=zf Q)) ?_;refine q_D (ze (B:=zf r)) ?_|fail)
  refine dcn (λ_ _=>zj (n:=Q)) (k:=?_);repeat' (first|refine s_0 ?_|(refine zW ?_;first|refine q_n (zj (n:=r)) ?_|fail)|refine zam ?_|fail)
  exact zad rfl (zz (B:=zf Q) rfl (ty rfl) rfl F4 F0 (zd _).symm) (zz (B:=zf r) rfl (ty rfl) rfl F4 F0 (zd _).symm) F2 ⟨rfl,rfl⟩
 ·obtain⟨i,rfl⟩:∃j,i=j+1:=⟨i-1,by omega⟩;have U:(((i+1:Nat):Int)-1)=((i:Nat):Int):=q_o;have a8:IntKind.i64.wrap ((i:Int)-1)=(i:Int)-1:=IntWalk.i64_in _ q_o;obtain⟨e1,e2⟩:=zly 18446744073709551616 d o i h0;have S:=T i q_o;have K:=A7 (d/18446744073709551616^(i+1)) h0;have P:d/18446744073709551616^i%18446744073709551616<18446744073709551616:=A7 _ q_e;have t:=zd5 (d/18446744073709551616^(i+1)/o*18446744073709551616^(i+1)) i;have b0:=zd (d/18446744073709551616^(i+1)/o*18446744073709551616^(i+1));have hz:d/18446744073709551616^(i+1)/o*18446744073709551616^(i+1)/18446744073709551616^i%18446744073709551616=0:=by
   rw[AJ,A8 (18446744073709551616^i),<-Ao,CJ _ (AP q_e)];exact EV _ _
  rw[hz] at t;have t:=t ((d/18446744073709551616^(i+1)%o*18446744073709551616+d/18446744073709551616^i%18446744073709551616)/o);have N:d/18446744073709551616^i/o*18446744073709551616^i=d/18446744073709551616^(i+1)/o*18446744073709551616^(i+1)+(d/18446744073709551616^(i+1)%o*18446744073709551616+d/18446744073709551616^i%18446744073709551616)/o*18446744073709551616^i:=by
   rw[e1,AM,AJ,A8 (18446744073709551616^i),<-Ao]
  rw[AR,<-N] at t;have Z:(d/18446744073709551616^(i+1)%o*18446744073709551616+d/18446744073709551616^i%18446744073709551616)/o<18446744073709551616:=(AW h0).2 (by
   have:=AN 18446744073709551616 (show d/18446744073709551616^(i+1)%o+1<=o from K);omega)
  have t:=t Z;have H:=λw=>zm9 (d/18446744073709551616^(i+1)%o) (d/18446744073709551616^i%18446744073709551616) o w K L P;rw[U];generalize (d/18446744073709551616^(i+1)%o*18446744073709551616+d/18446744073709551616^i%18446744073709551616)/o=q,hY:d/18446744073709551616^i/o*18446744073709551616^i=Y,d/18446744073709551616^(i+1)/o*18446744073709551616^(i+1)=X at*;rw[<-e2] at H;generalize d/18446744073709551616^i%18446744073709551616=e,d/18446744073709551616^(i+1)%o=r,a6:d/18446744073709551616^i%o=r' at*;repeat' (first|refine s_t ?_|refine q_k 7 ?_;refine q_v zP ?_)
  refine zb2 (id:=9) mixed ?_
  (refine zbY 13 13 [[],[],[],[2],[2,3],[],[5],[1,2,3,4,5,6],[1,2,3,4,5,6,7],[1,2,3,4,5,6,7,8],[1,2,3,4,5,6,7,8],[0,1,2,3,4,5,6,7,8,9],[0,1,2,3,4,5,6,7,8,9,11],[0,1,2,3,4,5,6,7,8,9,10,11,12]] [[],[],[],[],[],[],[],[],[],[],[],[],[],[]] (some 12) rfl ?_ ?_ ?_;kernel_rfl;kernel_rfl;refine q_E zao ?_;refine q_E zao ?_;refine q_E zao ?_;refine zcB ?_;refine q_E (zM (hv:=S)) ?_;refine zcB ?_;refine q_E (zM (hv:=J)) ?_;refine q_E (za (hc:=q_c H)) ?_;refine q_E zao ?_;refine q_E zau ?_;refine q_E zau ?_;refine zcB ?_;try refine dh_0nE (h:=?_))
  refine zhg (R:=λ_ _ Nw=>Nw= [.blk A 131 (zf Y),.blk E 131 (List.replicate 16 (Value.int IntKind.u64 0)),.blk F 131 (zf d),.blk G 131 (zf o)]) (λ_ _ _=>rfl)
   (λρ hρ=>FF (zcn (C:=zf X) (L':=[.blk A 131 (zf Y),.blk E 131 (List.replicate 16 (Value.int IntKind.u64 0)),.blk F 131 (zf d),.blk G 131 (zf o)]) (hC:=⟨by rw[zd];omega,t.symm⟩)) λv L' h=>?_) (h:=?_)
  ·obtain⟨rfl,rfl⟩:=h;exact⟨_,(AZ _).symm,rfl⟩
  refine zdI (h:=?_);rintro ρ ⟨O,-⟩
  (refine zb1 [[],[],[],[2],[2,3],[],[5],[1,2,3,4,5,6],[1,2,3,4,5,6,7],[1,2,3,4,5,6,7,8],[1,2,3,4,5,6,7,8],[0,1,2,3,4,5,6,7,8,9],[0,1,2,3,4,5,6,7,8,9,11],[0,1,2,3,4,5,6,7,8,9,10,11,12]] ?_ ?_;kernel_rfl)
  have O:(ρ 12).2= [.blk A 131 (zf Y),.blk E 131 (List.replicate 16 (Value.int IntKind.u64 0)),.blk F 131 (zf d),.blk G 131 (zf o)]:=O;refine FI (fr':=[(43,nv r'),(2,.pointer (some ⟨F,0,none⟩)),(3,.pointer (some ⟨G,0,none⟩)),(4,.pointer (some ⟨A,0,none⟩)),(5,.pointer (some ⟨E,0,none⟩)),(9,.int .i64 i)])
   (L':=[.blk A 131 (zf Y),.blk E 131 (List.replicate 16 (Value.int IntKind.u64 0)),.blk F 131 (zf d),.blk G 131 (zf o)]) ?_ ?_ ?_
  ·repeat' (first|refine s_0 ?_|refine q_k 8 ?_;refine q_x (zH (hr:=a8)) ?_|(refine zW ?_;first|refine zB ?_|fail)|fail)
   refine zy i ?_ ?_ ?_ ?_
   ·show i<=m;omega
   ·show i<i+1;omega
   ·rw[a6];exact q_h
   ·show SubR [.blk A 131 (zf (d/18446744073709551616^i/o*18446744073709551616^i)),.blk E 131 (List.replicate 16 (Value.int IntKind.u64 0)),.blk F 131 (zf d),.blk G 131 (zf o)] _;rw[hY];exact q_h
  ·exact q_h
  ·show SubR _ ((ρ 12).2++[]);rw[O];exact q_h
end Go.Proofs.YtdnlngbjpdbffaaGreatDoor
namespace Go.Nt
open Go Go.Sy
theorem zkj(b V n:Nat)(hn:2<=n)(hb:0<b)(q:V<b^n):V/b^(n-1)%b*b+V/b^(n-2)%b=V/b^(n-2):=by
 have j:=AV (V/b^(n-2)) b;rw[Ak,<-AJ,show(n-2).succ=n-1 by omega] at j;have m:V/b^(n-1)<b:=by
  rw[AW (AP hb),A8,<-AJ,show(n-1).succ=n by omega];exact q
 rw[A3 m,A8];exact j
theorem zic(b U k:Nat)(hk:2<=k)(hb:0<b)(q:U/b^k<b):(U/b^k%b*b+U/b^(k-1)%b)*b+U/b^(k-2)%b=U/b^(k-2):=by
 have j:=AV (U/b^(k-1)) b;rw[Ak,<-AJ,show(k-1).succ=k by omega] at j;have m:=AV (U/b^(k-2)) b;rw[Ak,<-AJ,show(k-2).succ=k-1 by omega] at m;rw[A3 q,A8 (U/b^k) b,j,A8];exact m
theorem zvO{W:Nat}(a c s t:Nat)(j:2^s*2^t=W)(hc:c<W):(c/2^s ||| a*2^t%W)=c/2^s+a*2^t%W:=by
 rw[Nat.or_comm,CW];exact zql a _ t s (by rw[A8];exact j) ((AW (AP q_e)).2 (by rw[A8,j];exact hc))
theorem zuj{W u v:Nat}(hv:0<v)(j:0<W):min (W-1) (u/v)<W/\min (W-1) (u/v)*v<=u/\(min (W-1) (u/v)+1=W\/u<(min (W-1) (u/v)+1)*v):=by
 rcases AH (u/v) (W-1) with h|h
 ·rw[ES q_o];exact⟨by omega,DN u v,.inr (Ek (EP _) hv)⟩
 ·rw[BO h];exact⟨by omega,(CF hv).1 h,.inl q_o⟩
structure OverJ(V D j Q U:Nat):Prop where
 eq:Q*18446744073709551616^j*V+U=D
 lt:U<V*18446744073709551616^j
end Go.Nt
namespace Go.Proofs.YtdnlngbjpdbffaaGreatDoor
open Go Go.Sy Go.Nt Go.RowKit
attribute [local irreducible] Sy SyL SyX Sy.Fn callFunc zf wC
theorem zrf(d o:Nat)(w:World)(hd:d<18446744073709551616^16)(ho:o<18446744073709551616^16)(d9:2<=nd 18446744073709551616 o)(i5:nd 18446744073709551616 o<=nd 18446744073709551616 d):
  q_G 320 [zm d,zm o] w (.tuple #[zm (d/o),zm (d%o)]):=by
 refine zo Tryz.func320 Tryz.ntmps320 ?_;have k5:=zd d;have k6:=zd o;have h1:=λw=>zcz o w ho;have h2:=λw=>zcz d w hd;have hm:=zaQ 18446744073709551616 d 16 q_e hd;have h7:=zaE 18446744073709551616 d q_e;have e5:=zaE 18446744073709551616 o q_e;have M:=(zdi 18446744073709551616 q_e o).2;generalize nd 18446744073709551616 o=n,nd 18446744073709551616 d=m at*;have M:=M q_o;have b8:0<o:=AG (AP q_e) M
 -- the divisor's first digit and how far it moves
 obtain⟨t1,N⟩:∃t1,t1=o/18446744073709551616^(n-1):=⟨_,rfl⟩;have O:t1<18446744073709551616:=by
  rw[N,AW (AP q_e),A8,<-AJ,show(n-1).succ=n by omega];exact e5
 have f5:0<t1:=by rw[N];exact DZ M (AP q_e)
 have f6:=zbz o (n-1) q_o;rw[<-N,A3 O] at f6;have c8:=λw=>zoR t1 w O;obtain⟨k0,k1,k2⟩:=zg8 t1 f5;have k9:=zaQ 2 t1 64 q_e O;generalize nd 2 t1=k at*;obtain⟨s,hs⟩:∃s,s=64-k:=⟨_,rfl⟩;rw[<-hs] at c8;obtain⟨t,ht⟩:∃t,t=64-s:=⟨_,rfl⟩;have Y:(2:Nat)^s*2^t=18446744073709551616:=by rw[<-As,show s+t=64 by omega]
 have b9:0<2^s:=AP q_e;have e8:=λw=>zlb d s w hd q_o;have e9:=λw=>zlb o s w ho q_o;obtain⟨D,hD⟩:∃D,D=d*2^s:=⟨_,rfl⟩;obtain⟨V,hV⟩:∃V,V=o*2^s:=⟨_,rfl⟩;rw[<-hD] at e8;rw[<-hV] at e9;have c1:D<18446744073709551616^17:=by
  rw[hD,AJ];have:2^s<=18446744073709551616:=by rw[<-Y];exact Nat.le_mul_of_pos_right _ (AP q_e)
  exact AG (Bf hd b9) (CD _ this)
 have E:V<18446744073709551616^n:=by
  have e1:o<(t1+1)*18446744073709551616^(n-1):=by
   rw[N];exact Ek (EP _) (AP q_e)
  have e2:(t1+1)*2^s<=18446744073709551616:=by
   rw[<-Y,A8 (2^s),show t=k by omega];exact AN _ k2
  rw[hV];have e3:=Bf e1 b9;have e4:=AN (18446744073709551616^(n-1)) e2;rw[A8 18446744073709551616,<-AJ,show(n-1).succ=n by omega] at e4;rw[show(t1+1)*18446744073709551616^(n-1)*2^s=(t1+1)*2^s*18446744073709551616^(n-1) by ac_rfl] at e3;omega
 have j6:0<V:=by rw[hV];exact EL b8 b9
 have f8:D<V*18446744073709551616^(m-n+1):=by
  rw[hD,hV];exact zsG q_e h7 M q_o i5
 -- the divisor's first digit is large
 have f7:9223372036854775808<=V/18446744073709551616^(n-1):=by
  rw[CF (AP q_e),hV];have e1:t1*18446744073709551616^(n-1)<=o:=by rw[N];exact DN _ _
  have e2:=AN (2^s) e1;have e3:9223372036854775808<=t1*2^s:=by
   have:=AN (2^s) k1;rw[<-As,show k-1+s=63 by omega] at this;exact this
  have e4:=AN (18446744073709551616^(n-1)) e3;rw[show t1*2^s*18446744073709551616^(n-1)=t1*18446744073709551616^(n-1)*2^s by ac_rfl] at e4;omega
 have T:decide ((m:Int)<(n:Int))=false:=q_f;have e0:decide ((n:Int)=1)=false:=q_f;have d8:IntKind.i64.wrap ((n:Int)-1)=((n-1:Nat):Int):=q_w;repeat' (first|refine s_0 ?_|refine zg 0 ?_;refine zi ?_;intro _;refine zi ?_;intro _;refine zi ?_;intro _;refine zi ?_;intro _|refine z5 (id:=1) 3 [[],[0],[],[0,1,2],[0,1,2,3],[0,1,2,3,4]] mixed ?_ ?_;kernel_rfl;refine q_D (ze (B:=zf o)) ?_;refine q_D (za (hc:=q_c h1)) ?_;refine q_D (ze (B:=zf d)) ?_;refine zam ?_;refine q_v (za (hc:=q_c h2)) ?_;refine zB ?_;refine zB ?_|refine q_k 2 ?_;refine q_v (zl (hr:=T)) ?_|refine q_k 4 ?_;refine q_v (zaa (hr:=e0)) ?_|refine q_k 12 ?_;refine q_v (zH (hr:=d8)) ?_;refine zD ?_;refine q_v (zM (hv:=f6)) ?_;refine q_v (za (hc:=q_c c8)) ?_;refine zb ?_)
 rename_i b2 b3 I J;refine zb2 (id:=13) mixed ?_
 (refine zbY 8 8 [[],[],[0,1],[],[],[0,1,2,3,4],[],[],[0,1,2,3,4,5,6,7],[0,1,2,3,4,5,6,7,8]] [[],[],[],[],[],[],[],[],[],[]] none rfl ?_ ?_ ?_;kernel_rfl;kernel_rfl;refine q_E (ze (B:=zf d)) ?_;refine q_E zao ?_;refine q_E (za (hc:=q_c e8)) ?_;refine q_E (ze (B:=zf o)) ?_;refine q_E zao ?_;refine q_E (za (hc:=q_c e9)) ?_;try refine dh_0nE (h:=?_))
 refine zcW (R:=λ_=>zgK 330 (List.replicate 17 (.int .u64 0))) (λ_ _ _=>rfl) (λρ hρ=>FF zc8 λv L' h=>?_) (h:=?_)
 ·obtain⟨b,rfl,rfl⟩:=h;exact⟨[_],rfl,b,rfl,rfl⟩
 refine zcW (R:=λ_=>zgK 330 (List.replicate 17 (.int .u64 0))) (λ_ _ _=>rfl) (λρ hρ=>FF zc8 λv L' h=>?_) (h:=?_)
 ·obtain⟨b,rfl,rfl⟩:=h;exact⟨[_],rfl,b,rfl,rfl⟩
 refine zdI (h:=?_);rintro ρ ⟨⟨A,g1,g2⟩,⟨r,g3,g4⟩,-⟩
 (refine zb1 [[],[],[0,1],[],[],[0,1,2,3,4],[],[],[0,1,2,3,4,5,6,7],[0,1,2,3,4,5,6,7,8]] ?_ ?_;kernel_rfl)
 have k7:=zfD 17 D;have k8:=zfD 17 V;refine FI (fr':=[(11,.pointer (some ⟨r,0,none⟩)),(12,.pointer (some ⟨A,0,none⟩)),(56,.agg (wC 17 D).toArray),(59,.agg (wC 17 V).toArray),(4,.pointer (some ⟨I,0,none⟩)),(5,.pointer (some ⟨J,0,none⟩)),(6,.int .i64 n),(7,.int .i64 m),(10,.int .i64 s)])
  (L':=[.blk r 330 (List.replicate 17 (.int .u64 0)),.blk A 330 (List.replicate 17 (.int .u64 0)),.blk I 131 (List.replicate 16 (Value.int IntKind.u64 0)),.blk J 131 (List.replicate 16 (Value.int IntKind.u64 0))]) ?_ ?_ ?_
 rotate_left
 ·(repeat' (first|exact FQ|refine FX rfl ?_ ?_|rfl))
  ·exact g3
  ·exact g1
 ·show SubR _ ((ρ 7).2++((ρ 6).2++_));rw[g2,g4];exact q_h
 have c9:IntKind.i64.wrap ((m:Int)-(n:Int))=((m-n+1:Nat):Int)-1:=q_w;repeat' (first|refine s_t ?_|refine q_k 14 ?_;refine q_x (zH (hr:=c9)) ?_|(refine zW ?_;first|refine q_n (zC (B:=wC 17 D) (hv:=znD 17 D) (h1:=(zfD 17 D).symm)) ?_|refine q_n (zC (B:=wC 17 V) (hv:=znD 17 V) (h1:=(zfD 17 V).symm)) ?_|fail)|fail)
 refine zE (γ:=Nat×Nat×Nat) (λg=>[(4,.pointer (some ⟨I,0,none⟩)),(5,.pointer (some ⟨J,0,none⟩)),(6,.int .i64 n),(10,.int .i64 s),(11,.pointer (some ⟨r,0,none⟩)),(12,.pointer (some ⟨A,0,none⟩)),(13,.int .i64 ((g.1:Int)-1))])
  (λg=>[.blk r 330 (wC 17 g.2.2),.blk A 330 (wC 17 V),.blk I 131 (zf (g.2.1*18446744073709551616^g.1)),.blk J 131 (List.replicate 16 (Value.int IntKind.u64 0))])
  (λg=>g.1<=m-n+1/\OverJ V D g.1 g.2.1 g.2.2) (λg=>g.1) (m-n+1,0,D) ⟨A4 _,⟨by rw[BJ,BJ,AR],f8⟩⟩ ?_ ?_ ?_
 ·exact q_h
 ·show SubR [.blk r 330 (wC 17 D),.blk A 330 (wC 17 V),.blk I 131 (zf (0*18446744073709551616^(m-n+1))),.blk J 131 (List.replicate 16 (Value.int IntKind.u64 0))] _;rw[BJ,<-natC0];exact q_h
 rintro⟨j,Q,U⟩ ⟨hj,hJ⟩;dsimp only at hj hJ ⊢;have h6:U<=D:=by have:=hJ.eq;omega
 have c2:U<18446744073709551616^17:=Av h6 c1;have K:=zix 17 U;rcases AD j with hz|hp
 ·subst hz;have e1:=hJ.eq;have e2:=hJ.lt;rw[Ad,Af] at e1 e2;rw[Ad,Af];obtain⟨hQ,hR⟩:=ztu b8 (show Q*(o*2^s)+U=d*2^s by rw[<-hV,<-hD];exact e1) (by rw[<-hV];exact e2);rw[<-hQ];have h4:d%o<18446744073709551616^n:=AS (A7 _ b8) e5;generalize d%o=R at*;have j9:=zd Q;have j2:=zfD 17 U;have j1:IntKind.i64.wrap (64-(s:Int))=((t:Nat):Int):=q_w;have h9:decide ((0:Int)<=(((0:Nat):Int)-1))=false:=by decide
  repeat' (first|refine s_t ?_|refine q_k 15 ?_;refine q_v (zP (hr:=h9)) ?_|refine q_k 22 ?_)
  refine zE (γ:=Nat) (λi=>[(4,.pointer (some ⟨I,0,none⟩)),(5,.pointer (some ⟨J,0,none⟩)),(10,.int .i64 s),(11,.pointer (some ⟨r,0,none⟩)),(127,.int .i64 n),(128,.int .i64 i)])
   (λi=>[.blk r 330 (wC 17 U),.blk I 131 (zf Q),.blk J 131 (zf (R%18446744073709551616^i))])
   (λi=>i<=n) (λi=>n-i) 0 (AE _) ?_ ?_ ?_
  ·exact q_h
  ·show SubR [.blk r 330 (wC 17 U),.blk I 131 (zf Q),.blk J 131 (zf (R%18446744073709551616^0))] _;rw[Ad,Bj,<-natC0];exact q_h
  intro i hi;have i1:=zd (R%18446744073709551616^i);by_cases hin:i<n
  ·have u1:=K i q_o;have u2:=K (i+1) q_o;have b1:U/18446744073709551616^i%18446744073709551616<18446744073709551616:=A7 _ q_e;have b6:=zqO 18446744073709551616 U s t i Y.symm;have i7:=zvO (W:=18446744073709551616) (U/18446744073709551616^(i+1)%18446744073709551616) (U/18446744073709551616^i%18446744073709551616) s t Y b1;rw[hR,<-i7] at b6;have G:=zd5 (R%18446744073709551616^i) i (R/18446744073709551616^i%18446744073709551616);rw[Al (A7 R (AP q_e)),CC,AR,<-zby,b6] at G;have G:=G (by rw[<-b6];exact A7 _ q_e);generalize U/18446744073709551616^i%18446744073709551616=y0,U/18446744073709551616^(i+1)%18446744073709551616=y1 at*;have j3:y0/2^s<18446744073709551616:=Av (Bv _ _) b1;repeat' (first|refine s_t ?_|refine zg 23 ?_;refine zR ?_|refine q_k 24 ?_|refine z5 (id:=25) 14 [[],[],[1],[1,2],[],[1,2,3,4],[],[6],[6,7],[6,7,8],[],[10],[6,7,8,9,10,11],[1,2,3,4,5,6,7,8,9,10,11,12],[0,1,2,3,4,5,6,7,8,9,10,11,12,13],[0,1,2,3,4,5,6,7,8,9,10,11,12,13,14]] mixed ?_ ?_;kernel_rfl;refine zt ?_;refine zt ?_;refine zT ?_;refine q_D (zM (hv:=u1)) ?_;refine zt ?_;refine q_D (zgG (a:=y0) (n:=s) b1) ?_;refine zt ?_;refine dc (by intro _ _;first|exact zA|exact op_addStr) (k:=?_);refine zT ?_;refine q_D (zM (hv:=u2)) ?_;refine zt ?_;refine q_D (zH (hr:=j1)) ?_;refine q_D (zgu (a:=y1) (n:=t)) ?_;refine q_D (zil (a:=y0/2^s) (b:=y1*2^t%18446744073709551616) j3 (A7 _ q_e)) ?_;refine zam ?_;refine zD ?_;refine zS ?_|refine zg 26 ?_;refine zaI ?_;refine zb ?_)
   refine zy (i+1) ?_ ?_ ?_ ?_
   ·show i+1<=n;omega
   ·show n-(i+1)<n-i;omega
   ·exact q_h
   ·show SubR [.blk r 330 (wC 17 U),.blk I 131 (zf Q),.blk J 131 (zf (R%18446744073709551616^(i+1)))] _;rw[<-G];exact q_h
  obtain rfl:i=n:=q_o;rw[A3 h4] at i1 ⊢;repeat' (first|refine s_0 ?_|refine zg 23 ?_;refine zR ?_|refine z5 (id:=27) 3 [[],[],[0],[0,1,2]] mixed ?_ ?_;kernel_rfl;refine q_D (ze (B:=zf Q)) ?_;refine q_D (ze (B:=zf R)) ?_|fail)
  refine dcn (λ_ _=>zj (n:=Q)) (k:=?_);repeat' (first|refine s_0 ?_|(refine zW ?_;first|refine q_n (zj (n:=R)) ?_|fail)|refine zam ?_|fail)
  exact zad rfl (zz (B:=zf Q) rfl (ty rfl) rfl F4 F0 (zd _).symm) (zz (B:=zf R) rfl (ty rfl) rfl F4 F0 (zd _).symm) F2 ⟨rfl,rfl⟩
 obtain⟨j,rfl⟩:∃i,j=i+1:=⟨j-1,by omega⟩;have h8:(((j+1:Nat):Int)-1)=((j:Nat):Int):=q_o;rw[h8];have c7:j+n<17:=q_o;have T:=hJ.lt;have c6:=zix 17 V;have l2:=K (j+n) q_o;have l1:=K (j+n-1) q_o;have l0:=K (j+n-2) q_o;have m1:=c6 (n-1) q_o;have m0:=c6 (n-2) q_o;have S:V/18446744073709551616^(n-1)<18446744073709551616:=by
  rw[AW (AP q_e),A8,<-AJ,show(n-1).succ=n by omega];exact E
 have c3:U/18446744073709551616^(j+n)<=V/18446744073709551616^(n-1):=by
  rw[show j+n=(j+1)+(n-1) by omega,As,<-Ak];exact Eh (BH ((AW (AP q_e)).2 T))
 have Z:U/18446744073709551616^(j+n)<18446744073709551616:=Av c3 S;have d3:=zic 18446744073709551616 U (j+n) q_o q_e Z;have d2:=zkj 18446744073709551616 V n d9 q_e E;have a9:18446744073709551616<=V/18446744073709551616^(n-2):=by
  rw[<-d2,A3 S];have:=AN 18446744073709551616 f7;omega
 have a7:=λw=>zoh (U/18446744073709551616^(j+n)%18446744073709551616) (U/18446744073709551616^(j+n-1)%18446744073709551616) (U/18446744073709551616^(j+n-2)%18446744073709551616) (V/18446744073709551616^(n-1)%18446744073709551616) (V/18446744073709551616^(n-2)%18446744073709551616) w
  (by rw[A3 Z,A3 S];exact c3) (A7 _ q_e) (A7 _ q_e) (A7 _ q_e) (A7 _ q_e) (by rw[A3 S];omega)
 rw[d3,d2] at a7;obtain⟨c0,e6,e7⟩:=zuj (W:=18446744073709551616) (u:=U/18446744073709551616^(j+n-2)) (v:=V/18446744073709551616^(n-2)) q_o q_e;generalize min (18446744073709551616-1) (U/18446744073709551616^(j+n-2)/(V/18446744073709551616^(n-2)))=q at*;obtain⟨j0,i9⟩:=zpU (b:=18446744073709551616) q_e d9 E T rfl rfl a9 c0 e6 e7;have c4:U<18446744073709551616^(j+n+1):=by
  have:=Bf E (show 0<18446744073709551616^(j+1) from AP q_e);rw[<-As,show n+(j+1)=j+n+1 by omega] at this;omega
 clear d3 d2 e6 e7 a9;generalize V/18446744073709551616^(n-2)%18446744073709551616=v0,V/18446744073709551616^(n-1)%18446744073709551616=v1,U/18446744073709551616^(j+n-2)%18446744073709551616=u0,U/18446744073709551616^(j+n-1)%18446744073709551616=u1,U/18446744073709551616^(j+n)%18446744073709551616=u2 at*;have a1:IntKind.i64.wrap ((j:Int)+(n:Int))=((j+n:Nat):Int):=q_w;have a2:IntKind.i64.wrap (((j+n:Nat):Int)-1)=((j+n-1:Nat):Int):=q_w;have a3:IntKind.i64.wrap (((j+n:Nat):Int)-2)=((j+n-2:Nat):Int):=q_w;have a4:IntKind.i64.wrap ((n:Int)-2)=((n-2:Nat):Int):=q_w;have a5:IntKind.i64.wrap (((j+n:Nat):Int)+1)=((j+n+1:Nat):Int):=q_w;have a6:IntKind.i64.wrap ((j:Int)-1)=(j:Int)-1:=IntWalk.i64_in _ q_o;have j2:=zfD 17 U;repeat' (first|refine s_t ?_|refine q_k 15 ?_;refine q_v zP ?_|refine z5 (id:=17) 25 [[],[],[0,1],[0,1,2],[0,1,2,3],[],[],[5,6],[5,6,7],[5,6,7,8],[5,6,7,8,9],[],[],[11,12],[11,12,13],[11,12,13,14],[11,12,13,14,15],[],[17],[17,18],[17,18,19],[],[21],[21,22],[21,22,23],[0,1,2,3,4,5,6,7,8,9,10,11,12,13,14,15,16,17,18,19,20,21,22,23,24],[0,1,2,3,4,5,6,7,8,9,10,11,12,13,14,15,16,17,18,19,20,21,22,23,24,25]] mixed ?_ ?_;kernel_rfl;refine zt ?_;refine zt ?_;refine q_D (zA (hr:=a1)) ?_;refine zT ?_;refine q_D (zM (hv:=l2)) ?_;refine zt ?_;refine zt ?_;refine q_D (zA (hr:=a1)) ?_;refine q_D (zH (hr:=a2)) ?_;refine zT ?_;refine q_D (zM (hv:=l1)) ?_;refine zt ?_;refine zt ?_;refine q_D (zA (hr:=a1)) ?_;refine q_D (zH (hr:=a3)) ?_;refine zT ?_;refine q_D (zM (hv:=l0)) ?_;refine zt ?_;refine q_D (zH (hr:=d8)) ?_;refine zT ?_;refine q_D (zM (hv:=m1)) ?_;refine zt ?_;refine q_D (zH (hr:=a4)) ?_;refine zT ?_;refine q_D (zM (hv:=m0)) ?_;refine zam ?_;refine q_v (za (hc:=q_c a7)) ?_;refine zB ?_|refine z5 (id:=18) 14 [[],[],[],[1,2],[1,2,3],[],[],[5,6],[5,6,7],[0,1,2,3,4,5,6,7,8],[],[],[10,11],[],[0,1,2,3,4,5,6,7,8,9,10,11,12,13]] mixed ?_ ?_;kernel_rfl;refine zt ?_;refine zt ?_;refine zt ?_;refine q_D (zA (hr:=a1)) ?_;refine q_D (zA (hr:=a5)) ?_;refine zt ?_;refine zt ?_;refine q_D (zA (hr:=a1)) ?_;refine q_D (zA (hr:=a5)) ?_;refine q_D (zcZ (l:=j) (h:=j+n+1) (m:=j+n+1) (n':=n+1) (c':=n+1)) ?_;refine zt ?_;refine zt ?_;refine q_D (zcZ (l:=0) (h:=n) (m:=n) (n':=n) (c':=n)) ?_;refine zt ?_;refine zam ?_|fail)
 have h3:Q*18446744073709551616^(j+1)/18446744073709551616^j%18446744073709551616=0:=by
  rw[AJ,A8 (18446744073709551616^j),<-Ao,CJ _ (AP q_e)];exact EV _ _
 have a8:∀P,P<18446744073709551616->(zf (Q*18446744073709551616^(j+1))).set j (nv P)=zf ((Q*18446744073709551616+P)*18446744073709551616^j):=λP h=>by
  have hs:=zd5 (Q*18446744073709551616^(j+1)) j P;rw[h3,AR] at hs;rw[hs h,AM,AJ,A8 (18446744073709551616^j),<-Ao]
 have L:∀P H,H+P*V*18446744073709551616^j=U->H<V*18446744073709551616^j->OverJ V D j (Q*18446744073709551616+P) H:=λP H h1 h2=>⟨by
  have:=hJ.eq;rw[<-h1,AJ] at this;rw[<-this,AM,AM,show Q*18446744073709551616*18446744073709551616^j*V=Q*(18446744073709551616^j*18446744073709551616)*V by ac_rfl,show P*18446744073709551616^j*V=P*V*18446744073709551616^j by ac_rfl];omega,h2⟩
 have j8:=zd (Q*18446744073709551616^(j+1));refine q_s (zei (vs:=[.slice (some ⟨r,j,none⟩) (n+1) (n+1),.slice (some ⟨A,0,none⟩) n n,nv q]) (cap:=[]) (C:=[.blk r 330 (wC 17 U)]) (M':=λx=>x=r) (hC:=FH F1 rfl FP) (hM:=λb hb=>⟨_,AF.2 rfl,hb.symm⟩)
  (hc:=λw' X hk hh=>zn9 r A j n q U V w' ((Am.1 hh.apart).1 (.blk A 330 (wC 17 V)) q_p r rfl) c7 c2 E c0 (hh.has (by exact F5 F6)) (zp (hh.has (by exact F5 (FB F6))) F0))) ?_
 rintro _ _ ⟨R,rfl,H,dd,j7,rfl,h5,hE,F,rfl⟩;have F:=F c4;rcases(show dd=0\/dd=1 by omega) with rfl|rfl
 ·rw[BJ,BI] at hE;repeat' (first|refine s_0 ?_|refine q_k 21 ?_;refine zD ?_;refine zS ?_|refine q_k 16 ?_;refine q_x (zH (hr:=a6)) ?_)
  refine zy (j,Q*18446744073709551616+q,H) ⟨by show j<=_;omega,L q H hE (zrS (_k:=0) (_n:=0) q_e i9 hE)⟩ ?_ ?_ ?_
  ·show j<j+1;omega
  ·exact q_h
  ·show SubR [.blk r 330 (wC 17 H),.blk A 330 (wC 17 V),.blk I 131 (zf ((Q*18446744073709551616+q)*18446744073709551616^j)),.blk J 131 (List.replicate 16 (Value.int IntKind.u64 0))] _;rw[<-a8 q c0];exact q_h
 ·rw[BN] at hE;have i8:0<q:=by
   rcases AD q with h|h
   ·subst h;rw[BJ,BJ] at hE;omega
   ·exact h
  have c5:IntKind.u64.wrap ((q:Int)-1)=((q-1:Nat):Int):=by rw[IntWalk.u64_in _ q_o];omega
  have j5:=zfD 17 H;repeat' (first|refine s_0 ?_|refine q_k 19 ?_;refine q_x (zH (hr:=c5)) ?_|refine z5 (id:=20) 13 [[],[],[],[1,2],[1,2,3],[],[],[5,6],[5,6,7],[0,1,2,3,4,5,6,7,8],[],[],[10,11],[0,1,2,3,4,5,6,7,8,9,10,11,12]] mixed ?_ ?_;kernel_rfl;refine zt ?_;refine zt ?_;refine zt ?_;refine q_D (zA (hr:=a1)) ?_;refine q_D (zA (hr:=a5)) ?_;refine zt ?_;refine zt ?_;refine q_D (zA (hr:=a1)) ?_;refine q_D (zA (hr:=a5)) ?_;refine q_D (zcZ (l:=j) (h:=j+n+1) (m:=j+n+1) (n':=n+1) (c':=n+1)) ?_;refine zt ?_;refine zt ?_;refine q_D (zcZ (l:=0) (h:=n) (m:=n) (n':=n) (c':=n)) ?_;refine zam ?_|fail)
  refine q_s (zei (vs:=[.slice (some ⟨r,j,none⟩) (n+1) (n+1),.slice (some ⟨A,0,none⟩) n n]) (cap:=[]) (C:=[.blk r 330 (wC 17 H)]) (M':=λx=>x=r) (hC:=FH F1 rfl FP) (hM:=λb hb=>⟨_,AF.2 rfl,hb.symm⟩)
   (hc:=λw' X hk hh=>zpH r A j n H V w' ((Am.1 hh.apart).1 (.blk A 330 (wC 17 V)) q_p r rfl) c7 h5 E (hh.has (by exact F5 F6)) (zp (hh.has (by exact F5 (FB F6))) F0))) ?_
  rintro _ _ ⟨R,rfl,b0,kk,rfl,j4,f9,b7,rfl⟩;have b7:=b7 F;obtain⟨f1,f2⟩:=zrw (b:=18446744073709551616) q_e E i8 j0 hE F f9 b7;repeat' (first|refine s_0 ?_|refine q_k 21 ?_;refine zD ?_;refine zS ?_|refine q_k 16 ?_;refine q_x (zH (hr:=a6)) ?_)
  refine zy (j,Q*18446744073709551616+(q-1),b0) ⟨by show j<=_;omega,L (q-1) b0 f1 f2⟩ ?_ ?_ ?_
  ·show j<j+1;omega
  ·exact q_h
  ·show SubR [.blk r 330 (wC 17 b0),.blk A 330 (wC 17 V),.blk I 131 (zf ((Q*18446744073709551616+(q-1))*18446744073709551616^j)),.blk J 131 (List.replicate 16 (Value.int IntKind.u64 0))] _;rw[<-a8 (q-1) q_o];exact q_h
theorem zut(d o:Nat)(w:World)(r:d<18446744073709551616^16)(C:o<18446744073709551616^16)(h0:0<o):
  q_G 320 [zm d,zm o] w (.tuple #[zm (d/o),zm (d%o)]):=by
 have E:=zaE 18446744073709551616 d q_e;have A:=(zdi 18446744073709551616 q_e o).2;have j:=zaE 18446744073709551616 o q_e;have t:0<nd 18446744073709551616 o:=by
  rcases AD (nd 18446744073709551616 o) with h|h
  ·rw[h,Ad] at j;omega
  ·exact h
 rcases AH (nd 18446744073709551616 d) (nd 18446744073709551616 o) with h|h
 ·have m:d<o:=by
   have:=A t;have F:=AA (n:=18446744073709551616) q_e (show nd 18446744073709551616 d<=nd 18446744073709551616 o-1 by omega);omega
  rw[Al m,A3 m];exact zqE d o w r C h
 ·rcases AH (nd 18446744073709551616 o) 2 with q|q
  ·have q:nd 18446744073709551616 o=1:=q_o;rw[q,Ej] at j;refine zsv d o w r j h0 ?_;rcases AD d with B|B
   ·subst B;rw[zbv] at h;omega
   ·exact B
  ·exact zrf d o w r C q h
theorem zru(d o:Nat)(w:World)(A:d<18446744073709551616^16)(m:o<18446744073709551616^16)(h0:0<o):
  q_G 290 [zm d,zm o] w (.tuple #[zm (d/o),zm (d%o),.int .i64 0]):=by
 refine zo Tryz.func290 Tryz.ntmps290 ?_;have C:=zd d;have E:=zd o;have t:=λw=>zc6 o w m;simp only[decide_eq_false (show ¬o=0 by omega)] at t;have j:=λw=>zut d o w A m h0;have F:=zd (d/o);have G:=zd (d%o);generalize d%o=r,d/o=q at*;repeat' (first|refine s_0 ?_|refine zg 0 ?_;refine zi ?_;intro _;refine zi ?_;intro _;refine zi ?_;intro _;refine zV ?_;intro _|refine zg 1 ?_;refine q_v (ze (B:=zf o)) ?_;refine q_v (za (hc:=q_c t)) ?_|refine q_k 3 ?_;refine q_x (ze (B:=zf d)) ?_;refine q_v (ze (B:=zf o)) ?_;refine q_v (za (hc:=q_c j)) ?_;refine zb ?_;refine q_y (zj (n:=q)) ?_;refine q_n (zj (n:=r)) ?_|refine z5 (id:=4) 3 [[],[],[0],[0,1,2],[0,1,2,3]] mixed ?_ ?_;kernel_rfl;refine q_D (ze (B:=zf q)) ?_;refine q_D (ze (B:=zf r)) ?_|fail)
 refine dcn (λ_ _=>zj (n:=q)) (k:=?_);repeat' (first|refine s_0 ?_|(refine zW ?_;first|refine q_n (zj (n:=r)) ?_|refine zB ?_|fail)|refine zam ?_|fail)
 exact zxj rfl (zz (B:=zf q) rfl (ty rfl) rfl F4 F0 (zd _).symm) (zz (B:=zf r) rfl (ty rfl) rfl F4 F0 (zd _).symm) (zr rfl) F2 ⟨rfl,rfl⟩
end Go.Proofs.YtdnlngbjpdbffaaGreatDoor
