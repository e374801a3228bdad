/- Lemmas. -/
import Derived.Test.YtdnlngbjpdbffaaGreatDoorZJ13
set_option maxHeartbeats 2000000
set_option maxRecDepth 10000
set_option linter.all false
namespace Go.Nt
open Go Go.Sy
theorem zmx(b d o i:Nat)(B:0<o):d/b^i/o=d/b^(i+1)/o*b+(d/b^(i+1)%o*b+d/b^i%b)/o/\d/b^i%o=(d/b^(i+1)%o*b+d/b^i%b)%o:=by
 have j:=Ad (d/b^i) b;rw[Aq,<-AN] at j;rw[Dl] at j;generalize d/b^i%b=e,d/b^(i+1)=A at*;have m:=Ad A o;generalize A%o=r,A/o=q at*;have w:d/b^i=o*(q*b)+(r*b+e):=by
  rw[<-j,<-m,CZ,AM b r,show b*(o*q)=o*(q*b) by ac_rfl,BK]
 rw[w];exact⟨Ck B _ _,ES _ _ _⟩
end Go.Nt
namespace Go.Proofs.YtdnlngbjpdbffaaGreatDoor
open Go Go.Sy Go.Nt Go.RowKit
attribute [local irreducible] Sy SyL SyX Sy.Fn callFunc zg
theorem zs5(d o:Nat)(w:World)(q:d<18446744073709551616^16)(G:o<18446744073709551616^16)(hn:nd 18446744073709551616 d<nd 18446744073709551616 o):
  q_G 320 [zu d,zu o] w (.tuple #[zu 0,zu d]):=by
 refine zt Tryz.func320 Tryz.ntmps320 ?_;have E:=zd d;have F:=zd o;have r:=λw=>zcS o w G;have A:=λw=>zcS d w q;have H:=zbj 18446744073709551616 d 16 q_e q;generalize nd 18446744073709551616 d=m,nd 18446744073709551616 o=n at*;have j:decide ((m:Int)<(n:Int))=true:=q_d;repeat' (first|refine s_0 ?_|refine zf 0 ?_;refine zk ?_;intro _;refine zk ?_;intro _;refine zk ?_;intro _;refine zk ?_;intro _|refine zai (id:=1) 3 [[],[0],[],[0,1,2],[0,1,2,3],[0,1,2,3,4]] mixed ?_ ?_;kernel_rfl;refine q_D (ze (B:=zg o)) ?_;refine q_D (za (hc:=q_c r)) ?_;refine q_D (ze (B:=zg d)) ?_;refine zaF ?_;refine q_v (za (hc:=q_c A)) ?_;refine zw ?_;refine zw ?_|refine q_k 2 ?_;refine q_v (zn (hr:=j)) ?_|refine zai (id:=3) 3 [[],[],[0],[0,1,2]] mixed ?_ ?_;kernel_rfl;refine dc (by intro _ _;first|exact zmu|exact zg8|exact zeY rfl (ty rfl) (.inl ⟨rfl,rfl⟩) (zc rfl)|exact zeY rfl (ty rfl) (.inr ⟨_,_,_,rfl,ty rfl⟩) (zc rfl)) (k:=?_);refine q_D (ze (B:=zg d)) ?_|fail)
 refine dcn (λ_ _=>zG (B:=List.replicate 16 (Value.int IntKind.u64 0))) (k:=?_);repeat' (first|refine s_0 ?_|(refine zx ?_;first|refine q_n (zl (n:=d)) ?_|fail)|refine zaF ?_|fail)
 exact zU rfl (zE (B:=List.replicate 16 (Value.int IntKind.u64 0)) rfl (ty rfl) rfl Ey Ex rfl) (zE (B:=zg d) rfl (ty rfl) rfl Ey Ex (zd _).symm) Ev ⟨by rw[<-zfw];rfl,rfl⟩
theorem zvc(d o:Nat)(w:World)(hd:d<18446744073709551616^16)(M:o<18446744073709551616)(h0:0<o)(b0:0<d):
  q_G 320 [zu d,zu o] w (.tuple #[zu (d/o),zu (d%o)]):=by
 refine zt Tryz.func320 Tryz.ntmps320 ?_;have b6:=zd d;have b7:=zd o;have N:o<18446744073709551616^16:=AK M (Nat.le_self_pow q_e _);have Z:nd 18446744073709551616 o=1:=zcD _ _ _ q_e (by rw[Ec];exact M) (λ_=>by rw[C7,Ao];exact h0);have h1:=λw=>zcS o w N;have h2:=λw=>zcS d w hd;rw[Z] at h1;have hm:=zbj 18446744073709551616 d 16 q_e hd;have J:=zaV 18446744073709551616 d q_e;generalize nd 18446744073709551616 d=m at*;have c0:0<m:=by
  rcases AE m with h|h
  ·subst h;rw[Ao] at J;omega
  ·exact h
 have U:=zbO d;have K:=zbO o 0 q_e;rw[Ao,CH,A9 M] at K;have W:decide ((m:Int)<((1:Nat):Int))=false:=q_f;have a8:IntKind.i64.wrap ((m:Int)-1)=(m:Int)-1:=IntWalk.i64_in _ q_o;repeat' (first|refine s_t ?_|refine zf 0 ?_;refine zk ?_;intro _;refine zk ?_;intro _;refine zk ?_;intro _;refine zk ?_;intro _|refine zai (id:=1) 3 [[],[0],[],[0,1,2],[0,1,2,3],[0,1,2,3,4]] mixed ?_ ?_;kernel_rfl;refine q_D (ze (B:=zg o)) ?_;refine q_D (za (hc:=q_c h1)) ?_;refine q_D (ze (B:=zg d)) ?_;refine zaF ?_;refine q_v (za (hc:=q_c h2)) ?_;refine zw ?_;refine zw ?_|refine q_k 2 ?_;refine q_v (zn (hr:=W)) ?_|refine q_k 4 ?_;refine zaH ?_|refine q_k 5 ?_|refine q_k 6 ?_;refine q_x (zK (hr:=a8)) ?_)
 rename_i G H E F;refine zL (γ:=Nat) (λi=>[(2,.pointer (some ⟨G,0,none⟩)),(3,.pointer (some ⟨H,0,none⟩)),(4,.pointer (some ⟨E,0,none⟩)),(5,.pointer (some ⟨F,0,none⟩)),(8,nv (d/18446744073709551616^i%o)),(9,.int .i64 ((i:Int)-1))])
  (λi=>[.blk E 131 (zg (d/18446744073709551616^i/o*18446744073709551616^i)),.blk F 131 (List.replicate 16 (Value.int IntKind.u64 0)),.blk G 131 (zg d),.blk H 131 (zg o)])
  (λi=>i<=m) (λi=>i) m (A7 _) ?_ ?_ ?_
 ·rw[An J,CF];exact q_h
 ·show SubR [.blk E 131 (zg (d/18446744073709551616^m/o*18446744073709551616^m)),.blk F 131 (List.replicate 16 (Value.int IntKind.u64 0)),.blk G 131 (zg d),.blk H 131 (zg o)] _;rw[An J,EH,BF,<-natC0];exact q_h
 intro i hi;rcases AE i with hz|hp
 ·subst hz;rw[Ao,CH,Al];have b8:=zd (d/o);have hr:d%o<18446744073709551616:=Ai (AC _ h0) M;have A:=zeQ 0 0 (d%o);rw[EH,CF,Aa,Ao,Al,Aa] at A;have A:=A hr;rw[<-natC0] at A;have b9:=zd (d%o);generalize d%o=r,d/o=Q at*;repeat' (first|refine s_0 ?_|refine q_k 7 ?_;refine q_v zO ?_|refine q_k 10 ?_;refine zQ ?_;refine zP ?_)
  refine FJ (fr':=[(4,.pointer (some ⟨E,0,none⟩)),(5,.pointer (some ⟨F,0,none⟩))]) (L':=[.blk E 131 (zg Q),.blk F 131 (zg r)]) ?_ q_h (by (repeat' (first|exact Ev|apply F3;with_reducible (focus ((repeat (first|exact Eu|apply Ew));done))|apply F9;(focus ((repeat (first|exact Eu|apply Ew));done))|apply F6;(focus ((repeat (first|exact Eu|apply Ew));done))|rfl));exact A);repeat' (first|refine zai (id:=11) 3 [[],[],[0],[0,1,2]] mixed ?_ ?_;kernel_rfl;refine q_D (ze (B:=zg Q)) ?_;refine q_D (ze (B:=zg r)) ?_|fail)
  refine dcn (λ_ _=>zl (n:=Q)) (k:=?_);repeat' (first|refine s_0 ?_|(refine zx ?_;first|refine q_n (zl (n:=r)) ?_|fail)|refine zaF ?_|fail)
  exact zU rfl (zE (B:=zg Q) rfl (ty rfl) rfl Ey Ex (zd _).symm) (zE (B:=zg r) rfl (ty rfl) rfl Ey Ex (zd _).symm) Ev ⟨rfl,rfl⟩
 ·obtain⟨i,rfl⟩:∃j,i=j+1:=⟨i-1,by omega⟩;have V:(((i+1:Nat):Int)-1)=((i:Nat):Int):=q_o;have a9:IntKind.i64.wrap ((i:Int)-1)=(i:Int)-1:=IntWalk.i64_in _ q_o;obtain⟨e1,e2⟩:=zmx 18446744073709551616 d o i h0;have T:=U i q_o;have L:=AC (d/18446744073709551616^(i+1)) h0;have S:d/18446744073709551616^i%18446744073709551616<18446744073709551616:=AC _ q_e;have A:=zeQ (d/18446744073709551616^(i+1)/o*18446744073709551616^(i+1)) i;have b1:=zd (d/18446744073709551616^(i+1)/o*18446744073709551616^(i+1));have hz:d/18446744073709551616^(i+1)/o*18446744073709551616^(i+1)/18446744073709551616^i%18446744073709551616=0:=by
   rw[AN,AM (18446744073709551616^i),<-B8,Ci _ (AU q_e)];exact ED _ _
  rw[hz] at A;have A:=A ((d/18446744073709551616^(i+1)%o*18446744073709551616+d/18446744073709551616^i%18446744073709551616)/o);have O:d/18446744073709551616^i/o*18446744073709551616^i=d/18446744073709551616^(i+1)/o*18446744073709551616^(i+1)+(d/18446744073709551616^(i+1)%o*18446744073709551616+d/18446744073709551616^i%18446744073709551616)/o*18446744073709551616^i:=by
   rw[e1,B5,AN,AM (18446744073709551616^i),<-B8]
  rw[Aa,<-O] at A;have a6:(d/18446744073709551616^(i+1)%o*18446744073709551616+d/18446744073709551616^i%18446744073709551616)/o<18446744073709551616:=(AZ h0).2 (by
   have:=AP 18446744073709551616 (show d/18446744073709551616^(i+1)%o+1<=o from L);omega)
  have A:=A a6;have I:=λw=>zoq (d/18446744073709551616^(i+1)%o) (d/18446744073709551616^i%18446744073709551616) o w L M S;rw[V];generalize (d/18446744073709551616^(i+1)%o*18446744073709551616+d/18446744073709551616^i%18446744073709551616)/o=q,hY:d/18446744073709551616^i/o*18446744073709551616^i=Y,d/18446744073709551616^(i+1)/o*18446744073709551616^(i+1)=X at*;rw[<-e2] at I;generalize d/18446744073709551616^i%18446744073709551616=e,d/18446744073709551616^(i+1)%o=r,a7:d/18446744073709551616^i%o=r' at*;repeat' (first|refine s_t ?_|refine q_k 7 ?_;refine q_v zO ?_)
  refine zc0 (id:=9) mixed ?_
  (refine zc1 13 13 [[],[],[],[2],[2,3],[],[5],[1,2,3,4,5,6],[1,2,3,4,5,6,7],[1,2,3,4,5,6,7,8],[1,2,3,4,5,6,7,8],[0,1,2,3,4,5,6,7,8,9],[0,1,2,3,4,5,6,7,8,9,11],[0,1,2,3,4,5,6,7,8,9,10,11,12]] [[],[],[],[],[],[],[],[],[],[],[],[],[],[]] (some 12) rfl ?_ ?_ ?_;kernel_rfl;kernel_rfl;refine q_E zV ?_;refine q_E zV ?_;refine q_E zV ?_;refine zcT ?_;refine q_E (zM (hv:=T)) ?_;refine zcT ?_;refine q_E (zM (hv:=K)) ?_;refine q_E (za (hc:=q_c I)) ?_;refine q_E zV ?_;refine q_E zas ?_;refine q_E zas ?_;refine zcT ?_;try refine dh_0nE (h:=?_))
  refine zlB (R:=λ_ _ Nw=>Nw= [.blk E 131 (zg Y),.blk F 131 (List.replicate 16 (Value.int IntKind.u64 0)),.blk G 131 (zg d),.blk H 131 (zg o)]) (λ_ _ _=>rfl)
   (λρ hρ=>FM (zaO (C:=zg X) (L':=[.blk E 131 (zg Y),.blk F 131 (List.replicate 16 (Value.int IntKind.u64 0)),.blk G 131 (zg d),.blk H 131 (zg o)]) (hC:=⟨by rw[zd];omega,A.symm⟩)) λv L' h=>?_) (h:=?_)
  ·obtain⟨rfl,rfl⟩:=h;exact⟨_,(AJ _).symm,rfl⟩
  refine zfm (h:=?_);rintro ρ ⟨P,-⟩
  (refine zc2 [[],[],[],[2],[2,3],[],[5],[1,2,3,4,5,6],[1,2,3,4,5,6,7],[1,2,3,4,5,6,7,8],[1,2,3,4,5,6,7,8],[0,1,2,3,4,5,6,7,8,9],[0,1,2,3,4,5,6,7,8,9,11],[0,1,2,3,4,5,6,7,8,9,10,11,12]] ?_ ?_;kernel_rfl)
  have P:(ρ 12).2= [.blk E 131 (zg Y),.blk F 131 (List.replicate 16 (Value.int IntKind.u64 0)),.blk G 131 (zg d),.blk H 131 (zg o)]:=P;refine FL (fr':=[(43,nv r'),(2,.pointer (some ⟨G,0,none⟩)),(3,.pointer (some ⟨H,0,none⟩)),(4,.pointer (some ⟨E,0,none⟩)),(5,.pointer (some ⟨F,0,none⟩)),(9,.int .i64 i)])
   (L':=[.blk E 131 (zg Y),.blk F 131 (List.replicate 16 (Value.int IntKind.u64 0)),.blk G 131 (zg d),.blk H 131 (zg o)]) ?_ ?_ ?_
  ·repeat' (first|refine s_0 ?_|refine q_k 8 ?_;refine q_x (zK (hr:=a9)) ?_|(refine zx ?_;first|refine zw ?_|fail)|fail)
   refine zC i ?_ ?_ ?_ ?_
   ·show i<=m;omega
   ·show i<i+1;omega
   ·rw[a7];exact q_h
   ·show SubR [.blk E 131 (zg (d/18446744073709551616^i/o*18446744073709551616^i)),.blk F 131 (List.replicate 16 (Value.int IntKind.u64 0)),.blk G 131 (zg d),.blk H 131 (zg o)] _;rw[hY];exact q_h
  ·exact q_h
  ·show SubR _ ((ρ 12).2++[]);rw[P];exact q_h
end Go.Proofs.YtdnlngbjpdbffaaGreatDoor
namespace Go.Nt
open Go Go.Sy
theorem zlA(b V n:Nat)(hn:2<=n)(hb:0<b)(q:V<b^n):V/b^(n-1)%b*b+V/b^(n-2)%b=V/b^(n-2):=by
 have j:=Ad (V/b^(n-2)) b;rw[Aq,<-AN,show(n-2).succ=n-1 by omega] at j;have m:V/b^(n-1)<b:=by
  rw[AZ (AU hb),AM,<-AN,show(n-1).succ=n by omega];exact q
 rw[A9 m,AM];exact j
theorem zi2(b U k:Nat)(hk:2<=k)(hb:0<b)(q:U/b^k<b):(U/b^k%b*b+U/b^(k-1)%b)*b+U/b^(k-2)%b=U/b^(k-2):=by
 have j:=Ad (U/b^(k-1)) b;rw[Aq,<-AN,show(k-1).succ=k by omega] at j;have m:=Ad (U/b^(k-2)) b;rw[Aq,<-AN,show(k-2).succ=k-1 by omega] at m;rw[A9 q,AM (U/b^k) b,j,AM];exact m
theorem zzp{W:Nat}(a c s t:Nat)(j:2^s*2^t=W)(hc:c<W):(c/2^s ||| a*2^t%W)=c/2^s+a*2^t%W:=by
 rw[Nat.or_comm,Cz];exact zsK a _ t s (by rw[AM];exact j) ((AZ (AU q_e)).2 (by rw[AM,j];exact hc))
theorem zxV{W u v:Nat}(hv:0<v)(j:0<W):min (W-1) (u/v)<W/\min (W-1) (u/v)*v<=u/\(min (W-1) (u/v)+1=W\/u<(min (W-1) (u/v)+1)*v):=by
 rcases AG (u/v) (W-1) with h|h
 ·rw[EA q_o];exact⟨by omega,DB u v,.inr (Ed (Nat.lt_succ_self _) hv)⟩
 ·rw[BP h];exact⟨by omega,(CU hv).1 h,.inl q_o⟩
structure OverJ(V D j Q U:Nat):Prop where
 eq:Q*18446744073709551616^j*V+U=D
 lt:U<V*18446744073709551616^j
end Go.Nt
namespace Go.Proofs.YtdnlngbjpdbffaaGreatDoor
open Go Go.Sy Go.Nt Go.RowKit
attribute [local irreducible] Sy SyL SyX Sy.Fn callFunc zg wC
theorem ztc(d o:Nat)(w:World)(hd:d<18446744073709551616^16)(ho:o<18446744073709551616^16)(d9:2<=nd 18446744073709551616 o)(j0:nd 18446744073709551616 o<=nd 18446744073709551616 d):
  q_G 320 [zu d,zu o] w (.tuple #[zu (d/o),zu (d%o)]):=by
 refine zt Tryz.func320 Tryz.ntmps320 ?_;have k9:=zd d;have l3:=zd o;have h1:=λw=>zcS o w ho;have h2:=λw=>zcS d w hd;have hm:=zbj 18446744073709551616 d 16 q_e hd;have i5:=zaV 18446744073709551616 d q_e;have e5:=zaV 18446744073709551616 o q_e;have M:=(zdU 18446744073709551616 q_e o).2;generalize nd 18446744073709551616 o=n,nd 18446744073709551616 d=m at*;have M:=M q_o;have b8:0<o:=AK (AU q_e) M
 -- the divisor's first digit and how far it moves
 obtain⟨t1,N⟩:∃t1,t1=o/18446744073709551616^(n-1):=⟨_,rfl⟩;have O:t1<18446744073709551616:=by
  rw[N,AZ (AU q_e),AM,<-AN,show(n-1).succ=n by omega];exact e5
 have f8:0<t1:=by rw[N];exact DK M (AU q_e)
 have f9:=zbO o (n-1) q_o;rw[<-N,A9 O] at f9;have c8:=λw=>zqp t1 w O;obtain⟨k0,k1,k2⟩:=zhP t1 f8;have l6:=zbj 2 t1 64 q_e O;generalize nd 2 t1=k at*;obtain⟨s,hs⟩:∃s,s=64-k:=⟨_,rfl⟩;rw[<-hs] at c8;obtain⟨t,ht⟩:∃t,t=64-s:=⟨_,rfl⟩;have Y:(2:Nat)^s*2^t=18446744073709551616:=by rw[<-Ax,show s+t=64 by omega]
 have b9:0<2^s:=AU q_e;have e8:=λw=>zmH d s w hd q_o;have e9:=λw=>zmH o s w ho q_o;obtain⟨D,hD⟩:∃D,D=d*2^s:=⟨_,rfl⟩;obtain⟨V,hV⟩:∃V,V=o*2^s:=⟨_,rfl⟩;rw[<-hD] at e8;rw[<-hV] at e9;have c1:D<18446744073709551616^17:=by
  rw[hD,AN];have:2^s<=18446744073709551616:=by rw[<-Y];exact Nat.le_mul_of_pos_right _ (AU q_e)
  exact AK (Bb hd b9) (CP _ this)
 have E:V<18446744073709551616^n:=by
  have e1:o<(t1+1)*18446744073709551616^(n-1):=by
   rw[N];exact Ed (Nat.lt_succ_self _) (AU q_e)
  have e2:(t1+1)*2^s<=18446744073709551616:=by
   rw[<-Y,AM (2^s),show t=k by omega];exact AP _ k2
  rw[hV];have e3:=Bb e1 b9;have e4:=AP (18446744073709551616^(n-1)) e2;rw[AM 18446744073709551616,<-AN,show(n-1).succ=n by omega] at e4;rw[show(t1+1)*18446744073709551616^(n-1)*2^s=(t1+1)*2^s*18446744073709551616^(n-1) by ac_rfl] at e3;omega
 have k5:0<V:=by rw[hV];exact EY b8 b9
 have h4:D<V*18446744073709551616^(m-n+1):=by
  rw[hD,hV];exact zvW q_e i5 M q_o j0
 -- the divisor's first digit is large
 have h3:9223372036854775808<=V/18446744073709551616^(n-1):=by
  rw[CU (AU q_e),hV];have e1:t1*18446744073709551616^(n-1)<=o:=by rw[N];exact DB _ _
  have e2:=AP (2^s) e1;have e3:9223372036854775808<=t1*2^s:=by
   have:=AP (2^s) k1;rw[<-Ax,show k-1+s=63 by omega] at this;exact this
  have e4:=AP (18446744073709551616^(n-1)) e3;rw[show t1*2^s*18446744073709551616^(n-1)=t1*18446744073709551616^(n-1)*2^s by ac_rfl] at e4;omega
 have T:decide ((m:Int)<(n:Int))=false:=q_f;have e0:decide ((n:Int)=1)=false:=q_f;have d8:IntKind.i64.wrap ((n:Int)-1)=((n-1:Nat):Int):=q_w;repeat' (first|refine s_0 ?_|refine zf 0 ?_;refine zk ?_;intro _;refine zk ?_;intro _;refine zk ?_;intro _;refine zk ?_;intro _|refine zai (id:=1) 3 [[],[0],[],[0,1,2],[0,1,2,3],[0,1,2,3,4]] mixed ?_ ?_;kernel_rfl;refine q_D (ze (B:=zg o)) ?_;refine q_D (za (hc:=q_c h1)) ?_;refine q_D (ze (B:=zg d)) ?_;refine zaF ?_;refine q_v (za (hc:=q_c h2)) ?_;refine zw ?_;refine zw ?_|refine q_k 2 ?_;refine q_v (zn (hr:=T)) ?_|refine q_k 4 ?_;refine q_v (zS (hr:=e0)) ?_|refine q_k 12 ?_;refine q_v (zK (hr:=d8)) ?_;refine zQ ?_;refine q_v (zM (hv:=f9)) ?_;refine q_v (za (hc:=q_c c8)) ?_;refine zb ?_)
 rename_i b2 b3 I J;refine zc0 (id:=13) mixed ?_
 (refine zc1 8 8 [[],[],[0,1],[],[],[0,1,2,3,4],[],[],[0,1,2,3,4,5,6,7],[0,1,2,3,4,5,6,7,8]] [[],[],[],[],[],[],[],[],[],[]] none rfl ?_ ?_ ?_;kernel_rfl;kernel_rfl;refine q_E (ze (B:=zg d)) ?_;refine q_E zV ?_;refine q_E (za (hc:=q_c e8)) ?_;refine q_E (ze (B:=zg o)) ?_;refine q_E zV ?_;refine q_E (za (hc:=q_c e9)) ?_;try refine dh_0nE (h:=?_))
 refine zfX (R:=λ_=>zj5 330 (List.replicate 17 (.int .u64 0))) (λ_ _ _=>rfl) (λρ hρ=>FM zeR λv L' h=>?_) (h:=?_)
 ·obtain⟨b,rfl,rfl⟩:=h;exact⟨[_],rfl,b,rfl,rfl⟩
 refine zfX (R:=λ_=>zj5 330 (List.replicate 17 (.int .u64 0))) (λ_ _ _=>rfl) (λρ hρ=>FM zeR λv L' h=>?_) (h:=?_)
 ·obtain⟨b,rfl,rfl⟩:=h;exact⟨[_],rfl,b,rfl,rfl⟩
 refine zfm (h:=?_);rintro ρ ⟨⟨A,g1,g2⟩,⟨r,g3,g4⟩,-⟩
 (refine zc2 [[],[],[0,1],[],[],[0,1,2,3,4],[],[],[0,1,2,3,4,5,6,7],[0,1,2,3,4,5,6,7,8]] ?_ ?_;kernel_rfl)
 have l4:=zgl 17 D;have l5:=zgl 17 V;refine FL (fr':=[(11,.pointer (some ⟨r,0,none⟩)),(12,.pointer (some ⟨A,0,none⟩)),(56,.agg (wC 17 D).toArray),(59,.agg (wC 17 V).toArray),(4,.pointer (some ⟨I,0,none⟩)),(5,.pointer (some ⟨J,0,none⟩)),(6,.int .i64 n),(7,.int .i64 m),(10,.int .i64 s)])
  (L':=[.blk r 330 (List.replicate 17 (.int .u64 0)),.blk A 330 (List.replicate 17 (.int .u64 0)),.blk I 131 (List.replicate 16 (Value.int IntKind.u64 0)),.blk J 131 (List.replicate 16 (Value.int IntKind.u64 0))]) ?_ ?_ ?_
 rotate_left
 ·(repeat' (first|exact GZ|refine Fb rfl ?_ ?_|rfl))
  ·exact g3
  ·exact g1
 ·show SubR _ ((ρ 7).2++((ρ 6).2++_));rw[g2,g4];exact q_h
 have c9:IntKind.i64.wrap ((m:Int)-(n:Int))=((m-n+1:Nat):Int)-1:=q_w;repeat' (first|refine s_t ?_|refine q_k 14 ?_;refine q_x (zK (hr:=c9)) ?_|(refine zx ?_;first|refine q_n (zG (B:=wC 17 D) (hv:=zo5 17 D) (h1:=(zgl 17 D).symm)) ?_|refine q_n (zG (B:=wC 17 V) (hv:=zo5 17 V) (h1:=(zgl 17 V).symm)) ?_|fail)|fail)
 refine zL (γ:=Nat×Nat×Nat) (λg=>[(4,.pointer (some ⟨I,0,none⟩)),(5,.pointer (some ⟨J,0,none⟩)),(6,.int .i64 n),(10,.int .i64 s),(11,.pointer (some ⟨r,0,none⟩)),(12,.pointer (some ⟨A,0,none⟩)),(13,.int .i64 ((g.1:Int)-1))])
  (λg=>[.blk r 330 (wC 17 g.2.2),.blk A 330 (wC 17 V),.blk I 131 (zg (g.2.1*18446744073709551616^g.1)),.blk J 131 (List.replicate 16 (Value.int IntKind.u64 0))])
  (λg=>g.1<=m-n+1/\OverJ V D g.1 g.2.1 g.2.2) (λg=>g.1) (m-n+1,0,D) ⟨A7 _,⟨by rw[BF,BF,Aa],h4⟩⟩ ?_ ?_ ?_
 ·exact q_h
 ·show SubR [.blk r 330 (wC 17 D),.blk A 330 (wC 17 V),.blk I 131 (zg (0*18446744073709551616^(m-n+1))),.blk J 131 (List.replicate 16 (Value.int IntKind.u64 0))] _;rw[BF,<-natC0];exact q_h
 rintro⟨j,Q,U⟩ ⟨hj,hJ⟩;dsimp only at hj hJ ⊢;have h9:U<=D:=by have:=hJ.eq;omega
 have c2:U<18446744073709551616^17:=B3 h9 c1;have K:=zjv 17 U;rcases AE j with hz|hp
 ·subst hz;have e1:=hJ.eq;have e2:=hJ.lt;rw[Ao,Al] at e1 e2;rw[Ao,Al];obtain⟨hQ,hR⟩:=zup b8 (show Q*(o*2^s)+U=d*2^s by rw[<-hV,<-hD];exact e1) (by rw[<-hV];exact e2);rw[<-hQ];have h7:d%o<18446744073709551616^n:=Ai (AC _ b8) e5;generalize d%o=R at*;have k8:=zd Q;have j6:=zgl 17 U;have j5:IntKind.i64.wrap (64-(s:Int))=((t:Nat):Int):=q_w;have i8:decide ((0:Int)<=(((0:Nat):Int)-1))=false:=by decide
  repeat' (first|refine s_t ?_|refine q_k 15 ?_;refine q_v (zO (hr:=i8)) ?_|refine q_k 22 ?_)
  refine zL (γ:=Nat) (λi=>[(4,.pointer (some ⟨I,0,none⟩)),(5,.pointer (some ⟨J,0,none⟩)),(10,.int .i64 s),(11,.pointer (some ⟨r,0,none⟩)),(127,.int .i64 n),(128,.int .i64 i)])
   (λi=>[.blk r 330 (wC 17 U),.blk I 131 (zg Q),.blk J 131 (zg (R%18446744073709551616^i))])
   (λi=>i<=n) (λi=>n-i) 0 (AA _) ?_ ?_ ?_
  ·exact q_h
  ·show SubR [.blk r 330 (wC 17 U),.blk I 131 (zg Q),.blk J 131 (zg (R%18446744073709551616^0))] _;rw[Ao,C5,<-natC0];exact q_h
  intro i hi;have i9:=zd (R%18446744073709551616^i);by_cases hin:i<n
  ·have u1:=K i q_o;have u2:=K (i+1) q_o;have b1:U/18446744073709551616^i%18446744073709551616<18446744073709551616:=AC _ q_e;have b6:=zsH 18446744073709551616 U s t i Y.symm;have j1:=zzp (W:=18446744073709551616) (U/18446744073709551616^(i+1)%18446744073709551616) (U/18446744073709551616^i%18446744073709551616) s t Y b1;rw[hR,<-j1] at b6;have G:=zeQ (R%18446744073709551616^i) i (R/18446744073709551616^i%18446744073709551616);rw[An (AC R (AU q_e)),CF,Aa,<-zbZ,b6] at G;have G:=G (by rw[<-b6];exact AC _ q_e);generalize U/18446744073709551616^i%18446744073709551616=y0,U/18446744073709551616^(i+1)%18446744073709551616=y1 at*;have j7:y0/2^s<18446744073709551616:=B3 (Bz _ _) b1;repeat' (first|refine s_t ?_|refine zf 23 ?_;refine zaf ?_|refine q_k 24 ?_|refine zai (id:=25) 14 [[],[],[1],[1,2],[],[1,2,3,4],[],[6],[6,7],[6,7,8],[],[10],[6,7,8,9,10,11],[1,2,3,4,5,6,7,8,9,10,11,12],[0,1,2,3,4,5,6,7,8,9,10,11,12,13],[0,1,2,3,4,5,6,7,8,9,10,11,12,13,14]] mixed ?_ ?_;kernel_rfl;refine zB ?_;refine zB ?_;refine zaB ?_;refine q_D (zM (hv:=u1)) ?_;refine zB ?_;refine q_D (zhp (a:=y0) (n:=s) b1) ?_;refine zB ?_;refine dc (by intro _ _;first|exact zD|exact op_addStr) (k:=?_);refine zaB ?_;refine q_D (zM (hv:=u2)) ?_;refine zB ?_;refine q_D (zK (hr:=j5)) ?_;refine q_D (zhs (a:=y1) (n:=t)) ?_;refine q_D (zjk (a:=y0/2^s) (b:=y1*2^t%18446744073709551616) j7 (AC _ q_e)) ?_;refine zaF ?_;refine zQ ?_;refine zP ?_|refine zf 26 ?_;refine zba ?_;refine zb ?_)
   refine zC (i+1) ?_ ?_ ?_ ?_
   ·show i+1<=n;omega
   ·show n-(i+1)<n-i;omega
   ·exact q_h
   ·show SubR [.blk r 330 (wC 17 U),.blk I 131 (zg Q),.blk J 131 (zg (R%18446744073709551616^(i+1)))] _;rw[<-G];exact q_h
  obtain rfl:i=n:=q_o;rw[A9 h7] at i9 ⊢;repeat' (first|refine s_0 ?_|refine zf 23 ?_;refine zaf ?_|refine zai (id:=27) 3 [[],[],[0],[0,1,2]] mixed ?_ ?_;kernel_rfl;refine q_D (ze (B:=zg Q)) ?_;refine q_D (ze (B:=zg R)) ?_|fail)
  refine dcn (λ_ _=>zl (n:=Q)) (k:=?_);repeat' (first|refine s_0 ?_|(refine zx ?_;first|refine q_n (zl (n:=R)) ?_|fail)|refine zaF ?_|fail)
  exact zU rfl (zE (B:=zg Q) rfl (ty rfl) rfl Ey Ex (zd _).symm) (zE (B:=zg R) rfl (ty rfl) rfl Ey Ex (zd _).symm) Ev ⟨rfl,rfl⟩
 obtain⟨j,rfl⟩:∃i,j=i+1:=⟨j-1,by omega⟩;have i7:(((j+1:Nat):Int)-1)=((j:Nat):Int):=q_o;rw[i7];have c7:j+n<17:=q_o;have T:=hJ.lt;have c6:=zjv 17 V;have l2:=K (j+n) q_o;have l1:=K (j+n-1) q_o;have l0:=K (j+n-2) q_o;have m1:=c6 (n-1) q_o;have m0:=c6 (n-2) q_o;have S:V/18446744073709551616^(n-1)<18446744073709551616:=by
  rw[AZ (AU q_e),AM,<-AN,show(n-1).succ=n by omega];exact E
 have c3:U/18446744073709551616^(j+n)<=V/18446744073709551616^(n-1):=by
  rw[show j+n=(j+1)+(n-1) by omega,Ax,<-Aq];exact EX (BT ((AZ (AU q_e)).2 T))
 have Z:U/18446744073709551616^(j+n)<18446744073709551616:=B3 c3 S;have d3:=zi2 18446744073709551616 U (j+n) q_o q_e Z;have d2:=zlA 18446744073709551616 V n d9 q_e E;have a9:18446744073709551616<=V/18446744073709551616^(n-2):=by
  rw[<-d2,A9 S];have:=AP 18446744073709551616 h3;omega
 have a7:=λw=>zpB (U/18446744073709551616^(j+n)%18446744073709551616) (U/18446744073709551616^(j+n-1)%18446744073709551616) (U/18446744073709551616^(j+n-2)%18446744073709551616) (V/18446744073709551616^(n-1)%18446744073709551616) (V/18446744073709551616^(n-2)%18446744073709551616) w
  (by rw[A9 Z,A9 S];exact c3) (AC _ q_e) (AC _ q_e) (AC _ q_e) (AC _ q_e) (by rw[A9 S];omega)
 rw[d3,d2] at a7;obtain⟨c0,e6,e7⟩:=zxV (W:=18446744073709551616) (u:=U/18446744073709551616^(j+n-2)) (v:=V/18446744073709551616^(n-2)) q_o q_e;generalize min (18446744073709551616-1) (U/18446744073709551616^(j+n-2)/(V/18446744073709551616^(n-2)))=q at*;obtain⟨j4,j3⟩:=zq0 (b:=18446744073709551616) q_e d9 E T rfl rfl a9 c0 e6 e7;have c4:U<18446744073709551616^(j+n+1):=by
  have:=Bb E (show 0<18446744073709551616^(j+1) from AU q_e);rw[<-Ax,show n+(j+1)=j+n+1 by omega] at this;omega
 clear d3 d2 e6 e7 a9;generalize V/18446744073709551616^(n-2)%18446744073709551616=v0,V/18446744073709551616^(n-1)%18446744073709551616=v1,U/18446744073709551616^(j+n-2)%18446744073709551616=u0,U/18446744073709551616^(j+n-1)%18446744073709551616=u1,U/18446744073709551616^(j+n)%18446744073709551616=u2 at*;have a1:IntKind.i64.wrap ((j:Int)+(n:Int))=((j+n:Nat):Int):=q_w;have a2:IntKind.i64.wrap (((j+n:Nat):Int)-1)=((j+n-1:Nat):Int):=q_w;have a3:IntKind.i64.wrap (((j+n:Nat):Int)-2)=((j+n-2:Nat):Int):=q_w;have a4:IntKind.i64.wrap ((n:Int)-2)=((n-2:Nat):Int):=q_w;have a5:IntKind.i64.wrap (((j+n:Nat):Int)+1)=((j+n+1:Nat):Int):=q_w;have a6:IntKind.i64.wrap ((j:Int)-1)=(j:Int)-1:=IntWalk.i64_in _ q_o;have j6:=zgl 17 U;repeat' (first|refine s_t ?_|refine q_k 15 ?_;refine q_v zO ?_|refine zai (id:=17) 25 [[],[],[0,1],[0,1,2],[0,1,2,3],[],[],[5,6],[5,6,7],[5,6,7,8],[5,6,7,8,9],[],[],[11,12],[11,12,13],[11,12,13,14],[11,12,13,14,15],[],[17],[17,18],[17,18,19],[],[21],[21,22],[21,22,23],[0,1,2,3,4,5,6,7,8,9,10,11,12,13,14,15,16,17,18,19,20,21,22,23,24],[0,1,2,3,4,5,6,7,8,9,10,11,12,13,14,15,16,17,18,19,20,21,22,23,24,25]] mixed ?_ ?_;kernel_rfl;refine zB ?_;refine zB ?_;refine q_D (zD (hr:=a1)) ?_;refine zaB ?_;refine q_D (zM (hv:=l2)) ?_;refine zB ?_;refine zB ?_;refine q_D (zD (hr:=a1)) ?_;refine q_D (zK (hr:=a2)) ?_;refine zaB ?_;refine q_D (zM (hv:=l1)) ?_;refine zB ?_;refine zB ?_;refine q_D (zD (hr:=a1)) ?_;refine q_D (zK (hr:=a3)) ?_;refine zaB ?_;refine q_D (zM (hv:=l0)) ?_;refine zB ?_;refine q_D (zK (hr:=d8)) ?_;refine zaB ?_;refine q_D (zM (hv:=m1)) ?_;refine zB ?_;refine q_D (zK (hr:=a4)) ?_;refine zaB ?_;refine q_D (zM (hv:=m0)) ?_;refine zaF ?_;refine q_v (za (hc:=q_c a7)) ?_;refine zw ?_|refine zai (id:=18) 14 [[],[],[],[1,2],[1,2,3],[],[],[5,6],[5,6,7],[0,1,2,3,4,5,6,7,8],[],[],[10,11],[],[0,1,2,3,4,5,6,7,8,9,10,11,12,13]] mixed ?_ ?_;kernel_rfl;refine zB ?_;refine zB ?_;refine zB ?_;refine q_D (zD (hr:=a1)) ?_;refine q_D (zD (hr:=a5)) ?_;refine zB ?_;refine zB ?_;refine q_D (zD (hr:=a1)) ?_;refine q_D (zD (hr:=a5)) ?_;refine q_D (zc4 (l:=j) (h:=j+n+1) (m:=j+n+1) (n':=n+1) (c':=n+1)) ?_;refine zB ?_;refine zB ?_;refine q_D (zc4 (l:=0) (h:=n) (m:=n) (n':=n) (c':=n)) ?_;refine zB ?_;refine zaF ?_|fail)
 have h6:Q*18446744073709551616^(j+1)/18446744073709551616^j%18446744073709551616=0:=by
  rw[AN,AM (18446744073709551616^j),<-B8,Ci _ (AU q_e)];exact ED _ _
 have a8:∀P,P<18446744073709551616->(zg (Q*18446744073709551616^(j+1))).set j (nv P)=zg ((Q*18446744073709551616+P)*18446744073709551616^j):=λP h=>by
  have hs:=zeQ (Q*18446744073709551616^(j+1)) j P;rw[h6,Aa] at hs;rw[hs h,B5,AN,AM (18446744073709551616^j),<-B8]
 have L:∀P H,H+P*V*18446744073709551616^j=U->H<V*18446744073709551616^j->OverJ V D j (Q*18446744073709551616+P) H:=λP H h1 h2=>⟨by
  have:=hJ.eq;rw[<-h1,AN] at this;rw[<-this,B5,B5,show Q*18446744073709551616*18446744073709551616^j*V=Q*(18446744073709551616^j*18446744073709551616)*V by ac_rfl,show P*18446744073709551616^j*V=P*V*18446744073709551616^j by ac_rfl];omega,h2⟩
 have k7:=zd (Q*18446744073709551616^(j+1));refine q_s (zeq (vs:=[.slice (some ⟨r,j,none⟩) (n+1) (n+1),.slice (some ⟨A,0,none⟩) n n,nv q]) (cap:=[]) (C:=[.blk r 330 (wC 17 U)]) (M':=λx=>x=r) (hC:=F0 Eu rfl F2) (hM:=λb hb=>⟨_,AD.2 rfl,hb.symm⟩)
  (hc:=λw' X hk hh=>zpW r A j n q U V w' ((Ah.1 hh.apart).1 (.blk A 330 (wC 17 V)) q_p r rfl) c7 c2 E c0 (hh.has (by exact F1 F5)) (zp (hh.has (by exact F1 (F8 F5))) Ex))) ?_
 rintro _ _ ⟨R,rfl,H,dd,k6,rfl,h8,hE,F,rfl⟩;have F:=F c4;rcases(show dd=0\/dd=1 by omega) with rfl|rfl
 ·rw[BF,BZ] at hE;repeat' (first|refine s_0 ?_|refine q_k 21 ?_;refine zQ ?_;refine zP ?_|refine q_k 16 ?_;refine q_x (zK (hr:=a6)) ?_)
  refine zC (j,Q*18446744073709551616+q,H) ⟨by show j<=_;omega,L q H hE (zsL (_k:=0) (_n:=0) q_e j3 hE)⟩ ?_ ?_ ?_
  ·show j<j+1;omega
  ·exact q_h
  ·show SubR [.blk r 330 (wC 17 H),.blk A 330 (wC 17 V),.blk I 131 (zg ((Q*18446744073709551616+q)*18446744073709551616^j)),.blk J 131 (List.replicate 16 (Value.int IntKind.u64 0))] _;rw[<-a8 q c0];exact q_h
 ·rw[Bu] at hE;have j2:0<q:=by
   rcases AE q with h|h
   ·subst h;rw[BF,BF] at hE;omega
   ·exact h
  have c5:IntKind.u64.wrap ((q:Int)-1)=((q-1:Nat):Int):=by rw[IntWalk.u64_in _ q_o];omega
  have j9:=zgl 17 H;repeat' (first|refine s_0 ?_|refine q_k 19 ?_;refine q_x (zK (hr:=c5)) ?_|refine zai (id:=20) 13 [[],[],[],[1,2],[1,2,3],[],[],[5,6],[5,6,7],[0,1,2,3,4,5,6,7,8],[],[],[10,11],[0,1,2,3,4,5,6,7,8,9,10,11,12]] mixed ?_ ?_;kernel_rfl;refine zB ?_;refine zB ?_;refine zB ?_;refine q_D (zD (hr:=a1)) ?_;refine q_D (zD (hr:=a5)) ?_;refine zB ?_;refine zB ?_;refine q_D (zD (hr:=a1)) ?_;refine q_D (zD (hr:=a5)) ?_;refine q_D (zc4 (l:=j) (h:=j+n+1) (m:=j+n+1) (n':=n+1) (c':=n+1)) ?_;refine zB ?_;refine zB ?_;refine q_D (zc4 (l:=0) (h:=n) (m:=n) (n':=n) (c':=n)) ?_;refine zaF ?_|fail)
  refine q_s (zeq (vs:=[.slice (some ⟨r,j,none⟩) (n+1) (n+1),.slice (some ⟨A,0,none⟩) n n]) (cap:=[]) (C:=[.blk r 330 (wC 17 H)]) (M':=λx=>x=r) (hC:=F0 Eu rfl F2) (hM:=λb hb=>⟨_,AD.2 rfl,hb.symm⟩)
   (hc:=λw' X hk hh=>zrp r A j n H V w' ((Ah.1 hh.apart).1 (.blk A 330 (wC 17 V)) q_p r rfl) c7 h8 E (hh.has (by exact F1 F5)) (zp (hh.has (by exact F1 (F8 F5))) Ex))) ?_
  rintro _ _ ⟨R,rfl,b0,kk,rfl,j8,h5,b7,rfl⟩;have b7:=b7 F;obtain⟨f1,f2⟩:=zsu (b:=18446744073709551616) q_e E j2 j4 hE F h5 b7;repeat' (first|refine s_0 ?_|refine q_k 21 ?_;refine zQ ?_;refine zP ?_|refine q_k 16 ?_;refine q_x (zK (hr:=a6)) ?_)
  refine zC (j,Q*18446744073709551616+(q-1),b0) ⟨by show j<=_;omega,L (q-1) b0 f1 f2⟩ ?_ ?_ ?_
  ·show j<j+1;omega
  ·exact q_h
  ·show SubR [.blk r 330 (wC 17 b0),.blk A 330 (wC 17 V),.blk I 131 (zg ((Q*18446744073709551616+(q-1))*18446744073709551616^j)),.blk J 131 (List.replicate 16 (Value.int IntKind.u64 0))] _;rw[<-a8 (q-1) q_o];exact q_h
theorem zyb(d o:Nat)(w:World)(r:d<18446744073709551616^16)(F:o<18446744073709551616^16)(h0:0<o):
  q_G 320 [zu d,zu o] w (.tuple #[zu (d/o),zu (d%o)]):=by
 have G:=zaV 18446744073709551616 d q_e;have B:=(zdU 18446744073709551616 q_e o).2;have j:=zaV 18446744073709551616 o q_e;have A:0<nd 18446744073709551616 o:=by
  rcases AE (nd 18446744073709551616 o) with h|h
  ·rw[h,Ao] at j;omega
  ·exact h
 rcases AG (nd 18446744073709551616 d) (nd 18446744073709551616 o) with h|h
 ·have m:d<o:=by
   have:=B A;have H:=AB (n:=18446744073709551616) q_e (show nd 18446744073709551616 d<=nd 18446744073709551616 o-1 by omega);omega
  rw[An m,A9 m];exact zs5 d o w r F h
 ·rcases AG (nd 18446744073709551616 o) 2 with q|q
  ·have q:nd 18446744073709551616 o=1:=q_o;rw[q,Ec] at j;refine zvc d o w r j h0 ?_;rcases AE d with E|E
   ·subst E;rw[zb4] at h;omega
   ·exact E
  ·exact ztc d o w r F q h
theorem zss(d o:Nat)(w:World)(E:d<18446744073709551616^16)(m:o<18446744073709551616^16)(h0:0<o):
  q_G 290 [zu d,zu o] w (.tuple #[zu (d/o),zu (d%o),.int .i64 0]):=by
 refine zt Tryz.func290 Tryz.ntmps290 ?_;have F:=zd d;have G:=zd o;have A:=λw=>zdH o w m;simp only[decide_eq_false (show ¬o=0 by omega)] at A;have j:=λw=>zyb d o w E m h0;have H:=zd (d/o);have I:=zd (d%o);generalize d%o=r,d/o=q at*;repeat' (first|refine s_0 ?_|refine zf 0 ?_;refine zk ?_;intro _;refine zk ?_;intro _;refine zk ?_;intro _;refine z9 ?_;intro _|refine zf 1 ?_;refine q_v (ze (B:=zg o)) ?_;refine q_v (za (hc:=q_c A)) ?_|refine q_k 3 ?_;refine q_x (ze (B:=zg d)) ?_;refine q_v (ze (B:=zg o)) ?_;refine q_v (za (hc:=q_c j)) ?_;refine zb ?_;refine q_y (zl (n:=q)) ?_;refine q_n (zl (n:=r)) ?_|refine zai (id:=4) 3 [[],[],[0],[0,1,2],[0,1,2,3]] mixed ?_ ?_;kernel_rfl;refine q_D (ze (B:=zg q)) ?_;refine q_D (ze (B:=zg r)) ?_|fail)
 refine dcn (λ_ _=>zl (n:=q)) (k:=?_);repeat' (first|refine s_0 ?_|(refine zx ?_;first|refine q_n (zl (n:=r)) ?_|refine zw ?_|fail)|refine zaF ?_|fail)
 exact zdd rfl (zE (B:=zg q) rfl (ty rfl) rfl Ey Ex (zd _).symm) (zE (B:=zg r) rfl (ty rfl) rfl Ey Ex (zd _).symm) (zh rfl) Ev ⟨rfl,rfl⟩
end Go.Proofs.YtdnlngbjpdbffaaGreatDoor
