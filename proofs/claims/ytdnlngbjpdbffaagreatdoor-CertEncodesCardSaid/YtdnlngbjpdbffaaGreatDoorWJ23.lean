/- Lemmas of this proof. -/
import Derived.Test.YtdnlngbjpdbffaaGreatDoorWJ22
import Derived.Test.YtdnlngbjpdbffaaGreatDoorWJ14
set_option maxHeartbeats 2000000
set_option maxRecDepth 10000
set_option linter.all false
namespace Go.Nt
open Go Go.Sy
theorem ziT:zac 0= []:=by rw[zfB];unfold cd;rw[zbZ];rfl
theorem zuY(x:Nat):(zac x).all (·.oneCell')=true:=by rw[zfB];exact zx8 _
theorem Row.none{q:Nat}{w:World}{M:Nat->Prop}{E n c s:Nat}{a:Option Addr}{xs:List Value}{L:List Res}(hh:Holds q M L w)(hL:Has L (.row (.slice a n c) E s n xs)):a=none->c=0:=by
 have j:w.ownsRow 0 E s (.slice a n c) n xs:=hh.has hL;obtain⟨B,⟨m,C⟩|⟨b,A,r,m,_,F,G,H,I,J⟩⟩:=j
 ·cases m;exact λ_=>rfl
 ·cases m;exact λh=>by cases h
theorem zlj(e r:Nat):vl 65536 (e::cd 65536 r)=r*65536+e:=by
 simp only[vl,zvR 65536 r q_e];omega
theorem zj2{e r:Nat}(he:e<65536):∀d∈e::cd 65536 r,d<65536:=by
 intro d j;rcases AS.1 j with rfl|h
 ·exact he
 ·unfold cd at h;exact zhe 65536 q_e _ _ d h
theorem zwy(e r:Nat): [iv e]++zac r=iC (e::cd 65536 r):=rfl
theorem zoq{y g:Nat}(m:g<65536):nd 65536 (y*g)<=nd 65536 y+1:=by
 refine zbc _ _ _ q_e ?_;have j:=zaS 65536 y q_e;rw[AN];rcases AD g with h|h
 ·subst h;rw[Cy];exact EX (AV q_e) q_e
 ·exact AI (Ba j h) (CL _ (BP m))
theorem zpi{b r y:Nat}(j:0<y)(h:r<y*b):r/y<b:=Dg h
theorem ztG{b r e y:Nat}(he:e<b)(hr:r<y):r*b+e<y*b:=by
 have:=AP b (show r+1<=y from hr);rw[B2,Bo] at this;omega
theorem zxQ{r y n:Nat}(hn:n=nd 65536 y)(L:0<y)(hr:r<y*65536)(H A:Nat)(hz:(2<=n->H=r/65536^(n-2)%65536)/\(n=1->H=0))(J:(2<=n->A=y/65536^(n-2)%65536)/\(n=1->A=0)):
  0<y/65536^(n-1)%65536*65536+A/\r/y<=((r/65536^n%65536*65536+r/65536^(n-1)%65536)*65536+H)/(y/65536^(n-1)%65536*65536+A):=by
 have j:=zaS 65536 y q_e;have m:=(zdR 65536 q_e y).2;rw[<-hn] at j m;have E:0<n:=by
  rcases AD n with h|h
  ·subst h;rw[An] at j;omega
  ·exact h
 have m:=m E;have q:0<65536^(n-1):=AV q_e;have K:0<y/65536^(n-1):=DI m q;have G:y/65536^(n-1)<65536:=by
  rw[AW q,AK,<-AN,show(n-1).succ=n by omega];exact j
 have F:r<65536^n*65536:=AI hr (AP _ (BP j));have w:r/65536^n<65536:=by
  rw[AW (AV q_e),AK];exact F
 rcases AF n 2 with h|h
 ·obtain rfl:n=1:=q_o;rw[hz.2 rfl,J.2 rfl];rw[C5,An,CF,Ea,CF] at*;have B:r/65536%65536*65536+r%65536=r:=by
   rw[A7 w];omega
  have C:y%65536=y:=A7 G;rw[B,C,BU,BU];exact⟨by omega,by rw[Cf _ _ (show 0<65536 by decide)];exact A6 _⟩
 ·rw[hz.1 h,J.1 h];have B:=ziV 65536 r n h q_e w;have C:=zk6 65536 y n h q_e j;rw[B,C];have I:0<y/65536^(n-2):=DI (BG (AB q_e q_o) m) (AV q_e);exact⟨I,zqO I rfl rfl q_e⟩
end Go.Nt
namespace Go.Proofs.YtdnlngbjpdbffaaGreatDoor
open Go Go.Sy Go.Nt Go.RowKit
attribute [local irreducible] Sy SyL SyX Sy.Fn callFunc zg zac iC
theorem zr4(n:Nat):∃f:Nat->Nat,(∀x,(2<=n->f x=x/65536^(n-2)%65536)/\(n=1->f x=0))/\
  ∀(a:Option Addr) (c x:Nat) (w:World),0<n->SlA w a (zac x)->q_G 231 [.slice a (nd 65536 x) c,.int .i64 ((n:Int)-2)] w (iv (f x)):=by
 rcases AF n 2 with h|h
 ·refine⟨λ_=>0,λx=>⟨λj=>absurd j q_o,λ_=>rfl⟩,λa c x w h0 m=>?_⟩;exact zr5 a _ c _ w q_o
 ·refine⟨λx=>x/65536^(n-2)%65536,λx=>⟨λ_=>rfl,λj=>absurd j q_o⟩,λa c x w h0 m=>?_⟩;have e:(n:Int)-2=((n-2:Nat):Int):=q_o;rw[e];exact zci a c x (n-2) w m
theorem zkN(a b:Option Addr)(ca Z x y:Nat)(w:World)(ha:SlA w a (zac x))(hb:SlA w b (zac y))(hx:nd 65536 x<100000)(hy:nd 65536 y<100000)(P:0<y):
  Sy.Fn Tryz.prog 232 [.slice a (nd 65536 x) ca,.slice b (nd 65536 y) Z] w No (λv R=>∃a1 c1 a2 c2,v= .tuple #[.slice a1 (nd 65536 (x/y)) c1,.slice a2 (nd 65536 (x%y)) c2]/\
   R= [.row (.slice a1 (nd 65536 (x/y)) c1) 3 1 (nd 65536 (x/y)) (zac (x/y)),.row (.slice a2 (nd 65536 (x%y)) c2) 3 1 (nd 65536 (x%y)) (zac (x%y))]):=by
 refine zt Tryz.func232 Tryz.ntmps232 ?_;have b0:=zaS 65536 x q_e;have i5:=zh8 x;have i9:=zgO x;generalize F:nd 65536 y=n,k8:nd 65536 x=k at*;have j4:zac 0= []:=ziT;repeat' (first|refine s_t ?_|refine zD [0,1,2,3] ?_;refine zb ?_|refine q_k 4 ?_;refine q_x zI ?_|refine q_s zeD ?_;rintro _ _ ⟨Q,rfl,rfl⟩|(refine zy ?_;first|refine zw ?_|fail)|fail)
 refine zbz (za3 3 1) ?_;refine zN (γ:=Nat×Option Addr×Nat) (λg=>[(0,.slice a k ca),(1,.slice b n Z),(6,.slice g.2.1 (nd 65536 (x/65536^g.1%y)) g.2.2),(7,.slice (some ⟨Q,0,none⟩) k k),(8,.int .i64 n),(9,.int .i64 ((g.1:Int)-1))])
  (λg=>[.row (.slice g.2.1 (nd 65536 (x/65536^g.1%y)) g.2.2) 3 1 (nd 65536 (x/65536^g.1%y)) (zac (x/65536^g.1%y)),.blk Q 3 (iC (dg 65536 k (x/65536^g.1/y*65536^g.1)))])
  (λg=>g.1<=k) (λg=>g.1) (k,none,0) (A6 _) ?_ ?_ ?_
 ·dsimp only;rw[Nat.div_eq_of_lt b0,Nat.zero_mod,zbZ];exact q_h
 ·dsimp only;rw[Nat.div_eq_of_lt b0,Nat.zero_mod,Nat.zero_div,Nat.zero_mul,zbZ,zgs,<-zkA,j4];exact q_h
 rintro⟨i,a6,c6⟩ hi;dsimp only at hi ⊢;rcases AD i with h0|h0
 ·subst h0;rw[Nat.pow_zero,Nat.div_one,Nat.mul_one];have Y:∀d∈dg 65536 k (x/y),d<65536:=zhe 65536 q_e _ _;have j7:vl 65536 (dg 65536 k (x/y))=x/y:=zeA _ _ _ (B1 (Bv _ _) b0);have a8:=zcU 65536 k (x/y);have W:=λB (h:SlA B (some ⟨Q,0,none⟩) (iC (dg 65536 k (x/y))))=>zeE (some ⟨Q,0,none⟩) k k _ B a8 (A6 _) Y h q_o;repeat' (first|refine s_0 ?_|refine q_k 5 ?_;refine q_v zP ?_|refine q_k 17 ?_;refine q_v (za (hc:=λB _ _ E=>W B (.inr ⟨Q,0,rfl,zp (E.has (by exact Ey (F4 F1))) Et⟩))) ?_;refine zb ?_)
  refine zcf (zeb (n:=k) (s:=1) (Eu Es) (by rw[zhx,a8];omega) (by unfold maxLen;omega)) ?_;refine zcf (zfA Es a8 Y) ?_;rw[j7];exact zU rfl (zh rfl) (zh rfl) q_h ⟨_,_,_,_,rfl,rfl⟩
 obtain⟨i,rfl⟩:∃j,i=j+1:=⟨i-1,by omega⟩;have i7:(((i+1:Nat):Int)-1)=((i:Nat):Int):=q_o;have j6:IntKind.i64.wrap ((i:Int)-1)=(i:Int)-1:=IntWalk.i64_in _ q_o;rw[i7];obtain⟨e1,e2⟩:=zmv 65536 x y i P;have U:=zaS 65536 y q_e;rw[F] at U;have e9:=AC (x/65536^(i+1)) P;obtain⟨ba,oa,rfl,e8⟩:=zhA ha q_o;have c9:=e8 i _ (i5 i q_o);have a9:x/65536^i%65536<65536:=AC _ q_e;have j0:∀(A:Nat),(dg 65536 k A).length=k:=λA=>zcU _ _ _;generalize b9:x/65536^i%y=R',h3:x/65536^i/y=Q',x/65536^i%65536=e,x/65536^(i+1)/y=A,x/65536^(i+1)%y=r at*;obtain⟨C,V⟩:∃C,C=r*65536+e:=⟨_,rfl⟩;rw[<-V] at e1 e2;have O:C<y*65536:=by rw[V];exact ztG a9 e9
 have b8:=zpi P O;have k7:=zbc 65536 r n q_e (Ai e9 U);have k0:=zbc 65536 C (n+1) q_e (by
  rw[AN];exact AI O (AP _ (BP U)))
 refine zfu (λB E=>(Row.none E F1:a6=none->c6=0)) λj9=>?_;repeat' (first|refine s_t ?_|refine q_k 5 ?_;refine q_v zP ?_|refine q_k 7 ?_;refine zQ ?_;refine q_v (zn (hv:=c9)) ?_;(refine q_s zz ?_;rintro _ _ ⟨_,rfl,rfl⟩);refine zb ?_;(refine q_s (zb4 (k:=1) (m:=nd 65536 r) (xs:=[iv e]) (news:=zac r) (km:=1+nd 65536 r) (hn:=by rw[zgO,Ak]) (h1:=zuY r) (hkm:=rfl) (hys:=zwy e r)) ?_;rintro _ _ ⟨rfl,I,K,rfl⟩))
 refine zke (λB E=>(FJ E F1:1+nd 65536 r<=K)) λc8=>?_;have M:(e::cd 65536 r).length=1+nd 65536 r:=by rw[AQ,zi1,Cz]
 have W:=λB (h:SlA B I (iC (e::cd 65536 r)))=>zeE I (1+nd 65536 r) K (e::cd 65536 r) B M c8 (zj2 a9) h q_o;rw[zlj,<-V] at W;repeat' (first|refine s_0 ?_|(refine zy ?_;first|refine q_v (za (hc:=λB _ _ E=>W B (zas E (by exact Ey F1)))) ?_|refine zw ?_|fail)|fail)
 refine zbz (zfA Es M (zj2 a9)) ?_;rw[zlj,<-V];have b6:0<n:=by
  rcases AD n with h|h
  ·subst h;rw[An] at U;omega
  ·exact h
 obtain⟨f,S,e4⟩:=zr4 n;have e5:∀x,f x<65536:=λx=>by
  rcases AF n 2 with h|h
  ·rw[(S x).2 q_o];decide
  ·rw[(S x).1 h];exact AC _ q_e
 obtain⟨f9,J⟩:=zxQ F.symm P O (f C) (f y) (S C) (S y);have d9:=λB (h:SlA B I (zac C))=>zci I K C n B h;have e0:=λB (h:SlA B I (zac C))=>zci I K C (n-1) B h;have e3:=λB (h:SlA B I (zac C))=>e4 I K C B b6 h;have a7:=λB (T:Keep No w B)=>e4 b Z y B b6 (hb.to T (λ_ h=> .inr h)).sla;rw[F] at a7;obtain⟨bb,ob,rfl,j5⟩:=zhA hb (by rw[zgO,F];exact b6);have d8:=j5 (n-1) _ (zh8 y (n-1) (by rw[F];omega));have b1:C/65536^n%65536<65536:=AC _ q_e;have b2:C/65536^(n-1)%65536<65536:=AC _ q_e;have b3:=e5 C;have b4:=e5 y;have b5:y/65536^(n-1)%65536<65536:=AC _ q_e;generalize f y=E2,y/65536^(n-1)%65536=E1,f C=D3,C/65536^(n-1)%65536=D2,C/65536^n%65536=D1 at*;have s1:IntKind.i64.wrap ((n:Int)-1)=((n-1:Nat):Int):=q_w;have s2:IntKind.i64.wrap ((n:Int)-2)=(n:Int)-2:=IntWalk.i64_in _ q_o;obtain⟨T1,h4⟩:∃T1,T1=D1*65536:=⟨_,rfl⟩;obtain⟨T2,h5⟩:∃T2,T2=T1+D2:=⟨_,rfl⟩;obtain⟨T3,h6⟩:∃T3,T3=T2*65536:=⟨_,rfl⟩;obtain⟨T4,h7⟩:∃T4,T4=T3+D3:=⟨_,rfl⟩;obtain⟨U1,c0⟩:∃U1,U1=E1*65536:=⟨_,rfl⟩;obtain⟨U2,c7⟩:∃U2,U2=U1+E2:=⟨_,rfl⟩;rw[<-h4,<-h5,<-h6,<-h7,<-c0,<-c7] at J;rw[<-c0,<-c7] at f9;obtain⟨G,hG⟩:∃G,G=T4/U2:=⟨_,rfl⟩;rw[<-hG] at J;have m1:IntKind.i64.wrap ((D1:Int)*65536)=((T1:Nat):Int):=q_w;have m2:IntKind.i64.wrap ((T1:Int)+(D2:Int))=((T2:Nat):Int):=q_w;have m3:IntKind.i64.wrap ((T2:Int)*65536)=((T3:Nat):Int):=q_w;have m4:IntKind.i64.wrap ((T3:Int)+(D3:Int))=((T4:Nat):Int):=q_w;have m5:IntKind.i64.wrap ((E1:Int)*65536)=((U1:Nat):Int):=q_w;have m6:IntKind.i64.wrap ((U1:Int)+(E2:Int))=((U2:Nat):Int):=q_w;have m7:IntKind.i64.wrap ((T4:Int).tdiv (U2:Int))=((G:Nat):Int):=by rw[hG];exact zdn q_o
 have m8:(U2:Int)≠0:=q_o;obtain⟨g0,k5⟩:∃g0,g0=min G 65535:=⟨_,rfl⟩;have m9:min (G:Int) 65535=((g0:Nat):Int):=q_o;have e6:C/y<=g0/\g0<=65535:=by
  revert J b8
  generalize C/y=q;intro J b8;omega
 have e7:=λB=>zlb g0 B q_o;have j8:=zbc 65536 g0 1 q_e q_o;have N:=λB a2 c2 (h1:SlA B (some ⟨bb,ob,none⟩) (zac y)) (h2:SlA B a2 (zac g0))=>zpZ (some ⟨bb,ob,none⟩) a2 Z c2 y g0 B h1 h2 q_o q_o;rw[F] at N;repeat' (first|refine s_0 ?_|refine q_k 8 ?_;refine q_v (za (hc:=λB _ _ E=>d9 B (zas E (by exact Ey F1)))) ?_;refine q_x (zaJ (hr:=m1)) ?_;refine q_v (zI (hr:=s1)) ?_;refine q_v (za (hc:=λB _ _ E=>e0 B (zas E (by exact Ey F1)))) ?_;refine q_v (zF (hr:=m2)) ?_;refine q_x (zaJ (hr:=m3)) ?_;refine q_v (zI (hr:=s2)) ?_;refine q_v (za (hc:=λB _ _ E=>e3 B (zas E (by exact Ey F1)))) ?_;refine q_x (zF (hr:=m4)) ?_|refine zaj (id:=9) 10 [[],[],[1],[0,1,2],[0,1,2,3],[0,1,2,3,4],[],[],[7],[6,7,8],[0,1,2,3,4,5,6,7,8,9],[0,1,2,3,4,5,6,7,8,9,10]] mixed ?_ ?_;kernel_rfl;refine zA ?_;refine zA ?_;refine q_D (zI (hr:=s1)) ?_;refine zay ?_;refine q_D (zn (hv:=d8)) ?_;refine q_D (zaJ (hr:=m5)) ?_;refine zA ?_;refine zA ?_;refine q_D (zI (hr:=s2)) ?_;refine q_D (za (hc:=λB _ T _=>a7 B T)) ?_;refine zaB ?_;refine q_v (zF (hr:=m6)) ?_;refine zw ?_|refine q_k 10 ?_;refine q_v (zbv (hb:=m8) (hr:=m7)) ?_;refine q_x (zw1 m9) ?_|refine q_k 11 ?_;(refine q_s (zi (hc:=λB X T E=>e7 B)) ?_;rintro _ _ ⟨R,rfl,a2,c2,rfl,rfl⟩);(refine q_s (zi (hc:=λB X T E=>N B _ _ (hb.to T (λ_ h=> .inr h)).sla (zas E q_h))) ?_;rintro _ _ ⟨R,rfl,a3,c3,rfl,rfl⟩);refine zb ?_)
 refine FE (fr':=[(0,.slice (some ⟨ba,oa,none⟩) k ca),(1,.slice (some ⟨bb,ob,none⟩) n Z),(6,.slice I (nd 65536 C) K),(7,.slice (some ⟨Q,0,none⟩) k k),(8,.int .i64 n),(9,.int .i64 i),(12,.int .i64 g0),(13,.slice a3 (nd 65536 (y*g0)) c3)])
  (L':=[.row (.slice I (nd 65536 C) K) 3 1 (nd 65536 C) (zac C),.row (.slice a3 (nd 65536 (y*g0)) c3) 3 1 (nd 65536 (y*g0)) (zac (y*g0)),.blk Q 3 (iC (dg 65536 k (A*65536^(i+1))))]) ?_ q_h q_h
 have f8:(iC (dg 65536 k (A*65536^(i+1)))).set i (iv (C/y))=iC (dg 65536 k (Q'*65536^i)):=by
  have hz:A*65536^(i+1)/65536^i%65536=0:=by
   rw[AN,AK (65536^i),<-B7,Cc _ (AV q_e)];exact ED _ _
  have h:=zhR 65536 k (A*65536^(i+1)) i (C/y);rw[hz,AZ] at h;have h:=h b8;rw[e1,show(A*65536+C/y)*65536^i=A*65536^(i+1)+C/y*65536^i by rw[B2,AN,AK (65536^i),<-B7],<-h];unfold iC;rw[Bq]
 have k6:(iC (dg 65536 k (A*65536^(i+1)))).length=k:=by rw[zhx,zcU]
 clear e7 N d9 e0 e3 a7 m1 m2 m3 m4 m5 m6 m7 m8 m9 c9 d8 e8;repeat' (first|refine zeC ?_|fail)
 refine zN (γ:=Nat×Option Addr×Nat) (λg=>[(0,.slice (some ⟨ba,oa,none⟩) k ca),(1,.slice (some ⟨bb,ob,none⟩) n Z),(6,.slice I (nd 65536 C) K),(7,.slice (some ⟨Q,0,none⟩) k k),(8,.int .i64 n),(9,.int .i64 i),(12,.int .i64 g.1),(13,.slice g.2.1 (nd 65536 (y*g.1)) g.2.2)])
  (λg=>[.row (.slice I (nd 65536 C) K) 3 1 (nd 65536 C) (zac C),.row (.slice g.2.1 (nd 65536 (y*g.1)) g.2.2) 3 1 (nd 65536 (y*g.1)) (zac (y*g.1)),.blk Q 3 (iC (dg 65536 k (A*65536^(i+1))))])
  (λg=>C/y<=g.1/\g.1<=65535) (λg=>g.1) (g0,a3,c3) e6 ?_ ?_ ?_
 ·exact q_h
 ·exact q_h
 rintro⟨g,a4,c4⟩ ⟨h8,h9⟩;dsimp only at h8 h9 ⊢;have k9:0<=C/y:=A9 _;have j3:=zoq (y:=y) (g:=g) q_o;rw[F] at j3;have L:=λB (h1:SlA B a4 (zac (y*g))) (h2:SlA B I (zac C))=>zho a4 I c4 K (y*g) C B h1 h2 q_o q_o;by_cases hgo:C/y<g
 ·have j1:C<y*g:=by rw[AK];exact(AW P).1 hgo
  rw[zjJ j1] at L;obtain⟨h,rfl⟩:∃h,g=h+1:=⟨g-1,by omega⟩;have H:=λB (h1:SlA B a4 (zac (y*(h+1)))) (h2:SlA B (some ⟨bb,ob,none⟩) (zac y))=>zlD a4 (some ⟨bb,ob,none⟩) c4 Z (y*(h+1)) y B h1 h2 q_o (by rw[Dt];omega);rw[F,show y*(h+1)-y=y*h by rw[Dt,Au]] at H;have hd:IntKind.i64.wrap (((h+1:Nat):Int)-1)=((h:Nat):Int):=q_w;repeat' (first|refine s_t ?_|refine q_k 12 ?_;refine q_v (za (hc:=λB _ _ E=>L B (zas E q_h) (zas E q_h))) ?_;refine q_v zH ?_|refine q_k 13 ?_;refine q_x (zI (hr:=hd)) ?_|refine q_k 14 ?_;(refine q_s (zi (hc:=λB X T E=>H B (zas E q_h) (hb.to T (λ_ h=> .inr h)).sla)) ?_;rintro _ _ ⟨R,rfl,a5,c5,rfl,rfl⟩);refine zb ?_)
  refine zE (h,a5,c5) ⟨by show C/y<=h;omega,by show h<=65535;omega⟩ ?_ ?_ ?_
  ·show h<h+1;omega
  ·exact q_h
  ·exact q_h
 ·obtain rfl:g=C/y:=q_o;have i8:y*(C/y)<=C:=Nat.mul_div_le C y;have j2:decide ((0:Int)<zbx (y*(C/y)) C)=false:=decide_eq_false (by unfold zbx;split <;> (try split) <;> omega);generalize zbx (y*(C/y)) C=cq at*;have H:=λB (h1:SlA B I (zac C)) (h2:SlA B a4 (zac (y*(C/y))))=>zlD I a4 K c4 C (y*(C/y)) B h1 h2 q_o i8;rw[show C-y*(C/y)=R' by rw[e2,Nat.mod_def]] at H;generalize C/y=q at*;repeat' (first|refine s_0 ?_|refine q_k 12 ?_;refine q_v (za (hc:=λB _ _ E=>L B (zas E q_h) (zas E q_h))) ?_;refine q_v (zH (hr:=j2)) ?_|refine q_k 15 ?_;refine zQ ?_;refine zO ?_|refine q_k 16 ?_;(refine q_s (zi (hc:=λB X T E=>H B (zas E q_h) (zas E q_h))) ?_;rintro _ _ ⟨R,rfl,a5,c5,rfl,rfl⟩);refine zb ?_|refine q_k 6 ?_;refine q_x (zI (hr:=j6)) ?_)
  refine zE (i,a5,c5) ?_ ?_ ?_ ?_
  ·show i<=k;omega
  ·show i<i+1;omega
  ·dsimp only;rw[b9];exact q_h
  ·dsimp only;rw[b9,h3,<-f8];exact q_h
end Go.Proofs.YtdnlngbjpdbffaaGreatDoor
namespace Go.Nt
theorem zsp(b x y:Nat)(hb:2<=b):nd b (x*y)<=nd b x+nd b y:=by
 refine zbc b _ _ hb ?_;rw[Av];exact Nat.mul_lt_mul'' (zaS b x hb) (zaS b y hb)
theorem zqc(b x y:Nat)(hb:2<=b)(h:x<=y):nd b x<=nd b y:=zbc b _ _ hb (B1 h (zaS b y hb))
theorem zsV(b x m:Nat)(hb:2<=b)(h:0<m):nd b (x%m)<=nd b m:=zqc b _ _ hb (BP (AC _ h))
theorem zuo(e i:Nat):e/2^i=2*(e/2^(i+1))+e/2^i%2:=by
 have:=Aa (e/2^i) 2;rw[Ap,<-AN] at this;exact this.symm
theorem zwm(a m k:Nat):a^k%m*(a^k%m)%m=a^(2*k)%m:=by rw[<-Ec,<-Av,Ep]
theorem zsu(a m k:Nat):a^k%m*a%m=a^(k+1)%m:=by rw[ES,AN]
end Go.Nt
namespace Go.Proofs.YtdnlngbjpdbffaaGreatDoor
open Go Go.Sy Go.Nt Go.RowKit
theorem nd1:nd 65536 1=1:=zct 65536 1 1 q_e q_e (λ_=>by decide)
theorem zzN: [Value.int IntKind.i64 1]=zac 1:=by
 rw[zfB];unfold cd;rw[nd1];rfl
attribute [local irreducible] Sy SyL SyX Sy.Fn callFunc zg zac iC
theorem zlf(a b:Option Addr)(j A x m:Nat)(w:World)(ha:SlA w a (zac x))(hb:SlA w b (zac m))(hx:nd 65536 x<90000)(hm:nd 65536 m<90000)(h0:0<m):
  Sy.Fn Tryz.prog 222 [.slice a (nd 65536 x) j,.slice b (nd 65536 m) A] w No (zc0 (x%m)):=by
 refine zt Tryz.func222 Tryz.ntmps222 ?_;have E:=λC (B:Keep No w C)=>zkN a b j A x m C (ha.to B (λ_ h=> .inr h)).sla (hb.to B (λ_ h=> .inr h)).sla q_o q_o h0;unfold zc0;generalize x%m=r,x/m=q at*;repeat' (first|refine s_0 ?_|refine zD [0,2] ?_;refine zb ?_|refine q_k 1 ?_;(refine q_s (zi (hc:=zu E)) ?_;rintro _ _ ⟨R,rfl,a5,G,F,H,rfl,rfl⟩);refine zb ?_)
 exact q_r
theorem zxU(a b d:Option Addr)(A B cd x y m:Nat)(w:World)(ha:SlA w a (zac x))(hb:SlA w b (zac y))(G:SlA w d (zac m))(hx:nd 65536 x<40000)(M:nd 65536 y<40000)(hm:nd 65536 m<40000)(h0:0<m):
  Sy.Fn Tryz.prog 226 [.slice a (nd 65536 x) A,.slice b (nd 65536 y) B,.slice d (nd 65536 m) cd] w No (zc0 (x*y%m)):=by
 refine zt Tryz.func226 Tryz.ntmps226 ?_;have L:=zsp 65536 x y q_e;have E:=λj (q:Keep No w j)=>zpZ a b A B x y j (ha.to q (λ_ h=> .inr h)).sla (hb.to q (λ_ h=> .inr h)).sla q_o q_o;have F:=λj a1 C (q:Keep No w j) (h:SlA j a1 (zac (x*y)))=>zlf a1 d C cd (x*y) m j h (G.to q (λ_ h=> .inr h)).sla q_o q_o h0;generalize x*y=s at*;unfold zc0 at*;generalize s%m=r at*;repeat' (first|refine s_0 ?_|refine q_k 0 ?_|refine q_k 1 ?_;(refine q_s (zi (hc:=zu E)) ?_;rintro _ _ ⟨R,rfl,a5,J,rfl,rfl⟩);refine zb ?_;(refine q_s (zi (hc:=λj X q H=>F j _ _ q (zas H q_h))) ?_;rintro _ _ ⟨R,rfl,I,K,rfl,rfl⟩);refine zb ?_)
 exact q_r
theorem zxI(a b d:Option Addr)(U P cd x e m:Nat)(w:World)(ha:SlA w a (zac x))(hb:SlA w b (zac e))(hd:SlA w d (zac m))(hx:nd 65536 x<20000)(he:nd 65536 e<20000)(hm:nd 65536 m<20000)(h0:0<m):
  Sy.Fn Tryz.prog 233 [.slice a (nd 65536 x) U,.slice b (nd 65536 e) P,.slice d (nd 65536 m) cd] w No (zc0 (x^e%m)):=by
 refine zt Tryz.func233 Tryz.ntmps233 ?_;have Q:=λq b1 G (r:Keep No w q) (h:SlA q b1 (zac 1))=>zlf b1 d G cd 1 m q h (hd.to r (λ_ h=> .inr h)).sla (by rw[nd1];omega) q_o h0;rw[nd1,<-zzN] at Q;have V:=λq (r:Keep No w q)=>zkJ b P e q (hb.to r (λ_ h=> .inr h)).sla q_o;have W:=zaS 2 e q_e;have b3:nd 2 e<=16*nd 65536 e:=zbc 2 e _ q_e (by rw[<-znf];exact zaS 65536 e q_e);have hM:∀(q:World) a1 G a2 T u v,Keep No w q->SlA q a1 (zac u)->SlA q a2 (zac v)->nd 65536 u<20000->nd 65536 v<20000->Sy.Fn Tryz.prog 226 [.slice a1 (nd 65536 u) G,.slice a2 (nd 65536 v) T,.slice d (nd 65536 m) cd] q No (zc0 (u*v%m)):=
  λq a1 G a2 T u v r M h2 h3 h4=>zxU a1 a2 d G T cd u v m q M h2 (hd.to r (λ_ h=> .inr h)).sla q_o q_o q_o h0
 have K:∀k,nd 65536 (x^k%m)<20000:=λk=>B1 (zsV 65536 _ m q_e h0) hm;have N:=λq i (r:Keep No w q) (Y:i<9223372036854775808)=>zqo b P e i q (hb.to r (λ_ h=> .inr h)).sla Y;generalize b4:nd 2 e=L at*;have a9:IntKind.i64.wrap ((L:Int)-1)=(L:Int)-1:=IntWalk.i64_in _ q_o;have b2:1%m=x^(e/2^L)%m:=by rw[Al W,An]
 rw[b2] at Q;unfold zc0 at Q;repeat' (first|refine s_t ?_|refine q_k 0 ?_|refine zf 1 ?_;(refine q_s zz ?_;rintro _ _ ⟨_,rfl,rfl⟩);refine zb ?_;(refine q_s (zi (hc:=λq X r J=>Q q _ _ r (.inr ⟨_,0,rfl,zp (J.has (by exact Ey F1)) Et⟩))) ?_;rintro _ _ ⟨R,rfl,a6,c6,rfl,rfl⟩);refine zb ?_|refine q_k 2 ?_;refine q_v (za (hc:=zu V)) ?_;refine q_x (zI (hr:=a9)) ?_)
 refine zN (γ:=Nat×Option Addr×Nat) (λg=>[(0,.slice a (nd 65536 x) U),(1,.slice b (nd 65536 e) P),(2,.slice d (nd 65536 m) cd),(7,.slice g.2.1 (nd 65536 (x^(e/2^g.1)%m)) g.2.2),(8,.int .i64 ((g.1:Int)-1))])
  (λg=>[.row (.slice g.2.1 (nd 65536 (x^(e/2^g.1)%m)) g.2.2) 3 1 (nd 65536 (x^(e/2^g.1)%m)) (zac (x^(e/2^g.1)%m))])
  (λg=>g.1<=L) (λg=>g.1) (L,a6,c6) (A6 _) ?_ ?_ ?_
 ·exact q_h
 ·exact q_h
 rintro⟨i,S,co⟩ Y;dsimp only at Y ⊢;rcases AD i with h|h
 ·subst h;rw[Nat.pow_zero,Nat.div_one];have F:decide (((0:Nat):Int)-1>=0)=false:=q_f;repeat' (first|refine s_0 ?_|refine q_k 3 ?_;refine q_v (zP (hr:=F)) ?_|refine q_k 8 ?_)
  exact q_r
 ·obtain⟨i,rfl⟩:∃j,i=j+1:=⟨i-1,by omega⟩;have Z:(((i+1:Nat):Int)-1)=((i:Nat):Int):=q_o;have O:IntKind.i64.wrap ((i:Int)-1)=(i:Int)-1:=IntWalk.i64_in _ q_o;rw[Z];have F:decide (((i:Nat):Int)>=0)=true:=q_d;have b0:=zwm x m (e/2^(i+1));have E:=zuo e i;have B:=λq (r:Keep No w q) (M:SlA q S (zac (x^(e/2^(i+1))%m)))=>hM q S co S co _ _ r M M (K _) (K _);rw[b0] at B;have A:=λq (r:Keep No w q)=>N q i r q_o;rcases(show e/2^i%2=0\/e/2^i%2=1 by omega) with C|C
  ·rw[C] at A;rw[C,BU] at E;rw[<-E] at B;have I:decide (((0:Nat):Int)=1)=false:=q_f;unfold zc0 at B;repeat' (first|refine s_t ?_|refine q_k 3 ?_;refine q_v (zP (hr:=F)) ?_|refine q_k 5 ?_;(refine q_s (zi (hc:=λq X r J=>B q r (zas J q_h))) ?_;rintro _ _ ⟨R,rfl,a7,c7,rfl,rfl⟩);refine zb ?_|refine q_k 6 ?_;refine q_v (za (hc:=zu A)) ?_;refine q_v (zS (hr:=I)) ?_|refine q_k 4 ?_;refine q_x (zI (hr:=O)) ?_)
   refine zE (i,a7,c7) (by show i<=L;omega) ?_ ?_ ?_
   ·show i<i+1;omega
   ·exact q_h
   ·exact q_h
  ·rw[C] at A;rw[C] at E;have H:=λq a1 G (r:Keep No w q) (M:SlA q a1 (zac (x^(2*(e/2^(i+1)))%m)))=>hM q a1 G a U _ x r M (ha.to r (λ_ h=> .inr h)).sla (K _) hx;rw[zsu,<-E] at H;have I:decide (((1:Nat):Int)=1)=true:=rfl;unfold zc0 at B H;repeat' (first|refine s_t ?_|refine q_k 3 ?_;refine q_v (zP (hr:=F)) ?_|refine q_k 5 ?_;(refine q_s (zi (hc:=λq X r J=>B q r (zas J q_h))) ?_;rintro _ _ ⟨R,rfl,a7,c7,rfl,rfl⟩);refine zb ?_|refine q_k 6 ?_;refine q_v (za (hc:=zu A)) ?_;refine q_v (zS (hr:=I)) ?_|refine q_k 7 ?_;(refine q_s (zi (hc:=λq X r J=>H q _ _ r (zas J q_h))) ?_;rintro _ _ ⟨R,rfl,a8,c8,rfl,rfl⟩);refine zb ?_|refine q_k 4 ?_;refine q_x (zI (hr:=O)) ?_)
   refine zE (i,a8,c8) (by show i<=L;omega) ?_ ?_ ?_
   ·show i<i+1;omega
   ·exact q_h
   ·exact q_h
theorem zrU{x y:Nat}(h:zbx x y=0):x=y:=by
 unfold zbx at h;split at h
 ·omega
 ·split at h <;> omega
end Go.Proofs.YtdnlngbjpdbffaaGreatDoor
namespace Go.Nt
open Go Go.Sy
theorem zsf:∀d:Fin 16,zcG (zht d.1)=some d.1:=by decide +kernel
theorem zwN:∀u:Fin 256,∀d:Fin 16,zcG (UInt8.ofNat u.1)=some d.1->zht d.1=UInt8.ofNat u.1:=by decide +kernel
theorem zyf{u:UInt8}{d:Nat}(h:zcG u=some d):zht d=u:=by
 have:=zwN ⟨u.toNat,u.toNat_lt⟩ ⟨d,zhD h⟩;rw[show UInt8.ofNat u.toNat=u from UInt8.ofNat_toNat] at this;exact this h
theorem zxa{u:UInt8}{d q:Nat}(h:zcG u=some d)(j:q<16)(hn:q≠d):zht q≠u:=λm=>by
 have:=zsf ⟨q,j⟩;rw[show zht (⟨q,j⟩:Fin 16).1=u from m,h] at this;exact hn (Am this).symm
theorem zs7{u:UInt8}{q:Nat}(h:zcG u=none)(j:q<16):zht q≠u:=λm=>by
 have:=zsf ⟨q,j⟩;rw[show zht (⟨q,j⟩:Fin 16).1=u from m,h] at this;cases this
theorem zvN{u v:UInt8}(h:u≠v):decide (Wd.n8 u≠Wd.n8 v)=true:=decide_eq_true (λe=>h (Bc.1 (Int.ofNat.inj e)))
def zcY(l:List UInt8):List Nat:=l.map (λu=>(zcG u).getD 0)
theorem zqm:∀ {l:List UInt8}{r:List Nat},zdm l=some r->r=zcY l
 | [],_,h=>by cases h;rfl
 |u::l,r,h=>by
  unfold zdm at h;split at h
  ·rename_i d q j m;cases h;rw[zqm m];simp only[zcY,Aw,j,EB]
  ·cases h
theorem zuz{l:List UInt8}{i d:Nat}{u:UInt8}(h:l[i]?=some u)(j:zcG u=some d):(zcY l)[i]?=some d:=by
 simp only[zcY,AY,h,CU,j,EB]
theorem zxK(l:List UInt8):∀d∈zcY l,d<16:=by
 intro d j;simp only[zcY,C4] at j;obtain⟨u,-,rfl⟩:=j;cases h:zcG u with
 |none=>decide
 |some d=>exact zhD h
theorem zw3(l:List UInt8)(i:Nat):nd 65536 (bev 16 ((zcY l).take i))<=l.length:=by
 refine zbc _ _ _ q_e ?_;refine AI (ze6 16 _ (λd j=>zxK l d (Cp j))) ?_;refine BG (Nat.pow_le_pow_left q_e _) (AB q_e ?_);rw[AR,zcY,A0];exact Nat.min_le_right _ _
end Go.Nt
namespace Go.Proofs.YtdnlngbjpdbffaaGreatDoor
open Go Go.Sy Go.Nt Go.RowKit
theorem zsa:zac 0= []:=by unfold zac cd;rw[zbZ];rfl
attribute [local irreducible] Sy SyL SyX Sy.Fn callFunc zg zac iC
theorem zsh(l:List UInt8)(w:World)(hx:l.length<10000):
  Sy.Fn Tryz.prog 279 [.string (str l)] w No (λv R=>match parse l with
   |none=>v= .tuple #[.slice none 0 0,.bool false]/\R= []
   |some x=>∃a c,v= .tuple #[.slice a (nd 65536 x) c,.bool true]/\R= [.row (.slice a (nd 65536 x) c) 3 1 (nd 65536 x) (zac x)]):=by
 refine zt Tryz.func279 Tryz.ntmps279 ?_;repeat' (first|refine s_0 ?_|refine q_k 0 ?_)
 refine zcn (γ:=Unit) (λ_=>[(0,.string (str l)),(2,.slice none 0 0),(3,.bool false),(19,.bool (zdo l))]) (λ_=>[]) (λ_=>True) ?_ ?_
 ·cases l with
  |nil=>
   rw[show zdo []=true from rfl];have U:decide ((((str []).size:Nat):Int)=0)=true:=rfl;repeat' (first|refine zaq ?_|refine zat ?_|refine q_k 1 ?_;refine q_x (zS (hr:=U)) ?_)
   exact zak () trivial q_h q_h
  |cons u r=>
   have E:(str (u::r)).size=r.length+1:=rfl;have U:decide ((((str (u::r)).size:Nat):Int)=0)=false:=decide_eq_false (by rw[E];omega);by_cases hu:u=48
   ·have F:decide (((u.toNat:Nat):Int)=48)=true:=decide_eq_true (by rw[hu];rfl);by_cases hr:0<r.length
    ·rw[show zdo (u::r)=true by simp only[zdo,hu,decide_true,hr,El]];have W:decide (1<(((str (u::r)).size:Nat):Int))=true:=decide_eq_true (by rw[E];omega);repeat' (first|refine zaq ?_|refine zat ?_|refine q_k 1 ?_;refine q_x (zS (hr:=U)) ?_;refine q_v (zR (s:=str (u::r)) (u:=u) (hv:=rfl)) ?_;refine q_x (zS (hr:=F)) ?_;refine q_x (zH (hr:=W)) ?_)
     exact zak () trivial q_h q_h
    ·rw[show zdo (u::r)=false by simp only[zdo,hr,decide_false,DN]];have W:decide (1<(((str (u::r)).size:Nat):Int))=false:=decide_eq_false (by rw[E];omega);repeat' (first|refine zaq ?_|refine zat ?_|refine q_k 1 ?_;refine q_x (zS (hr:=U)) ?_;refine q_v (zR (s:=str (u::r)) (u:=u) (hv:=rfl)) ?_;refine q_x (zS (hr:=F)) ?_;refine q_x (zH (hr:=W)) ?_)
     exact zak () trivial q_h q_h
   ·rw[show zdo (u::r)=false by simp only[zdo,hu,decide_false,BZ]];have F:decide (((u.toNat:Nat):Int)=48)=false:=decide_eq_false (λh=>hu (Bc.1 (show u.toNat=48 by omega)));repeat' (first|refine zaq ?_|refine zat ?_|refine q_k 1 ?_;refine q_x (zS (hr:=U)) ?_;refine q_v (zR (s:=str (u::r)) (u:=u) (hv:=rfl)) ?_;refine q_x (zS (hr:=F)) ?_)
    exact zak () trivial q_h q_h
 rintro - -;unfold parse;cases hb:zdo l with
 |true=>
  rw[if_pos rfl];repeat' (first|refine s_0 ?_|refine q_k 2 ?_)
  exact q_r
 |false=>
 rw[if_neg q_e];repeat' (first|refine s_t ?_|refine zD [3,4] ?_;refine zb ?_)
 refine zbz (za3 3 1) ?_;obtain⟨n,hn⟩:∃n,n=l.length:=⟨_,rfl⟩;have E:(str l).size=n:=by rw[hn];rfl
 have K:=zw3 l;rw[<-hn] at hx K;refine zN (γ:=Nat×Option Addr×Nat) (λg=>[(0,.string (str l)),(4,.slice g.2.1 (nd 65536 (bev 16 ((zcY l).take g.1))) g.2.2),(5,.int .i64 g.1)])
  (λg=>[.row (.slice g.2.1 (nd 65536 (bev 16 ((zcY l).take g.1))) g.2.2) 3 1 (nd 65536 (bev 16 ((zcY l).take g.1))) (zac (bev 16 ((zcY l).take g.1)))])
  (λg=>g.1<=n/\∀j<g.1,∃v d,l[j]?=some v/\zcG v=some d) (λg=>n-g.1) (0,none,0) ⟨A9 _,λj Z=>absurd Z q_o⟩ ?_ ?_ ?_
 ·rw[show bev 16 ((zcY l).take 0)=0 from rfl,zbZ];exact q_h
 ·show SubR [.row (.slice none (nd 65536 (bev 16 ((zcY l).take 0))) 0) 3 1 (nd 65536 (bev 16 ((zcY l).take 0))) (zac (bev 16 ((zcY l).take 0)))] _;rw[show bev 16 ((zcY l).take 0)=0 from rfl,zbZ,zsa];exact q_h
 rintro⟨i,a,c⟩ ⟨hi,M⟩;dsimp only at hi M ⊢;have hX:=K i;have m:decide (((i:Nat):Int)<(((str l).size:Nat):Int))=decide (i<n):=decide_eq_decide.2 (by rw[E];omega);by_cases hlt:i<n
 ·obtain⟨u,hu⟩:∃u,l[i]?=some u:=⟨l[i]'q_o,A1 _⟩;have J:(str l).data[i]?=some u:=by
   show l.toArray[i]?=_;rw[BH,hu]
  rw[decide_eq_true hlt] at m;have N:=λd (G:zcG u=some d)=>zix 16 (zcY l) i d (zuz hu G);have a9:=K (i+1);generalize b0:bev 16 ((zcY l).take i)=X at*;repeat' (first|refine s_t ?_|refine q_k 5 ?_;refine q_v (zo (hr:=m)) ?_|refine q_k 7 ?_)
  have B:∀q<16,(str hexT).data[q]?=some (zht q):=λq hq=>by
   show hexT.toArray[q]?=_;rw[BH];exact zuQ q hq
  cases G:zcG u with
  |none=>
   have L:zdm l=none:=by
    cases H:zdm l with
    |none=>rfl
    |some r=>
     obtain⟨d,I,_⟩:=zfC H i u hu;rw[G] at I;cases I
   rw[L];refine zN (γ:=Nat) (λq=>[(0,.string (str l)),(5,.int .i64 i),(6,.int .i64 q)]) (λ_=>[]) (λq=>q<=16) (λq=>16-q) 0 (A9 _) ?_ ?_ ?_
   ·exact q_h
   ·exact Er
   intro q hq;by_cases hq6:q<16
   ·have O:=B q hq6;have C:=zvN (zs7 G hq6);repeat' (first|refine s_t ?_|refine zaj (id:=8) 8 [[],[0],[0,1],[0,1,2],[0,1,2,3],[0,1,2],[0,1,2],[0,1,2,5,6],[0,1,2,3,4,5,6,7],[0,1,2,3,4,5,6,7,8]] mixed ?_ ?_;kernel_rfl;refine zA ?_;refine q_D zo ?_;refine zA ?_;refine zA ?_;refine q_D (zR (s:=str hexT) (hv:=O)) ?_;refine zA ?_;refine zA ?_;refine q_D (zR (s:=str l) (u:=u) (hv:=J)) ?_;refine zaB ?_;refine q_v (zaf (hr:=C)) ?_;refine zds ?_|refine q_k 9 ?_;refine za4 ?_;refine zb ?_)
    refine zE (q+1) ?_ ?_ ?_ ?_
    ·show q+1<=16;omega
    ·show 16-(q+1)<16-q;omega
    ·exact q_h
    ·exact Er
   obtain rfl:q=16:=q_o;repeat' (first|refine s_0 ?_|refine zaj (id:=8) 8 [[],[0],[0,1],[0,1,2],[0,1,2,3],[0,1,2],[0,1,2],[0,1,2,5,6],[0,1,2,3,4,5,6,7],[0,1,2,3,4,5,6,7,8]] mixed ?_ ?_;kernel_rfl;refine zA ?_;refine q_D zo ?_;refine zA ?_;refine zcL (λ_=>rfl) rfl ?_;refine zcL (λ_=>rfl) rfl ?_;refine zcL (λ_=>rfl) rfl ?_;refine zcL (λ_=>rfl) rfl ?_;refine zcL (λ_=>rfl) rfl ?_;refine zaB ?_;refine zaC rfl rfl rfl ?_;refine zds ?_|refine q_k 10 ?_;refine zaD ?_|refine q_k 11 ?_)
   exact q_r
  |some d=>
   have Q:=zhD G;have N:=N d G;refine zN (γ:=Nat) (λq=>[(0,.string (str l)),(4,.slice a (nd 65536 X) c),(5,.int .i64 i),(6,.int .i64 q)]) (λ_=>[.row (.slice a (nd 65536 X) c) 3 1 (nd 65536 X) (zac X)]) (λq=>q<=d) (λq=>d-q) 0 (A9 _) ?_ ?_ ?_
   ·exact q_h
   ·exact q_h
   intro q hq;by_cases hqd:q<d
   ·have O:=B q q_o;have C:=zvN (zxa G (show q<16 by omega) q_o);repeat' (first|refine s_t ?_|refine zaj (id:=8) 8 [[],[0],[0,1],[0,1,2],[0,1,2,3],[0,1,2],[0,1,2],[0,1,2,5,6],[0,1,2,3,4,5,6,7],[0,1,2,3,4,5,6,7,8]] mixed ?_ ?_;kernel_rfl;refine zA ?_;refine q_D zo ?_;refine zA ?_;refine zA ?_;refine q_D (zR (s:=str hexT) (hv:=O)) ?_;refine zA ?_;refine zA ?_;refine q_D (zR (s:=str l) (u:=u) (hv:=J)) ?_;refine zaB ?_;refine q_v (zaf (hr:=C)) ?_;refine zds ?_|refine q_k 9 ?_;refine za4 ?_;refine zb ?_)
    refine zE (q+1) ?_ ?_ ?_ ?_
    ·show q+1<=d;omega
    ·show d-(q+1)<d-q;omega
    ·exact q_h
    ·exact q_h
   obtain rfl:q=d:=q_o;have O:=B q Q;rw[zyf G] at O;have C:decide (Wd.n8 u≠Wd.n8 u)=false:=decide_eq_false (λh=>h rfl);have T:=λA (h:SlA A a (zac X))=>ztd a c X 4 A h q_o q_e;rw[show X*2^4=X*16 from rfl] at T;have a7:=λA=>zlb q A q_o;have S:nd 65536 (X*16)<100000000:=by
    refine B1 (zbc 65536 (X*16) (nd 65536 X+1) q_e ?_) q_o;have:=zaS 65536 X q_e;rw[AN];omega
   have a6:nd 65536 q<100000000:=B1 (zbc 65536 q 1 q_e q_o) q_e;have P:=λA a1 c1 a2 c2 (I:SlA A a1 (zac (X*16))) (V:SlA A a2 (zac q))=>zw9 a1 a2 c1 c2 (X*16) q A I V S a6;rw[<-N] at P;generalize X*16=Y at*;repeat' (first|refine s_0 ?_|refine zaj (id:=8) 8 [[],[0],[0,1],[0,1,2],[0,1,2,3],[0,1,2],[0,1,2],[0,1,2,5,6],[0,1,2,3,4,5,6,7],[0,1,2,3,4,5,6,7,8]] mixed ?_ ?_;kernel_rfl;refine zA ?_;refine q_D zo ?_;refine zA ?_;refine zA ?_;refine q_D (zR (s:=str hexT) (hv:=O)) ?_;refine zA ?_;refine zA ?_;refine q_D (zR (s:=str l) (u:=u) (hv:=J)) ?_;refine zaB ?_;refine q_v (zaf (hr:=C)) ?_;refine zds ?_|refine q_k 10 ?_;refine zaD ?_|refine q_k 12 ?_;(refine q_s (zi (hc:=λA X hk H=>T A (zas H q_h))) ?_;rintro _ _ ⟨R,rfl,a3,c3,rfl,rfl⟩);refine zb ?_;(refine q_s (zi (hc:=λA X hk H=>a7 A)) ?_;rintro _ _ ⟨R,rfl,a4,c4,rfl,rfl⟩);(refine q_s (zi (hc:=λA X hk H=>P A _ _ _ _ (zas H q_h) (zas H q_h))) ?_;rintro _ _ ⟨R,rfl,a5,c5,rfl,rfl⟩);refine zb ?_|refine q_k 6 ?_;refine za4 ?_;refine zb ?_)
   refine zE (i+1,a5,c5) ⟨by show i+1<=n;omega,λj Z=>?_⟩ ?_ ?_ ?_
   ·rcases AF j i with h|h
    ·exact M j h
    ·obtain rfl:j=i:=q_o;exact⟨u,q,hu,G⟩
   ·show n-(i+1)<n-i;omega
   ·exact q_h
   ·exact q_h
 obtain rfl:i=n:=q_o;obtain⟨r,hr⟩:∃r,zdm l=some r:=by
  cases H:zdm l with
  |some r=>exact⟨r,rfl⟩
  |none=>
   obtain⟨j,u,I,V,_⟩:=ziY H;have Z:j<l.length:=by
    rcases AF j l.length with h|h
    ·exact h
    ·rw[BV h] at I;cases I
   obtain⟨v,d,h3,h4⟩:=M j q_o;rw[I] at h3;cases h3;rw[V] at h4;cases h4
 have a8:(zcY l).take i=zcY l:=A8 (by rw[zcY,A0];omega);rw[hr,CU];dsimp only;rw[a8,zqm hr];rw[decide_eq_false hlt] at m;generalize bev 16 (zcY l)=X at*;repeat' (first|refine s_0 ?_|refine q_k 5 ?_;refine q_v (zo (hr:=m)) ?_|refine q_k 13 ?_)
 exact zU rfl (zh rfl) (zh rfl) q_h ⟨a,c,rfl,rfl⟩
end Go.Proofs.YtdnlngbjpdbffaaGreatDoor
