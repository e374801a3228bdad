/- Lemmas. -/
import Derived.Test.YtdnlngbjpdbffaaGreatDoorZJ22
import Derived.Test.YtdnlngbjpdbffaaGreatDoorZJ14
set_option maxHeartbeats 2000000
set_option maxRecDepth 10000
set_option linter.all false
namespace Go.Nt
open Go Go.Sy
theorem zjy:zac 0= []:=by rw[zfB];unfold cd;rw[zb4];rfl
theorem zuT(x:Nat):(zac x).all (·.oneCell')=true:=by rw[zfB];exact zzl _
theorem Row.none{q:Nat}{w:World}{M:Nat->Prop}{E n c s:Nat}{a:Option Addr}{xs:List Value}{L:List Res}(hh:Holds q M L w)(hL:Has L (.row (.slice a n c) E s n xs)):a=none->c=0:=by
 have j:w.ownsRow 0 E s (.slice a n c) n xs:=hh.has hL;obtain⟨B,⟨m,F⟩|⟨b,A,r,m,_,G,H,I,J,K⟩⟩:=j
 ·cases m;exact λ_=>rfl
 ·cases m;exact λh=>by cases h
theorem zlf(e r:Nat):vl 65536 (e::cd 65536 r)=r*65536+e:=by
 simp only[vl,zwm 65536 r q_e];omega
theorem zkb{e r:Nat}(he:e<65536):∀d∈e::cd 65536 r,d<65536:=by
 intro d j;rcases AV.1 j with rfl|h
 ·exact he
 ·unfold cd at h;exact zhi 65536 q_e _ _ d h
theorem zxd(e r:Nat): [iv e]++zac r=iC (e::cd 65536 r):=rfl
theorem znM{y g:Nat}(m:g<65536):nd 65536 (y*g)<=nd 65536 y+1:=by
 refine zbj _ _ _ q_e ?_;have j:=zaV 65536 y q_e;rw[AN];rcases AE g with h|h
 ·subst h;rw[D8];exact EY (AU q_e) q_e
 ·exact AK (Bb j h) (CP _ (BT m))
theorem zpz{b r y:Nat}(j:0<y)(h:r<y*b):r/y<b:=Df h
theorem zvF{b r e y:Nat}(he:e<b)(hr:r<y):r*b+e<y*b:=by
 have:=AP b (show r+1<=y from hr);rw[B5,Bu] at this;omega
theorem zx6{r y n:Nat}(hn:n=nd 65536 y)(M:0<y)(hr:r<y*65536)(I A:Nat)(hz:(2<=n->I=r/65536^(n-2)%65536)/\(n=1->I=0))(K:(2<=n->A=y/65536^(n-2)%65536)/\(n=1->A=0)):
  0<y/65536^(n-1)%65536*65536+A/\r/y<=((r/65536^n%65536*65536+r/65536^(n-1)%65536)*65536+I)/(y/65536^(n-1)%65536*65536+A):=by
 have j:=zaV 65536 y q_e;have m:=(zdU 65536 q_e y).2;rw[<-hn] at j m;have F:0<n:=by
  rcases AE n with h|h
  ·subst h;rw[Ao] at j;omega
  ·exact h
 have m:=m F;have q:0<65536^(n-1):=AU q_e;have L:0<y/65536^(n-1):=DK m q;have H:y/65536^(n-1)<65536:=by
  rw[AZ q,AM,<-AN,show(n-1).succ=n by omega];exact j
 have G:r<65536^n*65536:=AK hr (AP _ (BT j));have w:r/65536^n<65536:=by
  rw[AZ (AU q_e),AM];exact G
 rcases AG n 2 with h|h
 ·obtain rfl:n=1:=q_o;rw[hz.2 rfl,K.2 rfl];rw[C7,Ao,CH,Ec,CH] at*;have B:r/65536%65536*65536+r%65536=r:=by
   rw[A9 w];omega
  have E:y%65536=y:=A9 H;rw[B,E,BZ,BZ];exact⟨by omega,by rw[Cm _ _ (show 0<65536 by decide)];exact A7 _⟩
 ·rw[hz.1 h,K.1 h];have B:=zi2 65536 r n h q_e w;have E:=zlA 65536 y n h q_e j;rw[B,E];have J:0<y/65536^(n-2):=DK (BE (AB q_e q_o) m) (AU q_e);exact⟨J,zrf J rfl rfl q_e⟩
end Go.Nt
namespace Go.Proofs.YtdnlngbjpdbffaaGreatDoor
open Go Go.Sy Go.Nt Go.RowKit
attribute [local irreducible] Sy SyL SyX Sy.Fn callFunc zg zac iC
theorem ztI(n:Nat):∃f:Nat->Nat,(∀x,(2<=n->f x=x/65536^(n-2)%65536)/\(n=1->f x=0))/\
  ∀(a:Option Addr) (c x:Nat) (w:World),0<n->SlA w a (zac x)->q_G 231 [.slice a (nd 65536 x) c,.int .i64 ((n:Int)-2)] w (iv (f x)):=by
 rcases AG n 2 with h|h
 ·refine⟨λ_=>0,λx=>⟨λj=>absurd j q_o,λ_=>rfl⟩,λa c x w h0 m=>?_⟩;exact zsP a _ c _ w q_o
 ·refine⟨λx=>x/65536^(n-2)%65536,λx=>⟨λ_=>rfl,λj=>absurd j q_o⟩,λa c x w h0 m=>?_⟩;have e:(n:Int)-2=((n-2:Nat):Int):=q_o;rw[e];exact zcm a c x (n-2) w m
theorem zli(a b:Option Addr)(ca cb x y:Nat)(w:World)(ha:SlA w a (zac x))(hb:SlA w b (zac y))(hx:nd 65536 x<100000)(hy:nd 65536 y<100000)(Q:0<y):
  Sy.Fn Tryz.prog 232 [.slice a (nd 65536 x) ca,.slice b (nd 65536 y) cb] w No (λv R=>∃a1 c1 a2 c2,v= .tuple #[.slice a1 (nd 65536 (x/y)) c1,.slice a2 (nd 65536 (x%y)) c2]/\
   R= [.row (.slice a1 (nd 65536 (x/y)) c1) 3 1 (nd 65536 (x/y)) (zac (x/y)),.row (.slice a2 (nd 65536 (x%y)) c2) 3 1 (nd 65536 (x%y)) (zac (x%y))]):=by
 refine zt Tryz.func232 Tryz.ntmps232 ?_;have b0:=zaV 65536 x q_e;have i5:=ziq x;have i9:=zgV x;generalize H:nd 65536 y=n,k8:nd 65536 x=k at*;have j4:zac 0= []:=zjy;repeat' (first|refine s_t ?_|refine zA [0,1,2,3] ?_;refine zb ?_|refine q_k 4 ?_;refine q_x zK ?_|refine q_s zeP ?_;rintro _ _ ⟨S,rfl,rfl⟩|(refine zx ?_;first|refine zw ?_|fail)|fail)
 refine zbg (zaT 3 1) ?_;refine zL (γ:=Nat×Option Addr×Nat) (λg=>[(0,.slice a k ca),(1,.slice b n cb),(6,.slice g.2.1 (nd 65536 (x/65536^g.1%y)) g.2.2),(7,.slice (some ⟨S,0,none⟩) k k),(8,.int .i64 n),(9,.int .i64 ((g.1:Int)-1))])
  (λg=>[.row (.slice g.2.1 (nd 65536 (x/65536^g.1%y)) g.2.2) 3 1 (nd 65536 (x/65536^g.1%y)) (zac (x/65536^g.1%y)),.blk S 3 (iC (dg 65536 k (x/65536^g.1/y*65536^g.1)))])
  (λg=>g.1<=k) (λg=>g.1) (k,none,0) (A7 _) ?_ ?_ ?_
 ·dsimp only;rw[Nat.div_eq_of_lt b0,Nat.zero_mod,zb4];exact q_h
 ·dsimp only;rw[Nat.div_eq_of_lt b0,Nat.zero_mod,Nat.zero_div,Nat.zero_mul,zb4,zgI,<-zkA,j4];exact q_h
 rintro⟨i,a6,c6⟩ hi;dsimp only at hi ⊢;rcases AE i with h0|h0
 ·subst h0;rw[Nat.pow_zero,Nat.div_one,Nat.mul_one];have Z:∀d∈dg 65536 k (x/y),d<65536:=zhi 65536 q_e _ _;have j7:vl 65536 (dg 65536 k (x/y))=x/y:=zeI _ _ _ (B3 (Bz _ _) b0);have a8:=zc3 65536 k (x/y);have Y:=λB (h:SlA B (some ⟨S,0,none⟩) (iC (dg 65536 k (x/y))))=>zeO (some ⟨S,0,none⟩) k k _ B a8 (A7 _) Z h q_o;repeat' (first|refine s_0 ?_|refine q_k 5 ?_;refine q_v zO ?_|refine q_k 17 ?_;refine q_v (za (hc:=λB _ _ F=>Y B (.inr ⟨S,0,rfl,zp (F.has (by exact F1 (F8 F5))) Ex⟩))) ?_;refine zb ?_)
  refine zcp (zee (n:=k) (s:=1) (Ew Eu) (by rw[zhO,a8];omega) (by unfold maxLen;omega)) ?_;refine zcp (zfE Eu a8 Z) ?_;rw[j7];exact zU rfl (zh rfl) (zh rfl) q_h ⟨_,_,_,_,rfl,rfl⟩
 obtain⟨i,rfl⟩:∃j,i=j+1:=⟨i-1,by omega⟩;have i7:(((i+1:Nat):Int)-1)=((i:Nat):Int):=q_o;have j6:IntKind.i64.wrap ((i:Int)-1)=(i:Int)-1:=IntWalk.i64_in _ q_o;rw[i7];obtain⟨e1,e2⟩:=zmx 65536 x y i Q;have V:=zaV 65536 y q_e;rw[H] at V;have e9:=AC (x/65536^(i+1)) Q;obtain⟨ba,oa,rfl,e8⟩:=zhQ ha q_o;have c9:=e8 i _ (i5 i q_o);have a9:x/65536^i%65536<65536:=AC _ q_e;have j0:∀(A:Nat),(dg 65536 k A).length=k:=λA=>zc3 _ _ _;generalize b9:x/65536^i%y=R',h3:x/65536^i/y=Q',x/65536^i%65536=e,x/65536^(i+1)/y=A,x/65536^(i+1)%y=r at*;obtain⟨E,W⟩:∃E,E=r*65536+e:=⟨_,rfl⟩;rw[<-W] at e1 e2;have P:E<y*65536:=by rw[W];exact zvF a9 e9
 have b8:=zpz Q P;have k7:=zbj 65536 r n q_e (Ai e9 V);have k0:=zbj 65536 E (n+1) q_e (by
  rw[AN];exact AK P (AP _ (BT V)))
 refine zfJ (λB F=>(Row.none F F5:a6=none->c6=0)) λj9=>?_;repeat' (first|refine s_t ?_|refine q_k 5 ?_;refine q_v zO ?_|refine q_k 7 ?_;refine zQ ?_;refine q_v (zo (hv:=c9)) ?_;(refine q_s zz ?_;rintro _ _ ⟨_,rfl,rfl⟩);refine zb ?_;(refine q_s (zb9 (k:=1) (m:=nd 65536 r) (xs:=[iv e]) (news:=zac r) (km:=1+nd 65536 r) (hn:=by rw[zgV,Al]) (h1:=zuT r) (hkm:=rfl) (hys:=zxd e r)) ?_;rintro _ _ ⟨rfl,J,L,rfl⟩))
 refine zkK (λB F=>(FF F F5:1+nd 65536 r<=L)) λc8=>?_;have N:(e::cd 65536 r).length=1+nd 65536 r:=by rw[AQ,zi9,Cz]
 have Y:=λB (h:SlA B J (iC (e::cd 65536 r)))=>zeO J (1+nd 65536 r) L (e::cd 65536 r) B N c8 (zkb a9) h q_o;rw[zlf,<-W] at Y;repeat' (first|refine s_0 ?_|(refine zx ?_;first|refine q_v (za (hc:=λB _ _ F=>Y B (zat F (by exact F1 F5)))) ?_|refine zw ?_|fail)|fail)
 refine zbg (zfE Eu N (zkb a9)) ?_;rw[zlf,<-W];have b6:0<n:=by
  rcases AE n with h|h
  ·subst h;rw[Ao] at V;omega
  ·exact h
 obtain⟨f,T,e4⟩:=ztI n;have e5:∀x,f x<65536:=λx=>by
  rcases AG n 2 with h|h
  ·rw[(T x).2 q_o];decide
  ·rw[(T x).1 h];exact AC _ q_e
 obtain⟨f9,K⟩:=zx6 H.symm Q P (f E) (f y) (T E) (T y);have d9:=λB (h:SlA B J (zac E))=>zcm J L E n B h;have e0:=λB (h:SlA B J (zac E))=>zcm J L E (n-1) B h;have e3:=λB (h:SlA B J (zac E))=>e4 J L E B b6 h;have a7:=λB (U:Keep No w B)=>e4 b cb y B b6 (hb.to U (λ_ h=> .inr h)).sla;rw[H] at a7;obtain⟨bb,ob,rfl,j5⟩:=zhQ hb (by rw[zgV,H];exact b6);have d8:=j5 (n-1) _ (ziq y (n-1) (by rw[H];omega));have b1:E/65536^n%65536<65536:=AC _ q_e;have b2:E/65536^(n-1)%65536<65536:=AC _ q_e;have b3:=e5 E;have b4:=e5 y;have b5:y/65536^(n-1)%65536<65536:=AC _ q_e;generalize f y=E2,y/65536^(n-1)%65536=E1,f E=D3,E/65536^(n-1)%65536=D2,E/65536^n%65536=D1 at*;have s1:IntKind.i64.wrap ((n:Int)-1)=((n-1:Nat):Int):=q_w;have s2:IntKind.i64.wrap ((n:Int)-2)=(n:Int)-2:=IntWalk.i64_in _ q_o;obtain⟨T1,h4⟩:∃T1,T1=D1*65536:=⟨_,rfl⟩;obtain⟨T2,h5⟩:∃T2,T2=T1+D2:=⟨_,rfl⟩;obtain⟨T3,h6⟩:∃T3,T3=T2*65536:=⟨_,rfl⟩;obtain⟨T4,h7⟩:∃T4,T4=T3+D3:=⟨_,rfl⟩;obtain⟨U1,c0⟩:∃U1,U1=E1*65536:=⟨_,rfl⟩;obtain⟨U2,c7⟩:∃U2,U2=U1+E2:=⟨_,rfl⟩;rw[<-h4,<-h5,<-h6,<-h7,<-c0,<-c7] at K;rw[<-c0,<-c7] at f9;obtain⟨G,hG⟩:∃G,G=T4/U2:=⟨_,rfl⟩;rw[<-hG] at K;have m1:IntKind.i64.wrap ((D1:Int)*65536)=((T1:Nat):Int):=q_w;have m2:IntKind.i64.wrap ((T1:Int)+(D2:Int))=((T2:Nat):Int):=q_w;have m3:IntKind.i64.wrap ((T2:Int)*65536)=((T3:Nat):Int):=q_w;have m4:IntKind.i64.wrap ((T3:Int)+(D3:Int))=((T4:Nat):Int):=q_w;have m5:IntKind.i64.wrap ((E1:Int)*65536)=((U1:Nat):Int):=q_w;have m6:IntKind.i64.wrap ((U1:Int)+(E2:Int))=((U2:Nat):Int):=q_w;have m7:IntKind.i64.wrap ((T4:Int).tdiv (U2:Int))=((G:Nat):Int):=by rw[hG];exact zdw q_o
 have m8:(U2:Int)≠0:=q_o;obtain⟨g0,k5⟩:∃g0,g0=min G 65535:=⟨_,rfl⟩;have m9:min (G:Int) 65535=((g0:Nat):Int):=q_o;have e6:E/y<=g0/\g0<=65535:=by
  revert K b8
  generalize E/y=q;intro K b8;omega
 have e7:=λB=>zlr g0 B q_o;have j8:=zbj 65536 g0 1 q_e q_o;have O:=λB a2 c2 (h1:SlA B (some ⟨bb,ob,none⟩) (zac y)) (h2:SlA B a2 (zac g0))=>zqk (some ⟨bb,ob,none⟩) a2 cb c2 y g0 B h1 h2 q_o q_o;rw[H] at O;repeat' (first|refine s_0 ?_|refine q_k 8 ?_;refine q_v (za (hc:=λB _ _ F=>d9 B (zat F (by exact F1 F5)))) ?_;refine q_x (zaM (hr:=m1)) ?_;refine q_v (zK (hr:=s1)) ?_;refine q_v (za (hc:=λB _ _ F=>e0 B (zat F (by exact F1 F5)))) ?_;refine q_v (zD (hr:=m2)) ?_;refine q_x (zaM (hr:=m3)) ?_;refine q_v (zK (hr:=s2)) ?_;refine q_v (za (hc:=λB _ _ F=>e3 B (zat F (by exact F1 F5)))) ?_;refine q_x (zD (hr:=m4)) ?_|refine zai (id:=9) 10 [[],[],[1],[0,1,2],[0,1,2,3],[0,1,2,3,4],[],[],[7],[6,7,8],[0,1,2,3,4,5,6,7,8,9],[0,1,2,3,4,5,6,7,8,9,10]] mixed ?_ ?_;kernel_rfl;refine zB ?_;refine zB ?_;refine q_D (zK (hr:=s1)) ?_;refine zaB ?_;refine q_D (zo (hv:=d8)) ?_;refine q_D (zaM (hr:=m5)) ?_;refine zB ?_;refine zB ?_;refine q_D (zK (hr:=s2)) ?_;refine q_D (za (hc:=λB _ U _=>a7 B U)) ?_;refine zaF ?_;refine q_v (zD (hr:=m6)) ?_;refine zw ?_|refine q_k 10 ?_;refine q_v (zbz (hb:=m8) (hr:=m7)) ?_;refine q_x (zwP m9) ?_|refine q_k 11 ?_;(refine q_s (zi (hc:=λB X U F=>e7 B)) ?_;rintro _ _ ⟨R,rfl,a2,c2,rfl,rfl⟩);(refine q_s (zi (hc:=λB X U F=>O B _ _ (hb.to U (λ_ h=> .inr h)).sla (zat F q_h))) ?_;rintro _ _ ⟨R,rfl,a3,c3,rfl,rfl⟩);refine zb ?_)
 refine FJ (fr':=[(0,.slice (some ⟨ba,oa,none⟩) k ca),(1,.slice (some ⟨bb,ob,none⟩) n cb),(6,.slice J (nd 65536 E) L),(7,.slice (some ⟨S,0,none⟩) k k),(8,.int .i64 n),(9,.int .i64 i),(12,.int .i64 g0),(13,.slice a3 (nd 65536 (y*g0)) c3)])
  (L':=[.row (.slice J (nd 65536 E) L) 3 1 (nd 65536 E) (zac E),.row (.slice a3 (nd 65536 (y*g0)) c3) 3 1 (nd 65536 (y*g0)) (zac (y*g0)),.blk S 3 (iC (dg 65536 k (A*65536^(i+1))))]) ?_ q_h q_h
 have f8:(iC (dg 65536 k (A*65536^(i+1)))).set i (iv (E/y))=iC (dg 65536 k (Q'*65536^i)):=by
  have hz:A*65536^(i+1)/65536^i%65536=0:=by
   rw[AN,AM (65536^i),<-B8,Ci _ (AU q_e)];exact ED _ _
  have h:=ziC 65536 k (A*65536^(i+1)) i (E/y);rw[hz,Aa] at h;have h:=h b8;rw[e1,show(A*65536+E/y)*65536^i=A*65536^(i+1)+E/y*65536^i by rw[B5,AN,AM (65536^i),<-B8],<-h];unfold iC;rw[Bw]
 have k6:(iC (dg 65536 k (A*65536^(i+1)))).length=k:=by rw[zhO,zc3]
 clear e7 O d9 e0 e3 a7 m1 m2 m3 m4 m5 m6 m7 m8 m9 c9 d8 e8;repeat' (first|refine zeJ ?_|fail)
 refine zL (γ:=Nat×Option Addr×Nat) (λg=>[(0,.slice (some ⟨ba,oa,none⟩) k ca),(1,.slice (some ⟨bb,ob,none⟩) n cb),(6,.slice J (nd 65536 E) L),(7,.slice (some ⟨S,0,none⟩) k k),(8,.int .i64 n),(9,.int .i64 i),(12,.int .i64 g.1),(13,.slice g.2.1 (nd 65536 (y*g.1)) g.2.2)])
  (λg=>[.row (.slice J (nd 65536 E) L) 3 1 (nd 65536 E) (zac E),.row (.slice g.2.1 (nd 65536 (y*g.1)) g.2.2) 3 1 (nd 65536 (y*g.1)) (zac (y*g.1)),.blk S 3 (iC (dg 65536 k (A*65536^(i+1))))])
  (λg=>E/y<=g.1/\g.1<=65535) (λg=>g.1) (g0,a3,c3) e6 ?_ ?_ ?_
 ·exact q_h
 ·exact q_h
 rintro⟨g,a4,c4⟩ ⟨h8,h9⟩;dsimp only at h8 h9 ⊢;have k9:0<=E/y:=AA _;have j3:=znM (y:=y) (g:=g) q_o;rw[H] at j3;have M:=λB (h1:SlA B a4 (zac (y*g))) (h2:SlA B J (zac E))=>zhB a4 J c4 L (y*g) E B h1 h2 q_o q_o;by_cases hgo:E/y<g
 ·have j1:E<y*g:=by rw[AM];exact(AZ Q).1 hgo
  rw[zjQ j1] at M;obtain⟨h,rfl⟩:∃h,g=h+1:=⟨g-1,by omega⟩;have I:=λB (h1:SlA B a4 (zac (y*(h+1)))) (h2:SlA B (some ⟨bb,ob,none⟩) (zac y))=>zmc a4 (some ⟨bb,ob,none⟩) c4 cb (y*(h+1)) y B h1 h2 q_o (by rw[Dr];omega);rw[H,show y*(h+1)-y=y*h by rw[Dr,Aw]] at I;have hd:IntKind.i64.wrap (((h+1:Nat):Int)-1)=((h:Nat):Int):=q_w;repeat' (first|refine s_t ?_|refine q_k 12 ?_;refine q_v (za (hc:=λB _ _ F=>M B (zat F q_h) (zat F q_h))) ?_;refine q_v zH ?_|refine q_k 13 ?_;refine q_x (zK (hr:=hd)) ?_|refine q_k 14 ?_;(refine q_s (zi (hc:=λB X U F=>I B (zat F q_h) (hb.to U (λ_ h=> .inr h)).sla)) ?_;rintro _ _ ⟨R,rfl,a5,c5,rfl,rfl⟩);refine zb ?_)
  refine zC (h,a5,c5) ⟨by show E/y<=h;omega,by show h<=65535;omega⟩ ?_ ?_ ?_
  ·show h<h+1;omega
  ·exact q_h
  ·exact q_h
 ·obtain rfl:g=E/y:=q_o;have i8:y*(E/y)<=E:=Nat.mul_div_le E y;have j2:decide ((0:Int)<zbA (y*(E/y)) E)=false:=decide_eq_false (by unfold zbA;split <;> (try split) <;> omega);generalize zbA (y*(E/y)) E=cq at*;have I:=λB (h1:SlA B J (zac E)) (h2:SlA B a4 (zac (y*(E/y))))=>zmc J a4 L c4 E (y*(E/y)) B h1 h2 q_o i8;rw[show E-y*(E/y)=R' by rw[e2,Nat.mod_def]] at I;generalize E/y=q at*;repeat' (first|refine s_0 ?_|refine q_k 12 ?_;refine q_v (za (hc:=λB _ _ F=>M B (zat F q_h) (zat F q_h))) ?_;refine q_v (zH (hr:=j2)) ?_|refine q_k 15 ?_;refine zQ ?_;refine zP ?_|refine q_k 16 ?_;(refine q_s (zi (hc:=λB X U F=>I B (zat F q_h) (zat F q_h))) ?_;rintro _ _ ⟨R,rfl,a5,c5,rfl,rfl⟩);refine zb ?_|refine q_k 6 ?_;refine q_x (zK (hr:=j6)) ?_)
  refine zC (i,a5,c5) ?_ ?_ ?_ ?_
  ·show i<=k;omega
  ·show i<i+1;omega
  ·dsimp only;rw[b9];exact q_h
  ·dsimp only;rw[b9,h3,<-f8];exact q_h
end Go.Proofs.YtdnlngbjpdbffaaGreatDoor
namespace Go.Nt
theorem zsb(b x y:Nat)(hb:2<=b):nd b (x*y)<=nd b x+nd b y:=by
 refine zbj b _ _ hb ?_;rw[Ax];exact Nat.mul_lt_mul'' (zaV b x hb) (zaV b y hb)
theorem zqE(b x y:Nat)(hb:2<=b)(h:x<=y):nd b x<=nd b y:=zbj b _ _ hb (B3 h (zaV b y hb))
theorem ztC(b x m:Nat)(hb:2<=b)(h:0<m):nd b (x%m)<=nd b m:=zqE b _ _ hb (BT (AC _ h))
theorem zul(e i:Nat):e/2^i=2*(e/2^(i+1))+e/2^i%2:=by
 have:=Ad (e/2^i) 2;rw[Aq,<-AN] at this;exact this.symm
theorem zxo(a m k:Nat):a^k%m*(a^k%m)%m=a^(2*k)%m:=by rw[<-Ee,<-Ax,Et]
theorem ztF(a m k:Nat):a^k%m*a%m=a^(k+1)%m:=by rw[ET,AN]
end Go.Nt
namespace Go.Proofs.YtdnlngbjpdbffaaGreatDoor
open Go Go.Sy Go.Nt Go.RowKit
theorem nd1:nd 65536 1=1:=zcD 65536 1 1 q_e q_e (λ_=>by decide)
theorem zAd: [Value.int IntKind.i64 1]=zac 1:=by
 rw[zfB];unfold cd;rw[nd1];rfl
attribute [local irreducible] Sy SyL SyX Sy.Fn callFunc zg zac iC
theorem zlD(a b:Option Addr)(j A x m:Nat)(w:World)(ha:SlA w a (zac x))(hb:SlA w b (zac m))(hx:nd 65536 x<90000)(hm:nd 65536 m<90000)(h0:0<m):
  Sy.Fn Tryz.prog 222 [.slice a (nd 65536 x) j,.slice b (nd 65536 m) A] w No (zc7 (x%m)):=by
 refine zt Tryz.func222 Tryz.ntmps222 ?_;have F:=λE (B:Keep No w E)=>zli a b j A x m E (ha.to B (λ_ h=> .inr h)).sla (hb.to B (λ_ h=> .inr h)).sla q_o q_o h0;unfold zc7;generalize x%m=r,x/m=q at*;repeat' (first|refine s_0 ?_|refine zA [0,2] ?_;refine zb ?_|refine q_k 1 ?_;(refine q_s (zi (hc:=zr F)) ?_;rintro _ _ ⟨R,rfl,a5,H,G,I,rfl,rfl⟩);refine zb ?_)
 exact q_r
theorem zxF(a b d:Option Addr)(A B cd x y m:Nat)(w:World)(ha:SlA w a (zac x))(hb:SlA w b (zac y))(H:SlA w d (zac m))(hx:nd 65536 x<40000)(N:nd 65536 y<40000)(hm:nd 65536 m<40000)(h0:0<m):
  Sy.Fn Tryz.prog 226 [.slice a (nd 65536 x) A,.slice b (nd 65536 y) B,.slice d (nd 65536 m) cd] w No (zc7 (x*y%m)):=by
 refine zt Tryz.func226 Tryz.ntmps226 ?_;have M:=zsb 65536 x y q_e;have F:=λj (q:Keep No w j)=>zqk a b A B x y j (ha.to q (λ_ h=> .inr h)).sla (hb.to q (λ_ h=> .inr h)).sla q_o q_o;have G:=λj a1 E (q:Keep No w j) (h:SlA j a1 (zac (x*y)))=>zlD a1 d E cd (x*y) m j h (H.to q (λ_ h=> .inr h)).sla q_o q_o h0;generalize x*y=s at*;unfold zc7 at*;generalize s%m=r at*;repeat' (first|refine s_0 ?_|refine q_k 0 ?_|refine q_k 1 ?_;(refine q_s (zi (hc:=zr F)) ?_;rintro _ _ ⟨R,rfl,a5,K,rfl,rfl⟩);refine zb ?_;(refine q_s (zi (hc:=λj X q I=>G j _ _ q (zat I q_h))) ?_;rintro _ _ ⟨R,rfl,J,L,rfl,rfl⟩);refine zb ?_)
 exact q_r
theorem zyg(a b d:Option Addr)(V Q cd x e m:Nat)(w:World)(ha:SlA w a (zac x))(hb:SlA w b (zac e))(hd:SlA w d (zac m))(hx:nd 65536 x<20000)(he:nd 65536 e<20000)(hm:nd 65536 m<20000)(h0:0<m):
  Sy.Fn Tryz.prog 233 [.slice a (nd 65536 x) V,.slice b (nd 65536 e) Q,.slice d (nd 65536 m) cd] w No (zc7 (x^e%m)):=by
 refine zt Tryz.func233 Tryz.ntmps233 ?_;have S:=λq b1 H (r:Keep No w q) (h:SlA q b1 (zac 1))=>zlD b1 d H cd 1 m q h (hd.to r (λ_ h=> .inr h)).sla (by rw[nd1];omega) q_o h0;rw[nd1,<-zAd] at S;have W:=λq (r:Keep No w q)=>zlz b Q e q (hb.to r (λ_ h=> .inr h)).sla q_o;have Y:=zaV 2 e q_e;have b4:nd 2 e<=16*nd 65536 e:=zbj 2 e _ q_e (by rw[<-znF];exact zaV 65536 e q_e);have hM:∀(q:World) a1 H a2 U u v,Keep No w q->SlA q a1 (zac u)->SlA q a2 (zac v)->nd 65536 u<20000->nd 65536 v<20000->Sy.Fn Tryz.prog 226 [.slice a1 (nd 65536 u) H,.slice a2 (nd 65536 v) U,.slice d (nd 65536 m) cd] q No (zc7 (u*v%m)):=
  λq a1 H a2 U u v r N h2 h3 h4=>zxF a1 a2 d H U cd u v m q N h2 (hd.to r (λ_ h=> .inr h)).sla q_o q_o q_o h0
 have L:∀k,nd 65536 (x^k%m)<20000:=λk=>B3 (ztC 65536 _ m q_e h0) hm;have O:=λq i (r:Keep No w q) (Z:i<9223372036854775808)=>zqU b Q e i q (hb.to r (λ_ h=> .inr h)).sla Z;generalize b5:nd 2 e=M at*;have b0:IntKind.i64.wrap ((M:Int)-1)=(M:Int)-1:=IntWalk.i64_in _ q_o;have b3:1%m=x^(e/2^M)%m:=by rw[An Y,Ao]
 rw[b3] at S;unfold zc7 at S;repeat' (first|refine s_t ?_|refine q_k 0 ?_|refine zf 1 ?_;(refine q_s zz ?_;rintro _ _ ⟨_,rfl,rfl⟩);refine zb ?_;(refine q_s (zi (hc:=λq X r K=>S q _ _ r (.inr ⟨_,0,rfl,zp (K.has (by exact F1 F5)) Ex⟩))) ?_;rintro _ _ ⟨R,rfl,a6,c6,rfl,rfl⟩);refine zb ?_|refine q_k 2 ?_;refine q_v (za (hc:=zr W)) ?_;refine q_x (zK (hr:=b0)) ?_)
 refine zL (γ:=Nat×Option Addr×Nat) (λg=>[(0,.slice a (nd 65536 x) V),(1,.slice b (nd 65536 e) Q),(2,.slice d (nd 65536 m) cd),(7,.slice g.2.1 (nd 65536 (x^(e/2^g.1)%m)) g.2.2),(8,.int .i64 ((g.1:Int)-1))])
  (λg=>[.row (.slice g.2.1 (nd 65536 (x^(e/2^g.1)%m)) g.2.2) 3 1 (nd 65536 (x^(e/2^g.1)%m)) (zac (x^(e/2^g.1)%m))])
  (λg=>g.1<=M) (λg=>g.1) (M,a6,c6) (A7 _) ?_ ?_ ?_
 ·exact q_h
 ·exact q_h
 rintro⟨i,T,co⟩ Z;dsimp only at Z ⊢;rcases AE i with h|h
 ·subst h;rw[Nat.pow_zero,Nat.div_one];have G:decide (((0:Nat):Int)-1>=0)=false:=q_f;repeat' (first|refine s_0 ?_|refine q_k 3 ?_;refine q_v (zO (hr:=G)) ?_|refine q_k 8 ?_)
  exact q_r
 ·obtain⟨i,rfl⟩:∃j,i=j+1:=⟨i-1,by omega⟩;have a9:(((i+1:Nat):Int)-1)=((i:Nat):Int):=q_o;have P:IntKind.i64.wrap ((i:Int)-1)=(i:Int)-1:=IntWalk.i64_in _ q_o;rw[a9];have G:decide (((i:Nat):Int)>=0)=true:=q_d;have b2:=zxo x m (e/2^(i+1));have F:=zul e i;have B:=λq (r:Keep No w q) (N:SlA q T (zac (x^(e/2^(i+1))%m)))=>hM q T co T co _ _ r N N (L _) (L _);rw[b2] at B;have A:=λq (r:Keep No w q)=>O q i r q_o;rcases(show e/2^i%2=0\/e/2^i%2=1 by omega) with E|E
  ·rw[E] at A;rw[E,BZ] at F;rw[<-F] at B;have J:decide (((0:Nat):Int)=1)=false:=q_f;unfold zc7 at B;repeat' (first|refine s_t ?_|refine q_k 3 ?_;refine q_v (zO (hr:=G)) ?_|refine q_k 5 ?_;(refine q_s (zi (hc:=λq X r K=>B q r (zat K q_h))) ?_;rintro _ _ ⟨R,rfl,a7,c7,rfl,rfl⟩);refine zb ?_|refine q_k 6 ?_;refine q_v (za (hc:=zr A)) ?_;refine q_v (zS (hr:=J)) ?_|refine q_k 4 ?_;refine q_x (zK (hr:=P)) ?_)
   refine zC (i,a7,c7) (by show i<=M;omega) ?_ ?_ ?_
   ·show i<i+1;omega
   ·exact q_h
   ·exact q_h
  ·rw[E] at A;rw[E] at F;have I:=λq a1 H (r:Keep No w q) (N:SlA q a1 (zac (x^(2*(e/2^(i+1)))%m)))=>hM q a1 H a V _ x r N (ha.to r (λ_ h=> .inr h)).sla (L _) hx;rw[ztF,<-F] at I;have J:decide (((1:Nat):Int)=1)=true:=rfl;unfold zc7 at B I;repeat' (first|refine s_t ?_|refine q_k 3 ?_;refine q_v (zO (hr:=G)) ?_|refine q_k 5 ?_;(refine q_s (zi (hc:=λq X r K=>B q r (zat K q_h))) ?_;rintro _ _ ⟨R,rfl,a7,c7,rfl,rfl⟩);refine zb ?_|refine q_k 6 ?_;refine q_v (za (hc:=zr A)) ?_;refine q_v (zS (hr:=J)) ?_|refine q_k 7 ?_;(refine q_s (zi (hc:=λq X r K=>I q _ _ r (zat K q_h))) ?_;rintro _ _ ⟨R,rfl,a8,c8,rfl,rfl⟩);refine zb ?_|refine q_k 4 ?_;refine q_x (zK (hr:=P)) ?_)
   refine zC (i,a8,c8) (by show i<=M;omega) ?_ ?_ ?_
   ·show i<i+1;omega
   ·exact q_h
   ·exact q_h
theorem ztj{x y:Nat}(h:zbA x y=0):x=y:=by
 unfold zbA at h;split at h
 ·omega
 ·split at h <;> omega
end Go.Proofs.YtdnlngbjpdbffaaGreatDoor
namespace Go.Nt
open Go Go.Sy
theorem ztX:∀d:Fin 16,zcO (zhH d.1)=some d.1:=by decide +kernel
theorem zxY:∀u:Fin 256,∀d:Fin 16,zcO (UInt8.ofNat u.1)=some d.1->zhH d.1=UInt8.ofNat u.1:=by decide +kernel
theorem zyK{u:UInt8}{d:Nat}(h:zcO u=some d):zhH d=u:=by
 have:=zxY ⟨u.toNat,u.toNat_lt⟩ ⟨d,zh0 h⟩;rw[show UInt8.ofNat u.toNat=u from UInt8.ofNat_toNat] at this;exact this h
theorem zym{u:UInt8}{d q:Nat}(h:zcO u=some d)(j:q<16)(hn:q≠d):zhH q≠u:=λm=>by
 have:=ztX ⟨q,j⟩;rw[show zhH (⟨q,j⟩:Fin 16).1=u from m,h] at this;exact hn (Am this).symm
theorem ztd{u:UInt8}{q:Nat}(h:zcO u=none)(j:q<16):zhH q≠u:=λm=>by
 have:=ztX ⟨q,j⟩;rw[show zhH (⟨q,j⟩:Fin 16).1=u from m,h] at this;cases this
theorem zwl{u v:UInt8}(h:u≠v):decide (Wd.n8 u≠Wd.n8 v)=true:=decide_eq_true (λe=>h (Bf.1 (Int.ofNat.inj e)))
def zc8(l:List UInt8):List Nat:=l.map (λu=>(zcO u).getD 0)
theorem zp9:∀ {l:List UInt8}{r:List Nat},zdv l=some r->r=zc8 l
 | [],_,h=>by cases h;rfl
 |u::l,r,h=>by
  unfold zdv at h;split at h
  ·rename_i d q j m;cases h;rw[zp9 m];simp only[zc8,Au,j,EB]
  ·cases h
theorem zvg{l:List UInt8}{i d:Nat}{u:UInt8}(h:l[i]?=some u)(j:zcO u=some d):(zc8 l)[i]?=some d:=by
 simp only[zc8,AW,h,CG,j,EB]
theorem zyl(l:List UInt8):∀d∈zc8 l,d<16:=by
 intro d j;simp only[zc8,Bv] at j;obtain⟨u,-,rfl⟩:=j;cases h:zcO u with
 |none=>decide
 |some d=>exact zh0 h
theorem zyd(l:List UInt8)(i:Nat):nd 65536 (bev 16 ((zc8 l).take i))<=l.length:=by
 refine zbj _ _ _ q_e ?_;refine AK (zfn 16 _ (λd j=>zyl l d (Cb j))) ?_;refine BE (Nat.pow_le_pow_left q_e _) (AB q_e ?_);rw[AS,zc8,A0];exact Nat.min_le_right _ _
end Go.Nt
namespace Go.Proofs.YtdnlngbjpdbffaaGreatDoor
open Go Go.Sy Go.Nt Go.RowKit
theorem ztA:zac 0= []:=by unfold zac cd;rw[zb4];rfl
attribute [local irreducible] Sy SyL SyX Sy.Fn callFunc zg zac iC
theorem ztu(l:List UInt8)(w:World)(hx:l.length<10000):
  Sy.Fn Tryz.prog 279 [.string (str l)] w No (λv R=>match parse l with
   |none=>v= .tuple #[.slice none 0 0,.bool false]/\R= []
   |some x=>∃a c,v= .tuple #[.slice a (nd 65536 x) c,.bool true]/\R= [.row (.slice a (nd 65536 x) c) 3 1 (nd 65536 x) (zac x)]):=by
 refine zt Tryz.func279 Tryz.ntmps279 ?_;repeat' (first|refine s_0 ?_|refine q_k 0 ?_)
 refine zcu (γ:=Unit) (λ_=>[(0,.string (str l)),(2,.slice none 0 0),(3,.bool false),(19,.bool (zdu l))]) (λ_=>[]) (λ_=>True) ?_ ?_
 ·cases l with
  |nil=>
   rw[show zdu []=true from rfl];have V:decide ((((str []).size:Nat):Int)=0)=true:=rfl;repeat' (first|refine zap ?_|refine zao ?_|refine q_k 1 ?_;refine q_x (zS (hr:=V)) ?_)
   exact zaj () trivial q_h q_h
  |cons u r=>
   have F:(str (u::r)).size=r.length+1:=rfl;have V:decide ((((str (u::r)).size:Nat):Int)=0)=false:=decide_eq_false (by rw[F];omega);by_cases hu:u=48
   ·have G:decide (((u.toNat:Nat):Int)=48)=true:=decide_eq_true (by rw[hu];rfl);by_cases hr:0<r.length
    ·rw[show zdu (u::r)=true by simp only[zdu,hu,decide_true,hr,En]];have Z:decide (1<(((str (u::r)).size:Nat):Int))=true:=decide_eq_true (by rw[F];omega);repeat' (first|refine zap ?_|refine zao ?_|refine q_k 1 ?_;refine q_x (zS (hr:=V)) ?_;refine q_v (zR (s:=str (u::r)) (u:=u) (hv:=rfl)) ?_;refine q_x (zS (hr:=G)) ?_;refine q_x (zH (hr:=Z)) ?_)
     exact zaj () trivial q_h q_h
    ·rw[show zdu (u::r)=false by simp only[zdu,hr,decide_false,Cy]];have Z:decide (1<(((str (u::r)).size:Nat):Int))=false:=decide_eq_false (by rw[F];omega);repeat' (first|refine zap ?_|refine zao ?_|refine q_k 1 ?_;refine q_x (zS (hr:=V)) ?_;refine q_v (zR (s:=str (u::r)) (u:=u) (hv:=rfl)) ?_;refine q_x (zS (hr:=G)) ?_;refine q_x (zH (hr:=Z)) ?_)
     exact zaj () trivial q_h q_h
   ·rw[show zdu (u::r)=false by simp only[zdu,hu,decide_false,BX]];have G:decide (((u.toNat:Nat):Int)=48)=false:=decide_eq_false (λh=>hu (Bf.1 (show u.toNat=48 by omega)));repeat' (first|refine zap ?_|refine zao ?_|refine q_k 1 ?_;refine q_x (zS (hr:=V)) ?_;refine q_v (zR (s:=str (u::r)) (u:=u) (hv:=rfl)) ?_;refine q_x (zS (hr:=G)) ?_)
    exact zaj () trivial q_h q_h
 rintro - -;unfold parse;cases hb:zdu l with
 |true=>
  rw[if_pos rfl];repeat' (first|refine s_0 ?_|refine q_k 2 ?_)
  exact q_r
 |false=>
 rw[if_neg q_e];repeat' (first|refine s_t ?_|refine zA [3,4] ?_;refine zb ?_)
 refine zbg (zaT 3 1) ?_;obtain⟨n,hn⟩:∃n,n=l.length:=⟨_,rfl⟩;have F:(str l).size=n:=by rw[hn];rfl
 have L:=zyd l;rw[<-hn] at hx L;refine zL (γ:=Nat×Option Addr×Nat) (λg=>[(0,.string (str l)),(4,.slice g.2.1 (nd 65536 (bev 16 ((zc8 l).take g.1))) g.2.2),(5,.int .i64 g.1)])
  (λg=>[.row (.slice g.2.1 (nd 65536 (bev 16 ((zc8 l).take g.1))) g.2.2) 3 1 (nd 65536 (bev 16 ((zc8 l).take g.1))) (zac (bev 16 ((zc8 l).take g.1)))])
  (λg=>g.1<=n/\∀j<g.1,∃v d,l[j]?=some v/\zcO v=some d) (λg=>n-g.1) (0,none,0) ⟨AA _,λj hj=>absurd hj q_o⟩ ?_ ?_ ?_
 ·rw[show bev 16 ((zc8 l).take 0)=0 from rfl,zb4];exact q_h
 ·show SubR [.row (.slice none (nd 65536 (bev 16 ((zc8 l).take 0))) 0) 3 1 (nd 65536 (bev 16 ((zc8 l).take 0))) (zac (bev 16 ((zc8 l).take 0)))] _;rw[show bev 16 ((zc8 l).take 0)=0 from rfl,zb4,ztA];exact q_h
 rintro⟨i,a,c⟩ ⟨hi,N⟩;dsimp only at hi N ⊢;have hX:=L i;have m:decide (((i:Nat):Int)<(((str l).size:Nat):Int))=decide (i<n):=decide_eq_decide.2 (by rw[F];omega);by_cases hlt:i<n
 ·obtain⟨u,hu⟩:∃u,l[i]?=some u:=⟨l[i]'q_o,A2 _⟩;have K:(str l).data[i]?=some u:=by
   show l.toArray[i]?=_;rw[BJ,hu]
  rw[decide_eq_true hlt] at m;have O:=λd (H:zcO u=some d)=>ziS 16 (zc8 l) i d (zvg hu H);have a9:=L (i+1);generalize b0:bev 16 ((zc8 l).take i)=X at*;repeat' (first|refine s_t ?_|refine q_k 5 ?_;refine q_v (zn (hr:=m)) ?_|refine q_k 7 ?_)
  have B:∀q<16,(str hexT).data[q]?=some (zhH q):=λq hq=>by
   show hexT.toArray[q]?=_;rw[BJ];exact zuP q hq
  cases H:zcO u with
  |none=>
   have M:zdv l=none:=by
    cases I:zdv l with
    |none=>rfl
    |some r=>
     obtain⟨d,J,_⟩:=zfN I i u hu;rw[H] at J;cases J
   rw[M];refine zL (γ:=Nat) (λq=>[(0,.string (str l)),(5,.int .i64 i),(6,.int .i64 q)]) (λ_=>[]) (λq=>q<=16) (λq=>16-q) 0 (AA _) ?_ ?_ ?_
   ·exact q_h
   ·exact Ev
   intro q hq;by_cases hq6:q<16
   ·have P:=B q hq6;have E:=zwl (ztd H hq6);repeat' (first|refine s_t ?_|refine zai (id:=8) 8 [[],[0],[0,1],[0,1,2],[0,1,2,3],[0,1,2],[0,1,2],[0,1,2,5,6],[0,1,2,3,4,5,6,7],[0,1,2,3,4,5,6,7,8]] mixed ?_ ?_;kernel_rfl;refine zB ?_;refine q_D zn ?_;refine zB ?_;refine zB ?_;refine q_D (zR (s:=str hexT) (hv:=P)) ?_;refine zB ?_;refine zB ?_;refine q_D (zR (s:=str l) (u:=u) (hv:=K)) ?_;refine zaF ?_;refine q_v (zad (hr:=E)) ?_;refine zdz ?_|refine q_k 9 ?_;refine zba ?_;refine zb ?_)
    refine zC (q+1) ?_ ?_ ?_ ?_
    ·show q+1<=16;omega
    ·show 16-(q+1)<16-q;omega
    ·exact q_h
    ·exact Ev
   obtain rfl:q=16:=q_o;repeat' (first|refine s_0 ?_|refine zai (id:=8) 8 [[],[0],[0,1],[0,1,2],[0,1,2,3],[0,1,2],[0,1,2],[0,1,2,5,6],[0,1,2,3,4,5,6,7],[0,1,2,3,4,5,6,7,8]] mixed ?_ ?_;kernel_rfl;refine zB ?_;refine q_D zn ?_;refine zB ?_;refine zcW (λ_=>rfl) rfl ?_;refine zcW (λ_=>rfl) rfl ?_;refine zcW (λ_=>rfl) rfl ?_;refine zcW (λ_=>rfl) rfl ?_;refine zcW (λ_=>rfl) rfl ?_;refine zaF ?_;refine zaG rfl rfl rfl ?_;refine zdz ?_|refine q_k 10 ?_;refine zaH ?_|refine q_k 11 ?_)
   exact q_r
  |some d=>
   have S:=zh0 H;have O:=O d H;refine zL (γ:=Nat) (λq=>[(0,.string (str l)),(4,.slice a (nd 65536 X) c),(5,.int .i64 i),(6,.int .i64 q)]) (λ_=>[.row (.slice a (nd 65536 X) c) 3 1 (nd 65536 X) (zac X)]) (λq=>q<=d) (λq=>d-q) 0 (AA _) ?_ ?_ ?_
   ·exact q_h
   ·exact q_h
   intro q hq;by_cases hqd:q<d
   ·have P:=B q q_o;have E:=zwl (zym H (show q<16 by omega) q_o);repeat' (first|refine s_t ?_|refine zai (id:=8) 8 [[],[0],[0,1],[0,1,2],[0,1,2,3],[0,1,2],[0,1,2],[0,1,2,5,6],[0,1,2,3,4,5,6,7],[0,1,2,3,4,5,6,7,8]] mixed ?_ ?_;kernel_rfl;refine zB ?_;refine q_D zn ?_;refine zB ?_;refine zB ?_;refine q_D (zR (s:=str hexT) (hv:=P)) ?_;refine zB ?_;refine zB ?_;refine q_D (zR (s:=str l) (u:=u) (hv:=K)) ?_;refine zaF ?_;refine q_v (zad (hr:=E)) ?_;refine zdz ?_|refine q_k 9 ?_;refine zba ?_;refine zb ?_)
    refine zC (q+1) ?_ ?_ ?_ ?_
    ·show q+1<=d;omega
    ·show d-(q+1)<d-q;omega
    ·exact q_h
    ·exact q_h
   obtain rfl:q=d:=q_o;have P:=B q S;rw[zyK H] at P;have E:decide (Wd.n8 u≠Wd.n8 u)=false:=decide_eq_false (λh=>h rfl);have U:=λA (h:SlA A a (zac X))=>ztw a c X 4 A h q_o q_e;rw[show X*2^4=X*16 from rfl] at U;have a7:=λA=>zlr q A q_o;have T:nd 65536 (X*16)<100000000:=by
    refine B3 (zbj 65536 (X*16) (nd 65536 X+1) q_e ?_) q_o;have:=zaV 65536 X q_e;rw[AN];omega
   have a6:nd 65536 q<100000000:=B3 (zbj 65536 q 1 q_e q_o) q_e;have Q:=λA a1 c1 a2 c2 (J:SlA A a1 (zac (X*16))) (W:SlA A a2 (zac q))=>zxW a1 a2 c1 c2 (X*16) q A J W T a6;rw[<-O] at Q;generalize X*16=Y at*;repeat' (first|refine s_0 ?_|refine zai (id:=8) 8 [[],[0],[0,1],[0,1,2],[0,1,2,3],[0,1,2],[0,1,2],[0,1,2,5,6],[0,1,2,3,4,5,6,7],[0,1,2,3,4,5,6,7,8]] mixed ?_ ?_;kernel_rfl;refine zB ?_;refine q_D zn ?_;refine zB ?_;refine zB ?_;refine q_D (zR (s:=str hexT) (hv:=P)) ?_;refine zB ?_;refine zB ?_;refine q_D (zR (s:=str l) (u:=u) (hv:=K)) ?_;refine zaF ?_;refine q_v (zad (hr:=E)) ?_;refine zdz ?_|refine q_k 10 ?_;refine zaH ?_|refine q_k 12 ?_;(refine q_s (zi (hc:=λA X hk I=>U A (zat I q_h))) ?_;rintro _ _ ⟨R,rfl,a3,c3,rfl,rfl⟩);refine zb ?_;(refine q_s (zi (hc:=λA X hk I=>a7 A)) ?_;rintro _ _ ⟨R,rfl,a4,c4,rfl,rfl⟩);(refine q_s (zi (hc:=λA X hk I=>Q A _ _ _ _ (zat I q_h) (zat I q_h))) ?_;rintro _ _ ⟨R,rfl,a5,c5,rfl,rfl⟩);refine zb ?_|refine q_k 6 ?_;refine zba ?_;refine zb ?_)
   refine zC (i+1,a5,c5) ⟨by show i+1<=n;omega,λj hj=>?_⟩ ?_ ?_ ?_
   ·rcases AG j i with h|h
    ·exact N j h
    ·obtain rfl:j=i:=q_o;exact⟨u,q,hu,H⟩
   ·show n-(i+1)<n-i;omega
   ·exact q_h
   ·exact q_h
 obtain rfl:i=n:=q_o;obtain⟨r,hr⟩:∃r,zdv l=some r:=by
  cases I:zdv l with
  |some r=>exact⟨r,rfl⟩
  |none=>
   obtain⟨j,u,J,W,_⟩:=zi6 I;have hj:j<l.length:=by
    rcases AG j l.length with h|h
    ·exact h
    ·rw[BI h] at J;cases J
   obtain⟨v,d,h3,h4⟩:=N j q_o;rw[J] at h3;cases h3;rw[W] at h4;cases h4
 have a8:(zc8 l).take i=zc8 l:=A6 (by rw[zc8,A0];omega);rw[hr,CG];dsimp only;rw[a8,zp9 hr];rw[decide_eq_false hlt] at m;generalize bev 16 (zc8 l)=X at*;repeat' (first|refine s_0 ?_|refine q_k 5 ?_;refine q_v (zn (hr:=m)) ?_|refine q_k 13 ?_)
 exact zU rfl (zh rfl) (zh rfl) q_h ⟨a,c,rfl,rfl⟩
end Go.Proofs.YtdnlngbjpdbffaaGreatDoor
