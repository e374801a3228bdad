/- Lemmas of this proof. -/
import Derived.Test.YtdnlngbjpdbffaaGreatDoorKJ23
import Derived.Test.YtdnlngbjpdbffaaGreatDoorKJ15
set_option maxHeartbeats 2000000
set_option maxRecDepth 10000
set_option linter.all false
namespace Go.Nt
open Go Go.Sy
theorem zij:zG 0= []:=by rw[zeZ];unfold cd;rw[zbv];rfl
theorem zsm(x:Nat):(zG x).all (·.oneCell')=true:=by rw[zeZ];exact zvQ _
theorem Row.none{q:Nat}{w:World}{M:Nat->Prop}{E n c s:Nat}{a:Option Addr}{xs:List Value}{L:List Res}(hh:Holds q M L w)(hL:Has L (.row (.slice a n c) E s n xs)):a=none->c=0:=by
 have j:w.ownsRow 0 E s (.slice a n c) n xs:=hh.has hL;obtain⟨A,⟨m,B⟩|⟨b,t,r,m,_,C,F,G,H,I⟩⟩:=j
 ·cases m;exact λ_=>rfl
 ·cases m;exact λh=>by cases h
def Fi:=@Row.none
theorem zjX(e r:Nat):vl 65536 (e::cd 65536 r)=r*65536+e:=by
 simp only[vl,zt1 65536 r q_e];omega
theorem zjg{e r:Nat}(he:e<65536):∀d∈e::cd 65536 r,d<65536:=by
 intro d j;rcases Ag.1 j with rfl|h
 ·exact he
 ·unfold cd at h;exact zgF 65536 q_e _ _ d h
theorem zuD(e r:Nat): [iv e]++zG r=iC (e::cd 65536 r):=rfl
theorem znq{y g:Nat}(m:g<65536):nd 65536 (y*g)<=nd 65536 y+1:=by
 refine zaQ _ _ _ q_e ?_;have j:=zaE 65536 y q_e;rw[AJ];rcases AD g with h|h
 ·subst h;rw[Bx];exact EL (AP q_e) q_e
 ·exact AG (Bf j h) (CD _ (BH m))
theorem zom{b r y:Nat}(j:0<y)(h:r<y*b):r/y<b:=Du h
theorem zts{b r e y:Nat}(he:e<b)(hr:r<y):r*b+e<y*b:=by
 have:=AN b (show r+1<=y from hr);rw[AM,BN] at this;omega
theorem zuC{r y n:Nat}(hn:n=nd 65536 y)(K:0<y)(hr:r<y*65536)(G w:Nat)(hz:(2<=n->G=r/65536^(n-2)%65536)/\(n=1->G=0))(I:(2<=n->w=y/65536^(n-2)%65536)/\(n=1->w=0)):
  0<y/65536^(n-1)%65536*65536+w/\r/y<=((r/65536^n%65536*65536+r/65536^(n-1)%65536)*65536+G)/(y/65536^(n-1)%65536*65536+w):=by
 have j:=zaE 65536 y q_e;have m:=(zdi 65536 q_e y).2;rw[<-hn] at j m;have C:0<n:=by
  rcases AD n with h|h
  ·subst h;rw[Ad] at j;omega
  ·exact h
 have m:=m C;have q:0<65536^(n-1):=AP q_e;have J:0<y/65536^(n-1):=DZ m q;have F:y/65536^(n-1)<65536:=by
  rw[AW q,A8,<-AJ,show(n-1).succ=n by omega];exact j
 have E:r<65536^n*65536:=AG hr (AN _ (BH j));have t:r/65536^n<65536:=by
  rw[AW (AP q_e),A8];exact E
 rcases AH n 2 with h|h
 ·obtain rfl:n=1:=q_o;rw[hz.2 rfl,I.2 rfl];rw[C5,Ad,C7,Ej,C7] at*;have A:r/65536%65536*65536+r%65536=r:=by
   rw[A3 t];omega
  have B:y%65536=y:=A3 F;rw[A,B,BI,BI];exact⟨by omega,by rw[CG _ _ (show 0<65536 by decide)];exact A4 _⟩
 ·rw[hz.1 h,I.1 h];have A:=zic 65536 r n h q_e t;have B:=zkj 65536 y n h q_e j;rw[A,B];have H:0<y/65536^(n-2):=DZ (BG (AA q_e q_o) m) (AP q_e);exact⟨H,zpO H rfl rfl q_e⟩
end Go.Nt
namespace Go.Proofs.YtdnlngbjpdbffaaGreatDoor
open Go Go.Sy Go.Nt Go.RowKit
attribute [local irreducible] Sy SyL SyX Sy.Fn callFunc zf zG iC
theorem zqt(n:Nat):∃f:Nat->Nat,(∀x,(2<=n->f x=x/65536^(n-2)%65536)/\(n=1->f x=0))/\
  ∀(a:Option Addr) (c x:Nat) (w:World),0<n->SlA w a (zG x)->q_G 231 [.slice a (nd 65536 x) c,.int .i64 ((n:Int)-2)] w (iv (f x)):=by
 rcases AH n 2 with h|h
 ·refine⟨λ_=>0,λx=>⟨λj=>absurd j q_o,λ_=>rfl⟩,λa c x w h0 m=>?_⟩;exact zq5 a _ c _ w q_o
 ·refine⟨λx=>x/65536^(n-2)%65536,λx=>⟨λ_=>rfl,λj=>absurd j q_o⟩,λa c x w h0 m=>?_⟩;have e:(n:Int)-2=((n-2:Nat):Int):=q_o;rw[e];exact zb3 a c x (n-2) w m
theorem zjZ(a b:Option Addr)(ca Y x y:Nat)(w:World)(ha:SlA w a (zG x))(hb:SlA w b (zG y))(hx:nd 65536 x<100000)(hy:nd 65536 y<100000)(O:0<y):
  Sy.Fn Tryz.prog 232 [.slice a (nd 65536 x) ca,.slice b (nd 65536 y) Y] w No (λv R=>∃a1 c1 a2 c2,v= .tuple #[.slice a1 (nd 65536 (x/y)) c1,.slice a2 (nd 65536 (x%y)) c2]/\
   R= [.row (.slice a1 (nd 65536 (x/y)) c1) 3 1 (nd 65536 (x/y)) (zG (x/y)),.row (.slice a2 (nd 65536 (x%y)) c2) 3 1 (nd 65536 (x%y)) (zG (x%y))]):=by
 refine zo Tryz.func232 Tryz.ntmps232 ?_;have b0:=zaE 65536 x q_e;have h7:=zhG x;have i1:=zf9 x;generalize E:nd 65536 y=n,k0:nd 65536 x=k at*;have j0:zG 0= []:=zij;repeat' (first|refine s_t ?_|refine zK [0,1,2,3] ?_;refine zb ?_|refine q_k 4 ?_;refine q_x zH ?_|refine q_s zd1 ?_;rintro _ _ ⟨P,rfl,rfl⟩|(refine zW ?_;first|refine zB ?_|fail)|fail)
 refine zbn (zaO 3 1) ?_;refine zE (γ:=Nat×Option Addr×Nat) (λg=>[(0,.slice a k ca),(1,.slice b n Y),(6,.slice g.2.1 (nd 65536 (x/65536^g.1%y)) g.2.2),(7,.slice (some ⟨P,0,none⟩) k k),(8,.int .i64 n),(9,.int .i64 ((g.1:Int)-1))])
  (λg=>[.row (.slice g.2.1 (nd 65536 (x/65536^g.1%y)) g.2.2) 3 1 (nd 65536 (x/65536^g.1%y)) (zG (x/65536^g.1%y)),.blk P 3 (iC (dg 65536 k (x/65536^g.1/y*65536^g.1)))])
  (λg=>g.1<=k) (λg=>g.1) (k,none,0) (A4 _) ?_ ?_ ?_
 ·dsimp only;rw[Nat.div_eq_of_lt b0,Nat.zero_mod,zbv];exact q_h
 ·dsimp only;rw[Nat.div_eq_of_lt b0,Nat.zero_mod,Nat.zero_div,Nat.zero_mul,zbv,zf1,<-zjH,j0];exact q_h
 rintro⟨i,a6,c6⟩ hi;dsimp only at hi ⊢;rcases AD i with h0|h0
 ·subst h0;rw[Nat.pow_zero,Nat.div_one,Nat.mul_one];have W:∀d∈dg 65536 k (x/y),d<65536:=zgF 65536 q_e _ _;have j3:vl 65536 (dg 65536 k (x/y))=x/y:=zdv _ _ _ (Av (Bv _ _) b0);have a8:=zcq 65536 k (x/y);have V:=λt (h:SlA t (some ⟨P,0,none⟩) (iC (dg 65536 k (x/y))))=>zd2 (some ⟨P,0,none⟩) k k _ t a8 (A4 _) W h q_o;repeat' (first|refine s_0 ?_|refine q_k 5 ?_;refine q_v zP ?_|refine q_k 17 ?_;refine q_v (za (hc:=λt _ _ C=>V t (.inr ⟨P,0,rfl,zp (C.has (by exact F5 (FB F6))) F0⟩))) ?_;refine zb ?_)
  refine zbK (zdx (n:=k) (s:=1) (F3 F1) (by rw[zhb,a8];omega) (by unfold maxLen;omega)) ?_;refine zbK (zeI F1 a8 W) ?_;rw[j3];exact zad rfl (zr rfl) (zr rfl) q_h ⟨_,_,_,_,rfl,rfl⟩
 obtain⟨i,rfl⟩:∃j,i=j+1:=⟨i-1,by omega⟩;have h8:(((i+1:Nat):Int)-1)=((i:Nat):Int):=q_o;have j2:IntKind.i64.wrap ((i:Int)-1)=(i:Int)-1:=IntWalk.i64_in _ q_o;rw[h8];obtain⟨e1,e2⟩:=zly 65536 x y i O;have T:=zaE 65536 y q_e;rw[E] at T;have e9:=A7 (x/65536^(i+1)) O;obtain⟨ba,oa,rfl,e8⟩:=zg0 ha q_o;have c9:=e8 i _ (h7 i q_o);have a9:x/65536^i%65536<65536:=A7 _ q_e;have i5:∀(A:Nat),(dg 65536 k A).length=k:=λA=>zcq _ _ _;generalize b9:x/65536^i%y=R',f7:x/65536^i/y=Q',x/65536^i%65536=e,x/65536^(i+1)/y=A,x/65536^(i+1)%y=r at*;obtain⟨B,U⟩:∃B,B=r*65536+e:=⟨_,rfl⟩;rw[<-U] at e1 e2;have N:B<y*65536:=by rw[U];exact zts a9 e9
 have b8:=zom O N;have j9:=zaQ 65536 r n q_e (AS e9 T);have j6:=zaQ 65536 B (n+1) q_e (by
  rw[AJ];exact AG N (AN _ (BH T)))
 refine zen (λt C=>(Fi C F6:a6=none->c6=0)) λj5=>?_;repeat' (first|refine s_t ?_|refine q_k 5 ?_;refine q_v zP ?_|refine q_k 7 ?_;refine zD ?_;refine q_v (zn (hv:=c9)) ?_;(refine q_s zw ?_;rintro _ _ ⟨_,rfl,rfl⟩);refine zb ?_;(refine q_s (zbH (k:=1) (m:=nd 65536 r) (xs:=[iv e]) (news:=zG r) (km:=1+nd 65536 r) (hn:=by rw[zf9,Af]) (h1:=zsm r) (hkm:=rfl) (hys:=zuD e r)) ?_;rintro _ _ ⟨rfl,H,J,rfl⟩))
 refine zf7 (λt C=>(FR C F6:1+nd 65536 r<=J)) λc8=>?_;have L:(e::cd 65536 r).length=1+nd 65536 r:=by rw[Ac,zh7,CW]
 have V:=λt (h:SlA t H (iC (e::cd 65536 r)))=>zd2 H (1+nd 65536 r) J (e::cd 65536 r) t L c8 (zjg a9) h q_o;rw[zjX,<-U] at V;repeat' (first|refine s_0 ?_|(refine zW ?_;first|refine q_v (za (hc:=λt _ _ C=>V t (zI C (by exact F5 F6)))) ?_|refine zB ?_|fail)|fail)
 refine zbn (zeI F1 L (zjg a9)) ?_;rw[zjX,<-U];have b6:0<n:=by
  rcases AD n with h|h
  ·subst h;rw[Ad] at T;omega
  ·exact h
 obtain⟨f,Q,e4⟩:=zqt n;have e5:∀x,f x<65536:=λx=>by
  rcases AH n 2 with h|h
  ·rw[(Q x).2 q_o];decide
  ·rw[(Q x).1 h];exact A7 _ q_e
 obtain⟨f6,I⟩:=zuC E.symm O N (f B) (f y) (Q B) (Q y);have d9:=λt (h:SlA t H (zG B))=>zb3 H J B n t h;have e0:=λt (h:SlA t H (zG B))=>zb3 H J B (n-1) t h;have e3:=λt (h:SlA t H (zG B))=>e4 H J B t b6 h;have a7:=λt (S:Keep No w t)=>e4 b Y y t b6 (hb.to S (λ_ h=> .inr h)).sla;rw[E] at a7;obtain⟨bb,ob,rfl,j1⟩:=zg0 hb (by rw[zf9,E];exact b6);have d8:=j1 (n-1) _ (zhG y (n-1) (by rw[E];omega));have b1:B/65536^n%65536<65536:=A7 _ q_e;have b2:B/65536^(n-1)%65536<65536:=A7 _ q_e;have b3:=e5 B;have b4:=e5 y;have b5:y/65536^(n-1)%65536<65536:=A7 _ q_e;generalize f y=E2,y/65536^(n-1)%65536=E1,f B=D3,B/65536^(n-1)%65536=D2,B/65536^n%65536=D1 at*;have s1:IntKind.i64.wrap ((n:Int)-1)=((n-1:Nat):Int):=q_w;have s2:IntKind.i64.wrap ((n:Int)-2)=(n:Int)-2:=IntWalk.i64_in _ q_o;obtain⟨T1,f8⟩:∃T1,T1=D1*65536:=⟨_,rfl⟩;obtain⟨T2,f9⟩:∃T2,T2=T1+D2:=⟨_,rfl⟩;obtain⟨T3,h3⟩:∃T3,T3=T2*65536:=⟨_,rfl⟩;obtain⟨T4,h4⟩:∃T4,T4=T3+D3:=⟨_,rfl⟩;obtain⟨U1,c0⟩:∃U1,U1=E1*65536:=⟨_,rfl⟩;obtain⟨U2,c7⟩:∃U2,U2=U1+E2:=⟨_,rfl⟩;rw[<-f8,<-f9,<-h3,<-h4,<-c0,<-c7] at I;rw[<-c0,<-c7] at f6;obtain⟨G,hG⟩:∃G,G=T4/U2:=⟨_,rfl⟩;rw[<-hG] at I;have m1:IntKind.i64.wrap ((D1:Int)*65536)=((T1:Nat):Int):=q_w;have m2:IntKind.i64.wrap ((T1:Int)+(D2:Int))=((T2:Nat):Int):=q_w;have m3:IntKind.i64.wrap ((T2:Int)*65536)=((T3:Nat):Int):=q_w;have m4:IntKind.i64.wrap ((T3:Int)+(D3:Int))=((T4:Nat):Int):=q_w;have m5:IntKind.i64.wrap ((E1:Int)*65536)=((U1:Nat):Int):=q_w;have m6:IntKind.i64.wrap ((U1:Int)+(E2:Int))=((U2:Nat):Int):=q_w;have m7:IntKind.i64.wrap ((T4:Int).tdiv (U2:Int))=((G:Nat):Int):=by rw[hG];exact zcV q_o
 have m8:(U2:Int)≠0:=q_o;obtain⟨g0,j7⟩:∃g0,g0=min G 65535:=⟨_,rfl⟩;have m9:min (G:Int) 65535=((g0:Nat):Int):=q_o;have e6:B/y<=g0/\g0<=65535:=by
  revert I b8
  generalize B/y=q;intro I b8;omega
 have e7:=λt=>zho g0 t q_o;have j4:=zaQ 65536 g0 1 q_e q_o;have M:=λt a2 c2 (h1:SlA t (some ⟨bb,ob,none⟩) (zG y)) (Z:SlA t a2 (zG g0))=>zo1 (some ⟨bb,ob,none⟩) a2 Y c2 y g0 t h1 Z q_o q_o;rw[E] at M;repeat' (first|refine s_0 ?_|refine q_k 8 ?_;refine q_v (za (hc:=λt _ _ C=>d9 t (zI C (by exact F5 F6)))) ?_;refine q_x (zas (hr:=m1)) ?_;refine q_v (zH (hr:=s1)) ?_;refine q_v (za (hc:=λt _ _ C=>e0 t (zI C (by exact F5 F6)))) ?_;refine q_v (zA (hr:=m2)) ?_;refine q_x (zas (hr:=m3)) ?_;refine q_v (zH (hr:=s2)) ?_;refine q_v (za (hc:=λt _ _ C=>e3 t (zI C (by exact F5 F6)))) ?_;refine q_x (zA (hr:=m4)) ?_|refine z5 (id:=9) 10 [[],[],[1],[0,1,2],[0,1,2,3],[0,1,2,3,4],[],[],[7],[6,7,8],[0,1,2,3,4,5,6,7,8,9],[0,1,2,3,4,5,6,7,8,9,10]] mixed ?_ ?_;kernel_rfl;refine zt ?_;refine zt ?_;refine q_D (zH (hr:=s1)) ?_;refine zT ?_;refine q_D (zn (hv:=d8)) ?_;refine q_D (zas (hr:=m5)) ?_;refine zt ?_;refine zt ?_;refine q_D (zH (hr:=s2)) ?_;refine q_D (za (hc:=λt _ S _=>a7 t S)) ?_;refine zam ?_;refine q_v (zA (hr:=m6)) ?_;refine zB ?_|refine q_k 10 ?_;refine q_v (zbb (hb:=m8) (hr:=m7)) ?_;refine q_x (zuH m9) ?_|refine q_k 11 ?_;(refine q_s (zh (hc:=λt X S C=>e7 t)) ?_;rintro _ _ ⟨R,rfl,a2,c2,rfl,rfl⟩);(refine q_s (zh (hc:=λt X S C=>M t _ _ (hb.to S (λ_ h=> .inr h)).sla (zI C q_h))) ?_;rintro _ _ ⟨R,rfl,a3,c3,rfl,rfl⟩);refine zb ?_)
 refine FJ (fr':=[(0,.slice (some ⟨ba,oa,none⟩) k ca),(1,.slice (some ⟨bb,ob,none⟩) n Y),(6,.slice H (nd 65536 B) J),(7,.slice (some ⟨P,0,none⟩) k k),(8,.int .i64 n),(9,.int .i64 i),(12,.int .i64 g0),(13,.slice a3 (nd 65536 (y*g0)) c3)])
  (L':=[.row (.slice H (nd 65536 B) J) 3 1 (nd 65536 B) (zG B),.row (.slice a3 (nd 65536 (y*g0)) c3) 3 1 (nd 65536 (y*g0)) (zG (y*g0)),.blk P 3 (iC (dg 65536 k (A*65536^(i+1))))]) ?_ q_h q_h
 have f5:(iC (dg 65536 k (A*65536^(i+1)))).set i (iv (B/y))=iC (dg 65536 k (Q'*65536^i)):=by
  have hz:A*65536^(i+1)/65536^i%65536=0:=by
   rw[AJ,A8 (65536^i),<-Ao,CJ _ (AP q_e)];exact EV _ _
  have h:=zhH 65536 k (A*65536^(i+1)) i (B/y);rw[hz,AR] at h;have h:=h b8;rw[e1,show(A*65536+B/y)*65536^i=A*65536^(i+1)+B/y*65536^i by rw[AM,AJ,A8 (65536^i),<-Ao],<-h];unfold iC;rw[BS]
 have j8:(iC (dg 65536 k (A*65536^(i+1)))).length=k:=by rw[zhb,zcq]
 clear e7 M d9 e0 e3 a7 m1 m2 m3 m4 m5 m6 m7 m8 m9 c9 d8 e8;repeat' (first|refine zd4 ?_|fail)
 refine zE (γ:=Nat×Option Addr×Nat) (λg=>[(0,.slice (some ⟨ba,oa,none⟩) k ca),(1,.slice (some ⟨bb,ob,none⟩) n Y),(6,.slice H (nd 65536 B) J),(7,.slice (some ⟨P,0,none⟩) k k),(8,.int .i64 n),(9,.int .i64 i),(12,.int .i64 g.1),(13,.slice g.2.1 (nd 65536 (y*g.1)) g.2.2)])
  (λg=>[.row (.slice H (nd 65536 B) J) 3 1 (nd 65536 B) (zG B),.row (.slice g.2.1 (nd 65536 (y*g.1)) g.2.2) 3 1 (nd 65536 (y*g.1)) (zG (y*g.1)),.blk P 3 (iC (dg 65536 k (A*65536^(i+1))))])
  (λg=>B/y<=g.1/\g.1<=65535) (λg=>g.1) (g0,a3,c3) e6 ?_ ?_ ?_
 ·exact q_h
 ·exact q_h
 rintro⟨g,a4,c4⟩ ⟨h5,h6⟩;dsimp only at h5 h6 ⊢;have k5:0<=B/y:=AE _;have i9:=znq (y:=y) (g:=g) q_o;rw[E] at i9;have K:=λt (h1:SlA t a4 (zG (y*g))) (Z:SlA t H (zG B))=>zdQ a4 H c4 J (y*g) B t h1 Z q_o q_o;by_cases hgo:B/y<g
 ·have i7:B<y*g:=by rw[A8];exact(AW O).1 hgo
  rw[ziV i7] at K;obtain⟨h,rfl⟩:∃h,g=h+1:=⟨g-1,by omega⟩;have F:=λt (h1:SlA t a4 (zG (y*(h+1)))) (Z:SlA t (some ⟨bb,ob,none⟩) (zG y))=>ziL a4 (some ⟨bb,ob,none⟩) c4 Y (y*(h+1)) y t h1 Z q_o (by rw[E8];omega);rw[E,show y*(h+1)-y=y*h by rw[E8,B4]] at F;have hd:IntKind.i64.wrap (((h+1:Nat):Int)-1)=((h:Nat):Int):=q_w;repeat' (first|refine s_t ?_|refine q_k 12 ?_;refine q_v (za (hc:=λt _ _ C=>K t (zI C q_h) (zI C q_h))) ?_;refine q_v zF ?_|refine q_k 13 ?_;refine q_x (zH (hr:=hd)) ?_|refine q_k 14 ?_;(refine q_s (zh (hc:=λt X S C=>F t (zI C q_h) (hb.to S (λ_ h=> .inr h)).sla)) ?_;rintro _ _ ⟨R,rfl,a5,c5,rfl,rfl⟩);refine zb ?_)
  refine zy (h,a5,c5) ⟨by show B/y<=h;omega,by show h<=65535;omega⟩ ?_ ?_ ?_
  ·show h<h+1;omega
  ·exact q_h
  ·exact q_h
 ·obtain rfl:g=B/y:=q_o;have h9:y*(B/y)<=B:=Nat.mul_div_le B y;have i8:decide ((0:Int)<za0 (y*(B/y)) B)=false:=decide_eq_false (by unfold za0;split <;> (try split) <;> omega);generalize za0 (y*(B/y)) B=cq at*;have F:=λt (h1:SlA t H (zG B)) (Z:SlA t a4 (zG (y*(B/y))))=>ziL H a4 J c4 B (y*(B/y)) t h1 Z q_o h9;rw[show B-y*(B/y)=R' by rw[e2,Nat.mod_def]] at F;generalize B/y=q at*;repeat' (first|refine s_0 ?_|refine q_k 12 ?_;refine q_v (za (hc:=λt _ _ C=>K t (zI C q_h) (zI C q_h))) ?_;refine q_v (zF (hr:=i8)) ?_|refine q_k 15 ?_;refine zD ?_;refine zS ?_|refine q_k 16 ?_;(refine q_s (zh (hc:=λt X S C=>F t (zI C q_h) (zI C q_h))) ?_;rintro _ _ ⟨R,rfl,a5,c5,rfl,rfl⟩);refine zb ?_|refine q_k 6 ?_;refine q_x (zH (hr:=j2)) ?_)
  refine zy (i,a5,c5) ?_ ?_ ?_ ?_
  ·show i<=k;omega
  ·show i<i+1;omega
  ·dsimp only;rw[b9];exact q_h
  ·dsimp only;rw[b9,f7,<-f5];exact q_h
end Go.Proofs.YtdnlngbjpdbffaaGreatDoor
namespace Go.Nt
theorem zrN(b x y n:Nat)(hb:2<=b)(hx:nd b x<=n)(j:nd b y<=n):nd b (x+y)<=n+1:=by
 refine zaQ b _ _ hb ?_;have m:=AG (zaE b x hb) (AA q_o hx);have q:=AG (zaE b y hb) (AA q_o j);rw[AJ];have:=CD (b^n) hb;omega
theorem zqm(b x y:Nat)(hb:2<=b):nd b (x*y)<=nd b x+nd b y:=by
 refine zaQ b _ _ hb ?_;rw[As];exact Nat.mul_lt_mul'' (zaE b x hb) (zaE b y hb)
theorem zo8(b x y:Nat)(hb:2<=b)(h:x<=y):nd b x<=nd b y:=zaQ b _ _ hb (Av h (zaE b y hb))
theorem zqq(b x m:Nat)(hb:2<=b)(h:0<m):nd b (x%m)<=nd b m:=zo8 b _ _ hb (BH (A7 _ h))
theorem zsH(e i:Nat):e/2^i=2*(e/2^(i+1))+e/2^i%2:=by
 have:=AV (e/2^i) 2;rw[Ak,<-AJ] at this;exact this.symm
theorem zuF(a m k:Nat):a^k%m*(a^k%m)%m=a^(2*k)%m:=by rw[<-Dt,<-As,Ez]
theorem zqA(a m k:Nat):a^k%m*a%m=a^(k+1)%m:=by rw[Dz,AJ]
end Go.Nt
namespace Go.Proofs.YtdnlngbjpdbffaaGreatDoor
open Go Go.Sy Go.Nt Go.RowKit
theorem nd1:nd 65536 1=1:=zch 65536 1 1 q_e q_e (λ_=>by decide)
theorem zw2: [Value.int IntKind.i64 1]=zG 1:=by
 rw[zeZ];unfold cd;rw[nd1];rfl
attribute [local irreducible] Sy SyL SyX Sy.Fn callFunc zf zG iC
theorem zfM(a b:Option Addr)(j t x m:Nat)(w:World)(ha:SlA w a (zG x))(hb:SlA w b (zG m))(hx:nd 65536 x<90000)(hm:nd 65536 m<90000)(h0:0<m):
  Sy.Fn Tryz.prog 222 [.slice a (nd 65536 x) j,.slice b (nd 65536 m) t] w No (zaW (x%m)):=by
 refine zo Tryz.func222 Tryz.ntmps222 ?_;have C:=λB (A:Keep No w B)=>zjZ a b j t x m B (ha.to A (λ_ h=> .inr h)).sla (hb.to A (λ_ h=> .inr h)).sla q_o q_o h0;unfold zaW;generalize x%m=r,x/m=q at*;repeat' (first|refine s_0 ?_|refine zK [0,2] ?_;refine zb ?_|refine q_k 1 ?_;(refine q_s (zh (hc:=zq C)) ?_;rintro _ _ ⟨R,rfl,a5,F,E,G,rfl,rfl⟩);refine zb ?_)
 exact q_r
theorem zu4(a b d:Option Addr)(t A cd x y m:Nat)(w:World)(ha:SlA w a (zG x))(hb:SlA w b (zG y))(F:SlA w d (zG m))(hx:nd 65536 x<40000)(L:nd 65536 y<40000)(hm:nd 65536 m<40000)(h0:0<m):
  Sy.Fn Tryz.prog 225 [.slice a (nd 65536 x) t,.slice b (nd 65536 y) A,.slice d (nd 65536 m) cd] w No (zaW ((x+y)%m)):=by
 refine zo Tryz.func225 Tryz.ntmps225 ?_;have K:=zrN 65536 x y 40000 q_e q_o q_o;have C:=λj (q:Keep No w j)=>zo9 a b t A x y j (ha.to q (λ_ h=> .inr h)).sla (hb.to q (λ_ h=> .inr h)).sla q_o q_o;have E:=λj a1 B (q:Keep No w j) (h:SlA j a1 (zG (x+y)))=>zfM a1 d B cd (x+y) m j h (F.to q (λ_ h=> .inr h)).sla q_o q_o h0;generalize x+y=s at*;unfold zaW at*;generalize s%m=r at*;repeat' (first|refine s_0 ?_|refine q_k 0 ?_|refine q_k 1 ?_;(refine q_s (zh (hc:=zq C)) ?_;rintro _ _ ⟨R,rfl,a5,I,rfl,rfl⟩);refine zb ?_;(refine q_s (zh (hc:=λj X q G=>E j _ _ q (zI G q_h))) ?_;rintro _ _ ⟨R,rfl,H,J,rfl,rfl⟩);refine zb ?_)
 exact q_r
theorem zkK(a b d:Option Addr)(t A cd x y m:Nat)(w:World)(ha:SlA w a (zG x))(hb:SlA w b (zG y))(F:SlA w d (zG m))(hx:nd 65536 x<40000)(L:nd 65536 y<40000)(hm:nd 65536 m<40000)(h0:0<m):
  Sy.Fn Tryz.prog 226 [.slice a (nd 65536 x) t,.slice b (nd 65536 y) A,.slice d (nd 65536 m) cd] w No (zaW (x*y%m)):=by
 refine zo Tryz.func226 Tryz.ntmps226 ?_;have K:=zqm 65536 x y q_e;have C:=λj (q:Keep No w j)=>zo1 a b t A x y j (ha.to q (λ_ h=> .inr h)).sla (hb.to q (λ_ h=> .inr h)).sla q_o q_o;have E:=λj a1 B (q:Keep No w j) (h:SlA j a1 (zG (x*y)))=>zfM a1 d B cd (x*y) m j h (F.to q (λ_ h=> .inr h)).sla q_o q_o h0;generalize x*y=s at*;unfold zaW at*;generalize s%m=r at*;repeat' (first|refine s_0 ?_|refine q_k 0 ?_|refine q_k 1 ?_;(refine q_s (zh (hc:=zq C)) ?_;rintro _ _ ⟨R,rfl,a5,I,rfl,rfl⟩);refine zb ?_;(refine q_s (zh (hc:=λj X q G=>E j _ _ q (zI G q_h))) ?_;rintro _ _ ⟨R,rfl,H,J,rfl,rfl⟩);refine zb ?_)
 exact q_r
theorem zox(a b d:Option Addr)(T O cd x e m:Nat)(w:World)(ha:SlA w a (zG x))(hb:SlA w b (zG e))(hd:SlA w d (zG m))(hx:nd 65536 x<20000)(he:nd 65536 e<20000)(hm:nd 65536 m<20000)(h0:0<m):
  Sy.Fn Tryz.prog 233 [.slice a (nd 65536 x) T,.slice b (nd 65536 e) O,.slice d (nd 65536 m) cd] w No (zaW (x^e%m)):=by
 refine zo Tryz.func233 Tryz.ntmps233 ?_;have P:=λq b1 F (r:Keep No w q) (h:SlA q b1 (zG 1))=>zfM b1 d F cd 1 m q h (hd.to r (λ_ h=> .inr h)).sla (by rw[nd1];omega) q_o h0;rw[nd1,<-zw2] at P;have U:=λq (r:Keep No w q)=>zhx b O e q (hb.to r (λ_ h=> .inr h)).sla q_o;have V:=zaE 2 e q_e;have b2:nd 2 e<=16*nd 65536 e:=zaQ 2 e _ q_e (by rw[<-zl8];exact zaE 65536 e q_e);have hM:∀(q:World) a1 F a2 S u v,Keep No w q->SlA q a1 (zG u)->SlA q a2 (zG v)->nd 65536 u<20000->nd 65536 v<20000->Sy.Fn Tryz.prog 226 [.slice a1 (nd 65536 u) F,.slice a2 (nd 65536 v) S,.slice d (nd 65536 m) cd] q No (zaW (u*v%m)):=
  λq a1 F a2 S u v r L h2 h3 h4=>zkK a1 a2 d F S cd u v m q L h2 (hd.to r (λ_ h=> .inr h)).sla q_o q_o q_o h0
 have J:∀k,nd 65536 (x^k%m)<20000:=λk=>Av (zqq 65536 _ m q_e h0) hm;have M:=λq i (r:Keep No w q) (W:i<9223372036854775808)=>zpo b O e i q (hb.to r (λ_ h=> .inr h)).sla W;generalize b3:nd 2 e=K at*;have Z:IntKind.i64.wrap ((K:Int)-1)=(K:Int)-1:=IntWalk.i64_in _ q_o;have b0:1%m=x^(e/2^K)%m:=by rw[Al V,Ad]
 rw[b0] at P;unfold zaW at P;repeat' (first|refine s_t ?_|refine q_k 0 ?_|refine zg 1 ?_;(refine q_s zw ?_;rintro _ _ ⟨_,rfl,rfl⟩);refine zb ?_;(refine q_s (zh (hc:=λq X r I=>P q _ _ r (.inr ⟨_,0,rfl,zp (I.has (by exact F5 F6)) F0⟩))) ?_;rintro _ _ ⟨R,rfl,a6,c6,rfl,rfl⟩);refine zb ?_|refine q_k 2 ?_;refine q_v (za (hc:=zq U)) ?_;refine q_x (zH (hr:=Z)) ?_)
 refine zE (γ:=Nat×Option Addr×Nat) (λg=>[(0,.slice a (nd 65536 x) T),(1,.slice b (nd 65536 e) O),(2,.slice d (nd 65536 m) cd),(7,.slice g.2.1 (nd 65536 (x^(e/2^g.1)%m)) g.2.2),(8,.int .i64 ((g.1:Int)-1))])
  (λg=>[.row (.slice g.2.1 (nd 65536 (x^(e/2^g.1)%m)) g.2.2) 3 1 (nd 65536 (x^(e/2^g.1)%m)) (zG (x^(e/2^g.1)%m))])
  (λg=>g.1<=K) (λg=>g.1) (K,a6,c6) (A4 _) ?_ ?_ ?_
 ·exact q_h
 ·exact q_h
 rintro⟨i,Q,co⟩ W;dsimp only at W ⊢;rcases AD i with h|h
 ·subst h;rw[Nat.pow_zero,Nat.div_one];have E:decide (((0:Nat):Int)-1>=0)=false:=q_f;repeat' (first|refine s_0 ?_|refine q_k 3 ?_;refine q_v (zP (hr:=E)) ?_|refine q_k 8 ?_)
  exact q_r
 ·obtain⟨i,rfl⟩:∃j,i=j+1:=⟨i-1,by omega⟩;have Y:(((i+1:Nat):Int)-1)=((i:Nat):Int):=q_o;have N:IntKind.i64.wrap ((i:Int)-1)=(i:Int)-1:=IntWalk.i64_in _ q_o;rw[Y];have E:decide (((i:Nat):Int)>=0)=true:=q_d;have a9:=zuF x m (e/2^(i+1));have C:=zsH e i;have A:=λq (r:Keep No w q) (L:SlA q Q (zG (x^(e/2^(i+1))%m)))=>hM q Q co Q co _ _ r L L (J _) (J _);rw[a9] at A;have t:=λq (r:Keep No w q)=>M q i r q_o;rcases(show e/2^i%2=0\/e/2^i%2=1 by omega) with B|B
  ·rw[B] at t;rw[B,BI] at C;rw[<-C] at A;have H:decide (((0:Nat):Int)=1)=false:=q_f;unfold zaW at A;repeat' (first|refine s_t ?_|refine q_k 3 ?_;refine q_v (zP (hr:=E)) ?_|refine q_k 5 ?_;(refine q_s (zh (hc:=λq X r I=>A q r (zI I q_h))) ?_;rintro _ _ ⟨R,rfl,a7,c7,rfl,rfl⟩);refine zb ?_|refine q_k 6 ?_;refine q_v (za (hc:=zq t)) ?_;refine q_v (zaa (hr:=H)) ?_|refine q_k 4 ?_;refine q_x (zH (hr:=N)) ?_)
   refine zy (i,a7,c7) (by show i<=K;omega) ?_ ?_ ?_
   ·show i<i+1;omega
   ·exact q_h
   ·exact q_h
  ·rw[B] at t;rw[B] at C;have G:=λq a1 F (r:Keep No w q) (L:SlA q a1 (zG (x^(2*(e/2^(i+1)))%m)))=>hM q a1 F a T _ x r L (ha.to r (λ_ h=> .inr h)).sla (J _) hx;rw[zqA,<-C] at G;have H:decide (((1:Nat):Int)=1)=true:=rfl;unfold zaW at A G;repeat' (first|refine s_t ?_|refine q_k 3 ?_;refine q_v (zP (hr:=E)) ?_|refine q_k 5 ?_;(refine q_s (zh (hc:=λq X r I=>A q r (zI I q_h))) ?_;rintro _ _ ⟨R,rfl,a7,c7,rfl,rfl⟩);refine zb ?_|refine q_k 6 ?_;refine q_v (za (hc:=zq t)) ?_;refine q_v (zaa (hr:=H)) ?_|refine q_k 7 ?_;(refine q_s (zh (hc:=λq X r I=>G q _ _ r (zI I q_h))) ?_;rintro _ _ ⟨R,rfl,a8,c8,rfl,rfl⟩);refine zb ?_|refine q_k 4 ?_;refine q_x (zH (hr:=N)) ?_)
   refine zy (i,a8,c8) (by show i<=K;omega) ?_ ?_ ?_
   ·show i<i+1;omega
   ·exact q_h
   ·exact q_h
theorem zqU{x y:Nat}(h:za0 x y=0):x=y:=by
 unfold za0 at h;split at h
 ·omega
 ·split at h <;> omega
end Go.Proofs.YtdnlngbjpdbffaaGreatDoor
