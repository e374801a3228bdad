/- Lemmas of this proof. -/
import Derived.Test.YtdnlngbjpdbffaaGreatDoorKJ16
import Derived.Test.YtdnlngbjpdbffaaGreatDoorKJ17
set_option maxHeartbeats 1000000
set_option maxRecDepth 10000
set_option linter.all false
namespace Go.Nt
open Go Go.Sy
theorem zrF{a b:Nat}(h:nd 2 a+nd 2 b<=1024):a*b<18446744073709551616^16:=by
 refine zv7 h ?_;have j:=zaE 2 a q_e;have m:=zaE 2 b q_e;rw[As];exact Nat.mul_lt_mul'' j m
theorem zv6(l m:List UInt8):bn (l++m)=bn l++bn m:=by unfold bn;rw[Aw]
theorem zmk(l:List UInt8):(bn l).length=l.length:=by unfold bn;rw[A0]
theorem zh5(k:Nat)(l:List UInt8):bev 256 (bn (List.replicate k 0++l))=bev 256 (bn l):=by
 induction k with
 |zero=>rfl
 |succ k ih=>
  rw[<-ih,CT,An];show 0*256^_+bev 256 (bn (List.replicate k 0++l))=_;omega
theorem zlH(z:Nat):bev 256 (bn (1::List.replicate z 0))=256^z:=by
 show 1*256^(bn (List.replicate z 0)).length+bev 256 (bn (List.replicate z 0))=_;have:=zh5 z [];rw[AZ] at this;rw[this,zmk,AK,BN];rfl
theorem zlc(D:List UInt8)(i z:Nat)(h:i+z<=D.length):bev 256 (bn (D.take (i+z)))=bev 256 (bn (D.take i))*256^z+bev 256 (bn ((D.take (i+z)).drop i)):=by
 have e:D.take (i+z)=D.take i++(D.take (i+z)).drop i:=by
  conv=>lhs;rw[<-B7 i (D.take (i+z))]
  rw[List.take_take,BO q_o]
 conv=>lhs;rw[e]
 rw[zv6,zht,zmk];congr 3;rw[B5,AU,BO h];omega
theorem zs5(D:List UInt8)(i z:Nat)(h:i+z<=D.length):bev 256 (bn ((D.take (i+z)).drop i))<256^z:=by
 have j:=zdR 256 (bn ((D.take (i+z)).drop i)) (zgC _);rw[zmk,B5,AU,BO h,Bp] at j;exact j
theorem zqF(m a X R d:Nat):(a*X%m*R%m+a*d%m)%m=a*(X*R+d)%m:=by
 have j:Cg m (a*X%m*R%m+a*d%m) (a*X*R+a*d):=((zdS m _).trans ((zdS m (a*X)).mul (Fw m R))).add (zdS m _);rw[j.mod,Bg,Ao]
theorem zqP{m z:Nat}(h0:0<m)(hz:z=(1024-nd 2 m)/8):nd 2 m+8*z<=1024\/z=0:=q_o
theorem zww(z:Nat):256^z=2^(8*z):=by rw[B8]
theorem zh6{m z x y:Nat}(hz:nd 2 m+8*z<=1024)(hx:x<m)(q:y<=256^z):x*y<18446744073709551616^16:=by
 refine zv7 hz ?_;have j:=zaE 2 m q_e;rw[As,<-zww];exact AG (Bf (AS hx j) (AP q_e) |> λh=>Av (CD x q) h) (A4 _)
theorem zv5(z n:Nat)(h:0<z):∃c,(z-n%z)%z+n=z*c:=by
 have m:=AV n z;have q:=A7 n h;rcases AD (n%z) with j|j
 ·refine⟨n/z,?_⟩;rw[j,CM,Nat.mod_self,AR];omega
 ·refine⟨n/z+1,?_⟩;rw[A3 q_o,Bg];omega
end Go.Nt
namespace Go.Proofs.YtdnlngbjpdbffaaGreatDoor
open Go Go.Sy Go.Nt Go.RowKit
variable {ro:Option Nat}{N:Nat}{w0:World}{M:Nat->Prop}{ds:List Deferred}{g:Nat->Option Value}{L:List Res}{o:Oper}
theorem zcP(j:o.op= .build 133 #[]:=by exact rfl):OpT Tryz.prog ro N w0 M ds o g L (Det (zm 0) L):=by
 rw[<-zeF];exact zek j (ty rfl) (.inl ⟨rfl,rfl⟩) (zc rfl)
attribute [local irreducible] Sy SyL SyX Sy.Fn callFunc zf z8
theorem zlO(m a b:Nat)(w:World)(hm:m<18446744073709551616^16)(ha:a<m)(hb:b<m)(Z:nd 2 a+nd 2 b<=1024):
  q_G 244 [zm m,zm a,zm b] w (zm (a*b%m)):=by
 refine zo Tryz.func244 Tryz.ntmps244 ?_;have U:=zd m;have S:=zd a;have T:=zd b;have A:=AS ha hm;have C:=AS hb hm;have K:=λq=>zca a q A;have O:=λq=>zca b q C;have W:=zew A;have Y:=zew C;have J:=zrF Z;have t:=λq=>znO a b q A C;rw[if_pos J] at t;have hr:=λq I (h:q.rangeAt I 0 (z8 [a*b]))=>zeA m (a*b) I q hm q_o J h;have Q:=zd (a*b);have V:=zd (a*b%m);generalize nd 2 b=H,nd 2 a=G,a*b=p,a*b%m=r at*;have E:IntKind.i64.wrap ((G:Int)+(H:Int))=((G+H:Nat):Int):=q_w;have F:decide (((G+H:Nat):Int)<=1024)=true:=q_d;repeat' (first|refine s_0 ?_|refine zg 0 ?_;refine zi ?_;intro _;refine zi ?_;intro _;refine zi ?_;intro _;refine zi ?_;intro _|refine z5 (id:=1) 3 [[],[0],[],[0,1,2],[0,1,2,3],[0,1,2,3,4]] mixed ?_ ?_;kernel_rfl;refine q_D (ze (B:=zf a)) ?_;refine q_D (za (hc:=q_c K)) ?_;refine q_D (ze (B:=zf b)) ?_;refine zam ?_;refine q_v (za (hc:=q_c O)) ?_;refine q_v (zA (hr:=E)) ?_;refine q_v (zax (hr:=F)) ?_|refine zg 2 ?_;refine q_v (ze (B:=zf a)) ?_;refine q_v (ze (B:=zf b)) ?_;refine q_v (za (hc:=q_c t)) ?_;refine zb ?_;refine zi ?_;intro _;refine q_y (zj (n:=p)) ?_|refine zg 3 ?_;refine q_v (ze (B:=zf m)) ?_;refine q_v (ze (B:=zf p)) ?_|refine q_s (zbR (x:=p)) ?_;rintro _ _ ⟨bb,rfl,rfl⟩|(refine zW ?_;first|refine q_s (zh (hc:=λq X hk P=>hr q _ (zp (P.has (by exact F5 F6)) F0))) ?_;rintro _ _ ⟨R,rfl,bc,rfl,rfl⟩|refine q_v (zbc (j:=0)) ?_|refine q_v (ze (B:=zf r)) ?_|refine q_n (zj (n:=r)) ?_|fail)|fail)
 exact zaw rfl (zz (B:=zf r) rfl (ty rfl) rfl F4 F0 (zd _).symm) F2 ⟨rfl,rfl⟩
theorem zmD(m a b:Nat)(w:World)(hm:m<18446744073709551616^16)(ha:a<m)(hb:b<m)(hs:¬nd 2 a+nd 2 b<=1024)(hz:(1024-nd 2 m)/8=0):
  q_G 244 [zm m,zm a,zm b] w (zm (a*b%m)):=by
 refine zo Tryz.func244 Tryz.ntmps244 ?_;have X:=zd m;have U:=zd a;have W:=zd b;have C:=AS ha hm;have A:=AS hb hm;have Q:=λj=>zca a j C;have R:=λj=>zca b j A;have S:=λj=>zca m j hm;have Z:=zew C;have a6:=zew A;have a7:=zew hm;have h0:0<m:=q_o;obtain⟨V,q⟩:∃V:Nat->Nat,∀k,V k=k*a%m:=⟨λk=>k*a%m,λ_=>rfl⟩;have P:∀k j,q_G 293 ([zm m]++[zm (V k)]++[]) j (zm (V (2*k))):=λk j=>by
  have:=zrx m (V k) j hm (by rw[q];exact A7 _ h0);rw[show(V k+V k)%m=V (2*k) by rw[q,q,<-Nat.add_mod,<-AM,Ez]] at this;exact this
 have O:∀k j,q_G 245 ([zm m]++[zm (V k),zm a]++[]) j (zm (V (k+1))):=λk j=>by
  have:=zjS m (V k) a j hm (by rw[q];exact A7 _ h0) ha;rw[show(V k+a)%m=V (k+1) by rw[q,q,Nat.mod_add_mod,AM,BN]] at this;exact this
 have t:=λj=>zlf b a V 293 245 [zm m] [] [zm m] [] j A (en rfl) (en rfl) P O;rw[show V 0=0 by rw[q,BJ,CC],show V b=a*b%m by rw[q,A8]] at t;have Y:=zd (a*b%m);have T:=zd 0;clear P O q;generalize nd 2 m=H,nd 2 b=K,nd 2 a=J,a*b%m=r at*;have E:IntKind.i64.wrap ((J:Int)+(K:Int))=((J+K:Nat):Int):=q_w;have I:decide (((J+K:Nat):Int)<=1024)=false:=q_f;have G:IntKind.i64.wrap (1024-(H:Int))=((1024-H:Nat):Int):=q_w;have F:IntKind.i64.wrap ((((1024-H:Nat)):Int).tdiv 8)=((0:Nat):Int):=by
  have:=zcV (p:=1024-H) (k:=8) q_o;rw[hz] at this;exact this
 repeat' (first|refine s_0 ?_|refine zg 0 ?_;refine zi ?_;intro _;refine zi ?_;intro _;refine zi ?_;intro _;refine zi ?_;intro _|refine z5 (id:=1) 3 [[],[0],[],[0,1,2],[0,1,2,3],[0,1,2,3,4]] mixed ?_ ?_;kernel_rfl;refine q_D (ze (B:=zf a)) ?_;refine q_D (za (hc:=q_c Q)) ?_;refine q_D (ze (B:=zf b)) ?_;refine zam ?_;refine q_v (za (hc:=q_c R)) ?_;refine q_v (zA (hr:=E)) ?_;refine q_v (zax (hr:=I)) ?_|refine q_k 4 ?_;refine q_v (ze (B:=zf m)) ?_;refine q_v (za (hc:=q_c S)) ?_;refine q_v (zH (hr:=G)) ?_;refine q_x (zbb (hr:=F)) ?_|refine q_k 5 ?_;refine zaH ?_|refine zg 6 ?_;refine q_v (ze (B:=zf b)) ?_;refine q_v zcP ?_;refine q_v (ze (B:=zf a)) ?_;refine q_v (ze (B:=zf m)) ?_;refine q_v zaj ?_;refine q_v (ze (B:=zf m)) ?_;refine q_v zaj ?_;refine q_v (za (hc:=q_c t)) ?_;refine q_n (zj (n:=r)) ?_)
 exact zaw rfl (zz (B:=zf r) rfl (ty rfl) rfl F4 F0 (zd _).symm) F2 ⟨rfl,rfl⟩
theorem zlV(m a b:Nat)(w:World)(hm:m<18446744073709551616^16)(ha:a<m)(hb:b<m)(hs:¬nd 2 a+nd 2 b<=1024)(hz:(1024-nd 2 m)/8≠0):
  q_G 244 [zm m,zm a,zm b] w (zm (a*b%m)):=by
 refine zo Tryz.func244 Tryz.ntmps244 ?_;have i7:=zd m;have i1:=zd a;have i5:=zd b;have Z:=AS ha hm;have K:=AS hb hm;have h1:=λq=>zca a q Z;have h2:=λq=>zca b q K;have h3:=λq=>zca m q hm;have j0:=zew Z;have j1:=zew K;have j3:=zew hm;have h0:0<m:=q_o;obtain⟨z,c1⟩:∃z,z=(1024-nd 2 m)/8:=⟨_,rfl⟩;rw[<-c1] at hz;have b9:0<z:=q_o;have c0:nd 2 m+8*z<=1024:=(zqP h0 c1).resolve_right hz;have e5:z<=128:=q_o;have Y:256^z<18446744073709551616^16:=by
  have:=zh6 (x:=1) (y:=256^z) c0 (by
   rcases AH 1 m with h|h
   ·exact h
   ·exfalso;have e1:a=0:=q_o;have e2:b=0:=q_o;subst e1;subst e2;rw[zbv] at hs;omega) (A4 _)
  rwa[BN] at this
 have G:=λq aR cR (h:SlA q aR ((1::List.replicate z 0:List UInt8).map v8)) (hc:z+1<=cR)=>zb7 aR (z+1) cR (1::List.replicate z 0) q q_p hc h q_o;rw[zlH,if_pos Y] at G;have Q:IntKind.i64.wrap ((((1024-nd 2 m:Nat)):Int).tdiv 8)=((z:Nat):Int):=by
  rw[c1];exact zcV (p:=1024-nd 2 m) (k:=8) q_o
 generalize e9:nd 2 b=nb,e8:nd 2 a=na at*;have t:IntKind.i64.wrap ((na:Int)+(nb:Int))=((na+nb:Nat):Int):=q_w;have c8:decide (((na+nb:Nat):Int)<=1024)=false:=q_f;have S:IntKind.i64.wrap (1024-((nd 2 m:Nat):Int))=((1024-nd 2 m:Nat):Int):=q_w;have e4:decide ((z:Int)=0)=false:=q_f;have hys: [Value.int IntKind.u8 1]++List.replicate z (Value.int IntKind.u8 0)=(1::List.replicate z 0:List UInt8).map v8:=by
  rw[Ay,Ba];rfl
 have h9:=zd (256^z);repeat' (first|refine s_0 ?_|refine zg 0 ?_;refine zi ?_;intro _;refine zi ?_;intro _;refine zi ?_;intro _;refine zi ?_;intro _|refine z5 (id:=1) 3 [[],[0],[],[0,1,2],[0,1,2,3],[0,1,2,3,4]] mixed ?_ ?_;kernel_rfl;refine q_D (ze (B:=zf a)) ?_;refine q_D (za (hc:=q_c h1)) ?_;refine q_D (ze (B:=zf b)) ?_;refine zam ?_;refine q_v (za (hc:=q_c h2)) ?_;refine q_v (zA (hr:=t)) ?_;refine q_v (zax (hr:=c8)) ?_|refine q_k 4 ?_;refine q_v (ze (B:=zf m)) ?_;refine q_v (za (hc:=q_c h3)) ?_;refine q_v (zH (hr:=S)) ?_;refine q_x (zbb (hr:=Q)) ?_|refine q_k 5 ?_;refine q_v (zaa (hr:=e4)) ?_|refine zg 7 ?_;(refine q_s zw ?_;rintro _ _ ⟨_,rfl,rfl⟩);refine zb ?_;(refine q_s (Fh (zdx (n:=1) (s:=1) (by repeat (first|exact F1|apply F3)) rfl (by unfold maxLen;omega)) (zkc (k:=1) (m:=z) (km:=z+1) (hm:=rfl) (hL:=F1) (hkm:=(by omega:1+z=z+1)) (hys:=hys))) ?_;rintro _ _ ⟨rfl,aR,cR,rfl⟩);refine q_v (za (hc:=λq _ _ H=>G q _ _ (zI H q_h) (FR (n:=z+1) H q_h))) ?_;refine zb ?_;refine zi ?_;intro _;refine q_y (zj (n:=256^z)) ?_)
 rename_i b3 b4 b5 b6 wx A;clear G h1 h2 h3 t c8 S Q hys;refine FJ (fr':=[(3,.pointer (some ⟨b3,0,none⟩)),(4,.pointer (some ⟨b4,0,none⟩)),(5,.pointer (some ⟨b5,0,none⟩)),(6,.pointer (some ⟨b6,0,none⟩)),(9,.int .i64 z),(10,.pointer (some ⟨A,0,none⟩))])
  (L':=[.blk b3 227 (zf m),.blk b4 133 (zf a),.blk b5 133 (zf b),.blk b6 133 (List.replicate 16 (Value.int IntKind.u64 0)),.blk A 133 (zf (256^z))]) ?_ q_h q_h
 have c5:=λq=>zmK b q K;have j2:=zaQ 256 b 128 q_e (by rw[<-zgU 256 8 128 q_e q_e];exact K);have a6:=zf0 b;have P:=zo6 b;generalize nd 256 b=E,byt b=D0 at*;obtain⟨c,hc⟩:=zv5 z E b9;obtain⟨O,b1⟩:∃O,O=(z-E%z)%z:=⟨_,rfl⟩;rw[<-b1] at hc;have e7:O<z:=by rw[b1];exact A7 _ b9
 have q1:(E:Int).tmod (z:Int)=((E%z:Nat):Int):=zdL E z;have i9:=A7 E b9;have q2:IntKind.i64.wrap ((z:Int)-((E%z:Nat):Int))=((z-E%z:Nat):Int):=q_w;have q3:((z-E%z:Nat):Int).tmod (z:Int)=((O:Nat):Int):=by rw[b1];exact zdL _ z
 obtain⟨D,hD⟩:∃D,D=List.replicate O 0++D0:=⟨_,rfl⟩;have f5:D.length=z*c:=by rw[hD,A2,AK,a6,hc]
 have c2:bev 256 (bn D)=b:=by rw[hD,zh5,P]
 have hys:List.replicate O (Value.int IntKind.u8 0)++D0.map v8=D.map v8:=by
  rw[hD,Aw,Ba];rfl
 have j4:z*c<300:=q_o;have c9:O+E=z*c:=hc;generalize E%z=n1 at*;generalize z-n1=n2 at*;repeat' (first|refine s_t ?_|refine zg 8 ?_;refine q_v (ze (B:=zf b)) ?_;(refine q_s (zh (hc:=λq X hk H=>c5 q)) ?_;rintro _ _ ⟨R,rfl,bB,rfl,rfl⟩);refine zb ?_|refine q_k 9 ?_;refine q_v (zaN (hr:=q1)) ?_;refine q_x (zH (hr:=q2)) ?_;refine q_v (zaN (hr:=q3)) ?_|refine zg 10 ?_;refine zi ?_;intro _|refine q_k 11 ?_|refine q_s (zd1 (n:=O)) ?_;rintro _ _ ⟨bz,rfl,rfl⟩|(refine zW ?_;first|refine q_s (zbH (k:=O) (m:=E) (hxn:=by rw[AK,Af]) (hr:=Rd.of (Fb (C:=D0.map v8) (T:=5) F4 F0)) (hn:=by rw[A0,a6,Af]) (hkm:=c9) (hys:=hys)) ?_;rintro _ _ ⟨rfl,V,W,rfl⟩|refine zB ?_|refine zaS ?_|fail)|fail)
 rename_i J;have f7:=zd 0;rw[natC0];refine zE (γ:=Nat) (λj=>[(3,.pointer (some ⟨b3,0,none⟩)),(4,.pointer (some ⟨b4,0,none⟩)),(6,.pointer (some ⟨b6,0,none⟩)),(9,.int .i64 z),(10,.pointer (some ⟨A,0,none⟩)),(12,.slice V (z*c) W),(13,.pointer (some ⟨J,0,none⟩)),(14,.int .i64 ((z*j:Nat):Int))])
  (λj=>[.blk J 133 (zf (a*bev 256 (bn (D.take (z*j)))%m)),.row (.slice V (z*c) W) 5 1 (z*c) (D.map v8),.blk b3 227 (zf m),.blk b4 133 (zf a),.blk A 133 (zf (256^z)),.blk b6 133 (zf 0)])
  (λj=>j<=c) (λj=>c-j) 0 (AE _) ?_ ?_ ?_
 ·exact q_h
 ·show SubR [.blk J 133 (zf (a*bev 256 (bn (D.take 0))%m)),.row (.slice V (z*c) W) 5 1 (z*c) (D.map v8),.blk b3 227 (zf m),.blk b4 133 (zf a),.blk A 133 (zf (256^z)),.blk b6 133 (zf 0)] _;rw[CO,show bev 256 (bn [])=0 from rfl,Bx,CC];exact q_h
 clear c5 hys a6 P;intro j hj;refine zen (λq H=>(FR (a:=V) (n:=z*c) (c:=W) H F4:z*c<=W)) λf6=>?_;rcases AH j c with h|h
 ·have j5:z*j+z<=z*c:=by rw[<-E8];exact CD z h
  have b2:decide (((z*j:Nat):Int)<((z*c:Nat):Int))=true:=q_d;have t:IntKind.i64.wrap (((z*j:Nat):Int)+(z:Int))=((z*j+z:Nat):Int):=q_w;have c6:=zlc D (z*j) z q_o;have a8:=zs5 D (z*j) z q_o;have b7:=zqF m a (bev 256 (bn (D.take (z*j)))) (256^z) (bev 256 (bn ((D.take (z*j+z)).drop (z*j))));rw[<-c6] at b7;have a7:bev 256 (bn ((D.take (z*j+z)).drop (z*j)))<18446744073709551616^16:=AS a8 Y;have c7:=λq (hs:SlA q V (D.map v8)) (e6:z*c<=W)=>zb7 (zb4 V (z*j) (z*j+z) 1) z z ((D.take (z*j+z)).drop (z*j)) q (by rw[B5,AU];omega) (A4 _) (by
   rw[Cm,CN];exact(hs.take _).mov (by rw[AU];omega)) q_o
  rw[if_pos a7] at c7;have b8:=A7 (a*bev 256 (bn (D.take (z*j)))) h0;have a9:=zh6 c0 b8 (A4 _);have b0:=zh6 c0 ha (BH a8);have c3:=λq=>znO (a*bev 256 (bn (D.take (z*j)))%m) (256^z) q (AS b8 hm) Y;have c4:=λq=>znO a (bev 256 (bn ((D.take (z*j+z)).drop (z*j)))) q Z a7;rw[if_pos a9] at c3;rw[if_pos b0] at c4;have F:a*bev 256 (bn (D.take (z*(j+1))))%m=a*bev 256 (bn (D.take (z*j+z)))%m:=by rw[E8]
  have e0:((z*(j+1):Nat):Int)=((z*j+z:Nat):Int):=by rw[E8]
  rw[<-b7] at F;generalize a*bev 256 (bn (D.take (z*j)))%m=I,bev 256 (bn ((D.take (z*j+z)).drop (z*j)))=d at*;have d9:=λq b' (hs:q.rangeAt b' 0 (z8 [I*256^z,a*d]))=>zit m (I*256^z) (a*d) b' q hm h0 a9 b0 hs;have U:=λq=>zjS m (I*256^z%m) (a*d%m) q hm (A7 _ h0) (A7 _ h0);rw[<-F] at U;have f8:=zd I;have f9:=zd d;have h4:=zd (I*256^z);have h5:=zd (a*d);have h6:=zd (I*256^z%m);have h7:=zd (a*d%m);have h8:=zd (a*bev 256 (bn (D.take (z*(j+1))))%m);generalize d8:a*bev 256 (bn (D.take (z*(j+1))))%m=R1 at*;clear F a9 b0 a7 b7 c6 a8 b8 c2;generalize 256^z=e3,a*d=p2,I*256^z=p1,a*d%m=r2,I*256^z%m=r1 at*;repeat' (first|refine s_t ?_|refine q_k 12 ?_;refine q_v (zl (hr:=b2)) ?_|refine q_k 14 ?_;refine q_x (zA (hr:=t)) ?_;refine q_v (zA (hr:=t)) ?_;refine q_v (zbN (l:=z*j) (h:=z*j+z) (m:=z*j+z) (n':=z) (c':=z) (hn':=by omega) (hc':=by omega)) ?_;refine q_v (za (hc:=λq _ _ H=>c7 q (zI H q_h) (FR (n:=z*c) H q_h))) ?_;refine zb ?_;refine zi ?_;intro _;refine q_y (zj (n:=d)) ?_)
  repeat' (first|refine s_0 ?_|refine zg 15 ?_;refine q_v (ze (B:=zf I)) ?_;refine q_v (ze (B:=zf e3)) ?_;refine q_v (za (hc:=q_c c3)) ?_;refine zb ?_;refine zi ?_;intro _;refine q_y (zj (n:=p1)) ?_|refine zg 16 ?_;refine q_v (ze (B:=zf a)) ?_;refine q_v (ze (B:=zf d)) ?_;refine q_v (za (hc:=q_c c4)) ?_;refine zb ?_;refine zi ?_;intro _;refine q_y (zj (n:=p2)) ?_|refine zg 17 ?_;refine q_v (ze (B:=zf m)) ?_;refine q_v (ze (B:=zf p1)) ?_;refine q_v (ze (B:=zf p2)) ?_|refine z5 (id:=18) 7 [[],[],[1],[1,2],[],[4],[4,5],[0,1,2,3,4,5,6],[0,1,2,3,4,5,6,7]] mixed ?_ ?_;kernel_rfl;refine q_D (ze (B:=zf m)) ?_;refine zt ?_;refine q_D (zbc (j:=0)) ?_;refine q_D (ze (B:=zf r1) (hv:=(zp6 r1 r2).1)) ?_;refine zt ?_;refine q_D (zbc (j:=1)) ?_;refine q_D (ze (B:=zf r2) (hv:=(zp6 r1 r2).2)) ?_;refine zam ?_;refine q_v (za (hc:=q_c U)) ?_;refine q_n (zj (n:=R1)) ?_|refine q_k 13 ?_;refine q_x (zA (hr:=t)) ?_|refine q_s (zes (x:=p1) (x':=p2)) ?_;rintro _ _ ⟨bb,rfl,rfl⟩|(refine zW ?_;first|refine q_s (zh (hc:=λq X hk H=>d9 q _ (zp (H.has (by exact F5 F6)) F0))) ?_;rintro _ _ ⟨R,rfl,bc,rfl,rfl⟩|refine zB ?_|fail)|fail)
  refine zy (j+1) ?_ ?_ ?_ ?_
  ·show j+1<=c;omega
  ·show c-(j+1)<c-j;omega
  ·rw[e0];exact q_h
  ·show SubR [.blk J 133 (zf (a*bev 256 (bn (D.take (z*(j+1))))%m)),.row (.slice V (z*c) W) 5 1 (z*c) (D.map v8),.blk b3 227 (zf m),.blk b4 133 (zf a),.blk A 133 (zf e3),.blk b6 133 (zf 0)] _;rw[d8];exact q_h
 ·obtain rfl:j=c:=q_o;have b2:decide (((z*j:Nat):Int)<((z*j:Nat):Int))=false:=q_f;rw[A6 q_o,c2];have i8:=zd (a*b%m);generalize a*b%m=r at*;repeat' (first|refine s_0 ?_|refine q_k 12 ?_;refine q_v (zl (hr:=b2)) ?_|refine zg 19 ?_;refine q_v (ze (B:=zf r)) ?_;refine q_n (zj (n:=r)) ?_)
  exact zaw rfl (zz (B:=zf r) rfl (ty rfl) rfl F4 F0 (zd _).symm) F2 ⟨rfl,rfl⟩
theorem zhm(m a b:Nat)(w:World)(hm:m<18446744073709551616^16)(ha:a<m)(hb:b<m):
  q_G 244 [zm m,zm a,zm b] w (zm (a*b%m)):=by
 by_cases h1:nd 2 a+nd 2 b<=1024
 ·exact zlO m a b w hm ha hb h1
 ·by_cases h2:(1024-nd 2 m)/8=0
  ·exact zmD m a b w hm ha hb h1 h2
  ·exact zlV m a b w hm ha hb h1 h2
theorem zq9(m a:Nat)(w:World)(hm:m<18446744073709551616^16)(ha:a<m):
  q_G 300 [zm m,zm a] w (zm (a*a%m)):=by
 refine zo Tryz.func300 Tryz.ntmps300 ?_;have q:=zd m;have j:=zd a;have t:=λA=>zhm m a a A hm ha ha;have r:=zd (a*a%m);generalize a*a%m=s at*;repeat' (first|refine s_0 ?_|refine zg 0 ?_;refine zi ?_;intro _;refine zi ?_;intro _;refine zi ?_;intro _|refine zg 1 ?_;refine q_v (ze (B:=zf m)) ?_;refine q_v (ze (B:=zf a)) ?_;refine q_v (ze (B:=zf a)) ?_;refine q_v (za (hc:=q_c t)) ?_;refine q_n (zj (n:=s)) ?_)
 exact zaw rfl (zz (B:=zf s) rfl (ty rfl) rfl F4 F0 (zd _).symm) F2 ⟨rfl,rfl⟩
end Go.Proofs.YtdnlngbjpdbffaaGreatDoor
