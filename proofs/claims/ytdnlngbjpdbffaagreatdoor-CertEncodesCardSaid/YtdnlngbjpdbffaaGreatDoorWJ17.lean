/- Lemmas of this proof. -/
import Derived.Test.YtdnlngbjpdbffaaGreatDoorWJ15
import Derived.Test.YtdnlngbjpdbffaaGreatDoorWJ16
set_option maxHeartbeats 1000000
set_option maxRecDepth 10000
set_option linter.all false
namespace Go.Nt
open Go Go.Sy
theorem zsB{a b:Nat}(h:nd 2 a+nd 2 b<=1024):a*b<18446744073709551616^16:=by
 refine zyt h ?_;have j:=zaS 2 a q_e;have m:=zaS 2 b q_e;rw[Av];exact Nat.mul_lt_mul'' j m
theorem zx5(l m:List UInt8):bn (l++m)=bn l++bn m:=by unfold bn;rw[Aq]
theorem znS(l:List UInt8):(bn l).length=l.length:=by unfold bn;rw[A0]
theorem zjf(k:Nat)(l:List UInt8):bev 256 (bn (List.replicate k 0++l))=bev 256 (bn l):=by
 induction k with
 |zero=>rfl
 |succ k ih=>
  rw[<-ih,DA,Ab];show 0*256^_+bev 256 (bn (List.replicate k 0++l))=_;omega
theorem zl9(z:Nat):bev 256 (bn (1::List.replicate z 0))=256^z:=by
 show 1*256^(bn (List.replicate z 0)).length+bev 256 (bn (List.replicate z 0))=_;have:=zjf z [];rw[AG] at this;rw[this,znS,AJ,Bo];rfl
theorem zmA(D:List UInt8)(i z:Nat)(h:i+z<=D.length):bev 256 (bn (D.take (i+z)))=bev 256 (bn (D.take i))*256^z+bev 256 (bn ((D.take (i+z)).drop i)):=by
 have e:D.take (i+z)=D.take i++(D.take (i+z)).drop i:=by
  conv=>lhs;rw[<-Bb i (D.take (i+z))]
  rw[List.take_take,BM q_o]
 conv=>lhs;rw[e]
 rw[zx5,zia,znS];congr 3;rw[Ar,AR,BM h];omega
theorem zuS(D:List UInt8)(i z:Nat)(h:i+z<=D.length):bev 256 (bn ((D.take (i+z)).drop i))<256^z:=by
 have j:=ze6 256 (bn ((D.take (i+z)).drop i)) (zhY _);rw[znS,Ar,AR,BM h,Bh] at j;exact j
theorem zrW(m a X R d:Nat):(a*X%m*R%m+a*d%m)%m=a*(X*R+d)%m:=by
 have j:Cg m (a*X%m*R%m+a*d%m) (a*X*R+a*d):=((zet m _).trans ((zet m (a*X)).mul (Fm m R))).add (zet m _);rw[j.mod,CV,B7]
theorem zrK{m z:Nat}(h0:0<m)(hz:z=(1024-nd 2 m)/8):nd 2 m+8*z<=1024\/z=0:=q_o
theorem zza(z:Nat):256^z=2^(8*z):=by rw[BE]
theorem zjh{m z x y:Nat}(hz:nd 2 m+8*z<=1024)(hx:x<m)(q:y<=256^z):x*y<18446744073709551616^16:=by
 refine zyt hz ?_;have j:=zaS 2 m q_e;rw[Av,<-zza];exact AI (Ba (Ai hx j) (AV q_e) |> λh=>B1 (CL x q) h) (A6 _)
theorem zyg(z n:Nat)(h:0<z):∃c,(z-n%z)%z+n=z*c:=by
 have m:=Aa n z;have q:=AC n h;rcases AD (n%z) with j|j
 ·refine⟨n/z,?_⟩;rw[j,CD,Nat.mod_self,AZ];omega
 ·refine⟨n/z+1,?_⟩;rw[A7 q_o,CV];omega
end Go.Nt
namespace Go.Proofs.YtdnlngbjpdbffaaGreatDoor
section
open Go Go.Sy Go.Nt Go.RowKit
variable {ro:Option Nat}{N:Nat}{w0:World}{M:Nat->Prop}{ds:List Deferred}{g:Nat->Option Value}{L:List Res}{o:Oper}
theorem zdk(j:o.op= .build 133 #[]:=by exact rfl):OpT Tryz.prog ro N w0 M ds o g L (Det (zr 0) L):=by
 rw[<-zfh];exact zeT j (ty rfl) (.inl ⟨rfl,rfl⟩) (zc rfl)
attribute [local irreducible] Sy SyL SyX Sy.Fn callFunc zg zae
theorem zm5(m a b:Nat)(w:World)(hm:m<18446744073709551616^16)(ha:a<m)(hb:b<m)(hs:nd 2 a+nd 2 b<=1024):
  q_G 244 [zr m,zr a,zr b] w (zr (a*b%m)):=by
 refine zt Tryz.func244 Tryz.ntmps244 ?_;have V:=zd m;have T:=zd a;have U:=zd b;have C:=Ai ha hm;have E:=Ai hb hm;have O:=λq=>zcp a q C;have P:=λq=>zcp b q E;have Y:=ze2 C;have Z:=ze2 E;have K:=zsB hs;have A:=λq=>znA a b q C E;rw[if_pos K] at A;have hr:=λq J (h:q.rangeAt J 0 (zae [a*b]))=>ze7 m (a*b) J q hm q_o K h;have S:=zd (a*b);have W:=zd (a*b%m);generalize nd 2 b=I,nd 2 a=H,a*b=p,a*b%m=r at*;have F:IntKind.i64.wrap ((H:Int)+(I:Int))=((H+I:Nat):Int):=q_w;have G:decide (((H+I:Nat):Int)<=1024)=true:=q_d;repeat' (first|refine s_0 ?_|refine zf 0 ?_;refine zj ?_;intro _;refine zj ?_;intro _;refine zj ?_;intro _;refine zj ?_;intro _|refine zaj (id:=1) 3 [[],[0],[],[0,1,2],[0,1,2,3],[0,1,2,3,4]] mixed ?_ ?_;kernel_rfl;refine q_D (ze (B:=zg a)) ?_;refine q_D (za (hc:=q_c O)) ?_;refine q_D (ze (B:=zg b)) ?_;refine zaB ?_;refine q_v (za (hc:=q_c P)) ?_;refine q_v (zF (hr:=F)) ?_;refine q_v (zaF (hr:=G)) ?_|refine zf 2 ?_;refine q_v (ze (B:=zg a)) ?_;refine q_v (ze (B:=zg b)) ?_;refine q_v (za (hc:=q_c A)) ?_;refine zb ?_;refine zj ?_;intro _;refine q_y (zl (n:=p)) ?_|refine zf 3 ?_;refine q_v (ze (B:=zg m)) ?_;refine q_v (ze (B:=zg p)) ?_|refine q_s (zb3 (x:=p)) ?_;rintro _ _ ⟨bb,rfl,rfl⟩|(refine zy ?_;first|refine q_s (zi (hc:=λq X hk Q=>hr q _ (zp (Q.has (by exact Ey F1)) Et))) ?_;rintro _ _ ⟨R,rfl,bc,rfl,rfl⟩|refine q_v (zbr (j:=0)) ?_|refine q_v (ze (B:=zg r)) ?_|refine q_n (zl (n:=r)) ?_|fail)|fail)
 exact zap rfl (zB (B:=zg r) rfl (ty rfl) rfl Ev Et (zd _).symm) Er ⟨rfl,rfl⟩
theorem znZ(m a b:Nat)(w:World)(hm:m<18446744073709551616^16)(ha:a<m)(hb:b<m)(hs:¬nd 2 a+nd 2 b<=1024)(hz:(1024-nd 2 m)/8=0):
  q_G 244 [zr m,zr a,zr b] w (zr (a*b%m)):=by
 refine zt Tryz.func244 Tryz.ntmps244 ?_;have Y:=zd m;have W:=zd a;have X:=zd b;have E:=Ai ha hm;have C:=Ai hb hm;have R:=λj=>zcp a j E;have S:=λj=>zcp b j C;have T:=λj=>zcp m j hm;have a6:=ze2 E;have a7:=ze2 C;have a8:=ze2 hm;have h0:0<m:=q_o;obtain⟨V,q⟩:∃V:Nat->Nat,∀k,V k=k*a%m:=⟨λk=>k*a%m,λ_=>rfl⟩;have Q:∀k j,q_G 293 ([zr m]++[zr (V k)]++[]) j (zr (V (2*k))):=λk j=>by
  have:=zs2 m (V k) j hm (by rw[q];exact AC _ h0);rw[show(V k+V k)%m=V (2*k) by rw[q,q,<-Nat.add_mod,<-B2,Ep]] at this;exact this
 have P:∀k j,q_G 245 ([zr m]++[zr (V k),zr a]++[]) j (zr (V (k+1))):=λk j=>by
  have:=zk5 m (V k) a j hm (by rw[q];exact AC _ h0) ha;rw[show(V k+a)%m=V (k+1) by rw[q,q,Nat.mod_add_mod,B2,Bo]] at this;exact this
 have A:=λj=>zmM b a V 293 245 [zr m] [] [zr m] [] j C (en rfl) (en rfl) Q P;rw[show V 0=0 by rw[q,BF,CA],show V b=a*b%m by rw[q,AK]] at A;have Z:=zd (a*b%m);have U:=zd 0;clear Q P q;generalize nd 2 m=I,nd 2 b=O,nd 2 a=K,a*b%m=r at*;have F:IntKind.i64.wrap ((K:Int)+(O:Int))=((K+O:Nat):Int):=q_w;have J:decide (((K+O:Nat):Int)<=1024)=false:=q_f;have H:IntKind.i64.wrap (1024-(I:Int))=((1024-I:Nat):Int):=q_w;have G:IntKind.i64.wrap ((((1024-I:Nat)):Int).tdiv 8)=((0:Nat):Int):=by
  have:=zdn (p:=1024-I) (k:=8) q_o;rw[hz] at this;exact this
 repeat' (first|refine s_0 ?_|refine zf 0 ?_;refine zj ?_;intro _;refine zj ?_;intro _;refine zj ?_;intro _;refine zj ?_;intro _|refine zaj (id:=1) 3 [[],[0],[],[0,1,2],[0,1,2,3],[0,1,2,3,4]] mixed ?_ ?_;kernel_rfl;refine q_D (ze (B:=zg a)) ?_;refine q_D (za (hc:=q_c R)) ?_;refine q_D (ze (B:=zg b)) ?_;refine zaB ?_;refine q_v (za (hc:=q_c S)) ?_;refine q_v (zF (hr:=F)) ?_;refine q_v (zaF (hr:=J)) ?_|refine q_k 4 ?_;refine q_v (ze (B:=zg m)) ?_;refine q_v (za (hc:=q_c T)) ?_;refine q_v (zI (hr:=H)) ?_;refine q_x (zbv (hr:=G)) ?_|refine q_k 5 ?_;refine zaD ?_|refine zf 6 ?_;refine q_v (ze (B:=zg b)) ?_;refine q_v zdk ?_;refine q_v (ze (B:=zg a)) ?_;refine q_v (ze (B:=zg m)) ?_;refine q_v zab ?_;refine q_v (ze (B:=zg m)) ?_;refine q_v zab ?_;refine q_v (za (hc:=q_c A)) ?_;refine q_n (zl (n:=r)) ?_)
 exact zap rfl (zB (B:=zg r) rfl (ty rfl) rfl Ev Et (zd _).symm) Er ⟨rfl,rfl⟩
theorem zm2(m a b:Nat)(w:World)(hm:m<18446744073709551616^16)(ha:a<m)(hb:b<m)(hs:¬nd 2 a+nd 2 b<=1024)(hz:(1024-nd 2 m)/8≠0):
  q_G 244 [zr m,zr a,zr b] w (zr (a*b%m)):=by
 refine zt Tryz.func244 Tryz.ntmps244 ?_;have j2:=zd m;have j0:=zd a;have j1:=zd b;have a6:=Ai ha hm;have O:=Ai hb hm;have h1:=λq=>zcp a q a6;have h2:=λq=>zcp b q O;have h3:=λq=>zcp m q hm;have j5:=ze2 a6;have j6:=ze2 O;have j8:=ze2 hm;have h0:0<m:=q_o;obtain⟨z,c2⟩:∃z,z=(1024-nd 2 m)/8:=⟨_,rfl⟩;rw[<-c2] at hz;have c0:0<z:=q_o;have c1:nd 2 m+8*z<=1024:=(zrK h0 c2).resolve_right hz;have e6:z<=128:=q_o;have Z:256^z<18446744073709551616^16:=by
  have:=zjh (x:=1) (y:=256^z) c1 (by
   rcases AF 1 m with h|h
   ·exact h
   ·exfalso;have e1:a=0:=q_o;have e2:b=0:=q_o;subst e1;subst e2;rw[zbZ] at hs;omega) (A6 _)
  rwa[Bo] at this
 have H:=λq aR cR (h:SlA q aR ((1::List.replicate z 0:List UInt8).map v8)) (hc:z+1<=cR)=>zcq aR (z+1) cR (1::List.replicate z 0) q q_p hc h q_o;rw[zl9,if_pos Z] at H;have S:IntKind.i64.wrap ((((1024-nd 2 m:Nat)):Int).tdiv 8)=((z:Nat):Int):=by
  rw[c2];exact zdn (p:=1024-nd 2 m) (k:=8) q_o
 generalize f8:nd 2 b=nb,e9:nd 2 a=na at*;have A:IntKind.i64.wrap ((na:Int)+(nb:Int))=((na+nb:Nat):Int):=q_w;have c9:decide (((na+nb:Nat):Int)<=1024)=false:=q_f;have U:IntKind.i64.wrap (1024-((nd 2 m:Nat):Int))=((1024-nd 2 m:Nat):Int):=q_w;have e5:decide ((z:Int)=0)=false:=q_f;have hys: [Value.int IntKind.u8 1]++List.replicate z (Value.int IntKind.u8 0)=(1::List.replicate z 0:List UInt8).map v8:=by
  rw[Aw,BT];rfl
 have i9:=zd (256^z);repeat' (first|refine s_0 ?_|refine zf 0 ?_;refine zj ?_;intro _;refine zj ?_;intro _;refine zj ?_;intro _;refine zj ?_;intro _|refine zaj (id:=1) 3 [[],[0],[],[0,1,2],[0,1,2,3],[0,1,2,3,4]] mixed ?_ ?_;kernel_rfl;refine q_D (ze (B:=zg a)) ?_;refine q_D (za (hc:=q_c h1)) ?_;refine q_D (ze (B:=zg b)) ?_;refine zaB ?_;refine q_v (za (hc:=q_c h2)) ?_;refine q_v (zF (hr:=A)) ?_;refine q_v (zaF (hr:=c9)) ?_|refine q_k 4 ?_;refine q_v (ze (B:=zg m)) ?_;refine q_v (za (hc:=q_c h3)) ?_;refine q_v (zI (hr:=U)) ?_;refine q_x (zbv (hr:=S)) ?_|refine q_k 5 ?_;refine q_v (zS (hr:=e5)) ?_|refine zf 7 ?_;(refine q_s zz ?_;rintro _ _ ⟨_,rfl,rfl⟩);refine zb ?_;(refine q_s (Fp (zeb (n:=1) (s:=1) (by repeat (first|exact Es|apply Eu)) rfl (by unfold maxLen;omega)) (zle (k:=1) (m:=z) (km:=z+1) (hm:=rfl) (hL:=Es) (hkm:=(by omega:1+z=z+1)) (hys:=hys))) ?_;rintro _ _ ⟨rfl,aR,cR,rfl⟩);refine q_v (za (hc:=λq _ _ I=>H q _ _ (zas I q_h) (FJ (n:=z+1) I q_h))) ?_;refine zb ?_;refine zj ?_;intro _;refine q_y (zl (n:=256^z)) ?_)
 rename_i b3 b4 b5 b6 wx E;clear H h1 h2 h3 A c9 U S hys;refine FE (fr':=[(3,.pointer (some ⟨b3,0,none⟩)),(4,.pointer (some ⟨b4,0,none⟩)),(5,.pointer (some ⟨b5,0,none⟩)),(6,.pointer (some ⟨b6,0,none⟩)),(9,.int .i64 z),(10,.pointer (some ⟨E,0,none⟩))])
  (L':=[.blk b3 227 (zg m),.blk b4 133 (zg a),.blk b5 133 (zg b),.blk b6 133 (List.replicate 16 (Value.int IntKind.u64 0)),.blk E 133 (zg (256^z))]) ?_ q_h q_h
 have c6:=λq=>zny b q O;have j7:=zbc 256 b 128 q_e (by rw[<-zhm 256 8 128 q_e q_e];exact O);have a7:=zhy b;have Q:=zqe b;generalize nd 256 b=F,byt b=D0 at*;obtain⟨c,hc⟩:=zyg z F c0;obtain⟨P,b2⟩:∃P,P=(z-F%z)%z:=⟨_,rfl⟩;rw[<-b2] at hc;have e8:P<z:=by rw[b2];exact AC _ c0
 have q1:(F:Int).tmod (z:Int)=((F%z:Nat):Int):=zeq F z;have j4:=AC F c0;have q2:IntKind.i64.wrap ((z:Int)-((F%z:Nat):Int))=((z-F%z:Nat):Int):=q_w;have q3:((z-F%z:Nat):Int).tmod (z:Int)=((P:Nat):Int):=by rw[b2];exact zeq _ z
 obtain⟨D,hD⟩:∃D,D=List.replicate P 0++D0:=⟨_,rfl⟩;have f9:D.length=z*c:=by rw[hD,A2,AJ,a7,hc]
 have c3:bev 256 (bn D)=b:=by rw[hD,zjf,Q]
 have hys:List.replicate P (Value.int IntKind.u8 0)++D0.map v8=D.map v8:=by
  rw[hD,Aq,BT];rfl
 have j9:z*c<300:=q_o;have d8:P+F=z*c:=hc;generalize F%z=n1 at*;generalize z-n1=n2 at*;repeat' (first|refine s_t ?_|refine zf 8 ?_;refine q_v (ze (B:=zg b)) ?_;(refine q_s (zi (hc:=λq X hk I=>c6 q)) ?_;rintro _ _ ⟨R,rfl,bB,rfl,rfl⟩);refine zb ?_|refine q_k 9 ?_;refine q_v (zbE (hr:=q1)) ?_;refine q_x (zI (hr:=q2)) ?_;refine q_v (zbE (hr:=q3)) ?_|refine zf 10 ?_;refine zj ?_;intro _|refine q_k 11 ?_|refine q_s (zeD (n:=P)) ?_;rintro _ _ ⟨bz,rfl,rfl⟩|(refine zy ?_;first|refine q_s (zb4 (k:=P) (m:=F) (hxn:=by rw[AJ,Ak]) (hr:=Rd.of (FZ (C:=D0.map v8) (T:=5) Ev Et)) (hn:=by rw[A0,a7,Ak]) (hkm:=d8) (hys:=hys)) ?_;rintro _ _ ⟨rfl,W,Y,rfl⟩|refine zw ?_|refine zaR ?_|fail)|fail)
 rename_i K;have h5:=zd 0;rw[natC0];refine zN (γ:=Nat) (λj=>[(3,.pointer (some ⟨b3,0,none⟩)),(4,.pointer (some ⟨b4,0,none⟩)),(6,.pointer (some ⟨b6,0,none⟩)),(9,.int .i64 z),(10,.pointer (some ⟨E,0,none⟩)),(12,.slice W (z*c) Y),(13,.pointer (some ⟨K,0,none⟩)),(14,.int .i64 ((z*j:Nat):Int))])
  (λj=>[.blk K 133 (zg (a*bev 256 (bn (D.take (z*j)))%m)),.row (.slice W (z*c) Y) 5 1 (z*c) (D.map v8),.blk b3 227 (zg m),.blk b4 133 (zg a),.blk E 133 (zg (256^z)),.blk b6 133 (zg 0)])
  (λj=>j<=c) (λj=>c-j) 0 (A9 _) ?_ ?_ ?_
 ·exact q_h
 ·show SubR [.blk K 133 (zg (a*bev 256 (bn (D.take 0))%m)),.row (.slice W (z*c) Y) 5 1 (z*c) (D.map v8),.blk b3 227 (zg m),.blk b4 133 (zg a),.blk E 133 (zg (256^z)),.blk b6 133 (zg 0)] _;rw[Bu,show bev 256 (bn [])=0 from rfl,Cy,CA];exact q_h
 clear c6 hys a7 Q;intro j hj;refine zfu (λq I=>(FJ (a:=W) (n:=z*c) (c:=Y) I Ev:z*c<=Y)) λh4=>?_;rcases AF j c with h|h
 ·have k5:z*j+z<=z*c:=by rw[<-Dt];exact CL z h
  have b7:decide (((z*j:Nat):Int)<((z*c:Nat):Int))=true:=q_d;have A:IntKind.i64.wrap (((z*j:Nat):Int)+(z:Int))=((z*j+z:Nat):Int):=q_w;have c7:=zmA D (z*j) z q_o;have a9:=zuS D (z*j) z q_o;have b8:=zrW m a (bev 256 (bn (D.take (z*j)))) (256^z) (bev 256 (bn ((D.take (z*j+z)).drop (z*j))));rw[<-c7] at b8;have a8:bev 256 (bn ((D.take (z*j+z)).drop (z*j)))<18446744073709551616^16:=Ai a9 Z;have c8:=λq (hs:SlA q W (D.map v8)) (e7:z*c<=Y)=>zcq (zbw W (z*j) (z*j+z) 1) z z ((D.take (z*j+z)).drop (z*j)) q (by rw[Ar,AR];omega) (A6 _) (by
   rw[CX,C9];exact(hs.take _).mov (by rw[AR];omega)) q_o
  rw[if_pos a8] at c8;have b9:=AC (a*bev 256 (bn (D.take (z*j)))) h0;have b0:=zjh c1 b9 (A6 _);have b1:=zjh c1 ha (BP a9);have c4:=λq=>znA (a*bev 256 (bn (D.take (z*j)))%m) (256^z) q (Ai b9 hm) Z;have c5:=λq=>znA a (bev 256 (bn ((D.take (z*j+z)).drop (z*j)))) q a6 a8;rw[if_pos b0] at c4;rw[if_pos b1] at c5;have G:a*bev 256 (bn (D.take (z*(j+1))))%m=a*bev 256 (bn (D.take (z*j+z)))%m:=by rw[Dt]
  have e3:((z*(j+1):Nat):Int)=((z*j+z:Nat):Int):=by rw[Dt]
  rw[<-b8] at G;generalize a*bev 256 (bn (D.take (z*j)))%m=J,bev 256 (bn ((D.take (z*j+z)).drop (z*j)))=d at*;have e0:=λq b' (hs:q.rangeAt b' 0 (zae [J*256^z,a*d]))=>ziS m (J*256^z) (a*d) b' q hm h0 b0 b1 hs;have V:=λq=>zk5 m (J*256^z%m) (a*d%m) q hm (AC _ h0) (AC _ h0);rw[<-G] at V;have h6:=zd J;have h7:=zd d;have h8:=zd (J*256^z);have h9:=zd (a*d);have i5:=zd (J*256^z%m);have i7:=zd (a*d%m);have i8:=zd (a*bev 256 (bn (D.take (z*(j+1))))%m);generalize d9:a*bev 256 (bn (D.take (z*(j+1))))%m=R1 at*;clear G b0 b1 a8 b8 c7 a9 b9 c3;generalize 256^z=e4,a*d=p2,J*256^z=p1,a*d%m=r2,J*256^z%m=r1 at*;repeat' (first|refine s_t ?_|refine q_k 12 ?_;refine q_v (zo (hr:=b7)) ?_|refine q_k 14 ?_;refine q_x (zF (hr:=A)) ?_;refine q_v (zF (hr:=A)) ?_;refine q_v (zb8 (l:=z*j) (h:=z*j+z) (m:=z*j+z) (n':=z) (c':=z) (hn':=by omega) (hc':=by omega)) ?_;refine q_v (za (hc:=λq _ _ I=>c8 q (zas I q_h) (FJ (n:=z*c) I q_h))) ?_;refine zb ?_;refine zj ?_;intro _;refine q_y (zl (n:=d)) ?_)
  repeat' (first|refine s_0 ?_|refine zf 15 ?_;refine q_v (ze (B:=zg J)) ?_;refine q_v (ze (B:=zg e4)) ?_;refine q_v (za (hc:=q_c c4)) ?_;refine zb ?_;refine zj ?_;intro _;refine q_y (zl (n:=p1)) ?_|refine zf 16 ?_;refine q_v (ze (B:=zg a)) ?_;refine q_v (ze (B:=zg d)) ?_;refine q_v (za (hc:=q_c c5)) ?_;refine zb ?_;refine zj ?_;intro _;refine q_y (zl (n:=p2)) ?_|refine zf 17 ?_;refine q_v (ze (B:=zg m)) ?_;refine q_v (ze (B:=zg p1)) ?_;refine q_v (ze (B:=zg p2)) ?_|refine zaj (id:=18) 7 [[],[],[1],[1,2],[],[4],[4,5],[0,1,2,3,4,5,6],[0,1,2,3,4,5,6,7]] mixed ?_ ?_;kernel_rfl;refine q_D (ze (B:=zg m)) ?_;refine zA ?_;refine q_D (zbr (j:=0)) ?_;refine q_D (ze (B:=zg r1) (hv:=(zrB r1 r2).1)) ?_;refine zA ?_;refine q_D (zbr (j:=1)) ?_;refine q_D (ze (B:=zg r2) (hv:=(zrB r1 r2).2)) ?_;refine zaB ?_;refine q_v (za (hc:=q_c V)) ?_;refine q_n (zl (n:=R1)) ?_|refine q_k 13 ?_;refine q_x (zF (hr:=A)) ?_|refine q_s (zff (x:=p1) (x':=p2)) ?_;rintro _ _ ⟨bb,rfl,rfl⟩|(refine zy ?_;first|refine q_s (zi (hc:=λq X hk I=>e0 q _ (zp (I.has (by exact Ey F1)) Et))) ?_;rintro _ _ ⟨R,rfl,bc,rfl,rfl⟩|refine zw ?_|fail)|fail)
  refine zE (j+1) ?_ ?_ ?_ ?_
  ·show j+1<=c;omega
  ·show c-(j+1)<c-j;omega
  ·rw[e3];exact q_h
  ·show SubR [.blk K 133 (zg (a*bev 256 (bn (D.take (z*(j+1))))%m)),.row (.slice W (z*c) Y) 5 1 (z*c) (D.map v8),.blk b3 227 (zg m),.blk b4 133 (zg a),.blk E 133 (zg e4),.blk b6 133 (zg 0)] _;rw[d9];exact q_h
 ·obtain rfl:j=c:=q_o;have b7:decide (((z*j:Nat):Int)<((z*j:Nat):Int))=false:=q_f;rw[A8 q_o,c3];have j3:=zd (a*b%m);generalize a*b%m=r at*;repeat' (first|refine s_0 ?_|refine q_k 12 ?_;refine q_v (zo (hr:=b7)) ?_|refine zf 19 ?_;refine q_v (ze (B:=zg r)) ?_;refine q_n (zl (n:=r)) ?_)
  exact zap rfl (zB (B:=zg r) rfl (ty rfl) rfl Ev Et (zd _).symm) Er ⟨rfl,rfl⟩
theorem zie(m a b:Nat)(w:World)(hm:m<18446744073709551616^16)(ha:a<m)(hb:b<m):
  q_G 244 [zr m,zr a,zr b] w (zr (a*b%m)):=by
 by_cases h1:nd 2 a+nd 2 b<=1024
 ·exact zm5 m a b w hm ha hb h1
 ·by_cases h2:(1024-nd 2 m)/8=0
  ·exact znZ m a b w hm ha hb h1 h2
  ·exact zm2 m a b w hm ha hb h1 h2
theorem zsT(m a:Nat)(w:World)(hm:m<18446744073709551616^16)(ha:a<m):
  q_G 300 [zr m,zr a] w (zr (a*a%m)):=by
 refine zt Tryz.func300 Tryz.ntmps300 ?_;have q:=zd m;have j:=zd a;have A:=λC=>zie m a a C hm ha ha;have r:=zd (a*a%m);generalize a*a%m=s at*;repeat' (first|refine s_0 ?_|refine zf 0 ?_;refine zj ?_;intro _;refine zj ?_;intro _;refine zj ?_;intro _|refine zf 1 ?_;refine q_v (ze (B:=zg m)) ?_;refine q_v (ze (B:=zg a)) ?_;refine q_v (ze (B:=zg a)) ?_;refine q_v (za (hc:=q_c A)) ?_;refine q_n (zl (n:=s)) ?_)
 exact zap rfl (zB (B:=zg s) rfl (ty rfl) rfl Ev Et (zd _).symm) Er ⟨rfl,rfl⟩
end
open Go Go.Sy Go.Nt Go.RowKit
variable {ro:Option Nat}{N:Nat}{w0:World}{M:Nat->Prop}{ds:List Deferred}{g:Nat->Option Value}{L:List Res}{o:Oper}{z:Operand}
theorem zfX{n:Nat}(j:o.op= .build 227 #[(0,z)]:=by exact rfl)(hz:ev g z=some (zr n):=by exact rfl):OpT Tryz.prog ro N w0 M ds o g L (Det (zr n) L):=
 zgb (parts:=#[(0,z)]) (vs:=[zr n]) (C:=zg n) (zn9 n) j (by simp[evs,hz]) (ty rfl) rfl rfl (zc rfl)
def zyZ(T n:Nat)(C:List Value)(v:Value)(Nw:List Res):Prop:=∃b,v= .slice (some ⟨b,0,none⟩) n n/\Nw= [.blk b T C]
def zvV:Value->Value
 | .slice (some a) _ _=> .pointer (some a)
 |v=>v
attribute [local irreducible] Sy SyL SyX Sy.Fn callFunc zg zae
def zcC(m r:Nat):Value:=if m=0 then .tuple #[zr 0,.int .i64 2] else .tuple #[zr r,.int .i64 0]
theorem ztv(a m:Nat)(w:World)(ha:a<18446744073709551616^16)(hm:m<18446744073709551616^16):
  q_G 182 [zr a,zr m] w (zcC m (a%m)):=by
 refine zt Tryz.func182 Tryz.ntmps182 ?_;have H:=zd a;have I:=zd m;have G:=zd 0;have A:=λq=>zdA m q hm;rcases AD m with h|h
 ·subst h;unfold zcC;rw[if_pos rfl];repeat' (first|refine s_0 ?_|refine zf 0 ?_;refine zj ?_;intro _;refine zj ?_;intro _;refine zW ?_;intro _|refine zf 1 ?_;refine q_v (ze (B:=zg 0)) ?_;refine q_v (za (hc:=q_c A)) ?_|refine zf 2 ?_;refine q_v zdk ?_;refine q_y (zl (n:=0)) ?_)
  exact zU rfl (zB (B:=zg 0) rfl (ty rfl) rfl Ev Et (zd _).symm) (zh rfl) Er ⟨rfl,rfl⟩
 ·simp only[decide_eq_false (show ¬m=0 by omega)] at A;unfold zcC;rw[if_neg q_o];have K:=λq C (E:q.rangeAt C 0 (zae [a]))=>ze7 m a C q hm h ha E;have J:=zd (a%m);generalize a%m=r at*;repeat' (first|refine s_0 ?_|refine zf 0 ?_;refine zj ?_;intro _;refine zj ?_;intro _;refine zW ?_;intro _|refine zf 1 ?_;refine q_v (ze (B:=zg m)) ?_;refine q_v (za (hc:=q_c A)) ?_|refine zf 3 ?_;refine q_v (ze (B:=zg m)) ?_;refine q_v (zfX (n:=m)) ?_;refine q_v (ze (B:=zg a)) ?_|refine q_s (zb3 (x:=a)) ?_;rintro _ _ ⟨O,rfl,rfl⟩|(refine zy ?_;first|refine q_v (ze (B:=zg r)) ?_|refine q_s (zi (hc:=λq X P F=>K q _ (zp (F.has (by exact Ey F1)) Et))) ?_;rintro _ _ ⟨R,rfl,bc,rfl,rfl⟩|refine q_v (zbr (j:=0)) ?_|refine q_n (zl (n:=r)) ?_|refine zw ?_|fail)|fail)
  exact zU rfl (zB (B:=zg r) rfl (ty rfl) rfl Ev Et (zd _).symm) (zh rfl) Er ⟨rfl,rfl⟩
theorem zkh(f:Nat)(F:Nat->Nat->Nat)(a b m:Nat)(w:World)(ha:a<18446744073709551616^16)(hb:b<18446744073709551616^16)(hm:m<18446744073709551616^16)
  (A:∀args w,(callFunc f args).run Tryz.prog w= .ok (.enter f args) w)(C:∀a b w,a<m->b<m->q_G f [zr m,zr a,zr b] w (zr (F a b))):
  q_G 214 [zr m,.func (.func f) #[] #[],zr a,zr b] w (zcC m (F (a%m) (b%m))):=by
 refine zt Tryz.func214 Tryz.ntmps214 ?_;have T:=zd a;have U:=zd b;have V:=zd m;have S:=zd 0;have E:=λq=>zdA m q hm;rcases AD m with h|h
 ·subst h;unfold zcC;rw[if_pos rfl];repeat' (first|refine s_0 ?_|refine zf 0 ?_;refine zj ?_;intro _;refine zj ?_;intro _;refine zj ?_;intro _;refine zW ?_;intro _|refine zf 1 ?_;refine q_v (ze (B:=zg 0)) ?_;refine q_v (za (hc:=q_c E)) ?_|refine zf 2 ?_;refine q_v zdk ?_;refine q_y (zl (n:=0)) ?_)
  exact zU rfl (zB (B:=zg 0) rfl (ty rfl) rfl Ev Et (zd _).symm) (zh rfl) Er ⟨rfl,rfl⟩
 ·simp only[decide_eq_false (show ¬m=0 by omega)] at E;unfold zcC;rw[if_neg q_o];have Y:=λq I (P:q.rangeAt I 0 (zae [a,b]))=>ziS m a b I q hm h ha hb P;have C:=λq=>C (a%m) (b%m) q (AC _ h) (AC _ h);have W:=zd (F (a%m) (b%m));have K:=zd (a%m);have O:=zd (b%m);generalize b%m=H,a%m=G,F (a%m) (b%m)=r at*;repeat' (first|refine s_0 ?_|refine zf 0 ?_;refine zj ?_;intro _;refine zj ?_;intro _;refine zj ?_;intro _;refine zW ?_;intro _|refine zf 1 ?_;refine q_v (ze (B:=zg m)) ?_;refine q_v (za (hc:=q_c E)) ?_|refine zf 3 ?_;refine q_v (ze (B:=zg m)) ?_;refine q_v (zfX (n:=m)) ?_;refine q_v (ze (B:=zg a)) ?_;refine q_v (ze (B:=zg b)) ?_|refine zaj (id:=4) 9 [[],[],[1],[],[3],[3,4],[],[6],[6,7],[0,1,2,3,4,5,6,7,8],[0,1,2,3,4,5,6,7,8,9],[0,1,2,3,4,5,6,7,8,9,10]] mixed ?_ ?_;kernel_rfl;refine zA ?_;refine q_D (ze (B:=zg m)) ?_;refine q_D (zfX (n:=m)) ?_;refine zA ?_;refine q_D (zbr (j:=0)) ?_;refine q_D (ze (B:=zg G) (hv:=(zrB G H).1)) ?_;refine zA ?_;refine q_D (zbr (j:=1)) ?_;refine q_D (ze (B:=zg H) (hv:=(zrB G H).2)) ?_;refine zaB ?_;refine q_v (zeV (he:=A) (fst:=[]) (cap:=[]) (hc:=λq X Q J=>C q)) ?_;refine q_n (zl (n:=r)) ?_;refine zw ?_|refine q_s (zff (x:=a) (x':=b)) ?_;rintro _ _ ⟨Z,rfl,rfl⟩|(refine zy ?_;first|refine q_s (zi (hc:=λq X Q J=>Y q _ (zp (J.has (by exact Ey F1)) Et))) ?_;rintro _ _ ⟨R,rfl,bc,rfl,rfl⟩|refine zw ?_|fail)|fail)
  exact zU rfl (zB (B:=zg r) rfl (ty rfl) rfl Ev Et (zd _).symm) (zh rfl) Er ⟨rfl,rfl⟩
theorem zqf(a b m:Nat)(w:World)(ha:a<18446744073709551616^16)(hb:b<18446744073709551616^16)(hm:m<18446744073709551616^16):
  q_G 184 [zr a,zr b,zr m] w (zcC m ((a+b)%m)):=by
 refine zt Tryz.func184 Tryz.ntmps184 ?_;have C:=zd a;have E:=zd b;have F:=zd m;have A:=zd 0;have j:=λq=>zkh 245 (λx y=>(x+y)%m) a b m q ha hb hm (en rfl) (λx y q H I=>zk5 m x y q hm H I);rcases AD m with h|h
 ·subst h;unfold zcC at*;simp only[if_pos rfl] at j ⊢;repeat' (first|refine s_0 ?_|refine zf 0 ?_;refine zj ?_;intro _;refine zj ?_;intro _;refine zj ?_;intro _;refine zW ?_;intro _|refine zf 1 ?_;refine q_v (ze (B:=zg 0)) ?_;refine q_v (ze (B:=zg a)) ?_;refine q_v (ze (B:=zg b)) ?_;refine q_v (za (hc:=q_c j)) ?_;refine zb ?_;refine q_y (zl (n:=0)) ?_)
  exact zU rfl (zB (B:=zg 0) rfl (ty rfl) rfl Ev Et (zd _).symm) (zh rfl) Er ⟨rfl,rfl⟩
 ·have e:(λx y=>(x+y)%m) (a%m) (b%m)=(a+b)%m:=by
   exact(Nat.add_mod a b m).symm
  dsimp only at e;rw[e] at j;unfold zcC at*;simp only[if_neg (show ¬m=0 by omega)] at j ⊢;have G:=zd ((a+b)%m);generalize (a+b)%m=r at*;repeat' (first|refine s_0 ?_|refine zf 0 ?_;refine zj ?_;intro _;refine zj ?_;intro _;refine zj ?_;intro _;refine zW ?_;intro _|refine zf 1 ?_;refine q_v (ze (B:=zg m)) ?_;refine q_v (ze (B:=zg a)) ?_;refine q_v (ze (B:=zg b)) ?_;refine q_v (za (hc:=q_c j)) ?_;refine zb ?_;refine q_y (zl (n:=r)) ?_)
  exact zU rfl (zB (B:=zg r) rfl (ty rfl) rfl Ev Et (zd _).symm) (zh rfl) Er ⟨rfl,rfl⟩
theorem zxn(a b m:Nat)(w:World)(ha:a<18446744073709551616^16)(hb:b<18446744073709551616^16)(hm:m<18446744073709551616^16):
  q_G 138 [zr a,zr b,zr m] w (zcC m (dm m a b)):=by
 refine zt Tryz.func138 Tryz.ntmps138 ?_;have C:=zd a;have E:=zd b;have F:=zd m;have A:=zd 0;have j:=λq=>zkh 215 (λx y=>dm m x y) a b m q ha hb hm (en rfl) (λx y q H I=>zm0 m x y q hm H I);rcases AD m with h|h
 ·subst h;unfold zcC at*;simp only[if_pos rfl] at j ⊢;repeat' (first|refine s_t ?_|apply zcH;(focus ((repeat (first|exact Es|apply Eu));done));assumption|(refine zf 0 ?_;try (refine zj ?_;intro _);try (refine zj ?_;intro _);try (refine zj ?_;intro _);try (refine zj ?_;intro _);try refine zw ?_)|(refine zf 1 ?_;try (first|refine q_v (ze (B:=zg a)) ?_|refine q_v (ze (B:=zg b)) ?_|refine q_v (ze (B:=zg 0)) ?_|refine zm ?_|fail);try (first|refine q_v (ze (B:=zg a)) ?_|refine q_v (ze (B:=zg b)) ?_|refine q_v (ze (B:=zg 0)) ?_|refine zm ?_|fail);try (first|refine q_v (ze (B:=zg a)) ?_|refine q_v (ze (B:=zg b)) ?_|refine q_v (ze (B:=zg 0)) ?_|refine zm ?_|fail);try refine q_v (za (hc:=q_c j)) ?_;try refine zY ?_;try refine zY ?_;try (first|refine q_n (zl (n:=0)) ?_|refine zO ?_|fail);try refine zw ?_)|(refine zy ?_;first|refine q_v (ze (B:=zg a)) ?_|refine q_v (ze (B:=zg b)) ?_|refine q_v (ze (B:=zg 0)) ?_|refine q_v (za (hc:=q_c j)) ?_|refine q_n (zl (n:=0)) ?_|refine zw ?_|refine zY ?_|refine zm ?_|refine zO ?_|refine zj ?_;intro _|fail)|refine zdz ?_)
  exact zU rfl (zB (B:=zg 0) rfl (ty rfl) rfl Ev Et (zd _).symm) (zh rfl) Er ⟨rfl,rfl⟩
 ·have e:(λx y=>dm m x y) (a%m) (b%m)=dm m a b:=by
   exact zzC h (zet m a) (zet m b)
  dsimp only at e;rw[e] at j;unfold zcC at*;simp only[if_neg (show ¬m=0 by omega)] at j ⊢;have G:=zd (dm m a b);generalize dm m a b=r at*;repeat' (first|refine s_t ?_|apply zcH;(focus ((repeat (first|exact Es|apply Eu));done));assumption|(refine zf 0 ?_;try (refine zj ?_;intro _);try (refine zj ?_;intro _);try (refine zj ?_;intro _);try (refine zj ?_;intro _);try refine zw ?_)|(refine zf 1 ?_;try (first|refine q_v (ze (B:=zg a)) ?_|refine q_v (ze (B:=zg b)) ?_|refine q_v (ze (B:=zg m)) ?_|refine zm ?_|fail);try (first|refine q_v (ze (B:=zg a)) ?_|refine q_v (ze (B:=zg b)) ?_|refine q_v (ze (B:=zg m)) ?_|refine zm ?_|fail);try (first|refine q_v (ze (B:=zg a)) ?_|refine q_v (ze (B:=zg b)) ?_|refine q_v (ze (B:=zg m)) ?_|refine zm ?_|fail);try refine q_v (za (hc:=q_c j)) ?_;try refine zY ?_;try refine zY ?_;try (first|refine q_n (zl (n:=r)) ?_|refine zO ?_|fail);try refine zw ?_)|(refine zy ?_;first|refine q_v (ze (B:=zg a)) ?_|refine q_v (ze (B:=zg b)) ?_|refine q_v (ze (B:=zg m)) ?_|refine q_v (za (hc:=q_c j)) ?_|refine q_n (zl (n:=r)) ?_|refine zw ?_|refine zY ?_|refine zm ?_|refine zO ?_|refine zj ?_;intro _|fail)|refine zdz ?_)
  exact zU rfl (zB (B:=zg r) rfl (ty rfl) rfl Ev Et (zd _).symm) (zh rfl) Er ⟨rfl,rfl⟩
theorem zlH(a b m:Nat)(w:World)(ha:a<18446744073709551616^16)(hb:b<18446744073709551616^16)(hm:m<18446744073709551616^16):
  q_G 183 [zr a,zr b,zr m] w (zcC m (a*b%m)):=by
 refine zt Tryz.func183 Tryz.ntmps183 ?_;have C:=zd a;have E:=zd b;have F:=zd m;have A:=zd 0;have j:=λq=>zkh 244 (λx y=>x*y%m) a b m q ha hb hm (en rfl) (λx y q H I=>zie m x y q hm H I);rcases AD m with h|h
 ·subst h;unfold zcC at*;simp only[if_pos rfl] at j ⊢;repeat' (first|refine s_0 ?_|refine zf 0 ?_;refine zj ?_;intro _;refine zj ?_;intro _;refine zj ?_;intro _;refine zW ?_;intro _|refine zf 1 ?_;refine q_v (ze (B:=zg 0)) ?_;refine q_v (ze (B:=zg a)) ?_;refine q_v (ze (B:=zg b)) ?_;refine q_v (za (hc:=q_c j)) ?_;refine zb ?_;refine q_y (zl (n:=0)) ?_)
  exact zU rfl (zB (B:=zg 0) rfl (ty rfl) rfl Ev Et (zd _).symm) (zh rfl) Er ⟨rfl,rfl⟩
 ·have e:(λx y=>x*y%m) (a%m) (b%m)=a*b%m:=by
   exact(Ec a b m).symm
  dsimp only at e;rw[e] at j;unfold zcC at*;simp only[if_neg (show ¬m=0 by omega)] at j ⊢;have G:=zd (a*b%m);generalize a*b%m=r at*;repeat' (first|refine s_0 ?_|refine zf 0 ?_;refine zj ?_;intro _;refine zj ?_;intro _;refine zj ?_;intro _;refine zW ?_;intro _|refine zf 1 ?_;refine q_v (ze (B:=zg m)) ?_;refine q_v (ze (B:=zg a)) ?_;refine q_v (ze (B:=zg b)) ?_;refine q_v (za (hc:=q_c j)) ?_;refine zb ?_;refine q_y (zl (n:=r)) ?_)
  exact zU rfl (zB (B:=zg r) rfl (ty rfl) rfl Ev Et (zd _).symm) (zh rfl) Er ⟨rfl,rfl⟩
theorem zyU(a e m:Nat)(w:World)(ha:a<18446744073709551616^16)(he:e<18446744073709551616^16)(hm:m<18446744073709551616^16):
  q_G 252 [zr a,zr e,zr m] w (zcC m (a^e%m)):=by
 refine zt Tryz.func252 Tryz.ntmps252 ?_;have a8:=zd a;have a9:=zd e;have b0:=zd m;have Z:=zd 0;have hz:=λq=>zdA m q hm;rcases AD m with h|h
 ·subst h;unfold zcC;rw[if_pos rfl];repeat' (first|refine s_0 ?_|refine zf 0 ?_;refine zj ?_;intro _;refine zj ?_;intro _;refine zj ?_;intro _;refine zW ?_;intro _|refine zf 1 ?_;refine q_v (ze (B:=zg 0)) ?_;refine q_v (za (hc:=q_c hz)) ?_|refine zf 2 ?_;refine q_v zdk ?_;refine q_y (zl (n:=0)) ?_)
  exact zU rfl (zB (B:=zg 0) rfl (ty rfl) rfl Ev Et (zd _).symm) (zh rfl) Er ⟨rfl,rfl⟩
 ·simp only[decide_eq_false (show ¬m=0 by omega)] at hz;unfold zcC;rw[if_neg q_o];have hr:=λq K (U:q.rangeAt K 0 (zae [a]))=>ze7 m a K q hm h ha U;have h1:=λq=>zyA m q hm h;obtain⟨V,A⟩:∃V:Nat->Nat,∀k,V k=(a%m)^k%m:=⟨λk=>(a%m)^k%m,λ_=>rfl⟩;have G:∀k,V k<m:=λk=>by rw[A];exact AC _ h
  have Q:∀k q,q_G 300 ([zr m]++[zr (V k)]++[]) q (zr (V (2*k))):=λk q=>by
   have:=zsT m (V k) q hm (G k);rw[show V k*V k%m=V (2*k) by rw[A,A,<-Ec,<-Av,Ep]] at this;exact this
  have P:∀k q,q_G 244 ([zr m]++[zr (V k),zr (a%m)]++[]) q (zr (V (k+1))):=λk q=>by
   have:=zie m (V k) (a%m) q hm (G k) (AC _ h);rw[show V k*(a%m)%m=V (k+1) by rw[A,A,ES,AN]] at this;exact this
  have C:=λq=>zmM e (a%m) V 300 244 [zr m] [] [zr m] [] q he (en rfl) (en rfl) Q P;rw[show V 0=1%m by rw[A,An],show V e=a^e%m by rw[A,((zet m a).pow e).mod]] at C;have J:=zd (a%m);have a7:=zd (a^e%m);have a6:=zd (1%m);clear Q P A G;generalize 1%m=u,a%m=r,a^e%m=R at*;repeat' (first|refine s_0 ?_|refine zf 0 ?_;refine zj ?_;intro _;refine zj ?_;intro _;refine zj ?_;intro _;refine zW ?_;intro _|refine zf 1 ?_;refine q_v (ze (B:=zg m)) ?_;refine q_v (za (hc:=q_c hz)) ?_|refine zf 3 ?_;refine q_v (ze (B:=zg m)) ?_;refine q_v (zfX (n:=m)) ?_;refine zj ?_;intro _;refine q_n (zC (B:=zg m) (hv:=zfE m) (h1:=(zd m).symm)) ?_)
  rename_i b3 b4 b5 O b8;refine zcQ (id:=4) mixed ?_
  (refine zcX 14 14 [[],[],[1],[],[],[4],[1,2,3,4,5],[1,2,3,4,5,6],[1,2,3,4,5,6,7],[],[9],[],[11],[0,1,2,3,4,5,6,7,8,9,10,11,12],[0,1,2,3,4,5,6,7,8,9,10,11,12,13],[0,1,2,3,4,5,6,7,8,9,10,11,12,13,14]] [[],[],[],[],[],[],[],[],[],[],[],[],[],[],[],[]] none rfl ?_ ?_ ?_;kernel_rfl;kernel_rfl;refine q_E (ze (B:=zg e)) ?_;refine q_E (ze (B:=zg m)) ?_;refine q_E (za (hc:=q_c h1)) ?_;refine q_E (ze (B:=zg m)) ?_;refine q_E (ze (B:=zg a)) ?_;try refine dh_0nE (h:=?_))
  refine zf1 (R:=λ_=>zyZ 133 1 (zae [a])) (λ_ _ _=>rfl) (λρ I=>FH (zb3 (x:=a)) λv L' h=>?_) (h:=?_)
  ·obtain⟨b,rfl,rfl⟩:=h;exact⟨[_],rfl,b,rfl,rfl⟩
  refine zf1 (R:=λ_=>zyZ 133 1 (zg r)) (λ_ _ _=>rfl) (λρ I=>?_) (h:=?_)
  ·obtain⟨⟨E,F,H⟩,-⟩:=I;refine FH (zi (vs:=[zr m,.slice (some ⟨E,0,none⟩) 1 1]) (ha:=by show some [_,(ρ 5).1]=_;rw[F];rfl) (hc:=λq X Y W=>hr q E ((FZ (T:=133) (by show Has ((ρ 5).2++_) _;rw[H];exact F1) Et) q X Y W))) λv L' h=>?_;obtain⟨R,rfl,bc,rfl,rfl⟩:=h;exact⟨_,rfl,bc,rfl,rfl⟩
  refine zqE (u:=λρ=>zvV (ρ 6).1) (λρ I=>?_) (λ_=>rfl) rfl (λρ ρ' h=>by rw[h 6 q_e]) (h:=?_)
  ·obtain⟨⟨E,F,H⟩,-⟩:=I;refine FH (zbr (b:=E) (off:=0) (n:=1) (c:=1) (j:=0) (hx:=by show some (ρ 6).1=_;rw[F])) λv L' h=>?_;obtain⟨rfl,rfl⟩:=h;exact⟨by rw[F];rfl,rfl⟩
  refine dcE (u:=zr r) (λρ I=>?_) (k:=?_)
  ·obtain⟨⟨E,F,H⟩,-⟩:=I;exact ze (B:=zg r) (b:=E) (off:=0) (T:=133) (hx:=by show some (zvV (ρ 6).1)=_;rw[F];rfl) (hL:=by show Has ((ρ 6).2++_) _;rw[H];exact F1) (hv:=Et) (hz:=J.symm)
  (skip;refine q_E (ze (B:=zg m)) ?_;refine q_E zab ?_;refine q_E (ze (B:=zg m)) ?_;refine q_E zab ?_;refine q_E (za (hc:=q_c C)) ?_;try refine dh_0nE (h:=?_))
  refine ze1 (h:=?_);rintro ρ ⟨⟨E,F,H⟩,⟨bz,e3,S⟩,-⟩
  (refine zcW [[],[],[1],[],[],[4],[1,2,3,4,5],[1,2,3,4,5,6],[1,2,3,4,5,6,7],[],[9],[],[11],[0,1,2,3,4,5,6,7,8,9,10,11,12],[0,1,2,3,4,5,6,7,8,9,10,11,12,13],[0,1,2,3,4,5,6,7,8,9,10,11,12,13,14]] ?_ ?_;kernel_rfl)
  refine FI (fr':=[(27,zr R),(6,.pointer (some ⟨O,0,none⟩)),(7,.int .i64 0)]) (L':=[.blk O 133 (List.replicate 16 (Value.int IntKind.u64 0))]) ?_ ?_ ?_;rotate_left
  ·exact q_h
  ·show SubR _ ((ρ 6).2++((ρ 5).2++_));rw[H,S];exact q_h
  repeat' (first|refine s_0 ?_|(refine zy ?_;first|refine q_n (zl (n:=R)) ?_|refine zw ?_|fail)|fail)
  exact zU rfl (zB (B:=zg R) rfl (ty rfl) rfl Ev Et (zd _).symm) (zh rfl) Er ⟨rfl,rfl⟩
end Go.Proofs.YtdnlngbjpdbffaaGreatDoor
