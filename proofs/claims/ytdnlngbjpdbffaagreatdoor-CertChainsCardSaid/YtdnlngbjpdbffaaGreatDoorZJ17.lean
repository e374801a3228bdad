/- Lemmas. -/
import Derived.Test.YtdnlngbjpdbffaaGreatDoorZJ15
import Derived.Test.YtdnlngbjpdbffaaGreatDoorZJ16
set_option maxHeartbeats 1000000
set_option maxRecDepth 10000
set_option linter.all false
namespace Go.Nt
open Go Go.Sy
theorem zsd{a b:Nat}(h:nd 2 a+nd 2 b<=1024):a*b<18446744073709551616^16:=by
 refine zy6 h ?_;have j:=zaV 2 a q_e;have m:=zaV 2 b q_e;rw[Ax];exact Nat.mul_lt_mul'' j m
theorem zzh(l m:List UInt8):bn (l++m)=bn l++bn m:=by unfold bn;rw[Ar]
theorem zoN(l:List UInt8):(bn l).length=l.length:=by unfold bn;rw[A0]
theorem zi8(k:Nat)(l:List UInt8):bev 256 (bn (List.replicate k 0++l))=bev 256 (bn l):=by
 induction k with
 |zero=>rfl
 |succ k ih=>
  rw[<-ih,DA,Ae];show 0*256^_+bev 256 (bn (List.replicate k 0++l))=_;omega
theorem znb(z:Nat):bev 256 (bn (1::List.replicate z 0))=256^z:=by
 show 1*256^(bn (List.replicate z 0)).length+bev 256 (bn (List.replicate z 0))=_;have:=zi8 z [];rw[AJ] at this;rw[this,zoN,AL,Bu];rfl
theorem zmX(D:List UInt8)(i z:Nat)(h:i+z<=D.length):bev 256 (bn (D.take (i+z)))=bev 256 (bn (D.take i))*256^z+bev 256 (bn ((D.take (i+z)).drop i)):=by
 have e:D.take (i+z)=D.take i++(D.take (i+z)).drop i:=by
  conv=>lhs;rw[<-Bc i (D.take (i+z))]
  rw[List.take_take,BP q_o]
 conv=>lhs;rw[e]
 rw[zzh,zin,zoN];congr 3;rw[As,AS,BP h];omega
theorem zum(D:List UInt8)(i z:Nat)(h:i+z<=D.length):bev 256 (bn ((D.take (i+z)).drop i))<256^z:=by
 have j:=zfn 256 (bn ((D.take (i+z)).drop i)) (zih _);rw[zoN,As,AS,BP h,Bk] at j;exact j
theorem ztb(m a X R d:Nat):(a*X%m*R%m+a*d%m)%m=a*(X*R+d)%m:=by
 have j:Cg m (a*X%m*R%m+a*d%m) (a*X*R+a*d):=((zeB m _).trans ((zeB m (a*X)).mul (Fq m R))).add (zeB m _);rw[j.mod,CZ,B8]
theorem zs2{m z:Nat}(h0:0<m)(hz:z=(1024-nd 2 m)/8):nd 2 m+8*z<=1024\/z=0:=q_o
theorem zzw(z:Nat):256^z=2^(8*z):=by rw[BG]
theorem zju{m z x y:Nat}(hz:nd 2 m+8*z<=1024)(hx:x<m)(q:y<=256^z):x*y<18446744073709551616^16:=by
 refine zy6 hz ?_;have j:=zaV 2 m q_e;rw[Ax,<-zzw];exact AK (Bb (Ai hx j) (AU q_e) |> λh=>B3 (CP x q) h) (A7 _)
theorem zzf(z n:Nat)(h:0<z):∃c,(z-n%z)%z+n=z*c:=by
 have m:=Ad n z;have q:=AC n h;rcases AE (n%z) with j|j
 ·refine⟨n/z,?_⟩;rw[j,CD,Nat.mod_self,Aa];omega
 ·refine⟨n/z+1,?_⟩;rw[A9 q_o,CZ];omega
end Go.Nt
namespace Go.Proofs.YtdnlngbjpdbffaaGreatDoor
section
open Go Go.Sy Go.Nt Go.RowKit
variable {ro:Option Nat}{N:Nat}{w0:World}{M:Nat->Prop}{ds:List Deferred}{g:Nat->Option Value}{L:List Res}{o:Oper}
theorem zdt(j:o.op= .build 133 #[]:=by exact rfl):OpT Tryz.prog ro N w0 M ds o g L (Det (zu 0) L):=by
 rw[<-zfw];exact zeY j (ty rfl) (.inl ⟨rfl,rfl⟩) (zc rfl)
attribute [local irreducible] Sy SyL SyX Sy.Fn callFunc zg zae
theorem znr(m a b:Nat)(w:World)(hm:m<18446744073709551616^16)(ha:a<m)(hb:b<m)(hs:nd 2 a+nd 2 b<=1024):
  q_G 244 [zu m,zu a,zu b] w (zu (a*b%m)):=by
 refine zt Tryz.func244 Tryz.ntmps244 ?_;have W:=zd m;have U:=zd a;have V:=zd b;have E:=Ai ha hm;have F:=Ai hb hm;have P:=λq=>zcv a q E;have Q:=λq=>zcv b q F;have Z:=zfh E;have a6:=zfh F;have O:=zsd hs;have A:=λq=>zos a b q E F;rw[if_pos O] at A;have hr:=λq K (h:q.rangeAt K 0 (zae [a*b]))=>zfl m (a*b) K q hm q_o O h;have T:=zd (a*b);have Y:=zd (a*b%m);generalize nd 2 b=J,nd 2 a=I,a*b=p,a*b%m=r at*;have G:IntKind.i64.wrap ((I:Int)+(J:Int))=((I+J:Nat):Int):=q_w;have H:decide (((I+J:Nat):Int)<=1024)=true:=q_d;repeat' (first|refine s_0 ?_|refine zf 0 ?_;refine zk ?_;intro _;refine zk ?_;intro _;refine zk ?_;intro _;refine zk ?_;intro _|refine zai (id:=1) 3 [[],[0],[],[0,1,2],[0,1,2,3],[0,1,2,3,4]] mixed ?_ ?_;kernel_rfl;refine q_D (ze (B:=zg a)) ?_;refine q_D (za (hc:=q_c P)) ?_;refine q_D (ze (B:=zg b)) ?_;refine zaF ?_;refine q_v (za (hc:=q_c Q)) ?_;refine q_v (zD (hr:=G)) ?_;refine q_v (zaA (hr:=H)) ?_|refine zf 2 ?_;refine q_v (ze (B:=zg a)) ?_;refine q_v (ze (B:=zg b)) ?_;refine q_v (za (hc:=q_c A)) ?_;refine zb ?_;refine zk ?_;intro _;refine q_y (zl (n:=p)) ?_|refine zf 3 ?_;refine q_v (ze (B:=zg m)) ?_;refine q_v (ze (B:=zg p)) ?_|refine q_s (zcb (x:=p)) ?_;rintro _ _ ⟨bb,rfl,rfl⟩|(refine zx ?_;first|refine q_s (zi (hc:=λq X hk S=>hr q _ (zp (S.has (by exact F1 F5)) Ex))) ?_;rintro _ _ ⟨R,rfl,bc,rfl,rfl⟩|refine q_v (zbv (j:=0)) ?_|refine q_v (ze (B:=zg r)) ?_|refine q_n (zl (n:=r)) ?_|fail)|fail)
 exact zar rfl (zE (B:=zg r) rfl (ty rfl) rfl Ey Ex (zd _).symm) Ev ⟨rfl,rfl⟩
theorem zok(m a b:Nat)(w:World)(hm:m<18446744073709551616^16)(ha:a<m)(hb:b<m)(hs:¬nd 2 a+nd 2 b<=1024)(hz:(1024-nd 2 m)/8=0):
  q_G 244 [zu m,zu a,zu b] w (zu (a*b%m)):=by
 refine zt Tryz.func244 Tryz.ntmps244 ?_;have Z:=zd m;have X:=zd a;have Y:=zd b;have F:=Ai ha hm;have E:=Ai hb hm;have S:=λj=>zcv a j F;have T:=λj=>zcv b j E;have U:=λj=>zcv m j hm;have a7:=zfh F;have a8:=zfh E;have a9:=zfh hm;have h0:0<m:=q_o;obtain⟨V,q⟩:∃V:Nat->Nat,∀k,V k=k*a%m:=⟨λk=>k*a%m,λ_=>rfl⟩;have R:∀k j,q_G 293 ([zu m]++[zu (V k)]++[]) j (zu (V (2*k))):=λk j=>by
  have:=ztP m (V k) j hm (by rw[q];exact AC _ h0);rw[show(V k+V k)%m=V (2*k) by rw[q,q,<-Nat.add_mod,<-B5,Et]] at this;exact this
 have Q:∀k j,q_G 245 ([zu m]++[zu (V k),zu a]++[]) j (zu (V (k+1))):=λk j=>by
  have:=zlt m (V k) a j hm (by rw[q];exact AC _ h0) ha;rw[show(V k+a)%m=V (k+1) by rw[q,q,Nat.mod_add_mod,B5,Bu]] at this;exact this
 have A:=λj=>zmI b a V 293 245 [zu m] [] [zu m] [] j E (en rfl) (en rfl) R Q;rw[show V 0=0 by rw[q,BF,CF],show V b=a*b%m by rw[q,AM]] at A;have a6:=zd (a*b%m);have W:=zd 0;clear R Q q;generalize nd 2 m=J,nd 2 b=P,nd 2 a=O,a*b%m=r at*;have G:IntKind.i64.wrap ((O:Int)+(P:Int))=((O+P:Nat):Int):=q_w;have K:decide (((O+P:Nat):Int)<=1024)=false:=q_f;have I:IntKind.i64.wrap (1024-(J:Int))=((1024-J:Nat):Int):=q_w;have H:IntKind.i64.wrap ((((1024-J:Nat)):Int).tdiv 8)=((0:Nat):Int):=by
  have:=zdw (p:=1024-J) (k:=8) q_o;rw[hz] at this;exact this
 repeat' (first|refine s_0 ?_|refine zf 0 ?_;refine zk ?_;intro _;refine zk ?_;intro _;refine zk ?_;intro _;refine zk ?_;intro _|refine zai (id:=1) 3 [[],[0],[],[0,1,2],[0,1,2,3],[0,1,2,3,4]] mixed ?_ ?_;kernel_rfl;refine q_D (ze (B:=zg a)) ?_;refine q_D (za (hc:=q_c S)) ?_;refine q_D (ze (B:=zg b)) ?_;refine zaF ?_;refine q_v (za (hc:=q_c T)) ?_;refine q_v (zD (hr:=G)) ?_;refine q_v (zaA (hr:=K)) ?_|refine q_k 4 ?_;refine q_v (ze (B:=zg m)) ?_;refine q_v (za (hc:=q_c U)) ?_;refine q_v (zK (hr:=I)) ?_;refine q_x (zbz (hr:=H)) ?_|refine q_k 5 ?_;refine zaH ?_|refine zf 6 ?_;refine q_v (ze (B:=zg b)) ?_;refine q_v zdt ?_;refine q_v (ze (B:=zg a)) ?_;refine q_v (ze (B:=zg m)) ?_;refine q_v zab ?_;refine q_v (ze (B:=zg m)) ?_;refine q_v zab ?_;refine q_v (za (hc:=q_c A)) ?_;refine q_n (zl (n:=r)) ?_)
 exact zar rfl (zE (B:=zg r) rfl (ty rfl) rfl Ey Ex (zd _).symm) Ev ⟨rfl,rfl⟩
theorem zno(m a b:Nat)(w:World)(hm:m<18446744073709551616^16)(ha:a<m)(hb:b<m)(hs:¬nd 2 a+nd 2 b<=1024)(hz:(1024-nd 2 m)/8≠0):
  q_G 244 [zu m,zu a,zu b] w (zu (a*b%m)):=by
 refine zt Tryz.func244 Tryz.ntmps244 ?_;have j2:=zd m;have j0:=zd a;have j1:=zd b;have a6:=Ai ha hm;have O:=Ai hb hm;have h1:=λq=>zcv a q a6;have h2:=λq=>zcv b q O;have h3:=λq=>zcv m q hm;have j5:=zfh a6;have j6:=zfh O;have j8:=zfh hm;have h0:0<m:=q_o;obtain⟨z,c2⟩:∃z,z=(1024-nd 2 m)/8:=⟨_,rfl⟩;rw[<-c2] at hz;have c0:0<z:=q_o;have c1:nd 2 m+8*z<=1024:=(zs2 h0 c2).resolve_right hz;have e6:z<=128:=q_o;have Z:256^z<18446744073709551616^16:=by
  have:=zju (x:=1) (y:=256^z) c1 (by
   rcases AG 1 m with h|h
   ·exact h
   ·exfalso;have e1:a=0:=q_o;have e2:b=0:=q_o;subst e1;subst e2;rw[zb4] at hs;omega) (A7 _)
  rwa[Bu] at this
 have H:=λq aR cR (h:SlA q aR ((1::List.replicate z 0:List UInt8).map v8)) (hc:z+1<=cR)=>zcs aR (z+1) cR (1::List.replicate z 0) q q_p hc h q_o;rw[znb,if_pos Z] at H;have S:IntKind.i64.wrap ((((1024-nd 2 m:Nat)):Int).tdiv 8)=((z:Nat):Int):=by
  rw[c2];exact zdw (p:=1024-nd 2 m) (k:=8) q_o
 generalize f8:nd 2 b=nb,e9:nd 2 a=na at*;have A:IntKind.i64.wrap ((na:Int)+(nb:Int))=((na+nb:Nat):Int):=q_w;have c9:decide (((na+nb:Nat):Int)<=1024)=false:=q_f;have U:IntKind.i64.wrap (1024-((nd 2 m:Nat):Int))=((1024-nd 2 m:Nat):Int):=q_w;have e5:decide ((z:Int)=0)=false:=q_f;have hys: [Value.int IntKind.u8 1]++List.replicate z (Value.int IntKind.u8 0)=(1::List.replicate z 0:List UInt8).map v8:=by
  rw[Au,BY];rfl
 have i9:=zd (256^z);repeat' (first|refine s_0 ?_|refine zf 0 ?_;refine zk ?_;intro _;refine zk ?_;intro _;refine zk ?_;intro _;refine zk ?_;intro _|refine zai (id:=1) 3 [[],[0],[],[0,1,2],[0,1,2,3],[0,1,2,3,4]] mixed ?_ ?_;kernel_rfl;refine q_D (ze (B:=zg a)) ?_;refine q_D (za (hc:=q_c h1)) ?_;refine q_D (ze (B:=zg b)) ?_;refine zaF ?_;refine q_v (za (hc:=q_c h2)) ?_;refine q_v (zD (hr:=A)) ?_;refine q_v (zaA (hr:=c9)) ?_|refine q_k 4 ?_;refine q_v (ze (B:=zg m)) ?_;refine q_v (za (hc:=q_c h3)) ?_;refine q_v (zK (hr:=U)) ?_;refine q_x (zbz (hr:=S)) ?_|refine q_k 5 ?_;refine q_v (zS (hr:=e5)) ?_|refine zf 7 ?_;(refine q_s zz ?_;rintro _ _ ⟨_,rfl,rfl⟩);refine zb ?_;(refine q_s (Fw (zee (n:=1) (s:=1) (by repeat (first|exact Eu|apply Ew)) rfl (by unfold maxLen;omega)) (zla (k:=1) (m:=z) (km:=z+1) (hm:=rfl) (hL:=Eu) (hkm:=(by omega:1+z=z+1)) (hys:=hys))) ?_;rintro _ _ ⟨rfl,aR,cR,rfl⟩);refine q_v (za (hc:=λq _ _ I=>H q _ _ (zat I q_h) (FF (n:=z+1) I q_h))) ?_;refine zb ?_;refine zk ?_;intro _;refine q_y (zl (n:=256^z)) ?_)
 rename_i b3 b4 b5 b6 wx E;clear H h1 h2 h3 A c9 U S hys;refine FJ (fr':=[(3,.pointer (some ⟨b3,0,none⟩)),(4,.pointer (some ⟨b4,0,none⟩)),(5,.pointer (some ⟨b5,0,none⟩)),(6,.pointer (some ⟨b6,0,none⟩)),(9,.int .i64 z),(10,.pointer (some ⟨E,0,none⟩))])
  (L':=[.blk b3 227 (zg m),.blk b4 133 (zg a),.blk b5 133 (zg b),.blk b6 133 (List.replicate 16 (Value.int IntKind.u64 0)),.blk E 133 (zg (256^z))]) ?_ q_h q_h
 have c6:=λq=>zoR b q O;have j7:=zbj 256 b 128 q_e (by rw[<-zhC 256 8 128 q_e q_e];exact O);have a7:=zhR b;have Q:=zql b;generalize nd 256 b=F,byt b=D0 at*;obtain⟨c,hc⟩:=zzf z F c0;obtain⟨P,b2⟩:∃P,P=(z-F%z)%z:=⟨_,rfl⟩;rw[<-b2] at hc;have e8:P<z:=by rw[b2];exact AC _ c0
 have q1:(F:Int).tmod (z:Int)=((F%z:Nat):Int):=zex F z;have j4:=AC F c0;have q2:IntKind.i64.wrap ((z:Int)-((F%z:Nat):Int))=((z-F%z:Nat):Int):=q_w;have q3:((z-F%z:Nat):Int).tmod (z:Int)=((P:Nat):Int):=by rw[b2];exact zex _ z
 obtain⟨D,hD⟩:∃D,D=List.replicate P 0++D0:=⟨_,rfl⟩;have f9:D.length=z*c:=by rw[hD,A4,AL,a7,hc]
 have c3:bev 256 (bn D)=b:=by rw[hD,zi8,Q]
 have hys:List.replicate P (Value.int IntKind.u8 0)++D0.map v8=D.map v8:=by
  rw[hD,Ar,BY];rfl
 have j9:z*c<300:=q_o;have d8:P+F=z*c:=hc;generalize F%z=n1 at*;generalize z-n1=n2 at*;repeat' (first|refine s_t ?_|refine zf 8 ?_;refine q_v (ze (B:=zg b)) ?_;(refine q_s (zi (hc:=λq X hk I=>c6 q)) ?_;rintro _ _ ⟨R,rfl,bB,rfl,rfl⟩);refine zb ?_|refine q_k 9 ?_;refine q_v (zbI (hr:=q1)) ?_;refine q_x (zK (hr:=q2)) ?_;refine q_v (zbI (hr:=q3)) ?_|refine zf 10 ?_;refine zk ?_;intro _|refine q_k 11 ?_|refine q_s (zeP (n:=P)) ?_;rintro _ _ ⟨bz,rfl,rfl⟩|(refine zx ?_;first|refine q_s (zb9 (k:=P) (m:=F) (hxn:=by rw[AL,Al]) (hr:=Rd.of (Ff (C:=D0.map v8) (T:=5) Ey Ex)) (hn:=by rw[A0,a7,Al]) (hkm:=d8) (hys:=hys)) ?_;rintro _ _ ⟨rfl,W,Y,rfl⟩|refine zw ?_|refine zaU ?_|fail)|fail)
 rename_i K;have h5:=zd 0;rw[natC0];refine zL (γ:=Nat) (λj=>[(3,.pointer (some ⟨b3,0,none⟩)),(4,.pointer (some ⟨b4,0,none⟩)),(6,.pointer (some ⟨b6,0,none⟩)),(9,.int .i64 z),(10,.pointer (some ⟨E,0,none⟩)),(12,.slice W (z*c) Y),(13,.pointer (some ⟨K,0,none⟩)),(14,.int .i64 ((z*j:Nat):Int))])
  (λj=>[.blk K 133 (zg (a*bev 256 (bn (D.take (z*j)))%m)),.row (.slice W (z*c) Y) 5 1 (z*c) (D.map v8),.blk b3 227 (zg m),.blk b4 133 (zg a),.blk E 133 (zg (256^z)),.blk b6 133 (zg 0)])
  (λj=>j<=c) (λj=>c-j) 0 (AA _) ?_ ?_ ?_
 ·exact q_h
 ·show SubR [.blk K 133 (zg (a*bev 256 (bn (D.take 0))%m)),.row (.slice W (z*c) Y) 5 1 (z*c) (D.map v8),.blk b3 227 (zg m),.blk b4 133 (zg a),.blk E 133 (zg (256^z)),.blk b6 133 (zg 0)] _;rw[By,show bev 256 (bn [])=0 from rfl,D8,CF];exact q_h
 clear c6 hys a7 Q;intro j hj;refine zfJ (λq I=>(FF (a:=W) (n:=z*c) (c:=Y) I Ey:z*c<=Y)) λh4=>?_;rcases AG j c with h|h
 ·have k5:z*j+z<=z*c:=by rw[<-Dr];exact CP z h
  have b7:decide (((z*j:Nat):Int)<((z*c:Nat):Int))=true:=q_d;have A:IntKind.i64.wrap (((z*j:Nat):Int)+(z:Int))=((z*j+z:Nat):Int):=q_w;have c7:=zmX D (z*j) z q_o;have a9:=zum D (z*j) z q_o;have b8:=ztb m a (bev 256 (bn (D.take (z*j)))) (256^z) (bev 256 (bn ((D.take (z*j+z)).drop (z*j))));rw[<-c7] at b8;have a8:bev 256 (bn ((D.take (z*j+z)).drop (z*j)))<18446744073709551616^16:=Ai a9 Z;have c8:=λq (hs:SlA q W (D.map v8)) (e7:z*c<=Y)=>zcs (zbB W (z*j) (z*j+z) 1) z z ((D.take (z*j+z)).drop (z*j)) q (by rw[As,AS];omega) (A7 _) (by
   rw[Cd,C0];exact(hs.take _).mov (by rw[AS];omega)) q_o
  rw[if_pos a8] at c8;have b9:=AC (a*bev 256 (bn (D.take (z*j)))) h0;have b0:=zju c1 b9 (A7 _);have b1:=zju c1 ha (BT a9);have c4:=λq=>zos (a*bev 256 (bn (D.take (z*j)))%m) (256^z) q (Ai b9 hm) Z;have c5:=λq=>zos a (bev 256 (bn ((D.take (z*j+z)).drop (z*j)))) q a6 a8;rw[if_pos b0] at c4;rw[if_pos b1] at c5;have G:a*bev 256 (bn (D.take (z*(j+1))))%m=a*bev 256 (bn (D.take (z*j+z)))%m:=by rw[Dr]
  have e3:((z*(j+1):Nat):Int)=((z*j+z:Nat):Int):=by rw[Dr]
  rw[<-b8] at G;generalize a*bev 256 (bn (D.take (z*j)))%m=J,bev 256 (bn ((D.take (z*j+z)).drop (z*j)))=d at*;have e0:=λq b' (hs:q.rangeAt b' 0 (zae [J*256^z,a*d]))=>zjA m (J*256^z) (a*d) b' q hm h0 b0 b1 hs;have V:=λq=>zlt m (J*256^z%m) (a*d%m) q hm (AC _ h0) (AC _ h0);rw[<-G] at V;have h6:=zd J;have h7:=zd d;have h8:=zd (J*256^z);have h9:=zd (a*d);have i5:=zd (J*256^z%m);have i7:=zd (a*d%m);have i8:=zd (a*bev 256 (bn (D.take (z*(j+1))))%m);generalize d9:a*bev 256 (bn (D.take (z*(j+1))))%m=R1 at*;clear G b0 b1 a8 b8 c7 a9 b9 c3;generalize 256^z=e4,a*d=p2,J*256^z=p1,a*d%m=r2,J*256^z%m=r1 at*;repeat' (first|refine s_t ?_|refine q_k 12 ?_;refine q_v (zn (hr:=b7)) ?_|refine q_k 14 ?_;refine q_x (zD (hr:=A)) ?_;refine q_v (zD (hr:=A)) ?_;refine q_v (zce (l:=z*j) (h:=z*j+z) (m:=z*j+z) (n':=z) (c':=z) (hn':=by omega) (hc':=by omega)) ?_;refine q_v (za (hc:=λq _ _ I=>c8 q (zat I q_h) (FF (n:=z*c) I q_h))) ?_;refine zb ?_;refine zk ?_;intro _;refine q_y (zl (n:=d)) ?_)
  repeat' (first|refine s_0 ?_|refine zf 15 ?_;refine q_v (ze (B:=zg J)) ?_;refine q_v (ze (B:=zg e4)) ?_;refine q_v (za (hc:=q_c c4)) ?_;refine zb ?_;refine zk ?_;intro _;refine q_y (zl (n:=p1)) ?_|refine zf 16 ?_;refine q_v (ze (B:=zg a)) ?_;refine q_v (ze (B:=zg d)) ?_;refine q_v (za (hc:=q_c c5)) ?_;refine zb ?_;refine zk ?_;intro _;refine q_y (zl (n:=p2)) ?_|refine zf 17 ?_;refine q_v (ze (B:=zg m)) ?_;refine q_v (ze (B:=zg p1)) ?_;refine q_v (ze (B:=zg p2)) ?_|refine zai (id:=18) 7 [[],[],[1],[1,2],[],[4],[4,5],[0,1,2,3,4,5,6],[0,1,2,3,4,5,6,7]] mixed ?_ ?_;kernel_rfl;refine q_D (ze (B:=zg m)) ?_;refine zB ?_;refine q_D (zbv (j:=0)) ?_;refine q_D (ze (B:=zg r1) (hv:=(zr9 r1 r2).1)) ?_;refine zB ?_;refine q_D (zbv (j:=1)) ?_;refine q_D (ze (B:=zg r2) (hv:=(zr9 r1 r2).2)) ?_;refine zaF ?_;refine q_v (za (hc:=q_c V)) ?_;refine q_n (zl (n:=R1)) ?_|refine q_k 13 ?_;refine q_x (zD (hr:=A)) ?_|refine q_s (zff (x:=p1) (x':=p2)) ?_;rintro _ _ ⟨bb,rfl,rfl⟩|(refine zx ?_;first|refine q_s (zi (hc:=λq X hk I=>e0 q _ (zp (I.has (by exact F1 F5)) Ex))) ?_;rintro _ _ ⟨R,rfl,bc,rfl,rfl⟩|refine zw ?_|fail)|fail)
  refine zC (j+1) ?_ ?_ ?_ ?_
  ·show j+1<=c;omega
  ·show c-(j+1)<c-j;omega
  ·rw[e3];exact q_h
  ·show SubR [.blk K 133 (zg (a*bev 256 (bn (D.take (z*(j+1))))%m)),.row (.slice W (z*c) Y) 5 1 (z*c) (D.map v8),.blk b3 227 (zg m),.blk b4 133 (zg a),.blk E 133 (zg e4),.blk b6 133 (zg 0)] _;rw[d9];exact q_h
 ·obtain rfl:j=c:=q_o;have b7:decide (((z*j:Nat):Int)<((z*j:Nat):Int))=false:=q_f;rw[A6 q_o,c3];have j3:=zd (a*b%m);generalize a*b%m=r at*;repeat' (first|refine s_0 ?_|refine q_k 12 ?_;refine q_v (zn (hr:=b7)) ?_|refine zf 19 ?_;refine q_v (ze (B:=zg r)) ?_;refine q_n (zl (n:=r)) ?_)
  exact zar rfl (zE (B:=zg r) rfl (ty rfl) rfl Ey Ex (zd _).symm) Ev ⟨rfl,rfl⟩
theorem ziw(m a b:Nat)(w:World)(hm:m<18446744073709551616^16)(ha:a<m)(hb:b<m):
  q_G 244 [zu m,zu a,zu b] w (zu (a*b%m)):=by
 by_cases h1:nd 2 a+nd 2 b<=1024
 ·exact znr m a b w hm ha hb h1
 ·by_cases h2:(1024-nd 2 m)/8=0
  ·exact zok m a b w hm ha hb h1 h2
  ·exact zno m a b w hm ha hb h1 h2
theorem ztn(m a:Nat)(w:World)(hm:m<18446744073709551616^16)(ha:a<m):
  q_G 300 [zu m,zu a] w (zu (a*a%m)):=by
 refine zt Tryz.func300 Tryz.ntmps300 ?_;have q:=zd m;have j:=zd a;have A:=λE=>ziw m a a E hm ha ha;have r:=zd (a*a%m);generalize a*a%m=s at*;repeat' (first|refine s_0 ?_|refine zf 0 ?_;refine zk ?_;intro _;refine zk ?_;intro _;refine zk ?_;intro _|refine zf 1 ?_;refine q_v (ze (B:=zg m)) ?_;refine q_v (ze (B:=zg a)) ?_;refine q_v (ze (B:=zg a)) ?_;refine q_v (za (hc:=q_c A)) ?_;refine q_n (zl (n:=s)) ?_)
 exact zar rfl (zE (B:=zg s) rfl (ty rfl) rfl Ey Ex (zd _).symm) Ev ⟨rfl,rfl⟩
end
open Go Go.Sy Go.Nt Go.RowKit
variable {ro:Option Nat}{N:Nat}{w0:World}{M:Nat->Prop}{ds:List Deferred}{g:Nat->Option Value}{L:List Res}{o:Oper}{z:Operand}
theorem zf6{n:Nat}(j:o.op= .build 227 #[(0,z)]:=by exact rfl)(hz:ev g z=some (zu n):=by exact rfl):OpT Tryz.prog ro N w0 M ds o g L (Det (zu n) L):=
 zgg (parts:=#[(0,z)]) (vs:=[zu n]) (C:=zg n) (zn6 n) j (by simp[evs,hz]) (ty rfl) rfl rfl (zc rfl)
def zzQ(T n:Nat)(C:List Value)(v:Value)(Nw:List Res):Prop:=∃b,v= .slice (some ⟨b,0,none⟩) n n/\Nw= [.blk b T C]
def zwA:Value->Value
 | .slice (some a) _ _=> .pointer (some a)
 |v=>v
attribute [local irreducible] Sy SyL SyX Sy.Fn callFunc zg zae
def zcM(m r:Nat):Value:=if m=0 then .tuple #[zu 0,.int .i64 2] else .tuple #[zu r,.int .i64 0]
theorem ztG(a m:Nat)(w:World)(ha:a<18446744073709551616^16)(hm:m<18446744073709551616^16):
  q_G 182 [zu a,zu m] w (zcM m (a%m)):=by
 refine zt Tryz.func182 Tryz.ntmps182 ?_;have I:=zd a;have J:=zd m;have H:=zd 0;have A:=λq=>zdH m q hm;rcases AE m with h|h
 ·subst h;unfold zcM;rw[if_pos rfl];repeat' (first|refine s_0 ?_|refine zf 0 ?_;refine zk ?_;intro _;refine zk ?_;intro _;refine z9 ?_;intro _|refine zf 1 ?_;refine q_v (ze (B:=zg 0)) ?_;refine q_v (za (hc:=q_c A)) ?_|refine zf 2 ?_;refine q_v zdt ?_;refine q_y (zl (n:=0)) ?_)
  exact zU rfl (zE (B:=zg 0) rfl (ty rfl) rfl Ey Ex (zd _).symm) (zh rfl) Ev ⟨rfl,rfl⟩
 ·simp only[decide_eq_false (show ¬m=0 by omega)] at A;unfold zcM;rw[if_neg q_o];have O:=λq E (F:q.rangeAt E 0 (zae [a]))=>zfl m a E q hm h ha F;have K:=zd (a%m);generalize a%m=r at*;repeat' (first|refine s_0 ?_|refine zf 0 ?_;refine zk ?_;intro _;refine zk ?_;intro _;refine z9 ?_;intro _|refine zf 1 ?_;refine q_v (ze (B:=zg m)) ?_;refine q_v (za (hc:=q_c A)) ?_|refine zf 3 ?_;refine q_v (ze (B:=zg m)) ?_;refine q_v (zf6 (n:=m)) ?_;refine q_v (ze (B:=zg a)) ?_|refine q_s (zcb (x:=a)) ?_;rintro _ _ ⟨P,rfl,rfl⟩|(refine zx ?_;first|refine q_v (ze (B:=zg r)) ?_|refine q_s (zi (hc:=λq X Q G=>O q _ (zp (G.has (by exact F1 F5)) Ex))) ?_;rintro _ _ ⟨R,rfl,bc,rfl,rfl⟩|refine q_v (zbv (j:=0)) ?_|refine q_n (zl (n:=r)) ?_|refine zw ?_|fail)|fail)
  exact zU rfl (zE (B:=zg r) rfl (ty rfl) rfl Ey Ex (zd _).symm) (zh rfl) Ev ⟨rfl,rfl⟩
theorem zkU(f:Nat)(F:Nat->Nat->Nat)(a b m:Nat)(w:World)(ha:a<18446744073709551616^16)(hb:b<18446744073709551616^16)(hm:m<18446744073709551616^16)
  (A:∀args w,(callFunc f args).run Tryz.prog w= .ok (.enter f args) w)(E:∀a b w,a<m->b<m->q_G f [zu m,zu a,zu b] w (zu (F a b))):
  q_G 214 [zu m,.func (.func f) #[] #[],zu a,zu b] w (zcM m (F (a%m) (b%m))):=by
 refine zt Tryz.func214 Tryz.ntmps214 ?_;have U:=zd a;have V:=zd b;have W:=zd m;have T:=zd 0;have G:=λq=>zdH m q hm;rcases AE m with h|h
 ·subst h;unfold zcM;rw[if_pos rfl];repeat' (first|refine s_0 ?_|refine zf 0 ?_;refine zk ?_;intro _;refine zk ?_;intro _;refine zk ?_;intro _;refine z9 ?_;intro _|refine zf 1 ?_;refine q_v (ze (B:=zg 0)) ?_;refine q_v (za (hc:=q_c G)) ?_|refine zf 2 ?_;refine q_v zdt ?_;refine q_y (zl (n:=0)) ?_)
  exact zU rfl (zE (B:=zg 0) rfl (ty rfl) rfl Ey Ex (zd _).symm) (zh rfl) Ev ⟨rfl,rfl⟩
 ·simp only[decide_eq_false (show ¬m=0 by omega)] at G;unfold zcM;rw[if_neg q_o];have Z:=λq J (Q:q.rangeAt J 0 (zae [a,b]))=>zjA m a b J q hm h ha hb Q;have E:=λq=>E (a%m) (b%m) q (AC _ h) (AC _ h);have Y:=zd (F (a%m) (b%m));have O:=zd (a%m);have P:=zd (b%m);generalize b%m=I,a%m=H,F (a%m) (b%m)=r at*;repeat' (first|refine s_0 ?_|refine zf 0 ?_;refine zk ?_;intro _;refine zk ?_;intro _;refine zk ?_;intro _;refine z9 ?_;intro _|refine zf 1 ?_;refine q_v (ze (B:=zg m)) ?_;refine q_v (za (hc:=q_c G)) ?_|refine zf 3 ?_;refine q_v (ze (B:=zg m)) ?_;refine q_v (zf6 (n:=m)) ?_;refine q_v (ze (B:=zg a)) ?_;refine q_v (ze (B:=zg b)) ?_|refine zai (id:=4) 9 [[],[],[1],[],[3],[3,4],[],[6],[6,7],[0,1,2,3,4,5,6,7,8],[0,1,2,3,4,5,6,7,8,9],[0,1,2,3,4,5,6,7,8,9,10]] mixed ?_ ?_;kernel_rfl;refine zB ?_;refine q_D (ze (B:=zg m)) ?_;refine q_D (zf6 (n:=m)) ?_;refine zB ?_;refine q_D (zbv (j:=0)) ?_;refine q_D (ze (B:=zg H) (hv:=(zr9 H I).1)) ?_;refine zB ?_;refine q_D (zbv (j:=1)) ?_;refine q_D (ze (B:=zg I) (hv:=(zr9 H I).2)) ?_;refine zaF ?_;refine q_v (zeZ (he:=A) (fst:=[]) (cap:=[]) (hc:=λq X S K=>E q)) ?_;refine q_n (zl (n:=r)) ?_;refine zw ?_|refine q_s (zff (x:=a) (x':=b)) ?_;rintro _ _ ⟨bb,rfl,rfl⟩|(refine zx ?_;first|refine q_s (zi (hc:=λq X S K=>Z q _ (zp (K.has (by exact F1 F5)) Ex))) ?_;rintro _ _ ⟨R,rfl,bc,rfl,rfl⟩|refine zw ?_|fail)|fail)
  exact zU rfl (zE (B:=zg r) rfl (ty rfl) rfl Ey Ex (zd _).symm) (zh rfl) Ev ⟨rfl,rfl⟩
theorem zqx(a b m:Nat)(w:World)(ha:a<18446744073709551616^16)(hb:b<18446744073709551616^16)(hm:m<18446744073709551616^16):
  q_G 184 [zu a,zu b,zu m] w (zcM m ((a+b)%m)):=by
 refine zt Tryz.func184 Tryz.ntmps184 ?_;have E:=zd a;have F:=zd b;have G:=zd m;have A:=zd 0;have j:=λq=>zkU 245 (λx y=>(x+y)%m) a b m q ha hb hm (en rfl) (λx y q I J=>zlt m x y q hm I J);rcases AE m with h|h
 ·subst h;unfold zcM at*;simp only[if_pos rfl] at j ⊢;repeat' (first|refine s_0 ?_|refine zf 0 ?_;refine zk ?_;intro _;refine zk ?_;intro _;refine zk ?_;intro _;refine z9 ?_;intro _|refine zf 1 ?_;refine q_v (ze (B:=zg 0)) ?_;refine q_v (ze (B:=zg a)) ?_;refine q_v (ze (B:=zg b)) ?_;refine q_v (za (hc:=q_c j)) ?_;refine zb ?_;refine q_y (zl (n:=0)) ?_)
  exact zU rfl (zE (B:=zg 0) rfl (ty rfl) rfl Ey Ex (zd _).symm) (zh rfl) Ev ⟨rfl,rfl⟩
 ·have e:(λx y=>(x+y)%m) (a%m) (b%m)=(a+b)%m:=by
   exact(Nat.add_mod a b m).symm
  dsimp only at e;rw[e] at j;unfold zcM at*;simp only[if_neg (show ¬m=0 by omega)] at j ⊢;have H:=zd ((a+b)%m);generalize (a+b)%m=r at*;repeat' (first|refine s_0 ?_|refine zf 0 ?_;refine zk ?_;intro _;refine zk ?_;intro _;refine zk ?_;intro _;refine z9 ?_;intro _|refine zf 1 ?_;refine q_v (ze (B:=zg m)) ?_;refine q_v (ze (B:=zg a)) ?_;refine q_v (ze (B:=zg b)) ?_;refine q_v (za (hc:=q_c j)) ?_;refine zb ?_;refine q_y (zl (n:=r)) ?_)
  exact zU rfl (zE (B:=zg r) rfl (ty rfl) rfl Ey Ex (zd _).symm) (zh rfl) Ev ⟨rfl,rfl⟩
theorem zw6(a b m:Nat)(w:World)(ha:a<18446744073709551616^16)(hb:b<18446744073709551616^16)(hm:m<18446744073709551616^16):
  q_G 138 [zu a,zu b,zu m] w (zcM m (dm m a b)):=by
 refine zt Tryz.func138 Tryz.ntmps138 ?_;have E:=zd a;have F:=zd b;have G:=zd m;have A:=zd 0;have j:=λq=>zkU 215 (λx y=>dm m x y) a b m q ha hb hm (en rfl) (λx y q I J=>znt m x y q hm I J);rcases AE m with h|h
 ·subst h;unfold zcM at*;simp only[if_pos rfl] at j ⊢;repeat' (first|refine s_t ?_|apply zcR;(focus ((repeat (first|exact Eu|apply Ew));done));assumption|(refine zf 0 ?_;try (refine zk ?_;intro _);try (refine zk ?_;intro _);try (refine zk ?_;intro _);try (refine zk ?_;intro _);try refine zw ?_)|(refine zf 1 ?_;try (first|refine q_v (ze (B:=zg a)) ?_|refine q_v (ze (B:=zg b)) ?_|refine q_v (ze (B:=zg 0)) ?_|refine zm ?_|fail);try (first|refine q_v (ze (B:=zg a)) ?_|refine q_v (ze (B:=zg b)) ?_|refine q_v (ze (B:=zg 0)) ?_|refine zm ?_|fail);try (first|refine q_v (ze (B:=zg a)) ?_|refine q_v (ze (B:=zg b)) ?_|refine q_v (ze (B:=zg 0)) ?_|refine zm ?_|fail);try refine q_v (za (hc:=q_c j)) ?_;try refine zZ ?_;try refine zZ ?_;try (first|refine q_n (zl (n:=0)) ?_|refine zP ?_|fail);try refine zw ?_)|(refine zx ?_;first|refine q_v (ze (B:=zg a)) ?_|refine q_v (ze (B:=zg b)) ?_|refine q_v (ze (B:=zg 0)) ?_|refine q_v (za (hc:=q_c j)) ?_|refine q_n (zl (n:=0)) ?_|refine zw ?_|refine zZ ?_|refine zm ?_|refine zP ?_|refine zk ?_;intro _|fail)|refine zdF ?_)
  exact zU rfl (zE (B:=zg 0) rfl (ty rfl) rfl Ey Ex (zd _).symm) (zh rfl) Ev ⟨rfl,rfl⟩
 ·have e:(λx y=>dm m x y) (a%m) (b%m)=dm m a b:=by
   exact zz6 h (zeB m a) (zeB m b)
  dsimp only at e;rw[e] at j;unfold zcM at*;simp only[if_neg (show ¬m=0 by omega)] at j ⊢;have H:=zd (dm m a b);generalize dm m a b=r at*;repeat' (first|refine s_t ?_|apply zcR;(focus ((repeat (first|exact Eu|apply Ew));done));assumption|(refine zf 0 ?_;try (refine zk ?_;intro _);try (refine zk ?_;intro _);try (refine zk ?_;intro _);try (refine zk ?_;intro _);try refine zw ?_)|(refine zf 1 ?_;try (first|refine q_v (ze (B:=zg a)) ?_|refine q_v (ze (B:=zg b)) ?_|refine q_v (ze (B:=zg m)) ?_|refine zm ?_|fail);try (first|refine q_v (ze (B:=zg a)) ?_|refine q_v (ze (B:=zg b)) ?_|refine q_v (ze (B:=zg m)) ?_|refine zm ?_|fail);try (first|refine q_v (ze (B:=zg a)) ?_|refine q_v (ze (B:=zg b)) ?_|refine q_v (ze (B:=zg m)) ?_|refine zm ?_|fail);try refine q_v (za (hc:=q_c j)) ?_;try refine zZ ?_;try refine zZ ?_;try (first|refine q_n (zl (n:=r)) ?_|refine zP ?_|fail);try refine zw ?_)|(refine zx ?_;first|refine q_v (ze (B:=zg a)) ?_|refine q_v (ze (B:=zg b)) ?_|refine q_v (ze (B:=zg m)) ?_|refine q_v (za (hc:=q_c j)) ?_|refine q_n (zl (n:=r)) ?_|refine zw ?_|refine zZ ?_|refine zm ?_|refine zP ?_|refine zk ?_;intro _|fail)|refine zdF ?_)
  exact zU rfl (zE (B:=zg r) rfl (ty rfl) rfl Ey Ex (zd _).symm) (zh rfl) Ev ⟨rfl,rfl⟩
theorem zmj(a b m:Nat)(w:World)(ha:a<18446744073709551616^16)(hb:b<18446744073709551616^16)(hm:m<18446744073709551616^16):
  q_G 183 [zu a,zu b,zu m] w (zcM m (a*b%m)):=by
 refine zt Tryz.func183 Tryz.ntmps183 ?_;have E:=zd a;have F:=zd b;have G:=zd m;have A:=zd 0;have j:=λq=>zkU 244 (λx y=>x*y%m) a b m q ha hb hm (en rfl) (λx y q I J=>ziw m x y q hm I J);rcases AE m with h|h
 ·subst h;unfold zcM at*;simp only[if_pos rfl] at j ⊢;repeat' (first|refine s_0 ?_|refine zf 0 ?_;refine zk ?_;intro _;refine zk ?_;intro _;refine zk ?_;intro _;refine z9 ?_;intro _|refine zf 1 ?_;refine q_v (ze (B:=zg 0)) ?_;refine q_v (ze (B:=zg a)) ?_;refine q_v (ze (B:=zg b)) ?_;refine q_v (za (hc:=q_c j)) ?_;refine zb ?_;refine q_y (zl (n:=0)) ?_)
  exact zU rfl (zE (B:=zg 0) rfl (ty rfl) rfl Ey Ex (zd _).symm) (zh rfl) Ev ⟨rfl,rfl⟩
 ·have e:(λx y=>x*y%m) (a%m) (b%m)=a*b%m:=by
   exact(Ee a b m).symm
  dsimp only at e;rw[e] at j;unfold zcM at*;simp only[if_neg (show ¬m=0 by omega)] at j ⊢;have H:=zd (a*b%m);generalize a*b%m=r at*;repeat' (first|refine s_0 ?_|refine zf 0 ?_;refine zk ?_;intro _;refine zk ?_;intro _;refine zk ?_;intro _;refine z9 ?_;intro _|refine zf 1 ?_;refine q_v (ze (B:=zg m)) ?_;refine q_v (ze (B:=zg a)) ?_;refine q_v (ze (B:=zg b)) ?_;refine q_v (za (hc:=q_c j)) ?_;refine zb ?_;refine q_y (zl (n:=r)) ?_)
  exact zU rfl (zE (B:=zg r) rfl (ty rfl) rfl Ey Ex (zd _).symm) (zh rfl) Ev ⟨rfl,rfl⟩
theorem zzb(a e m:Nat)(w:World)(ha:a<18446744073709551616^16)(he:e<18446744073709551616^16)(hm:m<18446744073709551616^16):
  q_G 252 [zu a,zu e,zu m] w (zcM m (a^e%m)):=by
 refine zt Tryz.func252 Tryz.ntmps252 ?_;have a9:=zd a;have b0:=zd e;have b1:=zd m;have a6:=zd 0;have hz:=λq=>zdH m q hm;rcases AE m with h|h
 ·subst h;unfold zcM;rw[if_pos rfl];repeat' (first|refine s_0 ?_|refine zf 0 ?_;refine zk ?_;intro _;refine zk ?_;intro _;refine zk ?_;intro _;refine z9 ?_;intro _|refine zf 1 ?_;refine q_v (ze (B:=zg 0)) ?_;refine q_v (za (hc:=q_c hz)) ?_|refine zf 2 ?_;refine q_v zdt ?_;refine q_y (zl (n:=0)) ?_)
  exact zU rfl (zE (B:=zg 0) rfl (ty rfl) rfl Ey Ex (zd _).symm) (zh rfl) Ev ⟨rfl,rfl⟩
 ·simp only[decide_eq_false (show ¬m=0 by omega)] at hz;unfold zcM;rw[if_neg q_o];have hr:=λq O (W:q.rangeAt O 0 (zae [a]))=>zfl m a O q hm h ha W;have h1:=λq=>zyH m q hm h;obtain⟨V,A⟩:∃V:Nat->Nat,∀k,V k=(a%m)^k%m:=⟨λk=>(a%m)^k%m,λ_=>rfl⟩;have H:∀k,V k<m:=λk=>by rw[A];exact AC _ h
  have S:∀k q,q_G 300 ([zu m]++[zu (V k)]++[]) q (zu (V (2*k))):=λk q=>by
   have:=ztn m (V k) q hm (H k);rw[show V k*V k%m=V (2*k) by rw[A,A,<-Ee,<-Ax,Et]] at this;exact this
  have Q:∀k q,q_G 244 ([zu m]++[zu (V k),zu (a%m)]++[]) q (zu (V (k+1))):=λk q=>by
   have:=ziw m (V k) (a%m) q hm (H k) (AC _ h);rw[show V k*(a%m)%m=V (k+1) by rw[A,A,ET,AN]] at this;exact this
  have E:=λq=>zmI e (a%m) V 300 244 [zu m] [] [zu m] [] q he (en rfl) (en rfl) S Q;rw[show V 0=1%m by rw[A,Ao],show V e=a^e%m by rw[A,((zeB m a).pow e).mod]] at E;have K:=zd (a%m);have a8:=zd (a^e%m);have a7:=zd (1%m);clear S Q A H;generalize 1%m=u,a%m=r,a^e%m=R at*;repeat' (first|refine s_0 ?_|refine zf 0 ?_;refine zk ?_;intro _;refine zk ?_;intro _;refine zk ?_;intro _;refine z9 ?_;intro _|refine zf 1 ?_;refine q_v (ze (B:=zg m)) ?_;refine q_v (za (hc:=q_c hz)) ?_|refine zf 3 ?_;refine q_v (ze (B:=zg m)) ?_;refine q_v (zf6 (n:=m)) ?_;refine zk ?_;intro _;refine q_n (zG (B:=zg m) (hv:=zfG m) (h1:=(zd m).symm)) ?_)
  rename_i b3 b4 b5 P b8;refine zc0 (id:=4) mixed ?_
  (refine zc1 14 14 [[],[],[1],[],[],[4],[1,2,3,4,5],[1,2,3,4,5,6],[1,2,3,4,5,6,7],[],[9],[],[11],[0,1,2,3,4,5,6,7,8,9,10,11,12],[0,1,2,3,4,5,6,7,8,9,10,11,12,13],[0,1,2,3,4,5,6,7,8,9,10,11,12,13,14]] [[],[],[],[],[],[],[],[],[],[],[],[],[],[],[],[]] none rfl ?_ ?_ ?_;kernel_rfl;kernel_rfl;refine q_E (ze (B:=zg e)) ?_;refine q_E (ze (B:=zg m)) ?_;refine q_E (za (hc:=q_c h1)) ?_;refine q_E (ze (B:=zg m)) ?_;refine q_E (ze (B:=zg a)) ?_;try refine dh_0nE (h:=?_))
  refine zfX (R:=λ_=>zzQ 133 1 (zae [a])) (λ_ _ _=>rfl) (λρ J=>FM (zcb (x:=a)) λv L' h=>?_) (h:=?_)
  ·obtain⟨b,rfl,rfl⟩:=h;exact⟨[_],rfl,b,rfl,rfl⟩
  refine zfX (R:=λ_=>zzQ 133 1 (zg r)) (λ_ _ _=>rfl) (λρ J=>?_) (h:=?_)
  ·obtain⟨⟨F,G,I⟩,-⟩:=J;refine FM (zi (vs:=[zu m,.slice (some ⟨F,0,none⟩) 1 1]) (ha:=by show some [_,(ρ 5).1]=_;rw[G];rfl) (hc:=λq X Z Y=>hr q F ((Ff (T:=133) (by show Has ((ρ 5).2++_) _;rw[I];exact F5) Ex) q X Z Y))) λv L' h=>?_;obtain⟨R,rfl,bc,rfl,rfl⟩:=h;exact⟨_,rfl,bc,rfl,rfl⟩
  refine zq6 (u:=λρ=>zwA (ρ 6).1) (λρ J=>?_) (λ_=>rfl) rfl (λρ ρ' h=>by rw[h 6 q_e]) (h:=?_)
  ·obtain⟨⟨F,G,I⟩,-⟩:=J;refine FM (zbv (b:=F) (off:=0) (n:=1) (c:=1) (j:=0) (hx:=by show some (ρ 6).1=_;rw[G])) λv L' h=>?_;obtain⟨rfl,rfl⟩:=h;exact⟨by rw[G];rfl,rfl⟩
  refine dcE (u:=zu r) (λρ J=>?_) (k:=?_)
  ·obtain⟨⟨F,G,I⟩,-⟩:=J;exact ze (B:=zg r) (b:=F) (off:=0) (T:=133) (hx:=by show some (zwA (ρ 6).1)=_;rw[G];rfl) (hL:=by show Has ((ρ 6).2++_) _;rw[I];exact F5) (hv:=Ex) (hz:=K.symm)
  (skip;refine q_E (ze (B:=zg m)) ?_;refine q_E zab ?_;refine q_E (ze (B:=zg m)) ?_;refine q_E zab ?_;refine q_E (za (hc:=q_c E)) ?_;try refine dh_0nE (h:=?_))
  refine zfm (h:=?_);rintro ρ ⟨⟨F,G,I⟩,⟨bz,e3,U⟩,-⟩
  (refine zc2 [[],[],[1],[],[],[4],[1,2,3,4,5],[1,2,3,4,5,6],[1,2,3,4,5,6,7],[],[9],[],[11],[0,1,2,3,4,5,6,7,8,9,10,11,12],[0,1,2,3,4,5,6,7,8,9,10,11,12,13],[0,1,2,3,4,5,6,7,8,9,10,11,12,13,14]] ?_ ?_;kernel_rfl)
  refine FL (fr':=[(27,zu R),(6,.pointer (some ⟨P,0,none⟩)),(7,.int .i64 0)]) (L':=[.blk P 133 (List.replicate 16 (Value.int IntKind.u64 0))]) ?_ ?_ ?_;rotate_left
  ·exact q_h
  ·show SubR _ ((ρ 6).2++((ρ 5).2++_));rw[I,U];exact q_h
  repeat' (first|refine s_0 ?_|(refine zx ?_;first|refine q_n (zl (n:=R)) ?_|refine zw ?_|fail)|fail)
  exact zU rfl (zE (B:=zg R) rfl (ty rfl) rfl Ey Ex (zd _).symm) (zh rfl) Ev ⟨rfl,rfl⟩
end Go.Proofs.YtdnlngbjpdbffaaGreatDoor
