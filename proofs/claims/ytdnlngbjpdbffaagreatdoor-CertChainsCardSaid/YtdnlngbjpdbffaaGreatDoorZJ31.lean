/- Lemmas. -/
import Derived.Test.YtdnlngbjpdbffaaGreatDoorZJ30
set_option maxHeartbeats 4000000
set_option maxRecDepth 10000
set_option linter.all false
namespace Go.Proofs.YtdnlngbjpdbffaaGreatDoor
open Sy Ct RowKit
attribute [local irreducible] Sy SyL SyX Sy.Fn callFunc
theorem zqr(v:Int)(m:Nat)(w:World)(hm:m<=8):Sy.Fn Tryz.prog 194 [.int .i64 v,.int .i64 (m:Int)] w No (λr R=>∃b,r= .slice (some ⟨b,0,none⟩) m m/\R= [.blk b 5 ((beZ v m).map v8)]):=by
 refine zt Tryz.func194 Tryz.ntmps194 ?_;repeat' first|refine s_t ?_|refine zA [0,1,2] ?_;refine zb ?_|refine q_s (zeP (n:=m)) ?_;rintro _ _ ⟨F,rfl,rfl⟩|(refine zx ?_;first|refine zw ?_|fail)|fail
 refine zL (γ:=Nat) (λi=>[(0,.int .i64 v),(1,.int .i64 (m:Int)),(5,.slice (some ⟨F,0,none⟩) m m),(10,.int .i64 (m:Int)),(11,.int .i64 (i:Int))]) (λi=>[.blk F 5 (List.replicate (m-i) (Value.int .u8 0)++(beZ v i).map v8)]) (λi=>i<=m) (λi=>m-i) 0 (AA _) ?_ ?_ ?_
 ·exact q_h
 ·rw[CD,show(beZ v 0).map v8= [] from rfl,AJ];exact q_h
 rintro i I;rcases AG i m with h|h
 ·have B:decide ((i:Int)<(m:Int))=true:=q_d;have g1:IntKind.i64.wrap ((m:Int)-1)=((m-1:Nat):Int):=q_w;have g2:IntKind.i64.wrap (((m-1:Nat):Int)-(i:Int))=((m-1-i:Nat):Int):=q_w;have g3:IntKind.i64.wrap (8*(i:Int))=((8*i:Nat):Int):=q_w;have g4:Op.shift .shr .i64 v .i64 ((8*i:Nat):Int)=pure (.int .i64 (v/256^i)):=by rw[zzN v (8*i) _ q_o,zwF]
  have g5:IntKind.i64.wrap ((i:Int)+1)=((i+1:Nat):Int):=q_w;have g6:=u8Z (v/256^i);have A:=zxi v m i h;have H:(List.replicate (m-i) (Value.int .u8 0)++(beZ v i).map v8).length=m:=by simp only[A4,AL,A0,zjP];omega
  generalize List.replicate (m-i) (Value.int .u8 0)++(beZ v i).map v8=C at*;obtain⟨G,E⟩:∃G,G=List.replicate (m-(i+1)) (Value.int .u8 0)++(beZ v (i+1)).map v8:=⟨_,rfl⟩;rw[<-E] at A;generalize v/256^i=q at*;repeat' first|refine s_t ?_|refine zf 3 ?_;refine q_v (zn (hr:=B)) ?_|refine q_k 4 ?_|refine q_k 5 ?_;refine q_x (zK (hr:=g1)) ?_;refine q_x (zK (hr:=g2)) ?_;refine q_v (zaM (hr:=g3)) ?_;refine q_v (zcl (hr:=g4)) ?_;refine q_v (zam (hr:=g6)) ?_;refine q_v (zq (j:=m-1-i)) ?_;refine q_n (zaO (hC:=by rw[Aa];exact A)) ?_|refine zf 6 ?_;refine q_x (zD (hr:=g5)) ?_
  refine zC (i+1) h ?_ ?_ ?_
  ·show m-(i+1)<m-i;omega
  ·exact q_h
  ·rw[<-E];exact q_h
 obtain rfl:i=m:=q_o;have B:decide ((i:Int)<(i:Int))=false:=q_f;rw[C7,Cf,Ag];repeat' first|refine s_0 ?_|refine zf 3 ?_;refine q_v (zn (hr:=B)) ?_|refine q_k 7 ?_
 exact zar rfl (zh rfl) q_h ⟨F,rfl,rfl⟩
theorem zoI(t:Nat)(a:Option Addr)(m d:Nat)(xs:List Bs)(w:World)(ht:t<256)(hm:xs.length=m)(b2:m<1000)(b3:m<=d)(b0:SlA w a (xs.map Bs.val))(a8:∀s∈xs,s.ok w)(hb:(Bs.cat xs).length<16777216):
  Sy.Fn Tryz.prog 172 [.int .u8 (t:Int),.slice a m d] w No (zbK 5 (tlv t (Bs.cat xs)).length ((tlv t (Bs.cat xs)).map v8)):=by
 refine zt Tryz.func172 Tryz.ntmps172 ?_;have V:∀i,(Bs.cat (xs.take i)).length<=(Bs.cat xs).length:=λi=>by
  have:Bs.cat xs=Bs.cat (xs.take i)++Bs.cat (xs.drop i):=by unfold Bs.cat;rw[<-CO,Bc]
  rw[this,A4];omega
 have P:=λi (h:i<m)=>Fx xs i q_o;have O:=λj (h:j<m)=>a8 xs[j] (AX q_o);have N:=λi (h:i<m)=>Bs.get b0 (i:=i) q_o;repeat' first|refine s_t ?_|refine zA [0,1,2] ?_;refine zb ?_
 refine zL (γ:=Nat) (λi=>[(0,.int .u8 (t:Int)),(1,.slice a m d),(11,.slice a m d),(12,.int .i64 m),(13,.int .i64 i),(5,.int .i64 ((Bs.cat (xs.take i)).length:Nat))]) (λ_=>[]) (λi=>i<=m) (λi=>m-i) 0 (AA _) ?_ ?_ ?_
 ·exact q_h
 ·exact q_h
 intro i hi;by_cases hlt:i<m
 ·obtain⟨bl,ol,rfl,A⟩:=N i hlt;have U:=A i q_o;have X:=O i hlt;have Y:=P i hlt;have R:=V (i+1);rw[Y,A4] at R;have r:xs[i].l.length=xs[i].n:=X.len;rw[r] at R;have hT:((Bs.cat (xs.take (i+1))).length:Int)=((Bs.cat (xs.take i)).length:Int)+(xs[i].n:Int):=by rw[Y,A4,r,Di]
  obtain⟨T',S⟩:∃t,t=(Bs.cat (xs.take (i+1))).length:=⟨_,rfl⟩;rw[<-S] at hT;generalize xs[i]=s,(Bs.cat xs).length=q,(Bs.cat (xs.take i)).length=T at*;obtain⟨sa,sn,sc,sl⟩:=s;dsimp only at*;have g1:decide ((i:Int)<(m:Int))=true:=q_d;have g2:IntKind.i64.wrap (16777215-(T:Int))=16777215-(T:Int):=IntWalk.i64_in _ q_o;have g3:decide (16777215-(T:Int)<(sn:Int))=false:=q_f;have g4:IntKind.i64.wrap ((T:Int)+(sn:Int))=((T':Nat):Int):=q_w;have g5:IntKind.i64.wrap ((i:Int)+1)=((i+1:Nat):Int):=q_w;repeat' first|refine s_t ?_|refine zf 3 ?_;refine q_v (zn (hr:=g1)) ?_|refine zf 4 ?_;refine q_v (zq (j:=i)) ?_;refine q_x (zo (hv:=U)) ?_|refine q_k 5 ?_;refine q_v (zK (hr:=g2)) ?_;refine q_v (zH (hr:=g3)) ?_|refine q_k 7 ?_;refine q_x (zD (hr:=g4)) ?_|refine zf 8 ?_;refine q_x (zD (hr:=g5)) ?_
  refine zC (i+1) hlt ?_ ?_ ?_
  ·show m-(i+1)<m-i;omega
  ·rw[<-S];exact q_h
  ·exact q_h
 obtain rfl:i=m:=q_o;have M:xs.take i=xs:=A6 q_o;rw[M];have g1:decide ((i:Int)<(i:Int))=false:=q_f;obtain⟨q,B⟩:∃n,n=(Bs.cat xs).length:=⟨_,rfl⟩;rw[<-B] at hb;have W:∀j,(Bs.cat (xs.take j)).length<=q:=λj=>B ▸ V j;obtain⟨H,hH⟩:∃H,H=UInt8.ofNat t::zb0 q:=⟨_,rfl⟩;have Z:tlv t (Bs.cat xs)=H++Bs.cat xs:=by rw[hH,B];rfl
 have b1:H.length<=5:=by rw[hH,AQ];have:=zkS q;omega
 have L:H.map v8= .int .u8 (t:Int)::(zb0 q).map v8:=by rw[hH,Au,<-v8_lit t ht]
 rw[zqD] at L;have g2:IntKind.i64.wrap ((q:Int)+5)=((q+5:Nat):Int):=q_w;have g3:=u8N q;have g4:=u8N (q/2^8);have g5:=u8N (q/2^16);have q1:=λkk=>zv7 q 8 kk q_e;have q2:=λkk=>zv7 q 16 kk q_e;rw[Z,<-B];repeat' first|refine s_0 ?_|refine zf 3 ?_;refine q_v (zn (hr:=g1)) ?_|refine q_k 9 ?_;refine q_v (zD (hr:=g2)) ?_|refine q_s (zld (n:=0) (c':=q+5) (AA _)) ?_;rintro _ _ ⟨b8,rfl,rfl⟩|(refine zx ?_;first|refine zw ?_|fail)|fail
 refine zbg (zlg (b:=b8) (E:=5) (s:=1) (n:=0) (c:=q+5) (xs:=[]) (J:=List.replicate (q+5) (Value.int .u8 0)) Eu q_p (AA _) (by unfold maxLen;omega) rfl) ?_;repeat' first|refine s_0 ?_|refine q_k 10 ?_;(refine q_s zz ?_;rintro _ _ ⟨_,rfl,rfl⟩);(refine q_s zaz ?_;rintro _ _ ⟨rfl,_,_,rfl⟩);refine zb ?_
 rename_i aT cT;refine zcu (γ:=Option Addr×Nat) (λg=>[(1,.slice a i d),(8,.slice g.1 H.length g.2)]) (λg=>[.row (.slice g.1 H.length g.2) 5 1 H.length (H.map v8)]) (λ_=>True) ?_ ?_
 ·have U:q<128\/(128<=q/\q<256)\/(256<=q/\q<65536)\/65536<=q:=q_o;rcases U with h|h|h|h
  ·rw[if_pos h] at L;have e: [Value.int .u8 (t:Int)]++[.int .u8 (Wd.n8 (UInt8.ofNat q))]=H.map v8:=L.symm;have F:1+1=H.length:=by rw[<-A0 v8,<-e];rfl
   have k1:decide ((q:Int)<128)=true:=q_d;repeat' first|refine s_t ?_|refine q_k 12 ?_;refine q_x (zn (hr:=k1)) ?_|refine q_k 13 ?_;refine q_v (zam (hr:=g3)) ?_;(refine q_s zz ?_;rintro _ _ ⟨_,rfl,rfl⟩);(refine q_s (zaz (hys:=e) (hkm:=F)) ?_;rintro _ _ ⟨rfl,G,I,rfl⟩);refine zb ?_
   exact zaj (G,I) trivial q_h q_h
  ·rw[if_neg q_o,if_pos h.2] at L;have e: [Value.int .u8 (t:Int)]++[.int .u8 129,.int .u8 (Wd.n8 (UInt8.ofNat q))]=H.map v8:=L.symm;have F:1+2=H.length:=by rw[<-A0 v8,<-e];rfl
   have k1:decide ((q:Int)<128)=false:=q_f;have k2:decide ((q:Int)<256)=true:=q_d;repeat' first|refine s_t ?_|refine q_k 12 ?_;refine q_x (zn (hr:=k1)) ?_|refine q_k 14 ?_;refine q_x (zn (hr:=k2)) ?_|refine q_k 15 ?_;refine q_v (zam (hr:=g3)) ?_;(refine q_s zz ?_;rintro _ _ ⟨_,rfl,rfl⟩);(refine q_s (zaz (hys:=e) (hkm:=F)) ?_;rintro _ _ ⟨rfl,G,I,rfl⟩);refine zb ?_
   exact zaj (G,I) trivial q_h q_h
  ·rw[if_neg q_o,if_neg q_o,if_pos h.2] at L;have e: [Value.int .u8 (t:Int)]++[.int .u8 130,.int .u8 (Wd.n8 (UInt8.ofNat (q/2^8))),.int .u8 (Wd.n8 (UInt8.ofNat q))]=H.map v8:=L.symm;have F:1+3=H.length:=by rw[<-A0 v8,<-e];rfl
   have k1:decide ((q:Int)<128)=false:=q_f;have k2:decide ((q:Int)<256)=false:=q_f;have k3:decide ((q:Int)<65536)=true:=q_d;repeat' first|refine s_t ?_|refine q_k 12 ?_;refine q_x (zn (hr:=k1)) ?_|refine q_k 14 ?_;refine q_x (zn (hr:=k2)) ?_|refine q_k 16 ?_;refine q_x (zn (hr:=k3)) ?_|refine q_k 17 ?_;refine q_v (zcl (hr:=q1 _)) ?_;refine q_x (zam (hr:=g4)) ?_;refine q_v (zam (hr:=g3)) ?_;(refine q_s zz ?_;rintro _ _ ⟨_,rfl,rfl⟩);(refine q_s (zaz (hys:=e) (hkm:=F)) ?_;rintro _ _ ⟨rfl,G,I,rfl⟩);refine zb ?_
   exact zaj (G,I) trivial q_h q_h
  ·rw[if_neg q_o,if_neg q_o,if_neg q_o] at L;have e: [Value.int .u8 (t:Int)]++[.int .u8 131,.int .u8 (Wd.n8 (UInt8.ofNat (q/2^16))),.int .u8 (Wd.n8 (UInt8.ofNat (q/2^8))),.int .u8 (Wd.n8 (UInt8.ofNat q))]=H.map v8:=L.symm;have F:1+4=H.length:=by rw[<-A0 v8,<-e];rfl
   have k1:decide ((q:Int)<128)=false:=q_f;have k2:decide ((q:Int)<256)=false:=q_f;have k3:decide ((q:Int)<65536)=false:=q_f;repeat' first|refine s_t ?_|refine q_k 12 ?_;refine q_x (zn (hr:=k1)) ?_|refine q_k 14 ?_;refine q_x (zn (hr:=k2)) ?_|refine q_k 16 ?_;refine q_x (zn (hr:=k3)) ?_|refine q_k 11 ?_;refine q_v (zcl (hr:=q2 _)) ?_;refine q_x (zam (hr:=g5)) ?_;refine q_v (zcl (hr:=q1 _)) ?_;refine q_x (zam (hr:=g4)) ?_;refine q_v (zam (hr:=g3)) ?_;(refine q_s zz ?_;rintro _ _ ⟨_,rfl,rfl⟩);(refine q_s (zaz (hys:=e) (hkm:=F)) ?_;rintro _ _ ⟨rfl,G,I,rfl⟩);refine zb ?_
   exact zaj (G,I) trivial q_h q_h
 rintro⟨aH,cH⟩ -;dsimp only;repeat' first|refine s_t ?_|refine q_k 18 ?_
 refine zL (γ:=Nat×Option Addr×Nat) (λg=>[(72,.slice a i d),(73,.int .i64 i),(74,.int .i64 g.1),(8,.slice g.2.1 (H++Bs.cat (xs.take g.1)).length g.2.2)]) (λg=>[.row (.slice g.2.1 (H++Bs.cat (xs.take g.1)).length g.2.2) 5 1 (H++Bs.cat (xs.take g.1)).length ((H++Bs.cat (xs.take g.1)).map v8)]) (λg=>g.1<=i) (λg=>i-g.1) (0,aH,cH) (AA _) ?_ ?_ ?_
 ·rw[show H++Bs.cat (xs.take 0)=H by rw[By];exact AJ _];exact q_h
 ·rw[show H++Bs.cat (xs.take 0)=H by rw[By];exact AJ _];exact q_h
 rintro⟨j,aJ,cJ⟩ hj;dsimp only at hj ⊢;by_cases hlt:j<i
 ·obtain⟨bl,ol,rfl,A⟩:=N j hlt;have U:=A j q_o;have X:=O j hlt;have Y:=P j hlt;have R:=W (j+1);have r:xs[j].l.length=xs[j].n:=X.len;have a9:=X.sla;have a7:=X.nil;have e:(H++Bs.cat (xs.take j)).map v8++xs[j].l.map v8=(H++Bs.cat (xs.take (j+1))).map v8:=by rw[Y,<-AI];exact Ar.symm
  have F:(H++Bs.cat (xs.take j)).length+xs[j].n=(H++Bs.cat (xs.take (j+1))).length:=by rw[Y];simp only[A4,r];omega
  have a6:(H++Bs.cat (xs.take (j+1))).length<20000000:=by rw[A4];omega
  generalize (H++Bs.cat (xs.take j))=K at*;obtain⟨K',Q⟩:∃k,k=H++Bs.cat (xs.take (j+1)):=⟨_,rfl⟩;rw[<-Q] at e F a6;generalize xs[j]=s at*;obtain⟨sa,sn,sc,sl⟩:=s;dsimp only at*;have g1:decide ((j:Int)<(i:Int))=true:=q_d;have g6:IntKind.i64.wrap ((j:Int)+1)=((j+1:Nat):Int):=q_w;repeat' first|refine s_t ?_|refine zf 19 ?_;refine q_v (zn (hr:=g1)) ?_|refine zf 20 ?_;refine q_v (zq (j:=j)) ?_;refine q_x (zo (hv:=U)) ?_|refine q_k 21 ?_;(refine q_s (zaz (hr:=FQ a9 (λ_ _ h=>h)) (hn:=by rw[A0,r,Al]) (hnil:=a7) (hys:=e) (hkm:=F)) ?_;rintro _ _ ⟨rfl,G,I,rfl⟩);refine zb ?_|refine zf 22 ?_;refine q_x (zD (hr:=g6)) ?_
  refine zC (j+1,G,I) hlt ?_ ?_ ?_
  ·show i-(j+1)<i-j;omega
  ·dsimp only;rw[<-Q];exact q_h
  ·dsimp only;rw[<-Q];exact q_h
 obtain rfl:j=i:=q_o;have g6:decide ((j:Int)<(j:Int))=false:=q_f;rw[M];repeat' first|refine s_0 ?_|refine zf 19 ?_;refine q_v (zn (hr:=g6)) ?_|refine q_k 23 ?_
 exact q_r
theorem ze6(t b:Nat)(s:Bs)(w:World)(m:t<256)(j:s.ok w)(h2:w.rangeAt b 0 [s.val])(hb:s.l.length<16777216):
  Sy.Fn Tryz.prog 172 [.int .u8 (t:Int),.slice (some ⟨b,0,none⟩) 1 1] w No (zbK 5 (tlv t s.l).length ((tlv t s.l).map v8)):=by
 have h:=zoI t (some ⟨b,0,none⟩) 1 1 [s] w m rfl q_e q_e (.inr ⟨b,0,rfl,h2⟩) (λx q=>by rw[AD.1 q];exact j) (by rw[Ct.cat1];exact hb);rwa[Ct.cat1] at h
theorem zqh(v:Int)(w:World)(h1: -zb1<=v)(h2:v<=zb1):Sy.Fn Tryz.prog 111 [.int .i64 v] w No (zbK 5 (tlv 2 (beZ v (zbl v))).length ((tlv 2 (beZ v (zbl v))).map v8)):=by
 have G:=zm0 h1 h2;unfold zb1 at h1 h2;refine zt Tryz.func111 Tryz.ntmps111 ?_;have J:=λm=>zqr v (zbl v) m G;have j:(beZ v (zbl v)).length=zbl v:=zjP v _;repeat' first|refine s_t ?_|refine zA [0,3,4] ?_;refine zb ?_|refine q_k 1 ?_;refine zaf ?_;refine zb ?_;refine q_x zH ?_
 refine zL (γ:=Nat×Int) (λg=>[(0,.int .i64 v),(3,.int .i64 (g.1:Int)),(4,.int .i64 g.2)]) (λ_=>[]) (λg=>g.1+zbl g.2=zbl v+1/\ -4611686018427387904<=g.2/\g.2<=4611686018427387904) (λg=>zbl g.2) (1,v) ⟨by dsimp only;omega,h1,h2⟩ ?_ ?_ ?_
 ·exact q_h
 ·exact q_h
 rintro⟨s,r⟩ ⟨B,K,L⟩;dsimp only at B K L ⊢;by_cases hr: -128<=r/\r<=127
 ·rw[zku hr] at B;obtain rfl:s=zbl v:=q_o;repeat' first|refine s_0 ?_|refine q_k 5 ?_;refine zaf ?_;refine zb ?_;refine q_x zH ?_|refine q_k 8 ?_;(refine q_s (zi (hc:=λm X I q=>J m)) ?_;rintro _ _ ⟨R,rfl,F,rfl,rfl⟩);(refine q_s zz ?_;rintro _ _ ⟨E,rfl,rfl⟩);(refine q_s (zi (hc:=λm X I q=>ze6 2 E ⟨some ⟨F,0,none⟩,zbl v,zbl v,beZ v (zbl v)⟩ m q_e (zj6 q j q_h) (zp (q.has q_h) Ex) (by show(beZ v (zbl v)).length<16777216;omega))) ?_;rintro _ _ ⟨R,rfl,M,N,rfl,rfl⟩);refine zb ?_
  exact q_r
 ·have H:=zoJ hr;have g1:IntKind.i64.wrap ((s:Int)+1)=((s+1:Nat):Int):=q_w;have g2:∀A,Op.shift .shr .i64 r A 8=pure (.int .i64 (r/256)):=λA=>zzN r 8 A q_e;have hc:r < -128\/(-128<=r/\127<r):=q_o;rcases hc with h|⟨h,O⟩
  all_goals repeat' first|refine s_t ?_|refine q_k 5 ?_;refine zaf ?_;refine zb ?_;(first|refine q_v zH ?_|skip|fail);(try refine zb ?_)|refine q_k 7 ?_;refine q_x (zD (hr:=g1)) ?_|refine q_k 6 ?_;refine q_x (zcl (hr:=g2 _)) ?_
  all_goals refine zC (s+1,r/256) ⟨by dsimp only;omega,by dsimp only;omega,by dsimp only;omega⟩ ?_ ?_ ?_
  all_goals first|show zbl (r/256)<zbl r;omega|exact Sub.go|exact q_h
theorem zoE(v:Int)(w:World)(h1:0<=v)(h2:v<=1099511627776):Sy.Fn Tryz.prog 113 [.int .i64 v] w No (zbK 5 (zbu v.toNat).length ((zbu v.toNat).map v8)):=by
 refine zt Tryz.func113 Tryz.ntmps113 ?_;have r:=λm=>zqr v 6 m q_e;have e:beZ v 6=beN v.toNat 6:=by rw[<-zjM,AT h1]
 rw[e] at r;have j:(beN v.toNat 6).length=6:=zbs _ _;unfold zbu;repeat' first|refine s_0 ?_|refine q_k 0 ?_|refine q_k 1 ?_;refine zaf ?_;refine zb ?_;refine q_x zH ?_|refine q_k 3 ?_;(refine q_s (zi (hc:=λm X E q=>r m)) ?_;rintro _ _ ⟨R,rfl,B,rfl,rfl⟩);(refine q_s zz ?_;rintro _ _ ⟨A,rfl,rfl⟩);(refine q_s (zi (hc:=λm X E q=>ze6 24 A ⟨some ⟨B,0,none⟩,6,6,beN v.toNat 6⟩ m q_e (zj6 q j q_h) (zp (q.has q_h) Ex) (by show(beN v.toNat 6).length<16777216;omega))) ?_;rintro _ _ ⟨R,rfl,F,G,rfl,rfl⟩);refine zb ?_
 exact q_r
theorem zvZ(v:Bool)(w:World):Sy.Fn Tryz.prog 114 [.bool v] w No (zbK 5 (zcQ v).length ((zcQ v).map v8)):=by
 refine zt Tryz.func114 Tryz.ntmps114 ?_;unfold zcQ;have E: [Value.int .u8 0]= [(0:UInt8)].map v8:=rfl;have F: [Value.int .u8 255]= [(255:UInt8)].map v8:=rfl;cases v
 ·rw[show(if false=true then (255:UInt8) else 0)=0 from rfl];repeat' first|refine s_0 ?_|refine zA [0,1] ?_;refine zb ?_|refine zf 3 ?_;(refine q_s zz ?_;rintro _ _ ⟨j,rfl,rfl⟩);(refine q_s zz ?_;rintro _ _ ⟨j,rfl,rfl⟩)
  rename_i q;rw[E];refine q_s (zi (hc:=λr X G m=>ze6 1 j ⟨some ⟨q,0,none⟩,1,1,[0]⟩ r q_e (zj6 m rfl q_h) (zp (m.has q_h) Ex) (by show 1<16777216;decide))) ?_;rintro _ _ ⟨R,rfl,A,B,rfl,rfl⟩;repeat' first|refine s_0 ?_|(refine zx ?_;first|refine zw ?_|fail)|fail
  exact q_r
 ·rw[show(if true=true then (255:UInt8) else 0)=255 from rfl];repeat' first|refine s_0 ?_|refine zA [0,1] ?_;refine zb ?_|refine zf 2 ?_;(refine q_s zz ?_;rintro _ _ ⟨j,rfl,rfl⟩);(refine q_s zz ?_;rintro _ _ ⟨j,rfl,rfl⟩)
  rename_i q;rw[F];refine q_s (zi (hc:=λr X G m=>ze6 1 j ⟨some ⟨q,0,none⟩,1,1,[255]⟩ r q_e (zj6 m rfl q_h) (zp (m.has q_h) Ex) (by show 1<16777216;decide))) ?_;rintro _ _ ⟨R,rfl,A,B,rfl,rfl⟩;repeat' first|refine s_0 ?_|(refine zx ?_;first|refine zw ?_|fail)|fail
  exact q_r
theorem zqJ(s:Bs)(w:World)(r:s.ok w)(hb:s.l.length<16777216):Sy.Fn Tryz.prog 115 [s.val] w No (zbK 5 (za9 s.l).length ((za9 s.l).map v8)):=by
 refine zt Tryz.func115 Tryz.ntmps115 ?_;unfold za9;repeat' first|refine s_0 ?_|refine q_k 0 ?_|refine q_k 1 ?_;(refine q_s zz ?_;rintro _ _ ⟨j,rfl,rfl⟩);(refine q_s (zi (hc:=λA X q m=>ze6 4 j s A q_e (r.keep q) (zp (m.has q_h) Ex) hb)) ?_;rintro _ _ ⟨R,rfl,B,E,rfl,rfl⟩);refine zb ?_
 exact q_r
theorem zqv(l:List UInt8)(w:World)(hb:l.length<16777216):Sy.Fn Tryz.prog 253 [zT l] w No (zbK 5 (zav l).length ((zav l).map v8)):=by
 refine zt Tryz.func253 Tryz.ntmps253 ?_;unfold zav zT;repeat' first|refine s_0 ?_|refine zA [0,1] ?_;refine zb ?_|refine q_s (zkp (l:=l)) ?_;rintro _ _ ⟨q,J,rfl,rfl⟩|(refine zx ?_;first|refine q_s zz ?_;rintro _ _ ⟨m,rfl,rfl⟩|refine q_s (zi (hc:=λA X r j=>ze6 27 m ⟨some ⟨q,0,none⟩,l.length,l.length+J.length,l⟩ A q_e (zwz r j rfl (EC _ _) (F8 F5)) (zp (j.has q_h) Ex) hb)) ?_;rintro _ _ ⟨R,rfl,B,E,rfl,rfl⟩|refine zw ?_|fail)|fail
 exact q_r
theorem zlT(a:Option Addr)(m d:Nat)(xs:List Bs)(w:World)(hm:xs.length=m)(j:m<1000)(q:m<=d)(A:SlA w a (xs.map Bs.val))(r:∀s∈xs,s.ok w)(hb:(Bs.cat xs).length<16777216):
  Sy.Fn Tryz.prog 84 [.slice a m d] w No (zbK 5 (tlv 0x30 (Bs.cat xs)).length ((tlv 0x30 (Bs.cat xs)).map v8)):=by
 refine zt Tryz.func84 Tryz.ntmps84 ?_;have F:=λE (B:Keep No w E)=>zoI 0x30 a m d xs E q_e hm j q ((Fi A).to (Mi:=No) B (λ_ h=> .inr h)).sla (λs G=>(r s G).keep B) hb;repeat' first|refine s_0 ?_|refine q_k 0 ?_|refine q_k 1 ?_;(refine q_s (zi (hc:=zr F)) ?_;rintro _ _ ⟨R,rfl,H,I,rfl,rfl⟩);refine zb ?_
 exact q_r
theorem zuo(t n:Nat)(s:Bs)(w:World)(hn:n<=30)(F:t+n<256)(r:s.ok w)(h0:0<s.l.length)(hb:s.l.length<16777216):Sy.Fn Tryz.prog 193 [.int .i64 (t:Int),.int .i64 (n:Int),s.val] w No (zbK 5 (tlv (t+n) s.l).length ((tlv (t+n) s.l).map v8)):=by
 refine zt Tryz.func193 Tryz.ntmps193 ?_;have g1:IntKind.i64.wrap ((t:Int)+(n:Int))=((t+n:Nat):Int):=q_w;have g2:IntKind.u8.wrap ((t+n:Nat):Int)=((t+n:Nat):Int):=IntWalk.u8_in _ q_o;have I:=r.len;have E:=λj (m:Keep No w j)=>r.keep m;have q:s.val= .slice s.a s.n s.c:=rfl;rw[q];repeat' first|refine s_0 ?_|refine q_k 0 ?_|refine q_k 1 ?_;refine zaf ?_;refine zb ?_;refine q_x zH ?_;refine zaH ?_;refine zb ?_|refine q_k 3 ?_;refine q_v (zD (hr:=g1)) ?_;refine q_x (zam (hr:=g2)) ?_;(refine q_s zz ?_;rintro _ _ ⟨A,rfl,rfl⟩);(refine q_s (zi (hc:=λj X m B=>ze6 (t+n) A s j F (E j m) (zp (B.has q_h) Ex) hb)) ?_;rintro _ _ ⟨R,rfl,G,H,rfl,rfl⟩);refine zb ?_
 exact q_r
theorem zxb(n:Nat)(s:Bs)(w:World)(hn:n<=30)(A:s.ok w)(h0:0<s.l.length)(hb:s.l.length<16777216):Sy.Fn Tryz.prog 110 [.int .i64 (n:Int),s.val] w No (zbK 5 (zax n s.l).length ((zax n s.l).map v8)):=by
 refine zt Tryz.func110 Tryz.ntmps110 ?_;have m:=λq (r:Keep No w q)=>zuo 0xa0 n s q hn q_o (A.keep r) h0 hb;have j:s.val= .slice s.a s.n s.c:=rfl;rw[j] at m ⊢;unfold zax;repeat' first|refine s_0 ?_|refine q_k 0 ?_|refine q_k 1 ?_;(refine q_s (zi (hc:=zr m)) ?_;rintro _ _ ⟨R,rfl,B,E,rfl,rfl⟩);refine zb ?_
 exact q_r
def zjG(E:Nat)(s:Bs):Res:=.row (.slice s.a s.n s.c) E 1 s.n (s.l.map v8)
def zcZ(E:Nat)(xs:List Bs):List Res:=xs.map (zjG E)
theorem zj1{m:Nat}{w:World}{M:Nat->Prop}{E:Nat}{L:List Res}{xs:List Bs}(hh:Holds m M L w)(q:∀s∈xs,s.l.length=s.n)(hL:∀r∈zcZ E xs,r∈L):∀s∈xs,s.ok w:=λs j=>
 zaC (E:=E) hh (q s j) (hL _ (Bv.2 ⟨s,j,rfl⟩))
theorem zjL(xs:List Bs):Bs.cat xs=(xs.map (·.l)).flatten:=by unfold Bs.cat;rw[EE]
theorem zoG{l:List UInt8}{k:Nat}(h:l.length<=k):(zav l).length<=k+5:=zcw h
theorem zjN(xs:List Bs)(s:Bs):xs.reverse.map Bs.val++[.slice s.a s.n s.c]=((s::xs).reverse).map Bs.val:=by rw[CL,Ar];rfl
theorem znC(xs:List Bs)(s:Bs):((s::xs).reverse).map (·.l)=xs.reverse.map (·.l)++[s.l]:=by rw[CL,Ar];rfl
attribute [local irreducible] SyC SyF
abbrev zbf(l:List UInt8):Value->List Res->Prop:=zbK 5 l.length (l.map v8)
theorem zkv(b m:Nat)(xs:List Bs)(w:World)(hm:xs.length=m)(j:m<1000)(h:w.rangeAt b 0 (xs.map Bs.val))(q:∀s∈xs,s.ok w)(hb:(Bs.cat xs).length<16777216)(D:List UInt8)(r:D=tlv 0x30 (Bs.cat xs)):
  Sy.Fn Tryz.prog 84 [.slice (some ⟨b,0,none⟩) m m] w No (zbf D):=by
 subst r;exact zlT (some ⟨b,0,none⟩) m m xs w hm j (A7 _) (.inr ⟨b,0,rfl,h⟩) q hb
theorem zcJ(n:Nat)(a:Option Addr)(m c:Nat)(l D:List UInt8)(w:World)(hn:n<=30)(q:(⟨a,m,c,l⟩:Bs).ok w)(h0:0<l.length)(hb:l.length<16777216)(j:D=zax n l):Sy.Fn Tryz.prog 110 [.int .i64 (n:Int),.slice a m c] w No (zbf D):=by
 subst j;exact zxb n ⟨a,m,c,l⟩ w hn q h0 hb
theorem zbG{t:Nat}{l:List UInt8} :0<(tlv t l).length:=by have:=(zY t l).1;omega
theorem zyu(C:List Value)(p:Prin)(w:World)(h:PrinIn w C p)(G:p.ok=true):Sy.Fn Tryz.prog 195 [.agg C.toArray] w No (λv R=>∃a c,v= .tuple #[.slice a p.der.length c,.int .i64 0]/\R= [.row (.slice a p.der.length c) 5 1 p.der.length (p.der.map v8)]):=by
 obtain⟨b8,I,V⟩:=FB G;have hv:=λm (K:Keep No w m)=>zgm C p m (h.keep K) q_o q_o (λx Y=>by have:=I x Y;omega);rw[G] at hv;obtain⟨⟨a1,c1,rfl,n1,m1,s1,z1⟩,-⟩:=h;refine zt Tryz.func195 Tryz.ntmps195 ?_;have W:=λx (Y:x∈p.parts) m=>zqv x m (by have:=I x Y;omega);have L:=λm=>zqv p.realm m q_o;have b0:=FZ G;have b7:=FC G;have H:p.der=tlv 0x30 (zax 0 (tlv 0x30 (p.parts.map zav).flatten)++zax 1 (zav p.realm)):=by simp[Prin.der,zdc]
 have b9:=zoG V;unfold zT at*;generalize p.der=D at*;obtain⟨parts,realm⟩:=p;dsimp only at*;generalize hn:parts.length=n at*;repeat' first|refine s_t ?_|refine zf 0 ?_;refine z9 λ_=>?_|refine zf 1 ?_;refine zm ?_;refine q_v (za (hc:=zr hv)) ?_;refine zI ?_|refine q_k 3 ?_|refine q_k 4 ?_;refine zm ?_;refine zb ?_
 rename_i b1;refine zbg (zaT 23 1) ?_;refine zL (γ:=Nat×List Bs×Option Addr×Nat) (λg=>[(1,.pointer (some ⟨b1,0,none⟩)),(11,.slice a1 n c1),(12,.int .i64 (n:Int)),(13,.int .i64 (g.1:Int)),(4,.slice g.2.2.1 g.2.1.length g.2.2.2)])
  (λg=> .row (.slice g.2.2.1 g.2.1.length g.2.2.2) 23 1 g.2.1.length (g.2.1.reverse.map Bs.val):: .blk b1 43 [.slice a1 n c1,.string (str realm)]::zcZ 5 g.2.1)
  (λg=>g.1<=n/\g.2.1.reverse.map (·.l)=(parts.take g.1).map zav/\∀s∈g.2.1,s.l.length=s.n) (λg=>n-g.1) (0,[],none,0) ⟨AA _,rfl,λs F=>by cases F⟩ ?_ ?_ ?_
 ·exact q_h
 ·exact q_h
 rintro⟨i,q,aP,cP⟩ ⟨hi,B,M⟩;dsimp only at hi B M ⊢;have Z:q.length=i:=by have:=congrArg List.length B;simp at this;omega
 by_cases hlt:i<n
 ·obtain⟨bl,ol,rfl,J⟩:=zca s1 (i:=i) (by rw[List.length_map];omega);have hc:=J i _ (zcX _ q_o);have g1:decide ((i:Int)<(n:Int))=true:=q_d;have g5:IntKind.i64.wrap ((i:Int)+1)=((i+1:Nat):Int):=q_w;have b2:parts.take (i+1)=parts.take i++[parts[i]]:=zaE q_o;have a9:parts[i]∈parts:=AX q_o;have Y:=W parts[i] a9;generalize parts[i]=x at*;repeat' first|refine s_t ?_|refine zf 5 ?_;refine q_v (zn (hr:=g1)) ?_|refine zf 6 ?_;refine q_v (zq (j:=i)) ?_;refine q_x (zo (hv:=hc)) ?_|refine q_k 7 ?_;(refine q_s (zi (hc:=λm X K A=>Y m)) ?_;rintro _ _ ⟨R,rfl,N,O,rfl,rfl⟩);(refine q_s zz ?_;rintro _ _ ⟨_,rfl,rfl⟩);(refine q_s (zaz (hys:=zjN q ⟨N,(zav x).length,O,zav x⟩) (hkm:=rfl)) ?_;rintro _ _ ⟨rfl,aN,cN,rfl⟩);refine zb ?_
  refine FJ (fr':=[(1,.pointer (some ⟨b1,0,none⟩)),(11,.slice (some ⟨bl,ol,none⟩) n c1),(12,.int .i64 (n:Int)),(13,.int .i64 (i:Int)),(4,.slice aN (q.length+1) cN)]) (L':=.row (.slice aN (q.length+1) cN) 23 1 (q.length+1) ((⟨N,(zav x).length,O,zav x⟩::q).reverse.map Bs.val):: .blk b1 43 [.slice (some ⟨bl,ol,none⟩) n c1,.string (str realm)]::zcZ 5 (⟨N,(zav x).length,O,zav x⟩::q)) ?_ q_h ?_;rotate_left
  ·show SubR (_::_::zjG 5 ⟨N,(zav x).length,O,zav x⟩::zcZ 5 q) _
   (repeat' (first|exact Ev|apply F3;with_reducible (focus ((repeat (first|exact Eu|apply Ew));done))|apply F9;(focus ((repeat (first|exact Eu|apply Ew));done))|apply F3;(focus ((repeat (first|exact Eu|apply Ew));done))|apply F6;(focus ((repeat (first|exact Eu|apply Ew));done))|rfl))
   all_goals exact F7 Ez
  repeat' first|refine zap ?_|refine zao ?_|refine zf 8 ?_;refine q_x (zD (hr:=g5)) ?_
  refine zC (i+1,⟨N,(zav x).length,O,zav x⟩::q,aN,cN) ⟨hlt,?_,?_⟩ ?_ ?_ ?_
  ·show((⟨N,(zav x).length,O,zav x⟩::q).reverse).map (·.l)=_;rw[znC,B,b2,Ar];rfl
  ·intro s F;rcases AV.1 F with rfl|F
   ·rfl
   ·exact M s F
  ·show n-(i+1)<n-i;omega
  ·exact q_h
  ·exact Ez
 obtain rfl:i=n:=q_o;rw[A6 q_o] at B;have T:Bs.cat q.reverse=(parts.map zav).flatten:=by rw[zjL,B]
 have g1:decide ((i:Int)<(i:Int))=false:=q_f;rw[<-T] at b0 H;have hQ:=(zY 0x30 (Bs.cat q.reverse)).2;have b3:=(zY 0xa0 (tlv 0x30 (Bs.cat q.reverse))).2;have b4:=(zY 0xa1 (zav realm)).2;repeat' first|refine s_0 ?_|refine zf 5 ?_;refine q_v (zn (hr:=g1)) ?_
 rw[Z]
 (refine zdp (id:=9) [0,3,4] [1,2,5,6,7,8,9,10] mixed ?_ ?_;kernel_rfl;refine yfv zV (k:=?_);refine yfv zN (k:=?_);refine yfv zM (k:=?_);refine yf0 ?_;try refine yc0 (k:=?_))
 refine ycs (zi (hc:=λm X K A=>zlT aP i cP q.reverse m (by rw[Bd];exact Z) q_o (FF A q_h) ((Fc (Mi:=No) A q_h (λ_ h=>h.elim)).sla) (λs F=>zj1 (E:=5) A M (λr hr=>AH _ (A1 _ (A1 _ hr))) s (CQ.1 F)) q_o)) (k:=?_);rintro _ _ ⟨R,rfl,aS,cS,rfl,rfl⟩;generalize a6:tlv 0x30 (Bs.cat q.reverse)=Q at*;have a7:0<Q.length:=by rw[<-a6];exact zbG
 have a8:0<(zav realm).length:=zbG;refine ycs (zi (hc:=λm X K A=>zcJ 0 aS Q.length cS Q _ m q_e (zaC A rfl q_h) a7 q_o rfl)) (k:=?_);rintro _ _ ⟨R,rfl,aT,cT,rfl,rfl⟩;refine ycs (zi (hc:=λm X K A=>L m)) (k:=?_);rintro _ _ ⟨R,rfl,aU,cU,rfl,rfl⟩;generalize zav realm=U at*;refine ycs (zi (hc:=λm X K A=>zcJ 1 aU U.length cU U _ m q_e (zaC A rfl q_h) a8 q_o rfl)) (k:=?_);rintro _ _ ⟨R,rfl,aV,cV,rfl,rfl⟩;refine ycs zz (k:=?_);rintro _ _ ⟨bL,rfl,rfl⟩;have b5:(zax 0 Q).length<=300:=by show(tlv 160 Q).length<=300;omega
 have b6:(zax 1 U).length<=300:=by show(tlv 161 U).length<=300;omega
 generalize zax 1 U=S,zax 0 Q=P at*;refine ycs (zi (hc:=λm X K A=>zkv bL 2 [⟨aT,P.length,cT,P⟩,⟨aV,S.length,cV,S⟩] m rfl q_e (zp (A.has q_h) Ex) (λs F=>by
  simp only[AV,Bi,or_false] at F;rcases F with rfl|rfl
  ·exact zaC A rfl q_h
  ·exact zaC A rfl q_h) (by rw[show Bs.cat [⟨aT,P.length,cT,P⟩,⟨aV,S.length,cV,S⟩]=P++S by simp[Bs.cat],A4];omega) D (by rw[H];simp[Bs.cat]))) (k:=?_)
 rintro _ _ ⟨R,rfl,aW,cW,rfl,rfl⟩;refine ycv za6 (k:=?_);refine ycv za6 (k:=?_);refine yc0 (k:=?_);repeat' first|refine s_0 ?_|fail
 exact zU rfl (zh rfl) (zh rfl) (F6 Eu rfl Ev) ⟨_,_,rfl,rfl⟩
end Go.Proofs.YtdnlngbjpdbffaaGreatDoor
namespace Go.Ct
open Sy
structure Pl where
 a1:Option Addr
 k1:Nat
 a2:Option Addr
 k2:Nat
 a3:Option Addr
 k3:Nat
 a4:Option Addr
 k4:Nat
def zbe(a:Option Addr)(k:Nat)(p:Prin):List Value:=[.slice a p.parts.length k,zT p.realm]
def zF(p:Pl)(c:Cert):List Value:=[.int .i64 c.serial,.slice p.a1 c.issuer.parts.length p.k1,zT c.issuer.realm,.slice p.a2 c.subject.parts.length p.k2,zT c.subject.realm,.int .i64 c.fr,.int .i64 c.til,.bool c.auth,.int .i64 c.group,.slice p.a3 c.pub.length p.k3,.slice p.a4 c.sig.length p.k4]
structure CertAt(w:World)(p:Pl)(c:Cert):Prop where
 iss:PrinIn w (zbe p.a1 p.k1 c.issuer) c.issuer
 sub:PrinIn w (zbe p.a2 p.k2 c.subject) c.subject
 pub:(⟨p.a3,c.pub.length,p.k3,c.pub⟩:Bs).ok w
 sig:(⟨p.a4,c.sig.length,p.k4,c.sig⟩:Bs).ok w
 rng:((Lit.int .i64 c.serial).wf=true/\(Lit.int .i64 c.fr).wf=true/\(Lit.int .i64 c.til).wf=true/\(Lit.int .i64 c.group).wf=true)
theorem CertAt.keep{w w':World}{p:Pl}{c:Cert}(h:CertAt w p c)(hk:Keep No w w'):CertAt w' p c:=⟨h.iss.keep hk,h.sub.keep hk,h.pub.keep hk,h.sig.keep hk,h.rng⟩
theorem BytIn.bs{w:World}{v:Value}{l:List UInt8}(h:BytIn w v l):∃a c,v= .slice a l.length c/\(⟨a,l.length,c,l⟩:Bs).ok w:=by
 obtain⟨a,c,j,m,A,q,r⟩:=h;exact⟨a,c,j,rfl,m,q,r⟩
theorem CertIn.at{w:World}{C:List Value}{c:Cert}(h:CertIn w C c):∃p,C=zF p c/\CertAt w p c:=by
 obtain⟨⟨I,S,K,L,rfl,q,r,G,J⟩,H⟩:=h;obtain⟨⟨a1,A,rfl,_⟩,_⟩:=id q;obtain⟨⟨a2,B,rfl,_⟩,_⟩:=id r;obtain⟨a3,E,rfl,j⟩:=G.bs;obtain⟨a4,F,rfl,m⟩:=J.bs;exact⟨⟨a1,A,a2,B,a3,E,a4,F⟩,rfl,q,r,j,m,H⟩
def zd3(t:Int):Bool:=decide (0<=t)&&decide (t<=1099511627776)
structure Cert.fine(c:Cert):Prop where
 i:c.issuer.parts.length<1000000/\c.issuer.realm.length<1000000000/\∀x∈c.issuer.parts,x.length<1000000000
 s:c.subject.parts.length<1000000/\c.subject.realm.length<1000000000/\∀x∈c.subject.parts,x.length<1000000000
theorem Cert.ok_prog(sv:Int->List UInt8->Bool)(c:Cert):c.ok sv=(decide (0<=c.serial)&&decide (c.serial<=4611686018427387904)&&c.issuer.ok&&c.subject.ok&&zd3 c.fr&&zd3 c.til&&decide (c.fr<=c.til)&&decide (c.sig.length<=192)&&sv c.group c.pub):=by
 rw[CN];simp only[Cert.ok,zd3,A8,decide_eq_true_eq];constructor
 ·rintro⟨⟨⟨⟨⟨⟨⟨⟨j,m⟩,q⟩,r⟩,w⟩,A⟩,B⟩,E⟩,F⟩;exact⟨⟨⟨⟨⟨⟨⟨⟨j,m⟩,q⟩,r⟩,w,by omega⟩,by omega,B⟩,A⟩,E⟩,F⟩
 ·rintro⟨⟨⟨⟨⟨⟨⟨⟨j,m⟩,q⟩,r⟩,w,_⟩,_,B⟩,A⟩,E⟩,F⟩;exact⟨⟨⟨⟨⟨⟨⟨⟨j,m⟩,q⟩,r⟩,w⟩,A⟩,B⟩,E⟩,F⟩
end Go.Ct
namespace Go.Proofs.YtdnlngbjpdbffaaGreatDoor
open Sy Ct Nt RowKit
attribute [local irreducible] Sy SyL SyX SyC SyF Sy.Fn callFunc
def svK(z:Int)(l:List UInt8):Bool:=decide ((gel z l).2=0)
theorem zcC:KeyLaw svK:=by
 have key:∀g p,svK g p=true->(1<=g/\g<=4)/\p.length<=96:=λg p h=>by
  have j:=zk3 (of_decide_eq_true h);refine⟨j.1,?_⟩;rw[j.2.1];have:=zgJ g;unfold zbm at this;rwa[if_pos j.1] at this
 exact⟨λg p h=>by have:=key g p h;omega,λg p h=>by have:=key g p h;omega,λg p h=>by have:=key g p h;omega⟩
theorem zrJ(t:Int)(w:World):q_G 140 [.int .i64 t,.int .i64 t,.int .i64 0] w (.bool (zd3 t)):=by
 refine zt Tryz.func140 Tryz.ntmps140 ?_;have r:=λj=>zs6 t j;have A:=λj=>zsX 0 j;have h0:=λj=>zjl 0 0 0 j;rw[show btw t 0 1099511627776=zd3 t from rfl] at r;rw[show btw 0 0 86400=true from rfl] at A;rw[show btw 0 0 0=true from rfl] at h0;have m:=λj b (h:j.rangeAt b 0 [.bool (zd3 t),.bool (zd3 t),.bool true])=>zxI b 3 [zd3 t,zd3 t,true] j rfl q_e h;have q:IntKind.i64.wrap (t-t)=0:=by rw[Int.sub_self];rfl
 generalize zd3 t=u at*;have e: [u,u,true].all id=u:=by cases u <;> rfl
 rw[e] at m;cases u;all_goals repeat' first|refine s_0 ?_|refine q_k 0 ?_|refine q_k 1 ?_;refine q_v (za (hc:=q_c r)) ?_;refine zb ?_;refine q_v (za (hc:=q_c r)) ?_;refine zb ?_;refine q_v (za (hc:=q_c A)) ?_;(refine q_s zz ?_;rintro _ _ ⟨B,rfl,rfl⟩);refine q_v (za (hc:=λj X F E=>m j B (zp (E.has q_h) Ex))) ?_;refine zb ?_;(first|refine q_v (zK (hr:=q)) ?_|skip|fail);(try refine zb ?_);(first|refine zI ?_|skip|fail);(try refine zb ?_);(first|refine q_v (za (hc:=q_c h0)) ?_|skip|fail);(try refine zb ?_)
 all_goals exact q_r
theorem zkJ(t:Int)(w:World):q_G 58 [.int .i64 t] w (.bool (zd3 t)):=by
 refine zt Tryz.func58 Tryz.ntmps58 ?_;repeat' first|refine s_0 ?_|refine q_k 0 ?_|refine q_k 1 ?_;refine q_v (za (hc:=λ_ _ _ _=>(zrJ t _))) ?_;refine zb ?_
 exact q_r
theorem zg6(p:Pl)(c:Cert)(w:World)(R:GT w)(h:CertAt w p c)(A:c.fine):q_G 34 [.agg (zF p c).toArray] w (.bool (c.ok svK)):=by
 refine zt Tryz.func34 Tryz.ntmps34 ?_;have T:=λj (F:Keep No w j)=>zgm _ _ j (h.iss.keep F) A.i.1 A.i.2.1 A.i.2.2;have U:=λj (F:Keep No w j)=>zgm _ _ j (h.sub.keep F) A.s.1 A.s.2.1 A.s.2.2;have V:=λj=>zkJ c.fr j;have W:=λj=>zkJ c.til j;have S:=λj (F:Keep No w j)=>zkM c.group p.a3 c.pub.length p.k3 c.pub j (R.to F) rfl h.pub.cap (h.pub.keep F).sla;rw[show decide ((gel c.group c.pub).2=0)=svK c.group c.pub from rfl] at S;rw[Cert.ok_prog];have g4:decide ((c.sig.length:Int)<=192)=decide (c.sig.length<=192):=decide_eq_decide.2 q_o;unfold zF zbe at*;clear h A R;obtain⟨serial,⟨H,I⟩,⟨J,K⟩,fr,til,auth,group,pub,sig⟩:=c;dsimp only at*;generalize P:decide (fr<=til)=M,svK group pub=X,decide (sig.length<=192)=Q,zd3 til=L,zd3 fr=G,Prin.ok ⟨J,K⟩=E,Prin.ok ⟨H,I⟩=r,O:decide (serial<=4611686018427387904)=q,N:decide (0<=serial)=m at*;have hc:m=false\/(m=true/\q=false)\/(m=true/\q=true/\r=false)\/(m=true/\q=true/\r=true/\E=false)\/(m=true/\q=true/\r=true/\E=true/\G=false)\/(m=true/\q=true/\r=true/\E=true/\G=true/\L=false)\/(m=true/\q=true/\r=true/\E=true/\G=true/\L=true/\M=false)\/(m=true/\q=true/\r=true/\E=true/\G=true/\L=true/\M=true/\Q=false)\/(m=true/\q=true/\r=true/\E=true/\G=true/\L=true/\M=true/\Q=true):=by
  cases m <;> cases q <;> cases r <;> cases E <;> cases G <;> cases L <;> cases M <;> cases Q <;> simp
 rcases hc with rfl|⟨rfl,rfl⟩|⟨rfl,rfl,rfl⟩|⟨rfl,rfl,rfl,rfl⟩|⟨rfl,rfl,rfl,rfl,rfl⟩|⟨rfl,rfl,rfl,rfl,rfl,rfl⟩|⟨rfl,rfl,rfl,rfl,rfl,rfl,rfl⟩|⟨rfl,rfl,rfl,rfl,rfl,rfl,rfl,rfl⟩|⟨rfl,rfl,rfl,rfl,rfl,rfl,rfl,rfl⟩;all_goals repeat' first|refine s_0 ?_|refine zf 0 ?_;refine z9 λ_=>?_|refine q_k 1 ?_;refine zm ?_;refine q_x (zaA (hr:=N)) ?_;(first|refine zm ?_|skip|fail);(first|refine q_v (zaA (hr:=O)) ?_|refine zaG rfl rfl rfl ?_|skip);(try refine zb ?_);(first|refine q_v (ze (B:=[.slice p.a1 H.length p.k1,zT I]) (hv:=FK rfl)) ?_|skip|fail);(first|refine q_v (za (hc:=zr T)) ?_|refine zaG rfl rfl rfl ?_|skip);(try refine zb ?_);(first|refine q_v (ze (B:=[.slice p.a2 J.length p.k2,zT K]) (hv:=FK rfl)) ?_|skip|fail);(first|refine q_v (za (hc:=zr U)) ?_|refine zaG rfl rfl rfl ?_|skip);(try refine zb ?_);(first|refine zm ?_|skip|fail);(first|refine q_v (za (hc:=q_c V)) ?_|refine zaG rfl rfl rfl ?_|skip);(try refine zb ?_);(first|refine zm ?_|skip|fail);(first|refine q_v (za (hc:=q_c W)) ?_|refine zaG rfl rfl rfl ?_|skip);(try refine zb ?_);(first|refine zm ?_|skip|fail);(try refine zb ?_);(first|refine zm ?_|skip|fail);(first|refine q_v (zaA (hr:=P)) ?_|refine zaG rfl rfl rfl ?_|skip);(try refine zb ?_);(first|refine zm ?_|skip|fail);(try refine zb ?_);(first|refine q_v (zaA (hr:=g4)) ?_|skip|fail);(try refine zb ?_);(first|refine zm ?_|skip|fail);(try refine zb ?_);(first|refine zm ?_|skip|fail);(first|refine q_v (za (hc:=zr S)) ?_|refine zaG rfl rfl rfl ?_|skip);(try refine zb ?_)
 all_goals exact q_r
end Go.Proofs.YtdnlngbjpdbffaaGreatDoor
