/- Lemmas. -/
import Derived.Test.YtdnlngbjpdbffaaGreatDoorZJ33
set_option maxHeartbeats 4000000
set_option maxRecDepth 10000
set_option linter.all false
namespace Go.Proofs.YtdnlngbjpdbffaaGreatDoor
open Sy Ct Nt RowKit
attribute [local irreducible] Sy SyL SyX SyC SyF Sy.Fn callFunc
theorem zpw(p k:Nat):(p:Int).tmod (k:Int)=((p%k:Nat):Int):=rfl
theorem u8M(x:Nat):IntKind.u8.wrap ((x%256:Nat):Int)=Wd.n8 (UInt8.ofNat x):=by rw[u8N,Wd.n8_of_nat,Wd.n8_of_nat,Er]
theorem zqm(v:Nat):∀(n k:Nat),k<n->(beN v n)[k]?=some (UInt8.ofNat (v/256^(n-1-k)))
 |n+1,0,_=>by rw[beN,C8];simp
 |n+1,k+1,h=>by
  rw[beN,BA,zqm v n k q_o,show n+1-1-(k+1)=n-1-k by omega]
theorem zvi(v n k:Nat)(h:k<n):(beN v n).take (k+1)=(beN v n).take k++[UInt8.ofNat (v/256^(n-1-k))]:=by
 rw[CE,zqm v n k h];rfl
theorem zxK(t:Nat)(s:Bs)(w:World)(N:t<256)(I:s.ok w)(hb:s.l.length<16777216):Sy.Fn Tryz.prog 85 [.int .i64 (t:Int),s.val] w No (zbf (tlv t s.l)):=by
 refine zt Tryz.func85 Tryz.ntmps85 ?_;obtain⟨a,n,c,l⟩:=s;have F:=I.len;have B:=I.sla;have A:=I.nil;dsimp only at F B A hb ⊢;rw[show(⟨a,n,c,l⟩:Bs).val= .slice a n c from rfl];obtain⟨H,G⟩:∃H,H=UInt8.ofNat t::zb0 n:=⟨_,rfl⟩;have E:tlv t l=H++l:=by rw[G];unfold tlv;rw[F];rfl
 have L:H.length<=5:=by rw[G,AQ];have:=zkS n;omega
 have m:H.map v8= .int .u8 (t:Int)::(zb0 n).map v8:=by rw[G,Au,<-v8_lit t N]
 rw[zqD] at m;have g0:IntKind.u8.wrap (t:Int)=(t:Int):=IntWalk.u8_in _ q_o;have g1:=u8N n;have g2:=u8M n;have g3:=u8N (n/256);have g4:=u8M (n/256);have g5:=u8N (n/65536);have J:IntKind.i64.wrap ((n:Int).tdiv 256)=((n/256:Nat):Int):=zdw (k:=256) q_o;have O:IntKind.i64.wrap ((n:Int).tdiv 65536)=((n/65536:Nat):Int):=zdw (k:=65536) q_o;have K:(n:Int).tmod 256=((n%256:Nat):Int):=zpw n 256;have P:((n/256:Nat):Int).tmod 256=((n/256%256:Nat):Int):=zpw (n/256) 256;rw[E];repeat' first|refine s_0 ?_|refine zA [0,1] ?_;refine zb ?_|refine q_k 2 ?_;refine q_v (zam (hr:=g0)) ?_;(refine q_s zz ?_;rintro _ _ ⟨_,rfl,rfl⟩);refine zb ?_
 rename_i R;refine zcu (γ:=Option Addr×Nat) (λg=>[(1,.slice a n c),(6,.slice g.1 H.length g.2)]) (λg=>[.row (.slice g.1 H.length g.2) 5 1 H.length (H.map v8)]) (λ_=>True) ?_ ?_
 ·have M:n<128\/(128<=n/\n<256)\/(256<=n/\n<65536)\/65536<=n:=q_o;rcases M with h|h|h|h
  ·rw[if_pos h] at m;have e: [Value.int .u8 (t:Int)]++[.int .u8 (Wd.n8 (UInt8.ofNat n))]=H.map v8:=m.symm;have j:1+1=H.length:=by rw[<-A0 v8,<-e];rfl
   have k1:decide ((n:Int)<128)=true:=q_d;repeat' first|refine s_t ?_|refine q_k 4 ?_;refine q_x (zn (hr:=k1)) ?_|refine q_k 5 ?_;refine q_v (zam (hr:=g1)) ?_;(refine q_s zz ?_;rintro _ _ ⟨_,rfl,rfl⟩);(refine q_s (zb9 (hys:=e) (hkm:=j)) ?_;rintro _ _ ⟨rfl,q,r,rfl⟩);refine zb ?_
   exact zaj (q,r) trivial q_h q_h
  ·rw[if_neg q_o,if_pos h.2] at m;have e: [Value.int .u8 (t:Int)]++[.int .u8 129,.int .u8 (Wd.n8 (UInt8.ofNat n))]=H.map v8:=m.symm;have j:1+2=H.length:=by rw[<-A0 v8,<-e];rfl
   have k1:decide ((n:Int)<128)=false:=q_f;have k2:decide ((n:Int)<256)=true:=q_d;repeat' first|refine s_t ?_|refine q_k 4 ?_;refine q_x (zn (hr:=k1)) ?_|refine q_k 6 ?_;refine q_x (zn (hr:=k2)) ?_|refine q_k 7 ?_;refine q_v (zam (hr:=g1)) ?_;(refine q_s zz ?_;rintro _ _ ⟨_,rfl,rfl⟩);(refine q_s (zb9 (hys:=e) (hkm:=j)) ?_;rintro _ _ ⟨rfl,q,r,rfl⟩);refine zb ?_
   exact zaj (q,r) trivial q_h q_h
  ·rw[if_neg q_o,if_neg q_o,if_pos h.2] at m;have e: [Value.int .u8 (t:Int)]++[.int .u8 130,.int .u8 (Wd.n8 (UInt8.ofNat (n/256))),.int .u8 (Wd.n8 (UInt8.ofNat n))]=H.map v8:=m.symm;have j:1+3=H.length:=by rw[<-A0 v8,<-e];rfl
   have k1:decide ((n:Int)<128)=false:=q_f;have k2:decide ((n:Int)<256)=false:=q_f;have k3:decide ((n:Int)<65536)=true:=q_d;repeat' first|refine s_t ?_|refine q_k 4 ?_;refine q_x (zn (hr:=k1)) ?_|refine q_k 6 ?_;refine q_x (zn (hr:=k2)) ?_|refine q_k 8 ?_;refine q_x (zn (hr:=k3)) ?_|refine q_k 9 ?_;refine q_v (zbz (hr:=J)) ?_;refine q_x (zam (hr:=g3)) ?_;refine q_v (zbI (hr:=K)) ?_;refine q_v (zam (hr:=g2)) ?_;(refine q_s zz ?_;rintro _ _ ⟨_,rfl,rfl⟩);(refine q_s (zb9 (hys:=e) (hkm:=j)) ?_;rintro _ _ ⟨rfl,q,r,rfl⟩);refine zb ?_
   exact zaj (q,r) trivial q_h q_h
  ·rw[if_neg q_o,if_neg q_o,if_neg q_o] at m;have e: [Value.int .u8 (t:Int)]++[.int .u8 131,.int .u8 (Wd.n8 (UInt8.ofNat (n/65536))),.int .u8 (Wd.n8 (UInt8.ofNat (n/256))),.int .u8 (Wd.n8 (UInt8.ofNat n))]=H.map v8:=m.symm;have j:1+4=H.length:=by rw[<-A0 v8,<-e];rfl
   have k1:decide ((n:Int)<128)=false:=q_f;have k2:decide ((n:Int)<256)=false:=q_f;have k3:decide ((n:Int)<65536)=false:=q_f;repeat' first|refine s_t ?_|refine q_k 4 ?_;refine q_x (zn (hr:=k1)) ?_|refine q_k 6 ?_;refine q_x (zn (hr:=k2)) ?_|refine q_k 8 ?_;refine q_x (zn (hr:=k3)) ?_|refine q_k 3 ?_;refine q_v (zbz (hr:=O)) ?_;refine q_x (zam (hr:=g5)) ?_;refine q_v (zbz (hr:=J)) ?_;refine q_v (zbI (hr:=P)) ?_;refine q_x (zam (hr:=g4)) ?_;refine q_v (zbI (hr:=K)) ?_;refine q_v (zam (hr:=g2)) ?_;(refine q_s zz ?_;rintro _ _ ⟨_,rfl,rfl⟩);(refine q_s (zb9 (hys:=e) (hkm:=j)) ?_;rintro _ _ ⟨rfl,q,r,rfl⟩);refine zb ?_
   exact zaj (q,r) trivial q_h q_h
 rintro⟨Q,S⟩ -;dsimp only;have e:H.map v8++l.map v8=(H++l).map v8:=Ar.symm;have j:H.length+n=(H++l).length:=by rw[List.length_append,F]
 repeat' first|refine s_0 ?_|refine q_k 10 ?_;(refine q_s (zaz (hr:=FQ B (λ_ _ h=>h)) (hn:=by rw[A0,F,Al]) (hnil:=A) (hys:=e) (hkm:=j)) ?_;rintro _ _ ⟨rfl,q,r,rfl⟩);refine zb ?_
 exact q_r
theorem zdN(t:Nat)(a:Option Addr)(n c:Nat)(l D:List UInt8)(w:World)(q:t<256)(m:(⟨a,n,c,l⟩:Bs).ok w)(hb:l.length<16777216)(j:D=tlv t l):Sy.Fn Tryz.prog 85 [.int .i64 (t:Int),.slice a n c] w No (zbf D):=by
 subst j;exact zxK t ⟨a,n,c,l⟩ w q m hb
theorem zqX(a:Option Addr)(n c:Nat)(l:List UInt8)(w:World)(q:(⟨a,n,c,l⟩:Bs).ok w)(hb:l.length<16777216):Sy.Fn Tryz.prog 78 [.slice a n c] w No (zbf (za9 l)):=by
 refine zt Tryz.func78 Tryz.ntmps78 ?_;have h:=λj (m:Keep No w j)=>zdN 4 a n c l (za9 l) j q_e (q.keep m) hb rfl;generalize za9 l=D at*;repeat' first|refine s_0 ?_|refine q_k 0 ?_|refine q_k 1 ?_;(refine q_s (zi (hc:=zr h)) ?_;rintro _ _ ⟨R,rfl,r,A,rfl,rfl⟩);refine zb ?_
 exact q_r
theorem zdg(n:Nat)(a:Option Addr)(m c:Nat)(l D:List UInt8)(w:World)(hn:n<=30)(j:(⟨a,m,c,l⟩:Bs).ok w)(h0:0<l.length)(hb:l.length<16777216)(r:D=zax n l):Sy.Fn Tryz.prog 77 [.int .i64 (n:Int),.slice a m c] w No (zbf D):=by
 refine zt Tryz.func77 Tryz.ntmps77 ?_;have h:=λq (A:Keep No w q)=>zdN (0xa0+n) a m c l D q q_o (j.keep A) hb r;have B:=j.len;dsimp only at B;have g1:decide ((m:Int)=0)=false:=q_f;have g2:IntKind.i64.wrap (160+(n:Int))=((160+n:Nat):Int):=q_w;repeat' first|refine s_0 ?_|refine q_k 0 ?_|refine q_k 1 ?_;refine q_v (zS (hr:=g1)) ?_|refine q_k 3 ?_;refine q_x (zD (hr:=g2)) ?_;(refine q_s (zi (hc:=zr h)) ?_;rintro _ _ ⟨R,rfl,E,F,rfl,rfl⟩);refine zb ?_
 exact q_r
theorem zqP(l:List UInt8)(w:World)(hb:l.length<16777216):Sy.Fn Tryz.prog 170 [zT l] w No (zbf (zav l)):=by
 refine zt Tryz.func170 Tryz.ntmps170 ?_;unfold zT;have h:=λj b k (A:(⟨some ⟨b,0,none⟩,l.length,k,l⟩:Bs).ok j)=>zdN 27 (some ⟨b,0,none⟩) l.length k l (zav l) j q_e A hb rfl;generalize zav l=D at*;repeat' first|refine s_0 ?_|refine zA [0,1] ?_;refine zb ?_|refine q_s (zkp (l:=l)) ?_;rintro _ _ ⟨m,J,rfl,rfl⟩|(refine zx ?_;first|refine q_s (zi (hc:=λj X r q=>h j m _ (zwz r q rfl (EC _ _) F5))) ?_;rintro _ _ ⟨R,rfl,B,E,rfl,rfl⟩|refine zw ?_|fail)|fail
 exact q_r
theorem zx4(v n:Nat)(w:World)(hv:v<9223372036854775808)(hn:n<=8):Sy.Fn Tryz.prog 171 [.int .i64 (v:Int),.int .i64 (n:Int)] w No (zbf (beN v n)):=by
 refine zt Tryz.func171 Tryz.ntmps171 ?_;have g1:IntKind.i64.wrap ((n:Int)-1)=(n:Int)-1-((0:Nat):Int):=q_w;have j:=zbs v n;repeat' first|refine s_t ?_|refine zA [0,1] ?_;refine zb ?_|refine q_k 2 ?_;refine q_x (zK (hr:=g1)) ?_
 refine zbg (zaT 5 1) ?_;refine zL (γ:=Nat×Option Addr×Nat) (λg=>[(0,.int .i64 (v:Int)),(6,.int .i64 ((n:Int)-1-(g.1:Int))),(5,.slice g.2.1 g.1 g.2.2)]) (λg=>[.row (.slice g.2.1 g.1 g.2.2) 5 1 g.1 (((beN v n).take g.1).map v8)]) (λg=>g.1<=n) (λg=>n-g.1) (0,none,0) (AA _) ?_ ?_ ?_
 ·exact q_h
 ·exact q_h
 rintro⟨k,a,c⟩ B;dsimp only at B ⊢;by_cases hlt:k<n
 ·have A:((n:Int)-1-(k:Int))=((n-1-k:Nat):Int):=q_o;rw[A];have g2:decide (((n-1-k:Nat):Int)>=0)=true:=q_d;have g3:IntKind.i64.wrap (8*((n-1-k:Nat):Int))=((8*(n-1-k):Nat):Int):=q_w;have g4:Op.shift .shr .i64 (v:Int) .i64 ((8*(n-1-k):Nat):Int)=pure (.int .i64 ((v/256^(n-1-k):Nat):Int)):=by
   rw[zv7 v _ _ q_o,BG]
  have g5:((v/256^(n-1-k):Nat):Int).tmod 256=((v/256^(n-1-k)%256:Nat):Int):=zpw _ 256;have g6:=u8M (v/256^(n-1-k));have g7:IntKind.i64.wrap (((n-1-k:Nat):Int)-1)=(n:Int)-1-((k+1:Nat):Int):=q_w;have e:((beN v n).take k).map v8++[.int .u8 (Wd.n8 (UInt8.ofNat (v/256^(n-1-k))))]=((beN v n).take (k+1)).map v8:=by rw[zvi v n k hlt,Ar];rfl
  generalize v/256^(n-1-k)=q at*;repeat' first|refine s_t ?_|refine q_k 3 ?_;refine q_v (zO (hr:=g2)) ?_|refine q_k 5 ?_;refine q_v (zaM (hr:=g3)) ?_;refine q_v (zcl (hr:=g4)) ?_;refine q_v (zbI (hr:=g5)) ?_;refine q_v (zam (hr:=g6)) ?_;(refine q_s zz ?_;rintro _ _ ⟨_,rfl,rfl⟩);(refine q_s (zaz (hys:=e) (hkm:=rfl)) ?_;rintro _ _ ⟨rfl,m,r,rfl⟩);refine zb ?_|refine q_k 4 ?_;refine q_x (zK (hr:=g7)) ?_
  refine zC (k+1,m,r) hlt ?_ ?_ ?_
  ·show n-(k+1)<n-k;omega
  ·exact q_h
  ·exact q_h
 obtain rfl:k=n:=q_o;rw[A6 q_o];have g2:decide (((k:Int)-1-(k:Int))>=0)=false:=q_f;repeat' first|refine s_0 ?_|refine q_k 3 ?_;refine q_v (zO (hr:=g2)) ?_|refine q_k 6 ?_
 exact zar rfl (zh rfl) (R:=[.row (.slice a k c) 5 1 k ((beN v k).map v8)]) q_h ⟨a,c,by rw[j],by rw[j]⟩
theorem zn9(v:Int)(w:World)(h1:0<=v)(h2:v<=1099511627776):Sy.Fn Tryz.prog 81 [.int .i64 v] w No (zbf (zbu v.toNat)):=by
 refine zt Tryz.func81 Tryz.ntmps81 ?_;have r:=λj=>zx4 v.toNat 6 j q_o q_e;rw[AT h1] at r;have q:(beN v.toNat 6).length=6:=zbs _ _;unfold zbu;repeat' first|refine s_0 ?_|refine q_k 0 ?_|refine q_k 1 ?_;(refine q_s (zi (hc:=λj X E m=>r j)) ?_;rintro _ _ ⟨R,rfl,A,B,rfl,rfl⟩);(refine q_s (zi (hc:=λj X E m=>zdN 24 A _ B (beN v.toNat 6) _ j q_e (zaC m rfl q_h) q_o rfl)) ?_;rintro _ _ ⟨R,rfl,F,G,rfl,rfl⟩);refine zb ?_
 exact q_r
theorem zsr(v:Nat)(w:World)(hv:v<9223372036854775808):Sy.Fn Tryz.prog 83 [.int .i64 (v:Int)] w No (zbf (zbk v)):=by
 refine zt Tryz.func83 Tryz.ntmps83 ?_;have g1:(v:Int).tmod 256=((v%256:Nat):Int):=zpw v 256;have g2:=u8M v;have g3:IntKind.i64.wrap ((v:Int).tdiv 256)=((v/256^(0+1):Nat):Int):=by rw[Aa,Ec];exact zdw (k:=256) q_o
 have Y: [Value.int .u8 (Wd.n8 (UInt8.ofNat v))]=(beN v (0+1)).map v8:=by rw[beN,Ao,CH];rfl
 repeat' first|refine s_t ?_|refine q_k 0 ?_|refine q_k 1 ?_;refine q_v (zbI (hr:=g1)) ?_;refine q_v (zam (hr:=g2)) ?_;(refine q_s zz ?_;rintro _ _ ⟨_,rfl,rfl⟩);refine zb ?_|refine q_k 2 ?_;refine q_x (zbz (hr:=g3)) ?_
 rename_i T;rw[Y];refine zbg (zee (b:=T) (E:=5) (s:=1) (n:=1) (xs:=(beN v (0+1)).map v8) (by exact Eu) (by rw[A0,zbs]) (by unfold maxLen;decide)) ?_;refine zL (γ:=Nat×Option Addr×Nat) (λg=>[(0,.int .i64 ((v/256^(g.1+1):Nat):Int)),(3,.slice g.2.1 (g.1+1) g.2.2)]) (λg=>[.row (.slice g.2.1 (g.1+1) g.2.2) 5 1 (g.1+1) ((beN v (g.1+1)).map v8)]) (λg=>g.1<=8/\(g.1=0\/256^g.1<=v)) (λg=>v/256^(g.1+1)) (0,some ⟨T,0,none⟩,1) ⟨AA _,.inl rfl⟩ ?_ ?_ ?_
 ·exact q_h
 ·exact q_h
 rintro⟨j,a,c⟩ ⟨N,hj⟩;dsimp only at N hj ⊢;by_cases hr:v/256^(j+1)=0
 ·have r:v<256^(j+1):=by
   rcases AG v (256^(j+1)) with h|h
   ·exact h
   ·have:=DK h (AU q_e);omega
  have Q:=zki j v r hj;have k1:decide (((v/256^(j+1):Nat):Int)>0)=false:=q_f;repeat' first|refine s_0 ?_|refine q_k 3 ?_;refine q_v (zH (hr:=k1)) ?_
  refine zmh (a:=a) (cp:=c) (E:=5) (s:=1) (n:=j+1) (xs:=(beN v (j+1)).map v8) (by exact Eu) q_o λb J Z hJ hc hm hx=>?_;subst Z;have q:((beN v (j+1)).map v8++J)[0]?=some (.int .u8 (Wd.n8 (UInt8.ofNat (v/256^j)))):=rfl;have P:Wd.n8 (UInt8.ofNat (v/256^j))=((v/256^j:Nat):Int):=by
   rw[Wd.n8_of_nat];have:v/256^j<256:=by rw[AZ (AU q_e),AM,<-AN];exact r
   rw[A9 this]
  rw[P] at q;have G:Seg ((beN v (j+1)).map v8++J) 0 ((beN v (j+1)).map v8):=λi u U=>by rw[Aa,BH (AR.1 U).1];exact U
  unfold zbk;rw[Q];by_cases hb:128<=v/256^j
  ·rw[if_pos hb];have k2:decide (((v/256^j:Nat):Int)>=128)=true:=q_d;have e: [Value.int .u8 0]++(beN v (j+1)).map v8=(beN v (j+2)).map v8:=by
    show _=(beN v (j+1+1)).map v8;rw[beN.eq_2 v (j+1),An r];rfl
   generalize beN v (j+1)=l at*;have K:=zbs v (j+2);generalize beN v (j+2)=B at*;repeat' first|refine s_0 ?_|refine q_k 6 ?_;refine q_v (zcV (j:=0) (hj:=Nat.succ_pos _)) ?_;refine q_v (zM (hv:=q)) ?_;refine q_v (zO (hr:=k2)) ?_|refine zf 7 ?_;(refine q_s zz ?_;rintro _ _ ⟨_,rfl,rfl⟩);refine zb ?_;(refine q_s (zb9 (hr:=Rd.of (Ff (by exact F5) G)) (m:=j+1) (hn:=by rw[Al];rwa[Al] at hx) (hys:=e) (hkm:=(by omega:1+(j+1)=j+2))) ?_;rintro _ _ ⟨rfl,H,I,rfl⟩);refine zb ?_|refine q_k 8 ?_;(refine q_s (zi (hc:=λS X hk F=>zdN 2 H _ I B _ S q_e (zaC F K q_h) q_o rfl)) ?_;rintro _ _ ⟨R,rfl,V,W,rfl,rfl⟩);refine zb ?_
   exact q_r
  ·rw[if_neg hb];have k2:decide (((v/256^j:Nat):Int)>=128)=false:=q_f;have K:=zbs v (j+1);generalize beN v (j+1)=l at*;repeat' first|refine s_0 ?_|refine q_k 6 ?_;refine q_v (zcV (j:=0) (hj:=Nat.succ_pos _)) ?_;refine q_v (zM (hv:=q)) ?_;refine q_v (zO (hr:=k2)) ?_|refine q_k 8 ?_;(refine q_s (zi (hc:=λS X hk F=>zdN 2 (some ⟨b,0,none⟩) (j+1) c l _ S q_e ⟨K,hc,.inr ⟨b,0,rfl,zp (F.has q_h) G⟩,λh=>by cases h⟩ q_o rfl)) ?_;rintro _ _ ⟨R,rfl,V,W,rfl,rfl⟩);refine zb ?_
   exact q_r
 ·refine zfJ (p:=a=none->c=0) (λw F h=>(Fj F F5 h).1) λhnil=>?_;have L:256^(j+1)<=v:=by
   rcases AG v (256^(j+1)) with h|h
   ·exact absurd (An h) hr
   ·exact h
  have M:j+1<=8:=by
   rcases AG j 8 with h|h
   ·omega
   ·have:=AB (show 0<256 by decide) (show 8<=j+1 by omega);have h8:256^8=18446744073709551616:=by decide
    omega
  have A:0<v/256^(j+1):=Nat.pos_of_ne_zero hr;have k1:decide (((v/256^(j+1):Nat):Int)>0)=true:=decide_eq_true (Int.natCast_pos.2 A);have a6:v/256^(j+1)<=v:=Bz _ _;have r:v/256^(j+2)<v/256^(j+1):=by
   rw[AN 256 (j+1),<-Aq];exact EQ A q_e
  have hq:v/256^(j+1)/256=v/256^(j+2):=by rw[Aq,<-AN]
  have e: [Value.int .u8 (Wd.n8 (UInt8.ofNat (v/256^(j+1))))]++(beN v (j+1)).map v8=(beN v (j+1+1)).map v8:=rfl;have g4:((v/256^(j+1):Nat):Int).tmod 256=((v/256^(j+1)%256:Nat):Int):=zpw _ 256;have g5:=u8M (v/256^(j+1));have g6:IntKind.i64.wrap (((v/256^(j+1):Nat):Int).tdiv 256)=((v/256^(j+2):Nat):Int):=by rw[<-hq];exact zdw (k:=256) q_o
  have O:=zbs v (j+1);repeat' first|refine s_t ?_|refine q_k 3 ?_;refine q_v (zH (hr:=k1)) ?_|refine q_k 5 ?_;refine q_v (zbI (hr:=g4)) ?_;refine q_v (zam (hr:=g5)) ?_;(refine q_s zz ?_;rintro _ _ ⟨_,rfl,rfl⟩);refine zb ?_;(refine q_s (zb9 (m:=j+1) (hn:=by rw[A0,O,Al]) (hnil:=hnil) (hys:=e) (hkm:=(by omega:1+(j+1)=j+1+1))) ?_;rintro _ _ ⟨rfl,H,I,rfl⟩);refine zb ?_|refine q_k 4 ?_;refine q_x (zbz (hr:=g6)) ?_
  refine zC (j+1,H,I) ⟨M,.inr L⟩ r ?_ ?_
  ·exact q_h
  ·exact q_h
theorem zml(a:Option Addr)(m d:Nat)(xs:List Bs)(D:List UInt8)(w:World)(hm:xs.length=m)(W:m<1000)(Y:m<=d)(L:SlA w a (xs.map Bs.val))(I:∀s∈xs,s.ok w)(hb:(Bs.cat xs).length<16777216)(T:D=tlv 0x30 (Bs.cat xs)):
  Sy.Fn Tryz.prog 42 [.slice a m d] w No (zbf D):=by
 subst T;refine zt Tryz.func42 Tryz.ntmps42 ?_;have F:∀i,(Bs.cat (xs.take i)).length<=(Bs.cat xs).length:=λi=>by
  have:Bs.cat xs=Bs.cat (xs.take i)++Bs.cat (xs.drop i):=by unfold Bs.cat;rw[<-CO,Bc]
  rw[this,A4];omega
 have B:=λi (h:i<m)=>Fx xs i q_o;repeat' first|refine s_t ?_|refine zA [0,1,2] ?_;refine zb ?_
 refine zbg (zaT 5 1) ?_;refine zL (γ:=Nat×Option Addr×Nat) (λg=>[(0,.slice a m d),(4,.int .i64 (g.1:Int)),(3,.slice g.2.1 (Bs.cat (xs.take g.1)).length g.2.2)]) (λg=>[.row (.slice g.2.1 (Bs.cat (xs.take g.1)).length g.2.2) 5 1 (Bs.cat (xs.take g.1)).length ((Bs.cat (xs.take g.1)).map v8)]) (λg=>g.1<=m) (λg=>m-g.1) (0,none,0) (AA _) ?_ ?_ ?_
 ·exact q_h
 ·exact q_h
 rintro⟨i,O,Q⟩ V;dsimp only at V ⊢;by_cases hlt:i<m
 ·obtain⟨bl,ol,rfl,A⟩:=Bs.get L (i:=i) q_o;have hc:=A i q_o;have H:=I xs[i] (AX q_o);have N:=B i hlt;have E:=F (i+1);have q:xs[i].l.length=xs[i].n:=H.len;have J:=H.sla;have G:=H.nil;have e:(Bs.cat (xs.take i)).map v8++xs[i].l.map v8=(Bs.cat (xs.take (i+1))).map v8:=by rw[N];exact Ar.symm
  have M:(Bs.cat (xs.take i)).length+xs[i].n=(Bs.cat (xs.take (i+1))).length:=by rw[N];simp only[A4,q]
  generalize Bs.cat (xs.take i)=K at*;obtain⟨K',r⟩:∃k,k=Bs.cat (xs.take (i+1)):=⟨_,rfl⟩;rw[<-r] at e M E;generalize xs[i]=s at*;obtain⟨sa,sn,sc,sl⟩:=s;dsimp only at*;have g1:decide ((i:Int)<(m:Int))=true:=q_d;have g6:IntKind.i64.wrap ((i:Int)+1)=((i+1:Nat):Int):=q_w;repeat' first|refine s_t ?_|refine q_k 3 ?_;refine q_v (zn (hr:=g1)) ?_|refine q_k 5 ?_;refine q_v (zq (j:=i)) ?_;refine q_v (zo (hv:=hc)) ?_;(refine q_s (zaz (hr:=FQ J (λ_ _ h=>h)) (hn:=by rw[A0,q,Al]) (hnil:=G) (hys:=e) (hkm:=M)) ?_;rintro _ _ ⟨rfl,P,S,rfl⟩);refine zb ?_|refine q_k 4 ?_;refine q_x (zD (hr:=g6)) ?_
  refine zC (i+1,P,S) hlt ?_ ?_ ?_
  ·show m-(i+1)<m-i;omega
  ·dsimp only;rw[<-r];exact q_h
  ·dsimp only;rw[<-r];exact q_h
 obtain rfl:i=m:=q_o;rw[A6 q_o];have g6:decide ((i:Int)<(i:Int))=false:=q_f;generalize Bs.cat xs=K at*;repeat' first|refine s_0 ?_|refine q_k 3 ?_;refine q_v (zn (hr:=g6)) ?_|refine q_k 6 ?_;(refine q_s (zi (hc:=λZ X hk U=>zdN 48 O _ Q K _ Z q_e (zaC U rfl q_h) hb rfl)) ?_;rintro _ _ ⟨R,rfl,aE,cE,rfl,rfl⟩);refine zb ?_
 exact q_r
theorem zuq(v:Bool)(w:World):Sy.Fn Tryz.prog 82 [.bool v] w No (zbf (zcQ v)):=by
 refine zt Tryz.func82 Tryz.ntmps82 ?_;unfold zcQ;have B: [Value.int .u8 0]= [(0:UInt8)].map v8:=rfl;have E: [Value.int .u8 255]= [(255:UInt8)].map v8:=rfl;cases v
 ·rw[show(if false=true then (255:UInt8) else 0)=0 from rfl];repeat' first|refine s_0 ?_|refine zA [0,1] ?_;refine zb ?_|refine zf 3 ?_;(refine q_s zz ?_;rintro _ _ ⟨j,rfl,rfl⟩)
  rw[B];refine q_s (zi (hc:=λq X F m=>zdN 1 (some ⟨j,0,none⟩) 1 1 [0] _ q q_e (zj6 m rfl q_h) (by show 1<16777216;decide) rfl)) ?_;rintro _ _ ⟨R,rfl,r,A,rfl,rfl⟩;repeat' first|refine s_0 ?_|(refine zx ?_;first|refine zw ?_|fail)|fail
  exact q_r
 ·rw[show(if true=true then (255:UInt8) else 0)=255 from rfl];repeat' first|refine s_0 ?_|refine zA [0,1] ?_;refine zb ?_|refine zf 2 ?_;(refine q_s zz ?_;rintro _ _ ⟨j,rfl,rfl⟩)
  rw[E];refine q_s (zi (hc:=λq X F m=>zdN 1 (some ⟨j,0,none⟩) 1 1 [255] _ q q_e (zj6 m rfl q_h) (by show 1<16777216;decide) rfl)) ?_;rintro _ _ ⟨R,rfl,r,A,rfl,rfl⟩;repeat' first|refine s_0 ?_|(refine zx ?_;first|refine zw ?_|fail)|fail
  exact q_r
theorem zoQ(v:Int)(w:World)(h1:0<=v)(h2:v<=4611686018427387904):Sy.Fn Tryz.prog 83 [.int .i64 v] w No (zbf (zbk v.toNat)):=by
 have:=zsr v.toNat w q_o;rwa[AT h1] at this
theorem zt1(v:Int)(w:World)(h1:0<=v)(h2:v<=4611686018427387904):Sy.Fn Tryz.prog 79 [.int .i64 v] w No (zbf (zbk v.toNat)):=by
 refine zt Tryz.func79 Tryz.ntmps79 ?_;have h:=λj=>zoQ v j h1 h2;repeat' first|refine s_0 ?_|refine q_k 0 ?_|refine q_k 1 ?_;(refine q_s (zi (hc:=λj X A r=>h j)) ?_;rintro _ _ ⟨R,rfl,m,q,rfl,rfl⟩);refine zb ?_
 exact q_r
theorem zkO(b m:Nat)(xs:List Bs)(w:World)(hm:xs.length=m)(j:m<1000)(h:w.rangeAt b 0 (xs.map Bs.val))(q:∀s∈xs,s.ok w)(hb:(Bs.cat xs).length<16777216)(D:List UInt8)(r:D=tlv 0x30 (Bs.cat xs)):
  Sy.Fn Tryz.prog 42 [.slice (some ⟨b,0,none⟩) m m] w No (zbf D):=zml (some ⟨b,0,none⟩) m m xs D w hm j (A7 _) (.inr ⟨b,0,rfl,h⟩) q hb r
theorem zpn(C:List Value)(p:Prin)(w:World)(h:PrinIn w C p)(I:p.ok=true):Sy.Fn Tryz.prog 80 [.agg C.toArray] w No (zbf p.der):=by
 obtain⟨b8,T,V⟩:=FB I;obtain⟨⟨a1,c1,rfl,n1,m1,s1,z1⟩,-⟩:=h;refine zt Tryz.func80 Tryz.ntmps80 ?_;have W:=λx (hx:x∈p.parts) m=>zqP x m (by have:=T x hx;omega);have J:=λm=>zqP p.realm m q_o;have b0:=FZ I;have b7:=FC I;have G:p.der=tlv 0x30 (zax 0 (tlv 0x30 (p.parts.map zav).flatten)++zax 1 (zav p.realm)):=by simp[Prin.der,zdc]
 have b9:=zoG V;unfold zT at*;generalize p.der=D at*;obtain⟨parts,realm⟩:=p;dsimp only at*;generalize hn:parts.length=n at*;repeat' first|refine s_t ?_|refine zf 0 ?_;refine z9 λ_=>?_|refine zA [1,2] ?_;refine zb ?_
 rename_i Z;refine zbg (zaT 23 1) ?_;refine zL (γ:=Nat×List Bs×Option Addr×Nat) (λg=>[(1,.pointer (some ⟨Z,0,none⟩)),(4,.int .i64 (g.1:Int)),(3,.slice g.2.2.1 g.2.1.length g.2.2.2)])
  (λg=> .row (.slice g.2.2.1 g.2.1.length g.2.2.2) 23 1 g.2.1.length (g.2.1.reverse.map Bs.val):: .blk Z 43 [.slice a1 n c1,.string (str realm)]::zcZ 5 g.2.1)
  (λg=>g.1<=n/\g.2.1.reverse.map (·.l)=(parts.take g.1).map zav/\∀s∈g.2.1,s.l.length=s.n) (λg=>n-g.1) (0,[],none,0) ⟨AA _,rfl,λs F=>by cases F⟩ ?_ ?_ ?_
 ·exact q_h
 ·exact q_h
 rintro⟨i,q,aP,cP⟩ ⟨hi,B,K⟩;dsimp only at hi B K ⊢;have Y:q.length=i:=by have:=congrArg List.length B;simp at this;omega
 by_cases hlt:i<n
 ·obtain⟨bl,ol,rfl,H⟩:=zca s1 (i:=i) (by rw[List.length_map];omega);have hc:=H i _ (zcX _ q_o);have g1:decide ((i:Int)<(n:Int))=true:=q_d;have g5:IntKind.i64.wrap ((i:Int)+1)=((i+1:Nat):Int):=q_w;have b2:parts.take (i+1)=parts.take i++[parts[i]]:=zaE q_o;have a9:parts[i]∈parts:=AX q_o;have hx:=W parts[i] a9;generalize parts[i]=x at*;repeat' first|refine s_t ?_|refine q_k 3 ?_;refine zm ?_;refine zb ?_;refine q_v (zn (hr:=g1)) ?_|refine q_k 5 ?_;refine zm ?_;refine zb ?_;refine q_v (zq (j:=i)) ?_;refine q_v (zo (hv:=hc)) ?_;(refine q_s (zi (hc:=λm X S A=>hx m)) ?_;rintro _ _ ⟨R,rfl,L,M,rfl,rfl⟩);(refine q_s zz ?_;rintro _ _ ⟨_,rfl,rfl⟩);(refine q_s (zaz (hys:=zjN q ⟨L,(zav x).length,M,zav x⟩) (hkm:=rfl)) ?_;rintro _ _ ⟨rfl,aN,cN,rfl⟩);refine zb ?_
  refine FJ (fr':=[(1,.pointer (some ⟨Z,0,none⟩)),(4,.int .i64 (i:Int)),(3,.slice aN (q.length+1) cN)]) (L':=.row (.slice aN (q.length+1) cN) 23 1 (q.length+1) ((⟨L,(zav x).length,M,zav x⟩::q).reverse.map Bs.val):: .blk Z 43 [.slice (some ⟨bl,ol,none⟩) n c1,.string (str realm)]::zcZ 5 (⟨L,(zav x).length,M,zav x⟩::q)) ?_ q_h ?_;rotate_left
  ·show SubR (_::_::zjG 5 ⟨L,(zav x).length,M,zav x⟩::zcZ 5 q) _
   (repeat' (first|exact Ev|apply F3;with_reducible (focus ((repeat (first|exact Eu|apply Ew));done))|apply F9;(focus ((repeat (first|exact Eu|apply Ew));done))|apply F3;(focus ((repeat (first|exact Eu|apply Ew));done))|apply F6;(focus ((repeat (first|exact Eu|apply Ew));done))|rfl))
   all_goals exact F7 Ez
  repeat' first|refine zap ?_|refine zao ?_|refine q_k 4 ?_;refine q_x (zD (hr:=g5)) ?_
  refine zC (i+1,⟨L,(zav x).length,M,zav x⟩::q,aN,cN) ⟨hlt,?_,?_⟩ ?_ ?_ ?_
  ·show((⟨L,(zav x).length,M,zav x⟩::q).reverse).map (·.l)=_;rw[znC,B,b2,Ar];rfl
  ·intro s F;rcases AV.1 F with rfl|F
   ·rfl
   ·exact K s F
  ·show n-(i+1)<n-i;omega
  ·exact q_h
  ·exact Ez
 obtain rfl:i=n:=q_o;rw[A6 q_o] at B;have P:Bs.cat q.reverse=(parts.map zav).flatten:=by rw[zjL,B]
 have g1:decide ((i:Int)<(i:Int))=false:=q_f;rw[<-P] at b0 G;have hQ:=(zY 0x30 (Bs.cat q.reverse)).2;have b3:=(zY 0xa0 (tlv 0x30 (Bs.cat q.reverse))).2;have b4:=(zY 0xa1 (zav realm)).2;repeat' first|refine s_0 ?_|refine q_k 3 ?_;refine zm ?_;refine zb ?_;refine q_v (zn (hr:=g1)) ?_
 rw[Y]
 (refine zdp (id:=6) [0,3,4] [1,2,5,6,7,8,9] mixed ?_ ?_;kernel_rfl;refine yfv zV (k:=?_);refine yfv zN (k:=?_);refine yfv zM (k:=?_);refine yf0 ?_;try refine yc0 (k:=?_))
 refine ycs (zi (hc:=λm X S A=>zml aP i cP q.reverse _ m (by rw[Bd];exact Y) q_o (FF A q_h) ((Fc (Mi:=No) A q_h (λ_ h=>h.elim)).sla) (λs F=>zj1 (E:=5) A K (λr hr=>AH _ (A1 _ (A1 _ hr))) s (CQ.1 F)) q_o rfl)) (k:=?_);rintro _ _ ⟨R,rfl,aS,cS,rfl,rfl⟩;generalize a6:tlv 0x30 (Bs.cat q.reverse)=Q at*;have a7:0<Q.length:=by rw[<-a6];exact zbG
 have a8:0<(zav realm).length:=zbG;refine ycs (zi (hc:=λm X S A=>zdg 0 aS Q.length cS Q _ m q_e (zaC A rfl q_h) a7 q_o rfl)) (k:=?_);rintro _ _ ⟨R,rfl,aT,cT,rfl,rfl⟩;refine ycs (zi (hc:=λm X S A=>J m)) (k:=?_);rintro _ _ ⟨R,rfl,aU,cU,rfl,rfl⟩;generalize zav realm=U at*;refine ycs (zi (hc:=λm X S A=>zdg 1 aU U.length cU U _ m q_e (zaC A rfl q_h) a8 q_o rfl)) (k:=?_);rintro _ _ ⟨R,rfl,aV,cV,rfl,rfl⟩;refine ycs zz (k:=?_);rintro _ _ ⟨bL,rfl,rfl⟩;have b5:(zax 0 Q).length<=300:=by show(tlv 160 Q).length<=300;omega
 have b6:(zax 1 U).length<=300:=by show(tlv 161 U).length<=300;omega
 generalize zax 1 U=O,zax 0 Q=N at*;refine ycs (zi (hc:=λm X S A=>zkO bL 2 [⟨aT,N.length,cT,N⟩,⟨aV,O.length,cV,O⟩] m rfl q_e (zp (A.has q_h) Ex) (λs F=>by
  simp only[AV,Bi,or_false] at F;rcases F with rfl|rfl
  ·exact zaC A rfl q_h
  ·exact zaC A rfl q_h) (by rw[show Bs.cat [⟨aT,N.length,cT,N⟩,⟨aV,O.length,cV,O⟩]=N++O by simp[Bs.cat],A4];omega) D (by rw[G];simp[Bs.cat]))) (k:=?_)
 rintro _ _ ⟨R,rfl,aW,cW,rfl,rfl⟩;refine ycv za6 (k:=?_);refine yc0 (k:=?_);repeat' first|refine s_0 ?_|fail
 exact zar rfl (zh rfl) (F6 Eu rfl Ev) ⟨_,_,rfl,rfl⟩
theorem znO(p:Pl)(c:Cert)(w:World)(h:CertAt w p c)(r:c.small):Sy.Fn Tryz.prog 37 [.agg (zF p c).toArray] w No (zbf c.body):=by
 refine zt Tryz.func37 Tryz.ntmps37 ?_;have h0:=λj=>zt1 c.serial j r.s0 r.s1;have h1:=λj (q:Keep No w j)=>zpn _ _ j (h.iss.keep q) r.iss;have h2:=λj (q:Keep No w j)=>zpn _ _ j (h.sub.keep q) r.sub;have h3:=λj=>zn9 c.fr j r.f0 r.f1;have h4:=λj=>zn9 c.til j r.t0 r.t1;have h5:=λj=>zuq c.auth j;have h6:=λj=>zoQ c.group j r.g0 r.g1;have a8:=r.pub;have h7:=λj (q:Keep No w j)=>zqX p.a3 c.pub.length p.k3 c.pub j (h.pub.keep q) q_o;have p0:0<(zbk c.serial.toNat).length:=zbG;have p1:=Fk c.issuer;have p2:=Fk c.subject;have p3:0<(zbu c.fr.toNat).length:=zbG;have p4:0<(zbu c.til.toNat).length:=zbG;have p5:0<(zcQ c.auth).length:=zbG;have p6:0<(zbk c.group.toNat).length:=zbG;have p7:0<(za9 c.pub).length:=zbG;have m0:=(zdP (v:=c.serial.toNat) (by have:=r.s1;omega)).2;have m1:=FC r.iss;have m2:=FC r.sub;have m3:(zbu c.fr.toNat).length<=11:=zcw (by rw[zbs];decide);have m4:(zbu c.til.toNat).length<=11:=zcw (by rw[zbs];decide);have m5:(zcQ c.auth).length<=6:=zcw (A7 1);have m6:=(zdP (v:=c.group.toNat) (by have:=r.g1;omega)).2;have m7:(za9 c.pub).length<=c.pub.length+5:=zcw (A7 _);obtain⟨A,W⟩:∃G,G=zax 0 (zbk c.serial.toNat):=⟨_,rfl⟩;obtain⟨E,Y⟩:∃G,G=zax 1 (c.issuer.der):=⟨_,rfl⟩;obtain⟨F,Z⟩:∃G,G=zax 2 (c.subject.der):=⟨_,rfl⟩;obtain⟨H,e3⟩:∃G,G=zax 3 (zbu c.fr.toNat):=⟨_,rfl⟩;obtain⟨I,e4⟩:∃G,G=zax 4 (zbu c.til.toNat):=⟨_,rfl⟩;obtain⟨J,e5⟩:∃G,G=zax 5 (zcQ c.auth):=⟨_,rfl⟩;obtain⟨K,e6⟩:∃G,G=zax 6 (zbk c.group.toNat):=⟨_,rfl⟩;obtain⟨L,e7⟩:∃G,G=zax 7 (za9 c.pub):=⟨_,rfl⟩;have M:c.body=tlv 0x30 (A++(E++(F++(H++(I++(J++(K++L))))))):=by rw[W,Y,Z,e3,e4,e5,e6,e7];simp[Cert.body,zdc]
 generalize c.body=BD at*;unfold zF zbe at*;clear h r;obtain⟨serial,iss,sub,fr,til,auth,group,pub,sig⟩:=c;dsimp only at*;generalize za9 pub=V,zbk group.toNat=U,zcQ auth=T,zbu til.toNat=S,zbu fr.toNat=Q,sub.der=P,iss.der=O,zbk serial.toNat=N at*;have l0:A.length<=N.length+5:=by rw[W];exact(zY (0xa0+0) N).2
 have l1:E.length<=O.length+5:=by rw[Y];exact(zY (0xa0+1) O).2
 have l2:F.length<=P.length+5:=by rw[Z];exact(zY (0xa0+2) P).2
 have l3:H.length<=Q.length+5:=by rw[e3];exact(zY (0xa0+3) Q).2
 have l4:I.length<=S.length+5:=by rw[e4];exact(zY (0xa0+4) S).2
 have l5:J.length<=T.length+5:=by rw[e5];exact(zY (0xa0+5) T).2
 have l6:K.length<=U.length+5:=by rw[e6];exact(zY (0xa0+6) U).2
 have l7:L.length<=V.length+5:=by rw[e7];exact(zY (0xa0+7) V).2
 repeat' first|refine s_0 ?_|refine zf 0 ?_;refine z9 λ_=>?_
 (refine zdp (id:=1) [0,1,4,5,8,9,12,13,16,17,20,21,24,25,28,29] [2,3,6,7,10,11,14,15,18,19,22,23,26,27,30,31,32,33,34] mixed ?_ ?_;kernel_rfl;refine yfv zN (k:=?_);refine yfv zM (k:=?_);refine yfv zN (k:=?_);refine yfv (ze (B:=[.slice p.a1 iss.parts.length p.k1,zT iss.realm]) (hv:=FK rfl)) (k:=?_);refine yfv zN (k:=?_);refine yfv (ze (B:=[.slice p.a2 sub.parts.length p.k2,zT sub.realm]) (hv:=FK rfl)) (k:=?_);refine yfv zN (k:=?_);refine yfv zM (k:=?_);refine yfv zN (k:=?_);refine yfv zM (k:=?_);refine yfv zN (k:=?_);refine yfv zM (k:=?_);refine yfv zN (k:=?_);refine yfv zM (k:=?_);refine yfv zN (k:=?_);refine yfv zM (k:=?_);refine yf0 ?_;try refine yc0 (k:=?_))
 refine ycs (zi (hc:=λj X q m=>h0 j)) (k:=?_);rintro _ _ ⟨R,rfl,a0,c0,rfl,rfl⟩;refine ycs (zi (hc:=λj X q m=>zdg 0 a0 N.length c0 N A j q_e (zaC m rfl q_h) p0 q_o W)) (k:=?_);rintro _ _ ⟨R,rfl,b0,d0,rfl,rfl⟩;refine ycs (zi (hc:=zr h1)) (k:=?_);rintro _ _ ⟨R,rfl,a1,c1,rfl,rfl⟩;refine ycs (zi (hc:=λj X q m=>zdg 1 a1 O.length c1 O E j q_e (zaC m rfl q_h) p1 q_o Y)) (k:=?_);rintro _ _ ⟨R,rfl,b1,d1,rfl,rfl⟩;refine ycs (zi (hc:=zr h2)) (k:=?_);rintro _ _ ⟨R,rfl,a2,c2,rfl,rfl⟩;refine ycs (zi (hc:=λj X q m=>zdg 2 a2 P.length c2 P F j q_e (zaC m rfl q_h) p2 q_o Z)) (k:=?_);rintro _ _ ⟨R,rfl,b2,d2,rfl,rfl⟩;refine ycs (zi (hc:=λj X q m=>h3 j)) (k:=?_);rintro _ _ ⟨R,rfl,a3,c3,rfl,rfl⟩;refine ycs (zi (hc:=λj X q m=>zdg 3 a3 Q.length c3 Q H j q_e (zaC m rfl q_h) p3 q_o e3)) (k:=?_);rintro _ _ ⟨R,rfl,b3,d3,rfl,rfl⟩;refine ycs (zi (hc:=λj X q m=>h4 j)) (k:=?_);rintro _ _ ⟨R,rfl,a4,c4,rfl,rfl⟩;refine ycs (zi (hc:=λj X q m=>zdg 4 a4 S.length c4 S I j q_e (zaC m rfl q_h) p4 q_o e4)) (k:=?_);rintro _ _ ⟨R,rfl,b4,d4,rfl,rfl⟩;refine ycs (zi (hc:=λj X q m=>h5 j)) (k:=?_);rintro _ _ ⟨R,rfl,a5,c5,rfl,rfl⟩;refine ycs (zi (hc:=λj X q m=>zdg 5 a5 T.length c5 T J j q_e (zaC m rfl q_h) p5 q_o e5)) (k:=?_);rintro _ _ ⟨R,rfl,b5,d5,rfl,rfl⟩;refine ycs (zi (hc:=λj X q m=>h6 j)) (k:=?_);rintro _ _ ⟨R,rfl,a6,c6,rfl,rfl⟩;refine ycs (zi (hc:=λj X q m=>zdg 6 a6 U.length c6 U K j q_e (zaC m rfl q_h) p6 q_o e6)) (k:=?_);rintro _ _ ⟨R,rfl,b6,d6,rfl,rfl⟩;refine ycs (zi (hc:=zr h7)) (k:=?_);rintro _ _ ⟨R,rfl,a7,c7,rfl,rfl⟩;refine ycs (zi (hc:=λj X q m=>zdg 7 a7 V.length c7 V L j q_e (zaC m rfl q_h) p7 q_o e7)) (k:=?_);rintro _ _ ⟨R,rfl,b7,d7,rfl,rfl⟩;refine ycs zz (k:=?_);rintro _ _ ⟨bL,rfl,rfl⟩;refine ycs (zi (hc:=λj X q m=>zkO bL 8 [⟨b0,A.length,d0,A⟩,⟨b1,E.length,d1,E⟩,⟨b2,F.length,d2,F⟩,⟨b3,H.length,d3,H⟩,⟨b4,I.length,d4,I⟩,⟨b5,J.length,d5,J⟩,⟨b6,K.length,d6,K⟩,⟨b7,L.length,d7,L⟩] j rfl q_e (zp (m.has q_h) Ex) (λs r=>by
   simp only[AV,Bi,or_false] at r;rcases r with rfl|rfl|rfl|rfl|rfl|rfl|rfl|rfl
   ·exact zaC m rfl q_h
   ·exact zaC m rfl q_h
   ·exact zaC m rfl q_h
   ·exact zaC m rfl q_h
   ·exact zaC m rfl q_h
   ·exact zaC m rfl q_h
   ·exact zaC m rfl q_h
   ·exact zaC m rfl q_h) (by rw[show Bs.cat [⟨b0,A.length,d0,A⟩,⟨b1,E.length,d1,E⟩,⟨b2,F.length,d2,F⟩,⟨b3,H.length,d3,H⟩,⟨b4,I.length,d4,I⟩,⟨b5,J.length,d5,J⟩,⟨b6,K.length,d6,K⟩,⟨b7,L.length,d7,L⟩]=A++(E++(F++(H++(I++(J++(K++L)))))) by simp[Bs.cat]];simp only[A4];omega) BD (by rw[M];simp[Bs.cat]))) (k:=?_)
 rintro _ _ ⟨R,rfl,aW,cW,rfl,rfl⟩;refine ycv za6 (k:=?_);refine yc0 (k:=?_);repeat' first|refine s_0 ?_|fail
 exact zar rfl (zh rfl) (F6 Eu rfl Ev) ⟨_,_,rfl,rfl⟩
attribute [local irreducible] zg zae zac iC zaL zag zb2 Sh.sum
theorem zoB{z:Int}{key j m s:List UInt8}(w:zhK z key j m=some s):s.length=2*gL z.toNat:=by
 unfold zhK at w;split at w
 ·rename_i q;obtain⟨q,-,-,-⟩:=q;cases w;unfold zd1 at q;rw[A8,decide_eq_true_eq] at q;obtain⟨i,-,F,h0,r⟩:=zdj (zgG q.1).1;rw[F];have A:0<gQ i:=AK q_e (zbL i h0 r);have B:sE i (za5 z key).1 (zaW z j).1 m<gQ i:=zjW h0 r _ _ _;have E:sS i (za5 z key).1 (zaW z j).1 m<gQ i:=AC _ A;rw[A4,zdL _ _ (zjJ h0 r B),zdL _ _ (zjJ h0 r E)];omega
 ·cases w
theorem zzT(a b:Nat)(ha:a<256)(hb:0<b/\b<256):zbc 2 (a*256+b)= [UInt8.ofNat a,UInt8.ofNat b]:=by
 by_cases h0:a=0
 ·subst h0;have q:nd 256 (0*256+b)=1:=zcD 256 _ 1 q_e q_o (λ_=>by omega);unfold zbc byt be cd;rw[q];simp[dg,A9 hb.2]
 ·have r:nd 256 (a*256+b)=2:=zcD 256 _ 2 q_e q_o (λ_=>by omega);unfold zbc byt be cd;rw[r];have j:(a*256+b)%256=b:=q_o;have m:(a*256+b)/256%256=a:=q_o;simp[dg,j,m]
theorem zoO:zd1 1 [0,6]=true/\(za5 1 [0,6]).1=6:=by
 have j:za5 1 [0,6]=(6,0):=by decide +kernel
 unfold zd1;rw[j];exact⟨rfl,rfl⟩
theorem zo9:zhF 1 [0,6]=some [4,193]:=by
 unfold zhF;rw[if_pos zoO.1,zoO.2];have h:4^6%gP (1:Int).toNat=4*256+193:=by decide +kernel
 rw[h];exact congrArg some (zzT 4 193 q_e q_e)
theorem zAa(m:List UInt8)(hm:m.length<=65536):∃s:List UInt8,zhK 1 [0,6] [7] m=some s/\s.length=4/\zfV 1 [4,193] m s=0/\zfV 1 [4,193] m (s.take 3)=10:=by
 have q:zaW 1 [7]=(7,0):=by unfold zaW;rw[if_pos q_e];decide +kernel
 have j:=zjp (z:=1) (pl:=[0,6]) (nl:=[7]) (ml:=m) zoO.1 (by rw[q]) (by rw[q];decide) hm;have r:=zoB j;refine⟨_,j,r,zw7 zo9 j,zpb ?_ ?_⟩
 ·rintro(h|h)
  ·rw[zjU zo9] at h;exact h rfl
  ·omega
 ·rw[AS,r];decide
end Go.Proofs.YtdnlngbjpdbffaaGreatDoor
