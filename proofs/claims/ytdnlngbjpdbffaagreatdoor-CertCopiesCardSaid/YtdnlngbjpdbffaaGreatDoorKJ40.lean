/- Lemmas of this proof. -/
import Derived.Test.YtdnlngbjpdbffaaGreatDoorKJ34
set_option maxHeartbeats 4000000
set_option maxRecDepth 10000
set_option linter.all false
namespace Go.Ct
open Go Go.Sy
theorem znV(p k:Nat):(p:Int).tmod (k:Int)=((p%k:Nat):Int):=rfl
theorem u8M(x:Nat):IntKind.u8.wrap ((x%256:Nat):Int)=Wd.n8 (UInt8.ofNat x):=by rw[u8N,Wd.n8_of_nat,Wd.n8_of_nat,EM]
theorem zoB(v:Nat):∀(n k:Nat),k<n->(beN v n)[k]?=some (UInt8.ofNat (v/256^(n-1-k)))
 |n+1,0,_=>by rw[beN,C8];simp
 |n+1,k+1,h=>by
  rw[beN,Bq,zoB v n k q_o,show n+1-1-(k+1)=n-1-k by omega]
theorem ztE(v n k:Nat)(h:k<n):(beN v n).take (k+1)=(beN v n).take k++[UInt8.ofNat (v/256^(n-1-k))]:=by
 rw[CB,zoB v n k h];rfl
end Go.Ct
namespace Go.Proofs.YtdnlngbjpdbffaaGreatDoor
open Go Go.Sy Go.Ct Go.Nt Go.RowKit
attribute [local irreducible] Sy SyL SyX SyC SyF Sy.Fn callFunc
theorem zvl(t:Nat)(s:Bs)(w:World)(M:t<256)(G:s.ok w)(hb:s.l.length<16777216):Sy.Fn Tryz.prog 85 [.int .i64 (t:Int),s.val] w No (zcw (tlv t s.l)):=by
 refine zo Tryz.func85 Tryz.ntmps85 ?_;obtain⟨a,n,c,l⟩:=s;have E:=G.len;have B:=G.sla;have A:=G.nil;dsimp only at E B A hb ⊢;rw[show(⟨a,n,c,l⟩:Bs).val= .slice a n c from rfl];obtain⟨H,F⟩:∃H,H=UInt8.ofNat t::ze3 n:=⟨_,rfl⟩;have C:tlv t l=H++l:=by rw[F];unfold tlv;rw[E];rfl
 have K:H.length<=5:=by rw[F,Ac];have:=zju n;omega
 have m:H.map v8= .int .u8 (t:Int)::(ze3 n).map v8:=by rw[F,Ay,<-v8_lit t M]
 rw[zph] at m;have g0:IntKind.u8.wrap (t:Int)=(t:Int):=IntWalk.u8_in _ q_o;have g1:=u8N n;have g2:=u8M n;have g3:=u8N (n/256);have g4:=u8M (n/256);have g5:=u8N (n/65536);have I:IntKind.i64.wrap ((n:Int).tdiv 256)=((n/256:Nat):Int):=zcV (k:=256) q_o;have N:IntKind.i64.wrap ((n:Int).tdiv 65536)=((n/65536:Nat):Int):=zcV (k:=65536) q_o;have J:(n:Int).tmod 256=((n%256:Nat):Int):=znV n 256;have O:((n/256:Nat):Int).tmod 256=((n/256%256:Nat):Int):=znV (n/256) 256;rw[C];repeat' (first|refine s_0 ?_|refine zK [0,1] ?_;refine zb ?_|refine q_k 2 ?_;refine q_v (zal (hr:=g0)) ?_;(refine q_s zw ?_;rintro _ _ ⟨_,rfl,rfl⟩);refine zb ?_)
 rename_i Q;refine zb9 (γ:=Option Addr×Nat) (λg=>[(1,.slice a n c),(6,.slice g.1 H.length g.2)]) (λg=>[.row (.slice g.1 H.length g.2) 5 1 H.length (H.map v8)]) (λ_=>True) ?_ ?_
 ·have L:n<128\/(128<=n/\n<256)\/(256<=n/\n<65536)\/65536<=n:=q_o;rcases L with h|h|h|h
  ·rw[if_pos h] at m;have e: [Value.int .u8 (t:Int)]++[.int .u8 (Wd.n8 (UInt8.ofNat n))]=H.map v8:=m.symm;have j:1+1=H.length:=by rw[<-A0 v8,<-e];rfl
   have k1:decide ((n:Int)<128)=true:=q_d;repeat' (first|refine s_t ?_|refine q_k 4 ?_;refine q_x (zl (hr:=k1)) ?_|refine q_k 5 ?_;refine q_v (zal (hr:=g1)) ?_;(refine q_s zw ?_;rintro _ _ ⟨_,rfl,rfl⟩);(refine q_s (zbH (hys:=e) (hkm:=j)) ?_;rintro _ _ ⟨rfl,q,r,rfl⟩);refine zb ?_)
   exact zZ (q,r) trivial q_h q_h
  ·rw[if_neg q_o,if_pos h.2] at m;have e: [Value.int .u8 (t:Int)]++[.int .u8 129,.int .u8 (Wd.n8 (UInt8.ofNat n))]=H.map v8:=m.symm;have j:1+2=H.length:=by rw[<-A0 v8,<-e];rfl
   have k1:decide ((n:Int)<128)=false:=q_f;have k2:decide ((n:Int)<256)=true:=q_d;repeat' (first|refine s_t ?_|refine q_k 4 ?_;refine q_x (zl (hr:=k1)) ?_|refine q_k 6 ?_;refine q_x (zl (hr:=k2)) ?_|refine q_k 7 ?_;refine q_v (zal (hr:=g1)) ?_;(refine q_s zw ?_;rintro _ _ ⟨_,rfl,rfl⟩);(refine q_s (zbH (hys:=e) (hkm:=j)) ?_;rintro _ _ ⟨rfl,q,r,rfl⟩);refine zb ?_)
   exact zZ (q,r) trivial q_h q_h
  ·rw[if_neg q_o,if_neg q_o,if_pos h.2] at m;have e: [Value.int .u8 (t:Int)]++[.int .u8 130,.int .u8 (Wd.n8 (UInt8.ofNat (n/256))),.int .u8 (Wd.n8 (UInt8.ofNat n))]=H.map v8:=m.symm;have j:1+3=H.length:=by rw[<-A0 v8,<-e];rfl
   have k1:decide ((n:Int)<128)=false:=q_f;have k2:decide ((n:Int)<256)=false:=q_f;have k3:decide ((n:Int)<65536)=true:=q_d;repeat' (first|refine s_t ?_|refine q_k 4 ?_;refine q_x (zl (hr:=k1)) ?_|refine q_k 6 ?_;refine q_x (zl (hr:=k2)) ?_|refine q_k 8 ?_;refine q_x (zl (hr:=k3)) ?_|refine q_k 9 ?_;refine q_v (zbb (hr:=I)) ?_;refine q_x (zal (hr:=g3)) ?_;refine q_v (zaN (hr:=J)) ?_;refine q_v (zal (hr:=g2)) ?_;(refine q_s zw ?_;rintro _ _ ⟨_,rfl,rfl⟩);(refine q_s (zbH (hys:=e) (hkm:=j)) ?_;rintro _ _ ⟨rfl,q,r,rfl⟩);refine zb ?_)
   exact zZ (q,r) trivial q_h q_h
  ·rw[if_neg q_o,if_neg q_o,if_neg q_o] at m;have e: [Value.int .u8 (t:Int)]++[.int .u8 131,.int .u8 (Wd.n8 (UInt8.ofNat (n/65536))),.int .u8 (Wd.n8 (UInt8.ofNat (n/256))),.int .u8 (Wd.n8 (UInt8.ofNat n))]=H.map v8:=m.symm;have j:1+4=H.length:=by rw[<-A0 v8,<-e];rfl
   have k1:decide ((n:Int)<128)=false:=q_f;have k2:decide ((n:Int)<256)=false:=q_f;have k3:decide ((n:Int)<65536)=false:=q_f;repeat' (first|refine s_t ?_|refine q_k 4 ?_;refine q_x (zl (hr:=k1)) ?_|refine q_k 6 ?_;refine q_x (zl (hr:=k2)) ?_|refine q_k 8 ?_;refine q_x (zl (hr:=k3)) ?_|refine q_k 3 ?_;refine q_v (zbb (hr:=N)) ?_;refine q_x (zal (hr:=g5)) ?_;refine q_v (zbb (hr:=I)) ?_;refine q_v (zaN (hr:=O)) ?_;refine q_x (zal (hr:=g4)) ?_;refine q_v (zaN (hr:=J)) ?_;refine q_v (zal (hr:=g2)) ?_;(refine q_s zw ?_;rintro _ _ ⟨_,rfl,rfl⟩);(refine q_s (zbH (hys:=e) (hkm:=j)) ?_;rintro _ _ ⟨rfl,q,r,rfl⟩);refine zb ?_)
   exact zZ (q,r) trivial q_h q_h
 rintro⟨P,R⟩ -;dsimp only;have e:H.map v8++l.map v8=(H++l).map v8:=Aw.symm;have j:H.length+n=(H++l).length:=by rw[List.length_append,E]
 repeat' (first|refine s_0 ?_|refine q_k 10 ?_;(refine q_s (zak (hr:=FZ B (λ_ _ h=>h)) (hn:=by rw[A0,E,Af]) (hnil:=A) (hys:=e) (hkm:=j)) ?_;rintro _ _ ⟨rfl,q,r,rfl⟩);refine zb ?_)
 exact q_r
theorem zdb(t:Nat)(a:Option Addr)(n c:Nat)(l D:List UInt8)(w:World)(q:t<256)(m:(⟨a,n,c,l⟩:Bs).ok w)(hb:l.length<16777216)(j:D=tlv t l):Sy.Fn Tryz.prog 85 [.int .i64 (t:Int),.slice a n c] w No (zcw D):=by
 subst j;exact zvl t ⟨a,n,c,l⟩ w q m hb
theorem zve(a:Option Addr)(n c:Nat)(l:List UInt8)(w:World)(q:(⟨a,n,c,l⟩:Bs).ok w)(hb:l.length<16777216):Sy.Fn Tryz.prog 78 [.slice a n c] w No (zcw (zbQ l)):=by
 refine zo Tryz.func78 Tryz.ntmps78 ?_;have h:=λj (m:Keep No w j)=>zdb 4 a n c l (zbQ l) j q_e (q.keep m) hb rfl;generalize zbQ l=D at*;repeat' (first|refine s_0 ?_|refine q_k 0 ?_|refine q_k 1 ?_;(refine q_s (zh (hc:=zq h)) ?_;rintro _ _ ⟨R,rfl,r,t,rfl,rfl⟩);refine zb ?_)
 exact q_r
theorem zdk(n:Nat)(a:Option Addr)(m c:Nat)(l D:List UInt8)(w:World)(hn:n<=30)(j:(⟨a,m,c,l⟩:Bs).ok w)(h0:0<l.length)(hb:l.length<16777216)(r:D=zan n l):Sy.Fn Tryz.prog 77 [.int .i64 (n:Int),.slice a m c] w No (zcw D):=by
 refine zo Tryz.func77 Tryz.ntmps77 ?_;have h:=λq (t:Keep No w q)=>zdb (0xa0+n) a m c l D q q_o (j.keep t) hb r;have A:=j.len;dsimp only at A;have g1:decide ((m:Int)=0)=false:=q_f;have g2:IntKind.i64.wrap (160+(n:Int))=((160+n:Nat):Int):=q_w;repeat' (first|refine s_0 ?_|refine q_k 0 ?_|refine q_k 1 ?_;refine q_v (zaa (hr:=g1)) ?_|refine q_k 3 ?_;refine q_x (zA (hr:=g2)) ?_;(refine q_s (zh (hc:=zq h)) ?_;rintro _ _ ⟨R,rfl,B,C,rfl,rfl⟩);refine zb ?_)
 exact q_r
theorem zoE(l:List UInt8)(w:World)(hb:l.length<16777216):Sy.Fn Tryz.prog 170 [zX l] w No (zcw (zaD l)):=by
 refine zo Tryz.func170 Tryz.ntmps170 ?_;unfold zX;have h:=λj b k (t:(⟨some ⟨b,0,none⟩,l.length,k,l⟩:Bs).ok j)=>zdb 27 (some ⟨b,0,none⟩) l.length k l (zaD l) j q_e t hb rfl;generalize zaD l=D at*;repeat' (first|refine s_0 ?_|refine zK [0,1] ?_;refine zb ?_|refine q_s (zjb (l:=l)) ?_;rintro _ _ ⟨m,J,rfl,rfl⟩|(refine zW ?_;first|refine q_s (zh (hc:=λj X r q=>h j m _ (zt7 r q rfl (EU _ _) F6))) ?_;rintro _ _ ⟨R,rfl,A,B,rfl,rfl⟩|refine zB ?_|fail)|fail)
 exact q_r
theorem zuq(v n:Nat)(w:World)(hv:v<9223372036854775808)(hn:n<=8):Sy.Fn Tryz.prog 171 [.int .i64 (v:Int),.int .i64 (n:Int)] w No (zcw (beN v n)):=by
 refine zo Tryz.func171 Tryz.ntmps171 ?_;have g1:IntKind.i64.wrap ((n:Int)-1)=(n:Int)-1-((0:Nat):Int):=q_w;have j:=zcg v n;repeat' (first|refine s_t ?_|refine zK [0,1] ?_;refine zb ?_|refine q_k 2 ?_;refine q_x (zH (hr:=g1)) ?_)
 refine zbn (zaO 5 1) ?_;refine zE (γ:=Nat×Option Addr×Nat) (λg=>[(0,.int .i64 (v:Int)),(6,.int .i64 ((n:Int)-1-(g.1:Int))),(5,.slice g.2.1 g.1 g.2.2)]) (λg=>[.row (.slice g.2.1 g.1 g.2.2) 5 1 g.1 (((beN v n).take g.1).map v8)]) (λg=>g.1<=n) (λg=>n-g.1) (0,none,0) (AE _) ?_ ?_ ?_
 ·exact q_h
 ·exact q_h
 rintro⟨k,a,c⟩ A;dsimp only at A ⊢;by_cases hlt:k<n
 ·have t:((n:Int)-1-(k:Int))=((n-1-k:Nat):Int):=q_o;rw[t];have g2:decide (((n-1-k:Nat):Int)>=0)=true:=q_d;have g3:IntKind.i64.wrap (8*((n-1-k:Nat):Int))=((8*(n-1-k):Nat):Int):=q_w;have g4:Op.shift .shr .i64 (v:Int) .i64 ((8*(n-1-k):Nat):Int)=pure (.int .i64 ((v/256^(n-1-k):Nat):Int)):=by
   rw[ztJ v _ _ q_o,B8]
  have g5:((v/256^(n-1-k):Nat):Int).tmod 256=((v/256^(n-1-k)%256:Nat):Int):=znV _ 256;have g6:=u8M (v/256^(n-1-k));have g7:IntKind.i64.wrap (((n-1-k:Nat):Int)-1)=(n:Int)-1-((k+1:Nat):Int):=q_w;have e:((beN v n).take k).map v8++[.int .u8 (Wd.n8 (UInt8.ofNat (v/256^(n-1-k))))]=((beN v n).take (k+1)).map v8:=by rw[ztE v n k hlt,Aw];rfl
  generalize v/256^(n-1-k)=q at*;repeat' (first|refine s_t ?_|refine q_k 3 ?_;refine q_v (zP (hr:=g2)) ?_|refine q_k 5 ?_;refine q_v (zas (hr:=g3)) ?_;refine q_v (zbp (hr:=g4)) ?_;refine q_v (zaN (hr:=g5)) ?_;refine q_v (zal (hr:=g6)) ?_;(refine q_s zw ?_;rintro _ _ ⟨_,rfl,rfl⟩);(refine q_s (zak (hys:=e) (hkm:=rfl)) ?_;rintro _ _ ⟨rfl,m,r,rfl⟩);refine zb ?_|refine q_k 4 ?_;refine q_x (zH (hr:=g7)) ?_)
  refine zy (k+1,m,r) hlt ?_ ?_ ?_
  ·show n-(k+1)<n-k;omega
  ·exact q_h
  ·exact q_h
 obtain rfl:k=n:=q_o;rw[A6 q_o];have g2:decide (((k:Int)-1-(k:Int))>=0)=false:=q_f;repeat' (first|refine s_0 ?_|refine q_k 3 ?_;refine q_v (zP (hr:=g2)) ?_|refine q_k 6 ?_)
 exact zaw rfl (zr rfl) (R:=[.row (.slice a k c) 5 1 k ((beN v k).map v8)]) q_h ⟨a,c,by rw[j],by rw[j]⟩
theorem znl(v:Int)(w:World)(h1:0<=v)(h2:v<=1099511627776):Sy.Fn Tryz.prog 81 [.int .i64 v] w No (zcw (zbA v.toNat)):=by
 refine zo Tryz.func81 Tryz.ntmps81 ?_;have r:=λj=>zuq v.toNat 6 j q_o q_e;rw[Ae h1] at r;have q:(beN v.toNat 6).length=6:=zcg _ _;unfold zbA;repeat' (first|refine s_0 ?_|refine q_k 0 ?_|refine q_k 1 ?_;(refine q_s (zh (hc:=λj X B m=>r j)) ?_;rintro _ _ ⟨R,rfl,t,A,rfl,rfl⟩);(refine q_s (zh (hc:=λj X B m=>zdb 24 t _ A (beN v.toNat 6) _ j q_e (zaq m rfl q_h) q_o rfl)) ?_;rintro _ _ ⟨R,rfl,C,E,rfl,rfl⟩);refine zb ?_)
 exact q_r
theorem zrK(v:Nat)(w:World)(hv:v<9223372036854775808):Sy.Fn Tryz.prog 83 [.int .i64 (v:Int)] w No (zcw (zbs v)):=by
 refine zo Tryz.func83 Tryz.ntmps83 ?_;have g1:(v:Int).tmod 256=((v%256:Nat):Int):=znV v 256;have g2:=u8M v;have g3:IntKind.i64.wrap ((v:Int).tdiv 256)=((v/256^(0+1):Nat):Int):=by rw[AR,Ej];exact zcV (k:=256) q_o
 have V: [Value.int .u8 (Wd.n8 (UInt8.ofNat v))]=(beN v (0+1)).map v8:=by rw[beN,Ad,C7];rfl
 repeat' (first|refine s_t ?_|refine q_k 0 ?_|refine q_k 1 ?_;refine q_v (zaN (hr:=g1)) ?_;refine q_v (zal (hr:=g2)) ?_;(refine q_s zw ?_;rintro _ _ ⟨_,rfl,rfl⟩);refine zb ?_|refine q_k 2 ?_;refine q_x (zbb (hr:=g3)) ?_)
 rename_i Q;rw[V];refine zbn (zdx (b:=Q) (E:=5) (s:=1) (n:=1) (xs:=(beN v (0+1)).map v8) (by exact F1) (by rw[A0,zcg]) (by unfold maxLen;decide)) ?_;refine zE (γ:=Nat×Option Addr×Nat) (λg=>[(0,.int .i64 ((v/256^(g.1+1):Nat):Int)),(3,.slice g.2.1 (g.1+1) g.2.2)]) (λg=>[.row (.slice g.2.1 (g.1+1) g.2.2) 5 1 (g.1+1) ((beN v (g.1+1)).map v8)]) (λg=>g.1<=8/\(g.1=0\/256^g.1<=v)) (λg=>v/256^(g.1+1)) (0,some ⟨Q,0,none⟩,1) ⟨AE _,.inl rfl⟩ ?_ ?_ ?_
 ·exact q_h
 ·exact q_h
 rintro⟨j,a,c⟩ ⟨L,hj⟩;dsimp only at L hj ⊢;by_cases hr:v/256^(j+1)=0
 ·have r:v<256^(j+1):=by
   rcases AH v (256^(j+1)) with h|h
   ·exact h
   ·have:=DZ h (AP q_e);omega
  have O:=zjk j v r hj;have k1:decide (((v/256^(j+1):Nat):Int)>0)=false:=q_f;repeat' (first|refine s_0 ?_|refine q_k 3 ?_;refine q_v (zF (hr:=k1)) ?_)
  refine ziQ (a:=a) (cp:=c) (E:=5) (s:=1) (n:=j+1) (xs:=(beN v (j+1)).map v8) (by exact F1) q_o λb J W hJ hc hm hx=>?_;subst W;have q:((beN v (j+1)).map v8++J)[0]?=some (.int .u8 (Wd.n8 (UInt8.ofNat (v/256^j)))):=rfl;have N:Wd.n8 (UInt8.ofNat (v/256^j))=((v/256^j:Nat):Int):=by
   rw[Wd.n8_of_nat];have:v/256^j<256:=by rw[AW (AP q_e),A8,<-AJ];exact r
   rw[A3 this]
  rw[N] at q;have C:Seg ((beN v (j+1)).map v8++J) 0 ((beN v (j+1)).map v8):=λi u S=>by rw[AR,Aq (AQ.1 S).1];exact S
  unfold zbs;rw[O];by_cases hb:128<=v/256^j
  ·rw[if_pos hb];have k2:decide (((v/256^j:Nat):Int)>=128)=true:=q_d;have e: [Value.int .u8 0]++(beN v (j+1)).map v8=(beN v (j+2)).map v8:=by
    show _=(beN v (j+1+1)).map v8;rw[beN.eq_2 v (j+1),Al r];rfl
   generalize beN v (j+1)=l at*;have H:=zcg v (j+2);generalize beN v (j+2)=B at*;repeat' (first|refine s_0 ?_|refine q_k 6 ?_;refine q_v (zcE (j:=0) (hj:=Nat.succ_pos _)) ?_;refine q_v (zM (hv:=q)) ?_;refine q_v (zP (hr:=k2)) ?_|refine zg 7 ?_;(refine q_s zw ?_;rintro _ _ ⟨_,rfl,rfl⟩);refine zb ?_;(refine q_s (zbH (hr:=Rd.of (Fb (by exact F6) C)) (m:=j+1) (hn:=by rw[Af];rwa[Af] at hx) (hys:=e) (hkm:=(by omega:1+(j+1)=j+2))) ?_;rintro _ _ ⟨rfl,F,G,rfl⟩);refine zb ?_|refine q_k 8 ?_;(refine q_s (zh (hc:=λP X Y A=>zdb 2 F _ G B _ P q_e (zaq A H q_h) q_o rfl)) ?_;rintro _ _ ⟨R,rfl,T,U,rfl,rfl⟩);refine zb ?_)
   exact q_r
  ·rw[if_neg hb];have k2:decide (((v/256^j:Nat):Int)>=128)=false:=q_f;have H:=zcg v (j+1);generalize beN v (j+1)=l at*;repeat' (first|refine s_0 ?_|refine q_k 6 ?_;refine q_v (zcE (j:=0) (hj:=Nat.succ_pos _)) ?_;refine q_v (zM (hv:=q)) ?_;refine q_v (zP (hr:=k2)) ?_|refine q_k 8 ?_;(refine q_s (zh (hc:=λP X Y A=>zdb 2 (some ⟨b,0,none⟩) (j+1) c l _ P q_e ⟨H,hc,.inr ⟨b,0,rfl,zp (A.has q_h) C⟩,λh=>by cases h⟩ q_o rfl)) ?_;rintro _ _ ⟨R,rfl,T,U,rfl,rfl⟩);refine zb ?_)
   exact q_r
 ·refine zen (p:=a=none->c=0) (λw A h=>(Fv A F6 h).1) λhnil=>?_;have I:256^(j+1)<=v:=by
   rcases AH v (256^(j+1)) with h|h
   ·exact absurd (Al h) hr
   ·exact h
  have K:j+1<=8:=by
   rcases AH j 8 with h|h
   ·omega
   ·have:=AA (show 0<256 by decide) (show 8<=j+1 by omega);have h8:256^8=18446744073709551616:=by decide
    omega
  have t:0<v/256^(j+1):=Nat.pos_of_ne_zero hr;have k1:decide (((v/256^(j+1):Nat):Int)>0)=true:=decide_eq_true (Int.natCast_pos.2 t);have a6:v/256^(j+1)<=v:=Bv _ _;have r:v/256^(j+2)<v/256^(j+1):=by
   rw[AJ 256 (j+1),<-Ak];exact Ef t q_e
  have Z:v/256^(j+1)/256=v/256^(j+2):=by rw[Ak,<-AJ]
  have e: [Value.int .u8 (Wd.n8 (UInt8.ofNat (v/256^(j+1))))]++(beN v (j+1)).map v8=(beN v (j+1+1)).map v8:=rfl;have g4:((v/256^(j+1):Nat):Int).tmod 256=((v/256^(j+1)%256:Nat):Int):=znV _ 256;have g5:=u8M (v/256^(j+1));have g6:IntKind.i64.wrap (((v/256^(j+1):Nat):Int).tdiv 256)=((v/256^(j+2):Nat):Int):=by rw[<-Z];exact zcV (k:=256) q_o
  have M:=zcg v (j+1);repeat' (first|refine s_t ?_|refine q_k 3 ?_;refine q_v (zF (hr:=k1)) ?_|refine q_k 5 ?_;refine q_v (zaN (hr:=g4)) ?_;refine q_v (zal (hr:=g5)) ?_;(refine q_s zw ?_;rintro _ _ ⟨_,rfl,rfl⟩);refine zb ?_;(refine q_s (zbH (m:=j+1) (hn:=by rw[A0,M,Af]) (hnil:=hnil) (hys:=e) (hkm:=(by omega:1+(j+1)=j+1+1))) ?_;rintro _ _ ⟨rfl,F,G,rfl⟩);refine zb ?_|refine q_k 4 ?_;refine q_x (zbb (hr:=g6)) ?_)
  refine zy (j+1,F,G) ⟨K,.inr I⟩ r ?_ ?_
  ·exact q_h
  ·exact q_h
theorem zov(a:Option Addr)(m d:Nat)(xs:List Bs)(D:List UInt8)(w:World)(hm:xs.length=m)(U:m<1000)(V:m<=d)(I:SlA w a (xs.map Bs.val))(G:∀s∈xs,s.ok w)(hb:(Bs.cat xs).length<16777216)(Q:D=tlv 0x30 (Bs.cat xs)):
  Sy.Fn Tryz.prog 42 [.slice a m d] w No (zcw D):=by
 subst Q;refine zo Tryz.func42 Tryz.ntmps42 ?_;have C:∀i,(Bs.cat (xs.take i)).length<=(Bs.cat xs).length:=λi=>by
  have:Bs.cat xs=Bs.cat (xs.take i)++Bs.cat (xs.drop i):=by unfold Bs.cat;rw[<-CS,B7]
  rw[this,A2];omega
 have A:=λi (h:i<m)=>Fx xs i q_o;repeat' (first|refine s_t ?_|refine zK [0,1,2] ?_;refine zb ?_)
 refine zbn (zaO 5 1) ?_;refine zE (γ:=Nat×Option Addr×Nat) (λg=>[(0,.slice a m d),(4,.int .i64 (g.1:Int)),(3,.slice g.2.1 (Bs.cat (xs.take g.1)).length g.2.2)]) (λg=>[.row (.slice g.2.1 (Bs.cat (xs.take g.1)).length g.2.2) 5 1 (Bs.cat (xs.take g.1)).length ((Bs.cat (xs.take g.1)).map v8)]) (λg=>g.1<=m) (λg=>m-g.1) (0,none,0) (AE _) ?_ ?_ ?_
 ·exact q_h
 ·exact q_h
 rintro⟨i,M,O⟩ T;dsimp only at T ⊢;by_cases hlt:i<m
 ·obtain⟨bl,ol,rfl,t⟩:=Bs.get I (i:=i) q_o;have hc:=t i q_o;have F:=G xs[i] (Ah q_o);have L:=A i hlt;have B:=C (i+1);have q:xs[i].l.length=xs[i].n:=F.len;have H:=F.sla;have E:=F.nil;have e:(Bs.cat (xs.take i)).map v8++xs[i].l.map v8=(Bs.cat (xs.take (i+1))).map v8:=by rw[L];exact Aw.symm
  have J:(Bs.cat (xs.take i)).length+xs[i].n=(Bs.cat (xs.take (i+1))).length:=by rw[L];simp only[A2,q]
  generalize Bs.cat (xs.take i)=K at*;obtain⟨Y,r⟩:∃k,k=Bs.cat (xs.take (i+1)):=⟨_,rfl⟩;rw[<-r] at e J B;generalize xs[i]=s at*;obtain⟨sa,sn,sc,sl⟩:=s;dsimp only at*;have g1:decide ((i:Int)<(m:Int))=true:=q_d;have g6:IntKind.i64.wrap ((i:Int)+1)=((i+1:Nat):Int):=q_w;repeat' (first|refine s_t ?_|refine q_k 3 ?_;refine q_v (zl (hr:=g1)) ?_|refine q_k 5 ?_;refine q_v (zL (j:=i)) ?_;refine q_v (zn (hv:=hc)) ?_;(refine q_s (zak (hr:=FZ H (λ_ _ h=>h)) (hn:=by rw[A0,q,Af]) (hnil:=E) (hys:=e) (hkm:=J)) ?_;rintro _ _ ⟨rfl,N,P,rfl⟩);refine zb ?_|refine q_k 4 ?_;refine q_x (zA (hr:=g6)) ?_)
  refine zy (i+1,N,P) hlt ?_ ?_ ?_
  ·show m-(i+1)<m-i;omega
  ·dsimp only;rw[<-r];exact q_h
  ·dsimp only;rw[<-r];exact q_h
 obtain rfl:i=m:=q_o;rw[A6 q_o];have g6:decide ((i:Int)<(i:Int))=false:=q_f;generalize Bs.cat xs=K at*;repeat' (first|refine s_0 ?_|refine q_k 3 ?_;refine q_v (zl (hr:=g6)) ?_|refine q_k 6 ?_;(refine q_s (zh (hc:=λW X hk S=>zdb 48 M _ O K _ W q_e (zaq S rfl q_h) hb rfl)) ?_;rintro _ _ ⟨R,rfl,Z,cE,rfl,rfl⟩);refine zb ?_)
 exact q_r
theorem zsz(v:Bool)(w:World):Sy.Fn Tryz.prog 82 [.bool v] w No (zcw (zdf v)):=by
 refine zo Tryz.func82 Tryz.ntmps82 ?_;unfold zdf;have A: [Value.int .u8 0]= [(0:UInt8)].map v8:=rfl;have B: [Value.int .u8 255]= [(255:UInt8)].map v8:=rfl;cases v
 ·rw[show(if false=true then (255:UInt8) else 0)=0 from rfl];repeat' (first|refine s_0 ?_|refine zK [0,1] ?_;refine zb ?_|refine zg 3 ?_;(refine q_s zw ?_;rintro _ _ ⟨j,rfl,rfl⟩))
  rw[A];refine q_s (zh (hc:=λq X C m=>zdb 1 (some ⟨j,0,none⟩) 1 1 [0] _ q q_e (zi9 m rfl q_h) (by show 1<16777216;decide) rfl)) ?_;rintro _ _ ⟨R,rfl,r,t,rfl,rfl⟩;repeat' (first|refine s_0 ?_|(refine zW ?_;first|refine zB ?_|fail)|fail)
  exact q_r
 ·rw[show(if true=true then (255:UInt8) else 0)=255 from rfl];repeat' (first|refine s_0 ?_|refine zK [0,1] ?_;refine zb ?_|refine zg 2 ?_;(refine q_s zw ?_;rintro _ _ ⟨j,rfl,rfl⟩))
  rw[B];refine q_s (zh (hc:=λq X C m=>zdb 1 (some ⟨j,0,none⟩) 1 1 [255] _ q q_e (zi9 m rfl q_h) (by show 1<16777216;decide) rfl)) ?_;rintro _ _ ⟨R,rfl,r,t,rfl,rfl⟩;repeat' (first|refine s_0 ?_|(refine zW ?_;first|refine zB ?_|fail)|fail)
  exact q_r
theorem znj(v:Int)(w:World)(h1:0<=v)(h2:v<=4611686018427387904):Sy.Fn Tryz.prog 83 [.int .i64 v] w No (zcw (zbs v.toNat)):=by
 have:=zrK v.toNat w q_o;rwa[Ae h1] at this
theorem zqT(v:Int)(w:World)(h1:0<=v)(h2:v<=4611686018427387904):Sy.Fn Tryz.prog 79 [.int .i64 v] w No (zcw (zbs v.toNat)):=by
 refine zo Tryz.func79 Tryz.ntmps79 ?_;have h:=λj=>znj v j h1 h2;repeat' (first|refine s_0 ?_|refine q_k 0 ?_|refine q_k 1 ?_;(refine q_s (zh (hc:=λj X t r=>h j)) ?_;rintro _ _ ⟨R,rfl,m,q,rfl,rfl⟩);refine zb ?_)
 exact q_r
theorem znL(b m:Nat)(xs:List Bs)(w:World)(hm:xs.length=m)(j:m<1000)(h:w.rangeAt b 0 (xs.map Bs.val))(q:∀s∈xs,s.ok w)(hb:(Bs.cat xs).length<16777216)(D:List UInt8)(r:D=tlv 0x30 (Bs.cat xs)):
  Sy.Fn Tryz.prog 42 [.slice (some ⟨b,0,none⟩) m m] w No (zcw D):=zov (some ⟨b,0,none⟩) m m xs D w hm j (A4 _) (.inr ⟨b,0,rfl,h⟩) q hb r
theorem zmO(C:List Value)(p:Prin)(w:World)(h:PrinIn w C p)(H:p.ok=true):Sy.Fn Tryz.prog 80 [.agg C.toArray] w No (zcw p.der):=by
 obtain⟨b8,S,T⟩:=Ff H;obtain⟨⟨a1,c1,rfl,n1,m1,s1,z1⟩,-⟩:=h;refine zo Tryz.func80 Tryz.ntmps80 ?_;have V:=λx (hx:x∈p.parts) m=>zoE x m (by have:=S x hx;omega);have I:=λm=>zoE p.realm m q_o;have b0:=Fl H;have b7:=FT H;have F:p.der=tlv 0x30 (zan 0 (tlv 0x30 (p.parts.map zaD).flatten)++zan 1 (zaD p.realm)):=by simp[Prin.der,zdl]
 have b9:=zmC T;unfold zX at*;generalize p.der=D at*;obtain⟨parts,realm⟩:=p;dsimp only at*;generalize hn:parts.length=n at*;repeat' (first|refine s_t ?_|refine zg 0 ?_;refine zV ?_;intro _|refine zK [1,2] ?_;refine zb ?_)
 rename_i Y;refine zbn (zaO 23 1) ?_;refine zE (γ:=Nat×List Bs×Option Addr×Nat) (λg=>[(1,.pointer (some ⟨Y,0,none⟩)),(4,.int .i64 (g.1:Int)),(3,.slice g.2.2.1 g.2.1.length g.2.2.2)])
  (λg=> .row (.slice g.2.2.1 g.2.1.length g.2.2.2) 23 1 g.2.1.length (g.2.1.reverse.map Bs.val):: .blk Y 43 [.slice a1 n c1,.string (str realm)]::zfa 5 g.2.1)
  (λg=>g.1<=n/\g.2.1.reverse.map (·.l)=(parts.take g.1).map zaD/\∀s∈g.2.1,s.l.length=s.n) (λg=>n-g.1) (0,[],none,0) ⟨AE _,rfl,λs B=>by cases B⟩ ?_ ?_ ?_
 ·exact q_h
 ·exact q_h
 rintro⟨i,q,aP,cP⟩ ⟨hi,A,J⟩;dsimp only at hi A J ⊢;have W:q.length=i:=by have:=congrArg List.length A;simp at this;omega
 by_cases hlt:i<n
 ·obtain⟨bl,ol,rfl,G⟩:=zdV s1 (i:=i) (by rw[List.length_map];omega);have hc:=G i _ (zdg _ q_o);have g1:decide ((i:Int)<(n:Int))=true:=q_d;have g5:IntKind.i64.wrap ((i:Int)+1)=((i+1:Nat):Int):=q_w;have b2:parts.take (i+1)=parts.take i++[parts[i]]:=zaP q_o;have a9:parts[i]∈parts:=Ah q_o;have hx:=V parts[i] a9;generalize parts[i]=x at*;repeat' (first|refine s_t ?_|refine q_k 3 ?_;refine zk ?_;refine zb ?_;refine q_v (zl (hr:=g1)) ?_|refine q_k 5 ?_;refine zk ?_;refine zb ?_;refine q_v (zL (j:=i)) ?_;refine q_v (zn (hv:=hc)) ?_;(refine q_s (zh (hc:=λm X P t=>hx m)) ?_;rintro _ _ ⟨R,rfl,K,L,rfl,rfl⟩);(refine q_s zw ?_;rintro _ _ ⟨_,rfl,rfl⟩);(refine q_s (zak (hys:=zpg q ⟨K,(zaD x).length,L,zaD x⟩) (hkm:=rfl)) ?_;rintro _ _ ⟨rfl,Z,cN,rfl⟩);refine zb ?_)
  refine FJ (fr':=[(1,.pointer (some ⟨Y,0,none⟩)),(4,.int .i64 (i:Int)),(3,.slice Z (q.length+1) cN)]) (L':=.row (.slice Z (q.length+1) cN) 23 1 (q.length+1) ((⟨K,(zaD x).length,L,zaD x⟩::q).reverse.map Bs.val):: .blk Y 43 [.slice (some ⟨bl,ol,none⟩) n c1,.string (str realm)]::zfa 5 (⟨K,(zaD x).length,L,zaD x⟩::q)) ?_ q_h ?_;rotate_left
  ·show SubR (_::_::zn3 5 ⟨K,(zaD x).length,L,zaD x⟩::zfa 5 q) _
   (repeat' (first|exact F2|apply F9;with_reducible (focus ((repeat (first|exact F1|apply F3));done))|apply FC;(focus ((repeat (first|exact F1|apply F3));done))|apply F9;(focus ((repeat (first|exact F1|apply F3));done))|apply FA;(focus ((repeat (first|exact F1|apply F3));done))|rfl))
   all_goals exact FE F8
  repeat' (first|refine zav ?_|refine zai ?_|refine q_k 4 ?_;refine q_x (zA (hr:=g5)) ?_)
  refine zy (i+1,⟨K,(zaD x).length,L,zaD x⟩::q,Z,cN) ⟨hlt,?_,?_⟩ ?_ ?_ ?_
  ·show((⟨K,(zaD x).length,L,zaD x⟩::q).reverse).map (·.l)=_;rw[ztY,A,b2,Aw];rfl
  ·intro s B;rcases Ag.1 B with rfl|B
   ·rfl
   ·exact J s B
  ·show n-(i+1)<n-i;omega
  ·exact q_h
  ·exact F8
 obtain rfl:i=n:=q_o;rw[A6 q_o] at A;have O:Bs.cat q.reverse=(parts.map zaD).flatten:=by rw[zoM,A]
 have g1:decide ((i:Int)<(i:Int))=false:=q_f;rw[<-O] at b0 F;have hQ:=(zae 0x30 (Bs.cat q.reverse)).2;have b3:=(zae 0xa0 (tlv 0x30 (Bs.cat q.reverse))).2;have b4:=(zae 0xa1 (zaD realm)).2;repeat' (first|refine s_0 ?_|refine q_k 3 ?_;refine zk ?_;refine zb ?_;refine q_v (zl (hr:=g1)) ?_)
 rw[W]
 (refine zdc (id:=6) [0,3,4] [1,2,5,6,7,8,9] mixed ?_ ?_;kernel_rfl;refine yfv zao (k:=?_);refine yfv zO (k:=?_);refine yfv zM (k:=?_);refine yf0 ?_;try refine yc0 (k:=?_))
 refine ycs (zh (hc:=λm X P t=>zov aP i cP q.reverse _ m (by rw[CV];exact W) q_o (FR t q_h) ((Fu (Mi:=No) t q_h (λ_ h=>h.elim)).sla) (λs B=>zpb (E:=5) t J (λr hr=>AX _ (A9 _ (A9 _ hr))) s (Dl.1 B)) q_o rfl)) (k:=?_);rintro _ _ ⟨R,rfl,aS,cS,rfl,rfl⟩;generalize a6:tlv 0x30 (Bs.cat q.reverse)=Q at*;have a7:0<Q.length:=by rw[<-a6];exact zbF
 have a8:0<(zaD realm).length:=zbF;refine ycs (zh (hc:=λm X P t=>zdk 0 aS Q.length cS Q _ m q_e (zaq t rfl q_h) a7 q_o rfl)) (k:=?_);rintro _ _ ⟨R,rfl,aT,cT,rfl,rfl⟩;refine ycs (zh (hc:=λm X P t=>I m)) (k:=?_);rintro _ _ ⟨R,rfl,aU,cU,rfl,rfl⟩;generalize zaD realm=U at*;refine ycs (zh (hc:=λm X P t=>zdk 1 aU U.length cU U _ m q_e (zaq t rfl q_h) a8 q_o rfl)) (k:=?_);rintro _ _ ⟨R,rfl,aV,cV,rfl,rfl⟩;refine ycs zw (k:=?_);rintro _ _ ⟨bL,rfl,rfl⟩;have b5:(zan 0 Q).length<=300:=by show(tlv 160 Q).length<=300;omega
 have b6:(zan 1 U).length<=300:=by show(tlv 161 U).length<=300;omega
 generalize zan 1 U=N,zan 0 Q=M at*;refine ycs (zh (hc:=λm X P t=>znL bL 2 [⟨aT,M.length,cT,M⟩,⟨aV,N.length,cV,N⟩] m rfl q_e (zp (t.has q_h) F0) (λs B=>by
  simp only[Ag,Bm,or_false] at B;rcases B with rfl|rfl
  ·exact zaq t rfl q_h
  ·exact zaq t rfl q_h) (by rw[show Bs.cat [⟨aT,M.length,cT,M⟩,⟨aV,N.length,cV,N⟩]=M++N by simp[Bs.cat],A2];omega) D (by rw[F];simp[Bs.cat]))) (k:=?_)
 rintro _ _ ⟨R,rfl,aW,cW,rfl,rfl⟩;refine ycv zbM (k:=?_);refine yc0 (k:=?_);repeat' (first|refine s_0 ?_|fail)
 exact zaw rfl (zr rfl) (FA F1 rfl F2) ⟨_,_,rfl,rfl⟩
theorem zhk(p:Pl)(c:Cert)(w:World)(h:CertAt w p c)(r:c.small):Sy.Fn Tryz.prog 37 [.agg (zx p c).toArray] w No (zcw c.body):=by
 refine zo Tryz.func37 Tryz.ntmps37 ?_;have h0:=λj=>zqT c.serial j r.s0 r.s1;have h1:=λj (q:Keep No w j)=>zmO _ _ j (h.iss.keep q) r.iss;have h2:=λj (q:Keep No w j)=>zmO _ _ j (h.sub.keep q) r.sub;have h3:=λj=>znl c.fr j r.f0 r.f1;have h4:=λj=>znl c.til j r.t0 r.t1;have h5:=λj=>zsz c.auth j;have h6:=λj=>znj c.group j r.g0 r.g1;have a8:=r.pub;have h7:=λj (q:Keep No w j)=>zve p.a3 c.pub.length p.k3 c.pub j (h.pub.keep q) q_o;have p0:0<(zbs c.serial.toNat).length:=zbF;have p1:=Fg c.issuer;have p2:=Fg c.subject;have p3:0<(zbA c.fr.toNat).length:=zbF;have p4:0<(zbA c.til.toNat).length:=zbF;have p5:0<(zdf c.auth).length:=zbF;have p6:0<(zbs c.group.toNat).length:=zbF;have p7:0<(zbQ c.pub).length:=zbF;have m0:=(zeP (v:=c.serial.toNat) (by have:=r.s1;omega)).2;have m1:=FT r.iss;have m2:=FT r.sub;have m3:(zbA c.fr.toNat).length<=11:=zcA (by rw[zcg];decide);have m4:(zbA c.til.toNat).length<=11:=zcA (by rw[zcg];decide);have m5:(zdf c.auth).length<=6:=zcA (A4 1);have m6:=(zeP (v:=c.group.toNat) (by have:=r.g1;omega)).2;have m7:(zbQ c.pub).length<=c.pub.length+5:=zcA (A4 _);obtain⟨t,U⟩:∃G,G=zan 0 (zbs c.serial.toNat):=⟨_,rfl⟩;obtain⟨A,V⟩:∃G,G=zan 1 (c.issuer.der):=⟨_,rfl⟩;obtain⟨C,W⟩:∃G,G=zan 2 (c.subject.der):=⟨_,rfl⟩;obtain⟨E,Y⟩:∃G,G=zan 3 (zbA c.fr.toNat):=⟨_,rfl⟩;obtain⟨F,Z⟩:∃G,G=zan 4 (zbA c.til.toNat):=⟨_,rfl⟩;obtain⟨H,e5⟩:∃G,G=zan 5 (zdf c.auth):=⟨_,rfl⟩;obtain⟨I,e6⟩:∃G,G=zan 6 (zbs c.group.toNat):=⟨_,rfl⟩;obtain⟨J,e7⟩:∃G,G=zan 7 (zbQ c.pub):=⟨_,rfl⟩;have K:c.body=tlv 0x30 (t++(A++(C++(E++(F++(H++(I++J))))))):=by rw[U,V,W,Y,Z,e5,e6,e7];simp[Cert.body,zdl]
 generalize c.body=BD at*;unfold zx za7 at*;clear h r;obtain⟨serial,iss,sub,fr,til,auth,group,pub,sig⟩:=c;dsimp only at*;generalize zbQ pub=T,zbs group.toNat=S,zdf auth=Q,zbA til.toNat=P,zbA fr.toNat=O,sub.der=N,iss.der=M,zbs serial.toNat=L at*;have l0:t.length<=L.length+5:=by rw[U];exact(zae (0xa0+0) L).2
 have l1:A.length<=M.length+5:=by rw[V];exact(zae (0xa0+1) M).2
 have l2:C.length<=N.length+5:=by rw[W];exact(zae (0xa0+2) N).2
 have l3:E.length<=O.length+5:=by rw[Y];exact(zae (0xa0+3) O).2
 have l4:F.length<=P.length+5:=by rw[Z];exact(zae (0xa0+4) P).2
 have l5:H.length<=Q.length+5:=by rw[e5];exact(zae (0xa0+5) Q).2
 have l6:I.length<=S.length+5:=by rw[e6];exact(zae (0xa0+6) S).2
 have l7:J.length<=T.length+5:=by rw[e7];exact(zae (0xa0+7) T).2
 repeat' (first|refine s_0 ?_|refine zg 0 ?_;refine zV ?_;intro _)
 (refine zdc (id:=1) [0,1,4,5,8,9,12,13,16,17,20,21,24,25,28,29] [2,3,6,7,10,11,14,15,18,19,22,23,26,27,30,31,32,33,34] mixed ?_ ?_;kernel_rfl;refine yfv zO (k:=?_);refine yfv zM (k:=?_);refine yfv zO (k:=?_);refine yfv (ze (B:=[.slice p.a1 iss.parts.length p.k1,zX iss.realm]) (hv:=FG rfl)) (k:=?_);refine yfv zO (k:=?_);refine yfv (ze (B:=[.slice p.a2 sub.parts.length p.k2,zX sub.realm]) (hv:=FG rfl)) (k:=?_);refine yfv zO (k:=?_);refine yfv zM (k:=?_);refine yfv zO (k:=?_);refine yfv zM (k:=?_);refine yfv zO (k:=?_);refine yfv zM (k:=?_);refine yfv zO (k:=?_);refine yfv zM (k:=?_);refine yfv zO (k:=?_);refine yfv zM (k:=?_);refine yf0 ?_;try refine yc0 (k:=?_))
 refine ycs (zh (hc:=λj X q m=>h0 j)) (k:=?_);rintro _ _ ⟨R,rfl,a0,c0,rfl,rfl⟩;refine ycs (zh (hc:=λj X q m=>zdk 0 a0 L.length c0 L t j q_e (zaq m rfl q_h) p0 q_o U)) (k:=?_);rintro _ _ ⟨R,rfl,b0,d0,rfl,rfl⟩;refine ycs (zh (hc:=zq h1)) (k:=?_);rintro _ _ ⟨R,rfl,a1,c1,rfl,rfl⟩;refine ycs (zh (hc:=λj X q m=>zdk 1 a1 M.length c1 M A j q_e (zaq m rfl q_h) p1 q_o V)) (k:=?_);rintro _ _ ⟨R,rfl,b1,d1,rfl,rfl⟩;refine ycs (zh (hc:=zq h2)) (k:=?_);rintro _ _ ⟨R,rfl,a2,c2,rfl,rfl⟩;refine ycs (zh (hc:=λj X q m=>zdk 2 a2 N.length c2 N C j q_e (zaq m rfl q_h) p2 q_o W)) (k:=?_);rintro _ _ ⟨R,rfl,b2,d2,rfl,rfl⟩;refine ycs (zh (hc:=λj X q m=>h3 j)) (k:=?_);rintro _ _ ⟨R,rfl,a3,c3,rfl,rfl⟩;refine ycs (zh (hc:=λj X q m=>zdk 3 a3 O.length c3 O E j q_e (zaq m rfl q_h) p3 q_o Y)) (k:=?_);rintro _ _ ⟨R,rfl,b3,d3,rfl,rfl⟩;refine ycs (zh (hc:=λj X q m=>h4 j)) (k:=?_);rintro _ _ ⟨R,rfl,a4,c4,rfl,rfl⟩;refine ycs (zh (hc:=λj X q m=>zdk 4 a4 P.length c4 P F j q_e (zaq m rfl q_h) p4 q_o Z)) (k:=?_);rintro _ _ ⟨R,rfl,b4,d4,rfl,rfl⟩;refine ycs (zh (hc:=λj X q m=>h5 j)) (k:=?_);rintro _ _ ⟨R,rfl,a5,c5,rfl,rfl⟩;refine ycs (zh (hc:=λj X q m=>zdk 5 a5 Q.length c5 Q H j q_e (zaq m rfl q_h) p5 q_o e5)) (k:=?_);rintro _ _ ⟨R,rfl,b5,d5,rfl,rfl⟩;refine ycs (zh (hc:=λj X q m=>h6 j)) (k:=?_);rintro _ _ ⟨R,rfl,a6,c6,rfl,rfl⟩;refine ycs (zh (hc:=λj X q m=>zdk 6 a6 S.length c6 S I j q_e (zaq m rfl q_h) p6 q_o e6)) (k:=?_);rintro _ _ ⟨R,rfl,b6,d6,rfl,rfl⟩;refine ycs (zh (hc:=zq h7)) (k:=?_);rintro _ _ ⟨R,rfl,a7,c7,rfl,rfl⟩;refine ycs (zh (hc:=λj X q m=>zdk 7 a7 T.length c7 T J j q_e (zaq m rfl q_h) p7 q_o e7)) (k:=?_);rintro _ _ ⟨R,rfl,b7,d7,rfl,rfl⟩;refine ycs zw (k:=?_);rintro _ _ ⟨bL,rfl,rfl⟩;refine ycs (zh (hc:=λj X q m=>znL bL 8 [⟨b0,t.length,d0,t⟩,⟨b1,A.length,d1,A⟩,⟨b2,C.length,d2,C⟩,⟨b3,E.length,d3,E⟩,⟨b4,F.length,d4,F⟩,⟨b5,H.length,d5,H⟩,⟨b6,I.length,d6,I⟩,⟨b7,J.length,d7,J⟩] j rfl q_e (zp (m.has q_h) F0) (λs r=>by
   simp only[Ag,Bm,or_false] at r;rcases r with rfl|rfl|rfl|rfl|rfl|rfl|rfl|rfl
   ·exact zaq m rfl q_h
   ·exact zaq m rfl q_h
   ·exact zaq m rfl q_h
   ·exact zaq m rfl q_h
   ·exact zaq m rfl q_h
   ·exact zaq m rfl q_h
   ·exact zaq m rfl q_h
   ·exact zaq m rfl q_h) (by rw[show Bs.cat [⟨b0,t.length,d0,t⟩,⟨b1,A.length,d1,A⟩,⟨b2,C.length,d2,C⟩,⟨b3,E.length,d3,E⟩,⟨b4,F.length,d4,F⟩,⟨b5,H.length,d5,H⟩,⟨b6,I.length,d6,I⟩,⟨b7,J.length,d7,J⟩]=t++(A++(C++(E++(F++(H++(I++J)))))) by simp[Bs.cat]];simp only[A2];omega) BD (by rw[K];simp[Bs.cat]))) (k:=?_)
 rintro _ _ ⟨R,rfl,aW,cW,rfl,rfl⟩;refine ycv zbM (k:=?_);refine yc0 (k:=?_);repeat' (first|refine s_0 ?_|fail)
 exact zaw rfl (zr rfl) (FA F1 rfl F2) ⟨_,_,rfl,rfl⟩
end Go.Proofs.YtdnlngbjpdbffaaGreatDoor
