/- Lemmas of this proof. -/
import Derived.Test.YtdnlngbjpdbffaaGreatDoorWJ33
set_option maxHeartbeats 4000000
set_option maxRecDepth 10000
set_option linter.all false
namespace Go.Ct
open Go Go.Sy
theorem zoZ(p k:Nat):(p:Int).tmod (k:Int)=((p%k:Nat):Int):=rfl
theorem u8M(x:Nat):IntKind.u8.wrap ((x%256:Nat):Int)=Wd.n8 (UInt8.ofNat x):=by rw[u8N,Wd.n8_of_nat,Wd.n8_of_nat,En]
theorem zpM(v:Nat):∀(n k:Nat),k<n->(beN v n)[k]?=some (UInt8.ofNat (v/256^(n-1-k)))
 |n+1,0,_=>by rw[beN,C6];simp
 |n+1,k+1,h=>by
  rw[beN,B9,zpM v n k q_o,show n+1-1-(k+1)=n-1-k by omega]
theorem zvn(v n k:Nat)(h:k<n):(beN v n).take (k+1)=(beN v n).take k++[UInt8.ofNat (v/256^(n-1-k))]:=by
 rw[CE,zpM v n k h];rfl
end Go.Ct
namespace Go.Proofs.YtdnlngbjpdbffaaGreatDoor
section
open Go Go.Sy Go.Ct Go.Nt Go.RowKit
attribute [local irreducible] Sy SyL SyX SyC SyF Sy.Fn callFunc
theorem zw8(t:Nat)(s:Bs)(w:World)(M:t<256)(G:s.ok w)(hb:s.l.length<16777216):Sy.Fn Tryz.prog 85 [.int .i64 (t:Int),s.val] w No (zbi (tlv t s.l)):=by
 refine zt Tryz.func85 Tryz.ntmps85 ?_;obtain⟨a,n,c,l⟩:=s;have E:=G.len;have B:=G.sla;have A:=G.nil;dsimp only at E B A hb ⊢;rw[show(⟨a,n,c,l⟩:Bs).val= .slice a n c from rfl];obtain⟨H,F⟩:∃H,H=UInt8.ofNat t::zbW n:=⟨_,rfl⟩;have C:tlv t l=H++l:=by rw[F];unfold tlv;rw[E];rfl
 have K:H.length<=5:=by rw[F,AQ];have:=zko n;omega
 have m:H.map v8= .int .u8 (t:Int)::(zbW n).map v8:=by rw[F,Aw,<-v8_lit t M]
 rw[zpX] at m;have g0:IntKind.u8.wrap (t:Int)=(t:Int):=IntWalk.u8_in _ q_o;have g1:=u8N n;have g2:=u8M n;have g3:=u8N (n/256);have g4:=u8M (n/256);have g5:=u8N (n/65536);have I:IntKind.i64.wrap ((n:Int).tdiv 256)=((n/256:Nat):Int):=zdn (k:=256) q_o;have N:IntKind.i64.wrap ((n:Int).tdiv 65536)=((n/65536:Nat):Int):=zdn (k:=65536) q_o;have J:(n:Int).tmod 256=((n%256:Nat):Int):=zoZ n 256;have O:((n/256:Nat):Int).tmod 256=((n/256%256:Nat):Int):=zoZ (n/256) 256;rw[C];repeat' (first|refine s_0 ?_|refine zD [0,1] ?_;refine zb ?_|refine q_k 2 ?_;refine q_v (zam (hr:=g0)) ?_;(refine q_s zz ?_;rintro _ _ ⟨_,rfl,rfl⟩);refine zb ?_)
 rename_i Q;refine zcn (γ:=Option Addr×Nat) (λg=>[(1,.slice a n c),(6,.slice g.1 H.length g.2)]) (λg=>[.row (.slice g.1 H.length g.2) 5 1 H.length (H.map v8)]) (λ_=>True) ?_ ?_
 ·have L:n<128\/(128<=n/\n<256)\/(256<=n/\n<65536)\/65536<=n:=q_o;rcases L with h|h|h|h
  ·rw[if_pos h] at m;have e: [Value.int .u8 (t:Int)]++[.int .u8 (Wd.n8 (UInt8.ofNat n))]=H.map v8:=m.symm;have j:1+1=H.length:=by rw[<-A0 v8,<-e];rfl
   have k1:decide ((n:Int)<128)=true:=q_d;repeat' (first|refine s_t ?_|refine q_k 4 ?_;refine q_x (zo (hr:=k1)) ?_|refine q_k 5 ?_;refine q_v (zam (hr:=g1)) ?_;(refine q_s zz ?_;rintro _ _ ⟨_,rfl,rfl⟩);(refine q_s (zb4 (hys:=e) (hkm:=j)) ?_;rintro _ _ ⟨rfl,q,r,rfl⟩);refine zb ?_)
   exact zak (q,r) trivial q_h q_h
  ·rw[if_neg q_o,if_pos h.2] at m;have e: [Value.int .u8 (t:Int)]++[.int .u8 129,.int .u8 (Wd.n8 (UInt8.ofNat n))]=H.map v8:=m.symm;have j:1+2=H.length:=by rw[<-A0 v8,<-e];rfl
   have k1:decide ((n:Int)<128)=false:=q_f;have k2:decide ((n:Int)<256)=true:=q_d;repeat' (first|refine s_t ?_|refine q_k 4 ?_;refine q_x (zo (hr:=k1)) ?_|refine q_k 6 ?_;refine q_x (zo (hr:=k2)) ?_|refine q_k 7 ?_;refine q_v (zam (hr:=g1)) ?_;(refine q_s zz ?_;rintro _ _ ⟨_,rfl,rfl⟩);(refine q_s (zb4 (hys:=e) (hkm:=j)) ?_;rintro _ _ ⟨rfl,q,r,rfl⟩);refine zb ?_)
   exact zak (q,r) trivial q_h q_h
  ·rw[if_neg q_o,if_neg q_o,if_pos h.2] at m;have e: [Value.int .u8 (t:Int)]++[.int .u8 130,.int .u8 (Wd.n8 (UInt8.ofNat (n/256))),.int .u8 (Wd.n8 (UInt8.ofNat n))]=H.map v8:=m.symm;have j:1+3=H.length:=by rw[<-A0 v8,<-e];rfl
   have k1:decide ((n:Int)<128)=false:=q_f;have k2:decide ((n:Int)<256)=false:=q_f;have k3:decide ((n:Int)<65536)=true:=q_d;repeat' (first|refine s_t ?_|refine q_k 4 ?_;refine q_x (zo (hr:=k1)) ?_|refine q_k 6 ?_;refine q_x (zo (hr:=k2)) ?_|refine q_k 8 ?_;refine q_x (zo (hr:=k3)) ?_|refine q_k 9 ?_;refine q_v (zbv (hr:=I)) ?_;refine q_x (zam (hr:=g3)) ?_;refine q_v (zbE (hr:=J)) ?_;refine q_v (zam (hr:=g2)) ?_;(refine q_s zz ?_;rintro _ _ ⟨_,rfl,rfl⟩);(refine q_s (zb4 (hys:=e) (hkm:=j)) ?_;rintro _ _ ⟨rfl,q,r,rfl⟩);refine zb ?_)
   exact zak (q,r) trivial q_h q_h
  ·rw[if_neg q_o,if_neg q_o,if_neg q_o] at m;have e: [Value.int .u8 (t:Int)]++[.int .u8 131,.int .u8 (Wd.n8 (UInt8.ofNat (n/65536))),.int .u8 (Wd.n8 (UInt8.ofNat (n/256))),.int .u8 (Wd.n8 (UInt8.ofNat n))]=H.map v8:=m.symm;have j:1+4=H.length:=by rw[<-A0 v8,<-e];rfl
   have k1:decide ((n:Int)<128)=false:=q_f;have k2:decide ((n:Int)<256)=false:=q_f;have k3:decide ((n:Int)<65536)=false:=q_f;repeat' (first|refine s_t ?_|refine q_k 4 ?_;refine q_x (zo (hr:=k1)) ?_|refine q_k 6 ?_;refine q_x (zo (hr:=k2)) ?_|refine q_k 8 ?_;refine q_x (zo (hr:=k3)) ?_|refine q_k 3 ?_;refine q_v (zbv (hr:=N)) ?_;refine q_x (zam (hr:=g5)) ?_;refine q_v (zbv (hr:=I)) ?_;refine q_v (zbE (hr:=O)) ?_;refine q_x (zam (hr:=g4)) ?_;refine q_v (zbE (hr:=J)) ?_;refine q_v (zam (hr:=g2)) ?_;(refine q_s zz ?_;rintro _ _ ⟨_,rfl,rfl⟩);(refine q_s (zb4 (hys:=e) (hkm:=j)) ?_;rintro _ _ ⟨rfl,q,r,rfl⟩);refine zb ?_)
   exact zak (q,r) trivial q_h q_h
 rintro⟨P,R⟩ -;dsimp only;have e:H.map v8++l.map v8=(H++l).map v8:=Aq.symm;have j:H.length+n=(H++l).length:=by rw[List.length_append,E]
 repeat' (first|refine s_0 ?_|refine q_k 10 ?_;(refine q_s (zaE (hr:=FM B (λ_ _ h=>h)) (hn:=by rw[A0,E,Ak]) (hnil:=A) (hys:=e) (hkm:=j)) ?_;rintro _ _ ⟨rfl,q,r,rfl⟩);refine zb ?_)
 exact q_r
theorem zdB(t:Nat)(a:Option Addr)(n c:Nat)(l D:List UInt8)(w:World)(q:t<256)(m:(⟨a,n,c,l⟩:Bs).ok w)(hb:l.length<16777216)(j:D=tlv t l):Sy.Fn Tryz.prog 85 [.int .i64 (t:Int),.slice a n c] w No (zbi D):=by
 subst j;exact zw8 t ⟨a,n,c,l⟩ w q m hb
theorem zqk(a:Option Addr)(n c:Nat)(l:List UInt8)(w:World)(q:(⟨a,n,c,l⟩:Bs).ok w)(hb:l.length<16777216):Sy.Fn Tryz.prog 78 [.slice a n c] w No (zbi (za8 l)):=by
 refine zt Tryz.func78 Tryz.ntmps78 ?_;have h:=λj (m:Keep No w j)=>zdB 4 a n c l (za8 l) j q_e (q.keep m) hb rfl;generalize za8 l=D at*;repeat' (first|refine s_0 ?_|refine q_k 0 ?_|refine q_k 1 ?_;(refine q_s (zi (hc:=zu h)) ?_;rintro _ _ ⟨R,rfl,r,A,rfl,rfl⟩);refine zb ?_)
 exact q_r
theorem zda(n:Nat)(a:Option Addr)(m c:Nat)(l D:List UInt8)(w:World)(hn:n<=30)(j:(⟨a,m,c,l⟩:Bs).ok w)(h0:0<l.length)(hb:l.length<16777216)(r:D=zaw n l):Sy.Fn Tryz.prog 77 [.int .i64 (n:Int),.slice a m c] w No (zbi D):=by
 refine zt Tryz.func77 Tryz.ntmps77 ?_;have h:=λq (A:Keep No w q)=>zdB (0xa0+n) a m c l D q q_o (j.keep A) hb r;have B:=j.len;dsimp only at B;have g1:decide ((m:Int)=0)=false:=q_f;have g2:IntKind.i64.wrap (160+(n:Int))=((160+n:Nat):Int):=q_w;repeat' (first|refine s_0 ?_|refine q_k 0 ?_|refine q_k 1 ?_;refine q_v (zS (hr:=g1)) ?_|refine q_k 3 ?_;refine q_x (zF (hr:=g2)) ?_;(refine q_s (zi (hc:=zu h)) ?_;rintro _ _ ⟨R,rfl,C,E,rfl,rfl⟩);refine zb ?_)
 exact q_r
theorem zpW(l:List UInt8)(w:World)(hb:l.length<16777216):Sy.Fn Tryz.prog 170 [zT l] w No (zbi (zav l)):=by
 refine zt Tryz.func170 Tryz.ntmps170 ?_;unfold zT;have h:=λj b k (A:(⟨some ⟨b,0,none⟩,l.length,k,l⟩:Bs).ok j)=>zdB 27 (some ⟨b,0,none⟩) l.length k l (zav l) j q_e A hb rfl;generalize zav l=D at*;repeat' (first|refine s_0 ?_|refine zD [0,1] ?_;refine zb ?_|refine q_s (zj3 (l:=l)) ?_;rintro _ _ ⟨m,J,rfl,rfl⟩|(refine zy ?_;first|refine q_s (zi (hc:=λj X r q=>h j m _ (zv3 r q rfl (EC _ _) F1))) ?_;rintro _ _ ⟨R,rfl,B,C,rfl,rfl⟩|refine zw ?_|fail)|fail)
 exact q_r
theorem zxS(v n:Nat)(w:World)(hv:v<9223372036854775808)(hn:n<=8):Sy.Fn Tryz.prog 171 [.int .i64 (v:Int),.int .i64 (n:Int)] w No (zbi (beN v n)):=by
 refine zt Tryz.func171 Tryz.ntmps171 ?_;have g1:IntKind.i64.wrap ((n:Int)-1)=(n:Int)-1-((0:Nat):Int):=q_w;have j:=zbp v n;repeat' (first|refine s_t ?_|refine zD [0,1] ?_;refine zb ?_|refine q_k 2 ?_;refine q_x (zI (hr:=g1)) ?_)
 refine zbz (za3 5 1) ?_;refine zN (γ:=Nat×Option Addr×Nat) (λg=>[(0,.int .i64 (v:Int)),(6,.int .i64 ((n:Int)-1-(g.1:Int))),(5,.slice g.2.1 g.1 g.2.2)]) (λg=>[.row (.slice g.2.1 g.1 g.2.2) 5 1 g.1 (((beN v n).take g.1).map v8)]) (λg=>g.1<=n) (λg=>n-g.1) (0,none,0) (A9 _) ?_ ?_ ?_
 ·exact q_h
 ·exact q_h
 rintro⟨k,a,c⟩ B;dsimp only at B ⊢;by_cases hlt:k<n
 ·have A:((n:Int)-1-(k:Int))=((n-1-k:Nat):Int):=q_o;rw[A];have g2:decide (((n-1-k:Nat):Int)>=0)=true:=q_d;have g3:IntKind.i64.wrap (8*((n-1-k:Nat):Int))=((8*(n-1-k):Nat):Int):=q_w;have g4:Op.shift .shr .i64 (v:Int) .i64 ((8*(n-1-k):Nat):Int)=pure (.int .i64 ((v/256^(n-1-k):Nat):Int)):=by
   rw[zvJ v _ _ q_o,BE]
  have g5:((v/256^(n-1-k):Nat):Int).tmod 256=((v/256^(n-1-k)%256:Nat):Int):=zoZ _ 256;have g6:=u8M (v/256^(n-1-k));have g7:IntKind.i64.wrap (((n-1-k:Nat):Int)-1)=(n:Int)-1-((k+1:Nat):Int):=q_w;have e:((beN v n).take k).map v8++[.int .u8 (Wd.n8 (UInt8.ofNat (v/256^(n-1-k))))]=((beN v n).take (k+1)).map v8:=by rw[zvn v n k hlt,Aq];rfl
  generalize v/256^(n-1-k)=q at*;repeat' (first|refine s_t ?_|refine q_k 3 ?_;refine q_v (zP (hr:=g2)) ?_|refine q_k 5 ?_;refine q_v (zaJ (hr:=g3)) ?_;refine q_v (zce (hr:=g4)) ?_;refine q_v (zbE (hr:=g5)) ?_;refine q_v (zam (hr:=g6)) ?_;(refine q_s zz ?_;rintro _ _ ⟨_,rfl,rfl⟩);(refine q_s (zaE (hys:=e) (hkm:=rfl)) ?_;rintro _ _ ⟨rfl,m,r,rfl⟩);refine zb ?_|refine q_k 4 ?_;refine q_x (zI (hr:=g7)) ?_)
  refine zE (k+1,m,r) hlt ?_ ?_ ?_
  ·show n-(k+1)<n-k;omega
  ·exact q_h
  ·exact q_h
 obtain rfl:k=n:=q_o;rw[A8 q_o];have g2:decide (((k:Int)-1-(k:Int))>=0)=false:=q_f;repeat' (first|refine s_0 ?_|refine q_k 3 ?_;refine q_v (zP (hr:=g2)) ?_|refine q_k 6 ?_)
 exact zap rfl (zh rfl) (R:=[.row (.slice a k c) 5 1 k ((beN v k).map v8)]) q_h ⟨a,c,by rw[j],by rw[j]⟩
theorem znM(v:Int)(w:World)(h1:0<=v)(h2:v<=1099511627776):Sy.Fn Tryz.prog 81 [.int .i64 v] w No (zbi (zbq v.toNat)):=by
 refine zt Tryz.func81 Tryz.ntmps81 ?_;have r:=λj=>zxS v.toNat 6 j q_o q_e;rw[AT h1] at r;have q:(beN v.toNat 6).length=6:=zbp _ _;unfold zbq;repeat' (first|refine s_0 ?_|refine q_k 0 ?_|refine q_k 1 ?_;(refine q_s (zi (hc:=λj X C m=>r j)) ?_;rintro _ _ ⟨R,rfl,A,B,rfl,rfl⟩);(refine q_s (zi (hc:=λj X C m=>zdB 24 A _ B (beN v.toNat 6) _ j q_e (zaz m rfl q_h) q_o rfl)) ?_;rintro _ _ ⟨R,rfl,E,F,rfl,rfl⟩);refine zb ?_)
 exact q_r
theorem zsR(v:Nat)(w:World)(hv:v<9223372036854775808):Sy.Fn Tryz.prog 83 [.int .i64 (v:Int)] w No (zbi (zbf v)):=by
 refine zt Tryz.func83 Tryz.ntmps83 ?_;have g1:(v:Int).tmod 256=((v%256:Nat):Int):=zoZ v 256;have g2:=u8M v;have g3:IntKind.i64.wrap ((v:Int).tdiv 256)=((v/256^(0+1):Nat):Int):=by rw[AZ,Ea];exact zdn (k:=256) q_o
 have W: [Value.int .u8 (Wd.n8 (UInt8.ofNat v))]=(beN v (0+1)).map v8:=by rw[beN,An,CF];rfl
 repeat' (first|refine s_t ?_|refine q_k 0 ?_|refine q_k 1 ?_;refine q_v (zbE (hr:=g1)) ?_;refine q_v (zam (hr:=g2)) ?_;(refine q_s zz ?_;rintro _ _ ⟨_,rfl,rfl⟩);refine zb ?_|refine q_k 2 ?_;refine q_x (zbv (hr:=g3)) ?_)
 rename_i S;rw[W];refine zbz (zeb (b:=S) (E:=5) (s:=1) (n:=1) (xs:=(beN v (0+1)).map v8) (by exact Es) (by rw[A0,zbp]) (by unfold maxLen;decide)) ?_;refine zN (γ:=Nat×Option Addr×Nat) (λg=>[(0,.int .i64 ((v/256^(g.1+1):Nat):Int)),(3,.slice g.2.1 (g.1+1) g.2.2)]) (λg=>[.row (.slice g.2.1 (g.1+1) g.2.2) 5 1 (g.1+1) ((beN v (g.1+1)).map v8)]) (λg=>g.1<=8/\(g.1=0\/256^g.1<=v)) (λg=>v/256^(g.1+1)) (0,some ⟨S,0,none⟩,1) ⟨A9 _,.inl rfl⟩ ?_ ?_ ?_
 ·exact q_h
 ·exact q_h
 rintro⟨j,a,c⟩ ⟨M,hj⟩;dsimp only at M hj ⊢;by_cases hr:v/256^(j+1)=0
 ·have r:v<256^(j+1):=by
   rcases AF v (256^(j+1)) with h|h
   ·exact h
   ·have:=DI h (AV q_e);omega
  have P:=zjZ j v r hj;have k1:decide (((v/256^(j+1):Nat):Int)>0)=false:=q_f;repeat' (first|refine s_0 ?_|refine q_k 3 ?_;refine q_v (zH (hr:=k1)) ?_)
  refine zlw (a:=a) (cp:=c) (E:=5) (s:=1) (n:=j+1) (xs:=(beN v (j+1)).map v8) (by exact Es) q_o λb J Y hJ hc hm hx=>?_;subst Y;have q:((beN v (j+1)).map v8++J)[0]?=some (.int .u8 (Wd.n8 (UInt8.ofNat (v/256^j)))):=rfl;have O:Wd.n8 (UInt8.ofNat (v/256^j))=((v/256^j:Nat):Int):=by
   rw[Wd.n8_of_nat];have:v/256^j<256:=by rw[AW (AV q_e),AK,<-AN];exact r
   rw[A7 this]
  rw[O] at q;have F:Seg ((beN v (j+1)).map v8++J) 0 ((beN v (j+1)).map v8):=λi u T=>by rw[AZ,BO (AU.1 T).1];exact T
  unfold zbf;rw[P];by_cases hb:128<=v/256^j
  ·rw[if_pos hb];have k2:decide (((v/256^j:Nat):Int)>=128)=true:=q_d;have e: [Value.int .u8 0]++(beN v (j+1)).map v8=(beN v (j+2)).map v8:=by
    show _=(beN v (j+1+1)).map v8;rw[beN.eq_2 v (j+1),Al r];rfl
   generalize beN v (j+1)=l at*;have I:=zbp v (j+2);generalize beN v (j+2)=B at*;repeat' (first|refine s_0 ?_|refine q_k 6 ?_;refine q_v (zcN (j:=0) (hj:=Nat.succ_pos _)) ?_;refine q_v (zL (hv:=q)) ?_;refine q_v (zP (hr:=k2)) ?_|refine zf 7 ?_;(refine q_s zz ?_;rintro _ _ ⟨_,rfl,rfl⟩);refine zb ?_;(refine q_s (zb4 (hr:=Rd.of (FZ (by exact F1) F)) (m:=j+1) (hn:=by rw[Ak];rwa[Ak] at hx) (hys:=e) (hkm:=(by omega:1+(j+1)=j+2))) ?_;rintro _ _ ⟨rfl,G,H,rfl⟩);refine zb ?_|refine q_k 8 ?_;(refine q_s (zi (hc:=λQ X Z C=>zdB 2 G _ H B _ Q q_e (zaz C I q_h) q_o rfl)) ?_;rintro _ _ ⟨R,rfl,U,V,rfl,rfl⟩);refine zb ?_)
   exact q_r
  ·rw[if_neg hb];have k2:decide (((v/256^j:Nat):Int)>=128)=false:=q_f;have I:=zbp v (j+1);generalize beN v (j+1)=l at*;repeat' (first|refine s_0 ?_|refine q_k 6 ?_;refine q_v (zcN (j:=0) (hj:=Nat.succ_pos _)) ?_;refine q_v (zL (hv:=q)) ?_;refine q_v (zP (hr:=k2)) ?_|refine q_k 8 ?_;(refine q_s (zi (hc:=λQ X Z C=>zdB 2 (some ⟨b,0,none⟩) (j+1) c l _ Q q_e ⟨I,hc,.inr ⟨b,0,rfl,zp (C.has q_h) F⟩,λh=>by cases h⟩ q_o rfl)) ?_;rintro _ _ ⟨R,rfl,U,V,rfl,rfl⟩);refine zb ?_)
   exact q_r
 ·refine zfu (p:=a=none->c=0) (λw C h=>(Fl C F1 h).1) λhnil=>?_;have K:256^(j+1)<=v:=by
   rcases AF v (256^(j+1)) with h|h
   ·exact absurd (Al h) hr
   ·exact h
  have L:j+1<=8:=by
   rcases AF j 8 with h|h
   ·omega
   ·have:=AB (show 0<256 by decide) (show 8<=j+1 by omega);have h8:256^8=18446744073709551616:=by decide
    omega
  have A:0<v/256^(j+1):=Nat.pos_of_ne_zero hr;have k1:decide (((v/256^(j+1):Nat):Int)>0)=true:=decide_eq_true (Int.natCast_pos.2 A);have a6:v/256^(j+1)<=v:=Bv _ _;have r:v/256^(j+2)<v/256^(j+1):=by
   rw[AN 256 (j+1),<-Ap];exact EN A q_e
  have hq:v/256^(j+1)/256=v/256^(j+2):=by rw[Ap,<-AN]
  have e: [Value.int .u8 (Wd.n8 (UInt8.ofNat (v/256^(j+1))))]++(beN v (j+1)).map v8=(beN v (j+1+1)).map v8:=rfl;have g4:((v/256^(j+1):Nat):Int).tmod 256=((v/256^(j+1)%256:Nat):Int):=zoZ _ 256;have g5:=u8M (v/256^(j+1));have g6:IntKind.i64.wrap (((v/256^(j+1):Nat):Int).tdiv 256)=((v/256^(j+2):Nat):Int):=by rw[<-hq];exact zdn (k:=256) q_o
  have N:=zbp v (j+1);repeat' (first|refine s_t ?_|refine q_k 3 ?_;refine q_v (zH (hr:=k1)) ?_|refine q_k 5 ?_;refine q_v (zbE (hr:=g4)) ?_;refine q_v (zam (hr:=g5)) ?_;(refine q_s zz ?_;rintro _ _ ⟨_,rfl,rfl⟩);refine zb ?_;(refine q_s (zb4 (m:=j+1) (hn:=by rw[A0,N,Ak]) (hnil:=hnil) (hys:=e) (hkm:=(by omega:1+(j+1)=j+1+1))) ?_;rintro _ _ ⟨rfl,G,H,rfl⟩);refine zb ?_|refine q_k 4 ?_;refine q_x (zbv (hr:=g6)) ?_)
  refine zE (j+1,G,H) ⟨L,.inr K⟩ r ?_ ?_
  ·exact q_h
  ·exact q_h
theorem zpF(a:Option Addr)(m d:Nat)(xs:List Bs)(D:List UInt8)(w:World)(hm:xs.length=m)(V:m<1000)(W:m<=d)(J:SlA w a (xs.map Bs.val))(H:∀s∈xs,s.ok w)(hb:(Bs.cat xs).length<16777216)(S:D=tlv 0x30 (Bs.cat xs)):
  Sy.Fn Tryz.prog 42 [.slice a m d] w No (zbi D):=by
 subst S;refine zt Tryz.func42 Tryz.ntmps42 ?_;have E:∀i,(Bs.cat (xs.take i)).length<=(Bs.cat xs).length:=λi=>by
  have:Bs.cat xs=Bs.cat (xs.take i)++Bs.cat (xs.drop i):=by unfold Bs.cat;rw[<-CM,Bb]
  rw[this,A2];omega
 have B:=λi (h:i<m)=>Fq xs i q_o;repeat' (first|refine s_t ?_|refine zD [0,1,2] ?_;refine zb ?_)
 refine zbz (za3 5 1) ?_;refine zN (γ:=Nat×Option Addr×Nat) (λg=>[(0,.slice a m d),(4,.int .i64 (g.1:Int)),(3,.slice g.2.1 (Bs.cat (xs.take g.1)).length g.2.2)]) (λg=>[.row (.slice g.2.1 (Bs.cat (xs.take g.1)).length g.2.2) 5 1 (Bs.cat (xs.take g.1)).length ((Bs.cat (xs.take g.1)).map v8)]) (λg=>g.1<=m) (λg=>m-g.1) (0,none,0) (A9 _) ?_ ?_ ?_
 ·exact q_h
 ·exact q_h
 rintro⟨i,N,P⟩ U;dsimp only at U ⊢;by_cases hlt:i<m
 ·obtain⟨bl,ol,rfl,A⟩:=Bs.get J (i:=i) q_o;have hc:=A i q_o;have G:=H xs[i] (Ad q_o);have M:=B i hlt;have C:=E (i+1);have q:xs[i].l.length=xs[i].n:=G.len;have I:=G.sla;have F:=G.nil;have e:(Bs.cat (xs.take i)).map v8++xs[i].l.map v8=(Bs.cat (xs.take (i+1))).map v8:=by rw[M];exact Aq.symm
  have L:(Bs.cat (xs.take i)).length+xs[i].n=(Bs.cat (xs.take (i+1))).length:=by rw[M];simp only[A2,q]
  generalize Bs.cat (xs.take i)=K at*;obtain⟨Z,r⟩:∃k,k=Bs.cat (xs.take (i+1)):=⟨_,rfl⟩;rw[<-r] at e L C;generalize xs[i]=s at*;obtain⟨sa,sn,sc,sl⟩:=s;dsimp only at*;have g1:decide ((i:Int)<(m:Int))=true:=q_d;have g6:IntKind.i64.wrap ((i:Int)+1)=((i+1:Nat):Int):=q_w;repeat' (first|refine s_t ?_|refine q_k 3 ?_;refine q_v (zo (hr:=g1)) ?_|refine q_k 5 ?_;refine q_v (zq (j:=i)) ?_;refine q_v (zn (hv:=hc)) ?_;(refine q_s (zaE (hr:=FM I (λ_ _ h=>h)) (hn:=by rw[A0,q,Ak]) (hnil:=F) (hys:=e) (hkm:=L)) ?_;rintro _ _ ⟨rfl,O,Q,rfl⟩);refine zb ?_|refine q_k 4 ?_;refine q_x (zF (hr:=g6)) ?_)
  refine zE (i+1,O,Q) hlt ?_ ?_ ?_
  ·show m-(i+1)<m-i;omega
  ·dsimp only;rw[<-r];exact q_h
  ·dsimp only;rw[<-r];exact q_h
 obtain rfl:i=m:=q_o;rw[A8 q_o];have g6:decide ((i:Int)<(i:Int))=false:=q_f;generalize Bs.cat xs=K at*;repeat' (first|refine s_0 ?_|refine q_k 3 ?_;refine q_v (zo (hr:=g6)) ?_|refine q_k 6 ?_;(refine q_s (zi (hc:=λY X hk T=>zdB 48 N _ P K _ Y q_e (zaz T rfl q_h) hb rfl)) ?_;rintro _ _ ⟨R,rfl,aE,cE,rfl,rfl⟩);refine zb ?_)
 exact q_r
theorem zuD(v:Bool)(w:World):Sy.Fn Tryz.prog 82 [.bool v] w No (zbi (zcF v)):=by
 refine zt Tryz.func82 Tryz.ntmps82 ?_;unfold zcF;have B: [Value.int .u8 0]= [(0:UInt8)].map v8:=rfl;have C: [Value.int .u8 255]= [(255:UInt8)].map v8:=rfl;cases v
 ·rw[show(if false=true then (255:UInt8) else 0)=0 from rfl];repeat' (first|refine s_0 ?_|refine zD [0,1] ?_;refine zb ?_|refine zf 3 ?_;(refine q_s zz ?_;rintro _ _ ⟨j,rfl,rfl⟩))
  rw[B];refine q_s (zi (hc:=λq X E m=>zdB 1 (some ⟨j,0,none⟩) 1 1 [0] _ q q_e (zjL m rfl q_h) (by show 1<16777216;decide) rfl)) ?_;rintro _ _ ⟨R,rfl,r,A,rfl,rfl⟩;repeat' (first|refine s_0 ?_|(refine zy ?_;first|refine zw ?_|fail)|fail)
  exact q_r
 ·rw[show(if true=true then (255:UInt8) else 0)=255 from rfl];repeat' (first|refine s_0 ?_|refine zD [0,1] ?_;refine zb ?_|refine zf 2 ?_;(refine q_s zz ?_;rintro _ _ ⟨j,rfl,rfl⟩))
  rw[C];refine q_s (zi (hc:=λq X E m=>zdB 1 (some ⟨j,0,none⟩) 1 1 [255] _ q q_e (zjL m rfl q_h) (by show 1<16777216;decide) rfl)) ?_;rintro _ _ ⟨R,rfl,r,A,rfl,rfl⟩;repeat' (first|refine s_0 ?_|(refine zy ?_;first|refine zw ?_|fail)|fail)
  exact q_r
theorem zoo(v:Int)(w:World)(h1:0<=v)(h2:v<=4611686018427387904):Sy.Fn Tryz.prog 83 [.int .i64 v] w No (zbi (zbf v.toNat)):=by
 have:=zsR v.toNat w q_o;rwa[AT h1] at this
theorem zsX(v:Int)(w:World)(h1:0<=v)(h2:v<=4611686018427387904):Sy.Fn Tryz.prog 79 [.int .i64 v] w No (zbi (zbf v.toNat)):=by
 refine zt Tryz.func79 Tryz.ntmps79 ?_;have h:=λj=>zoo v j h1 h2;repeat' (first|refine s_0 ?_|refine q_k 0 ?_|refine q_k 1 ?_;(refine q_s (zi (hc:=λj X A r=>h j)) ?_;rintro _ _ ⟨R,rfl,m,q,rfl,rfl⟩);refine zb ?_)
 exact q_r
theorem zj8(b m:Nat)(xs:List Bs)(w:World)(hm:xs.length=m)(j:m<1000)(h:w.rangeAt b 0 (xs.map Bs.val))(q:∀s∈xs,s.ok w)(hb:(Bs.cat xs).length<16777216)(D:List UInt8)(r:D=tlv 0x30 (Bs.cat xs)):
  Sy.Fn Tryz.prog 42 [.slice (some ⟨b,0,none⟩) m m] w No (zbi D):=zpF (some ⟨b,0,none⟩) m m xs D w hm j (A6 _) (.inr ⟨b,0,rfl,h⟩) q hb r
theorem znE(C:List Value)(p:Prin)(w:World)(h:PrinIn w C p)(I:p.ok=true):Sy.Fn Tryz.prog 80 [.agg C.toArray] w No (zbi p.der):=by
 obtain⟨b8,T,V⟩:=F6 I;obtain⟨⟨a1,c1,rfl,n1,m1,s1,z1⟩,-⟩:=h;refine zt Tryz.func80 Tryz.ntmps80 ?_;have W:=λx (hx:x∈p.parts) m=>zpW x m (by have:=T x hx;omega);have J:=λm=>zpW p.realm m q_o;have b0:=FV I;have b7:=F8 I;have G:p.der=tlv 0x30 (zaw 0 (tlv 0x30 (p.parts.map zav).flatten)++zaw 1 (zav p.realm)):=by simp[Prin.der,zdv]
 have b9:=zn5 V;unfold zT at*;generalize p.der=D at*;obtain⟨parts,realm⟩:=p;dsimp only at*;generalize hn:parts.length=n at*;repeat' (first|refine s_t ?_|refine zf 0 ?_;refine zW ?_;intro _|refine zD [1,2] ?_;refine zb ?_)
 rename_i Z;refine zbz (za3 23 1) ?_;refine zN (γ:=Nat×List Bs×Option Addr×Nat) (λg=>[(1,.pointer (some ⟨Z,0,none⟩)),(4,.int .i64 (g.1:Int)),(3,.slice g.2.2.1 g.2.1.length g.2.2.2)])
  (λg=> .row (.slice g.2.2.1 g.2.1.length g.2.2.2) 23 1 g.2.1.length (g.2.1.reverse.map Bs.val):: .blk Z 43 [.slice a1 n c1,.string (str realm)]::zfP 5 g.2.1)
  (λg=>g.1<=n/\g.2.1.reverse.map (·.l)=(parts.take g.1).map zav/\∀s∈g.2.1,s.l.length=s.n) (λg=>n-g.1) (0,[],none,0) ⟨A9 _,rfl,λs F=>by cases F⟩ ?_ ?_ ?_
 ·exact q_h
 ·exact q_h
 rintro⟨i,q,aP,cP⟩ ⟨hi,B,K⟩;dsimp only at hi B K ⊢;have Y:q.length=i:=by have:=congrArg List.length B;simp at this;omega
 by_cases hlt:i<n
 ·obtain⟨bl,ol,rfl,H⟩:=zb2 s1 (i:=i) (by rw[List.length_map];omega);have hc:=H i _ (zcM _ q_o);have g1:decide ((i:Int)<(n:Int))=true:=q_d;have g5:IntKind.i64.wrap ((i:Int)+1)=((i+1:Nat):Int):=q_w;have b2:parts.take (i+1)=parts.take i++[parts[i]]:=zaO q_o;have a9:parts[i]∈parts:=Ad q_o;have hx:=W parts[i] a9;generalize parts[i]=x at*;repeat' (first|refine s_t ?_|refine q_k 3 ?_;refine zm ?_;refine zb ?_;refine q_v (zo (hr:=g1)) ?_|refine q_k 5 ?_;refine zm ?_;refine zb ?_;refine q_v (zq (j:=i)) ?_;refine q_v (zn (hv:=hc)) ?_;(refine q_s (zi (hc:=λm X S A=>hx m)) ?_;rintro _ _ ⟨R,rfl,L,M,rfl,rfl⟩);(refine q_s zz ?_;rintro _ _ ⟨_,rfl,rfl⟩);(refine q_s (zaE (hys:=zp7 q ⟨L,(zav x).length,M,zav x⟩) (hkm:=rfl)) ?_;rintro _ _ ⟨rfl,aN,cN,rfl⟩);refine zb ?_)
  refine FE (fr':=[(1,.pointer (some ⟨Z,0,none⟩)),(4,.int .i64 (i:Int)),(3,.slice aN (q.length+1) cN)]) (L':=.row (.slice aN (q.length+1) cN) 23 1 (q.length+1) ((⟨L,(zav x).length,M,zav x⟩::q).reverse.map Bs.val):: .blk Z 43 [.slice (some ⟨bl,ol,none⟩) n c1,.string (str realm)]::zfP 5 (⟨L,(zav x).length,M,zav x⟩::q)) ?_ q_h ?_;rotate_left
  ·show SubR (_::_::zo0 5 ⟨L,(zav x).length,M,zav x⟩::zfP 5 q) _
   (repeat' (first|exact Er|apply F2;with_reducible (focus ((repeat (first|exact Es|apply Eu));done))|apply F7;(focus ((repeat (first|exact Es|apply Eu));done))|apply F2;(focus ((repeat (first|exact Es|apply Eu));done))|apply F3;(focus ((repeat (first|exact Es|apply Eu));done))|rfl))
   all_goals exact F5 Ex
  repeat' (first|refine zaq ?_|refine zat ?_|refine q_k 4 ?_;refine q_x (zF (hr:=g5)) ?_)
  refine zE (i+1,⟨L,(zav x).length,M,zav x⟩::q,aN,cN) ⟨hlt,?_,?_⟩ ?_ ?_ ?_
  ·show((⟨L,(zav x).length,M,zav x⟩::q).reverse).map (·.l)=_;rw[zvT,B,b2,Aq];rfl
  ·intro s F;rcases AS.1 F with rfl|F
   ·rfl
   ·exact K s F
  ·show n-(i+1)<n-i;omega
  ·exact q_h
  ·exact Ex
 obtain rfl:i=n:=q_o;rw[A8 q_o] at B;have P:Bs.cat q.reverse=(parts.map zav).flatten:=by rw[zpE,B]
 have g1:decide ((i:Int)<(i:Int))=false:=q_f;rw[<-P] at b0 G;have hQ:=(zX 0x30 (Bs.cat q.reverse)).2;have b3:=(zX 0xa0 (tlv 0x30 (Bs.cat q.reverse))).2;have b4:=(zX 0xa1 (zav realm)).2;repeat' (first|refine s_0 ?_|refine q_k 3 ?_;refine zm ?_;refine zb ?_;refine q_v (zo (hr:=g1)) ?_)
 rw[Y]
 (refine zdC (id:=6) [0,3,4] [1,2,5,6,7,8,9] mixed ?_ ?_;kernel_rfl;refine yfv zZ (k:=?_);refine yfv zM (k:=?_);refine yfv zL (k:=?_);refine yf0 ?_;try refine yc0 (k:=?_))
 refine ycs (zi (hc:=λm X S A=>zpF aP i cP q.reverse _ m (by rw[Bz];exact Y) q_o (FJ A q_h) ((Sy.Fd (Mi:=No) A q_h (λ_ h=>h.elim)).sla) (λs F=>zqu (E:=5) A K (λr hr=>AM _ (A4 _ (A4 _ hr))) s (Da.1 F)) q_o rfl)) (k:=?_);rintro _ _ ⟨R,rfl,aS,cS,rfl,rfl⟩;generalize a6:tlv 0x30 (Bs.cat q.reverse)=Q at*;have a7:0<Q.length:=by rw[<-a6];exact zbC
 have a8:0<(zav realm).length:=zbC;refine ycs (zi (hc:=λm X S A=>zda 0 aS Q.length cS Q _ m q_e (zaz A rfl q_h) a7 q_o rfl)) (k:=?_);rintro _ _ ⟨R,rfl,aT,cT,rfl,rfl⟩;refine ycs (zi (hc:=λm X S A=>J m)) (k:=?_);rintro _ _ ⟨R,rfl,aU,cU,rfl,rfl⟩;generalize zav realm=U at*;refine ycs (zi (hc:=λm X S A=>zda 1 aU U.length cU U _ m q_e (zaz A rfl q_h) a8 q_o rfl)) (k:=?_);rintro _ _ ⟨R,rfl,aV,cV,rfl,rfl⟩;refine ycs zz (k:=?_);rintro _ _ ⟨bL,rfl,rfl⟩;have b5:(zaw 0 Q).length<=300:=by show(tlv 160 Q).length<=300;omega
 have b6:(zaw 1 U).length<=300:=by show(tlv 161 U).length<=300;omega
 generalize zaw 1 U=O,zaw 0 Q=N at*;refine ycs (zi (hc:=λm X S A=>zj8 bL 2 [⟨aT,N.length,cT,N⟩,⟨aV,O.length,cV,O⟩] m rfl q_e (zp (A.has q_h) Et) (λs F=>by
  simp only[AS,BC,or_false] at F;rcases F with rfl|rfl
  ·exact zaz A rfl q_h
  ·exact zaz A rfl q_h) (by rw[show Bs.cat [⟨aT,N.length,cT,N⟩,⟨aV,O.length,cV,O⟩]=N++O by simp[Bs.cat],A2];omega) D (by rw[G];simp[Bs.cat]))) (k:=?_)
 rintro _ _ ⟨R,rfl,aW,cW,rfl,rfl⟩;refine ycv za6 (k:=?_);refine yc0 (k:=?_);repeat' (first|refine s_0 ?_|fail)
 exact zap rfl (zh rfl) (F3 Es rfl Er) ⟨_,_,rfl,rfl⟩
theorem znB(p:Pl)(c:Cert)(w:World)(h:CertAt w p c)(r:c.small):Sy.Fn Tryz.prog 37 [.agg (zG p c).toArray] w No (zbi c.body):=by
 refine zt Tryz.func37 Tryz.ntmps37 ?_;have h0:=λj=>zsX c.serial j r.s0 r.s1;have h1:=λj (q:Keep No w j)=>znE _ _ j (h.iss.keep q) r.iss;have h2:=λj (q:Keep No w j)=>znE _ _ j (h.sub.keep q) r.sub;have h3:=λj=>znM c.fr j r.f0 r.f1;have h4:=λj=>znM c.til j r.t0 r.t1;have h5:=λj=>zuD c.auth j;have h6:=λj=>zoo c.group j r.g0 r.g1;have a8:=r.pub;have h7:=λj (q:Keep No w j)=>zqk p.a3 c.pub.length p.k3 c.pub j (h.pub.keep q) q_o;have p0:0<(zbf c.serial.toNat).length:=zbC;have p1:=Fe c.issuer;have p2:=Fe c.subject;have p3:0<(zbq c.fr.toNat).length:=zbC;have p4:0<(zbq c.til.toNat).length:=zbC;have p5:0<(zcF c.auth).length:=zbC;have p6:0<(zbf c.group.toNat).length:=zbC;have p7:0<(za8 c.pub).length:=zbC;have m0:=(zdI (v:=c.serial.toNat) (by have:=r.s1;omega)).2;have m1:=F8 r.iss;have m2:=F8 r.sub;have m3:(zbq c.fr.toNat).length<=11:=zco (by rw[zbp];decide);have m4:(zbq c.til.toNat).length<=11:=zco (by rw[zbp];decide);have m5:(zcF c.auth).length<=6:=zco (A6 1);have m6:=(zdI (v:=c.group.toNat) (by have:=r.g1;omega)).2;have m7:(za8 c.pub).length<=c.pub.length+5:=zco (A6 _);obtain⟨A,V⟩:∃G,G=zaw 0 (zbf c.serial.toNat):=⟨_,rfl⟩;obtain⟨C,W⟩:∃G,G=zaw 1 (c.issuer.der):=⟨_,rfl⟩;obtain⟨E,Y⟩:∃G,G=zaw 2 (c.subject.der):=⟨_,rfl⟩;obtain⟨F,Z⟩:∃G,G=zaw 3 (zbq c.fr.toNat):=⟨_,rfl⟩;obtain⟨H,e4⟩:∃G,G=zaw 4 (zbq c.til.toNat):=⟨_,rfl⟩;obtain⟨I,e5⟩:∃G,G=zaw 5 (zcF c.auth):=⟨_,rfl⟩;obtain⟨J,e6⟩:∃G,G=zaw 6 (zbf c.group.toNat):=⟨_,rfl⟩;obtain⟨K,e7⟩:∃G,G=zaw 7 (za8 c.pub):=⟨_,rfl⟩;have L:c.body=tlv 0x30 (A++(C++(E++(F++(H++(I++(J++K))))))):=by rw[V,W,Y,Z,e4,e5,e6,e7];simp[Cert.body,zdv]
 generalize c.body=BD at*;unfold zG zba at*;clear h r;obtain⟨serial,iss,sub,fr,til,auth,group,pub,sig⟩:=c;dsimp only at*;generalize za8 pub=U,zbf group.toNat=T,zcF auth=S,zbq til.toNat=Q,zbq fr.toNat=P,sub.der=O,iss.der=N,zbf serial.toNat=M at*;have l0:A.length<=M.length+5:=by rw[V];exact(zX (0xa0+0) M).2
 have l1:C.length<=N.length+5:=by rw[W];exact(zX (0xa0+1) N).2
 have l2:E.length<=O.length+5:=by rw[Y];exact(zX (0xa0+2) O).2
 have l3:F.length<=P.length+5:=by rw[Z];exact(zX (0xa0+3) P).2
 have l4:H.length<=Q.length+5:=by rw[e4];exact(zX (0xa0+4) Q).2
 have l5:I.length<=S.length+5:=by rw[e5];exact(zX (0xa0+5) S).2
 have l6:J.length<=T.length+5:=by rw[e6];exact(zX (0xa0+6) T).2
 have l7:K.length<=U.length+5:=by rw[e7];exact(zX (0xa0+7) U).2
 repeat' (first|refine s_0 ?_|refine zf 0 ?_;refine zW ?_;intro _)
 (refine zdC (id:=1) [0,1,4,5,8,9,12,13,16,17,20,21,24,25,28,29] [2,3,6,7,10,11,14,15,18,19,22,23,26,27,30,31,32,33,34] mixed ?_ ?_;kernel_rfl;refine yfv zM (k:=?_);refine yfv zL (k:=?_);refine yfv zM (k:=?_);refine yfv (ze (B:=[.slice p.a1 iss.parts.length p.k1,zT iss.realm]) (hv:=FF rfl)) (k:=?_);refine yfv zM (k:=?_);refine yfv (ze (B:=[.slice p.a2 sub.parts.length p.k2,zT sub.realm]) (hv:=FF rfl)) (k:=?_);refine yfv zM (k:=?_);refine yfv zL (k:=?_);refine yfv zM (k:=?_);refine yfv zL (k:=?_);refine yfv zM (k:=?_);refine yfv zL (k:=?_);refine yfv zM (k:=?_);refine yfv zL (k:=?_);refine yfv zM (k:=?_);refine yfv zL (k:=?_);refine yf0 ?_;try refine yc0 (k:=?_))
 refine ycs (zi (hc:=λj X q m=>h0 j)) (k:=?_);rintro _ _ ⟨R,rfl,a0,c0,rfl,rfl⟩;refine ycs (zi (hc:=λj X q m=>zda 0 a0 M.length c0 M A j q_e (zaz m rfl q_h) p0 q_o V)) (k:=?_);rintro _ _ ⟨R,rfl,b0,d0,rfl,rfl⟩;refine ycs (zi (hc:=zu h1)) (k:=?_);rintro _ _ ⟨R,rfl,a1,c1,rfl,rfl⟩;refine ycs (zi (hc:=λj X q m=>zda 1 a1 N.length c1 N C j q_e (zaz m rfl q_h) p1 q_o W)) (k:=?_);rintro _ _ ⟨R,rfl,b1,d1,rfl,rfl⟩;refine ycs (zi (hc:=zu h2)) (k:=?_);rintro _ _ ⟨R,rfl,a2,c2,rfl,rfl⟩;refine ycs (zi (hc:=λj X q m=>zda 2 a2 O.length c2 O E j q_e (zaz m rfl q_h) p2 q_o Y)) (k:=?_);rintro _ _ ⟨R,rfl,b2,d2,rfl,rfl⟩;refine ycs (zi (hc:=λj X q m=>h3 j)) (k:=?_);rintro _ _ ⟨R,rfl,a3,c3,rfl,rfl⟩;refine ycs (zi (hc:=λj X q m=>zda 3 a3 P.length c3 P F j q_e (zaz m rfl q_h) p3 q_o Z)) (k:=?_);rintro _ _ ⟨R,rfl,b3,d3,rfl,rfl⟩;refine ycs (zi (hc:=λj X q m=>h4 j)) (k:=?_);rintro _ _ ⟨R,rfl,a4,c4,rfl,rfl⟩;refine ycs (zi (hc:=λj X q m=>zda 4 a4 Q.length c4 Q H j q_e (zaz m rfl q_h) p4 q_o e4)) (k:=?_);rintro _ _ ⟨R,rfl,b4,d4,rfl,rfl⟩;refine ycs (zi (hc:=λj X q m=>h5 j)) (k:=?_);rintro _ _ ⟨R,rfl,a5,c5,rfl,rfl⟩;refine ycs (zi (hc:=λj X q m=>zda 5 a5 S.length c5 S I j q_e (zaz m rfl q_h) p5 q_o e5)) (k:=?_);rintro _ _ ⟨R,rfl,b5,d5,rfl,rfl⟩;refine ycs (zi (hc:=λj X q m=>h6 j)) (k:=?_);rintro _ _ ⟨R,rfl,a6,c6,rfl,rfl⟩;refine ycs (zi (hc:=λj X q m=>zda 6 a6 T.length c6 T J j q_e (zaz m rfl q_h) p6 q_o e6)) (k:=?_);rintro _ _ ⟨R,rfl,b6,d6,rfl,rfl⟩;refine ycs (zi (hc:=zu h7)) (k:=?_);rintro _ _ ⟨R,rfl,a7,c7,rfl,rfl⟩;refine ycs (zi (hc:=λj X q m=>zda 7 a7 U.length c7 U K j q_e (zaz m rfl q_h) p7 q_o e7)) (k:=?_);rintro _ _ ⟨R,rfl,b7,d7,rfl,rfl⟩;refine ycs zz (k:=?_);rintro _ _ ⟨bL,rfl,rfl⟩;refine ycs (zi (hc:=λj X q m=>zj8 bL 8 [⟨b0,A.length,d0,A⟩,⟨b1,C.length,d1,C⟩,⟨b2,E.length,d2,E⟩,⟨b3,F.length,d3,F⟩,⟨b4,H.length,d4,H⟩,⟨b5,I.length,d5,I⟩,⟨b6,J.length,d6,J⟩,⟨b7,K.length,d7,K⟩] j rfl q_e (zp (m.has q_h) Et) (λs r=>by
   simp only[AS,BC,or_false] at r;rcases r with rfl|rfl|rfl|rfl|rfl|rfl|rfl|rfl
   ·exact zaz m rfl q_h
   ·exact zaz m rfl q_h
   ·exact zaz m rfl q_h
   ·exact zaz m rfl q_h
   ·exact zaz m rfl q_h
   ·exact zaz m rfl q_h
   ·exact zaz m rfl q_h
   ·exact zaz m rfl q_h) (by rw[show Bs.cat [⟨b0,A.length,d0,A⟩,⟨b1,C.length,d1,C⟩,⟨b2,E.length,d2,E⟩,⟨b3,F.length,d3,F⟩,⟨b4,H.length,d4,H⟩,⟨b5,I.length,d5,I⟩,⟨b6,J.length,d6,J⟩,⟨b7,K.length,d7,K⟩]=A++(C++(E++(F++(H++(I++(J++K)))))) by simp[Bs.cat]];simp only[A2];omega) BD (by rw[L];simp[Bs.cat]))) (k:=?_)
 rintro _ _ ⟨R,rfl,aW,cW,rfl,rfl⟩;refine ycv za6 (k:=?_);refine yc0 (k:=?_);repeat' (first|refine s_0 ?_|fail)
 exact zap rfl (zh rfl) (F3 Es rfl Er) ⟨_,_,rfl,rfl⟩
end
open Go Go.Sy Go.Nt Go.RowKit
attribute [local irreducible] Sy SyL SyX Sy.Fn callFunc zg zae zac iC zaH zai zbX Sh.sum
theorem znn{z:Int}{key j m s:List UInt8}(w:zhs z key j m=some s):s.length=2*gL z.toNat:=by
 unfold zhs at w;split at w
 ·rename_i q;obtain⟨q,-,-,-⟩:=q;cases w;unfold zdX at q;rw[AA,decide_eq_true_eq] at q;obtain⟨i,-,E,h0,r⟩:=zdf (zgt q.1).1;rw[E];have A:0<gQ i:=AI q_e (zbH i h0 r);have B:sE i (za1 z key).1 (zaU z j).1 m<gQ i:=zjI h0 r _ _ _;have C:sS i (za1 z key).1 (zaU z j).1 m<gQ i:=AC _ A;rw[A2,zdF _ _ (zjs h0 r B),zdF _ _ (zjs h0 r C)];omega
 ·cases w
theorem zy7(a b:Nat)(ha:a<256)(hb:0<b/\b<256):za7 2 (a*256+b)= [UInt8.ofNat a,UInt8.ofNat b]:=by
 by_cases h0:a=0
 ·subst h0;have q:nd 256 (0*256+b)=1:=zct 256 _ 1 q_e q_o (λ_=>by omega);unfold za7 byt be cd;rw[q];simp[dg,A7 hb.2]
 ·have r:nd 256 (a*256+b)=2:=zct 256 _ 2 q_e q_o (λ_=>by omega);unfold za7 byt be cd;rw[r];have j:(a*256+b)%256=b:=q_o;have m:(a*256+b)/256%256=a:=q_o;simp[dg,j,m]
theorem znT:zdX 1 [0,6]=true/\(za1 1 [0,6]).1=6:=by
 have j:za1 1 [0,6]=(6,0):=by decide +kernel
 unfold zdX;rw[j];exact⟨rfl,rfl⟩
theorem zoj:zhr 1 [0,6]=some [4,193]:=by
 unfold zhr;rw[if_pos znT.1,znT.2];have h:4^6%gP (1:Int).toNat=4*256+193:=by decide +kernel
 rw[h];exact congrArg some (zy7 4 193 q_e q_e)
theorem zzx(m:List UInt8)(hm:m.length<=65536):∃s:List UInt8,zhs 1 [0,6] [7] m=some s/\s.length=4/\zfO 1 [4,193] m s=0/\zfO 1 [4,193] m (s.take 3)=10:=by
 have q:zaU 1 [7]=(7,0):=by unfold zaU;rw[if_pos q_e];decide +kernel
 have j:=zi7 (z:=1) (pl:=[0,6]) (nl:=[7]) (ml:=m) znT.1 (by rw[q]) (by rw[q];decide) hm;have r:=znn j;refine⟨_,j,r,zwT zoj j,znr ?_ ?_⟩
 ·rintro(h|h)
  ·rw[zju zoj] at h;exact h rfl
  ·omega
 ·rw[AR,r];decide
end Go.Proofs.YtdnlngbjpdbffaaGreatDoor
