/- Lemmas of this proof. -/
import Derived.Test.YtdnlngbjpdbffaaGreatDoorKJ22
import Derived.Test.YtdnlngbjpdbffaaGreatDoorKJ25
set_option maxHeartbeats 1000000
set_option maxRecDepth 10000
set_option linter.all false
namespace Go.Proofs.YtdnlngbjpdbffaaGreatDoor
open Go Go.Sy Go.Nt Go.RowKit
def zbi(z:Int)(l:List UInt8):Nat×Bool:=if (1<=z/\z<=4)/\l.length=gL z.toNat then (bev 256 (bn l),true) else (0,false)
theorem zdp{z:Int}(hz:1<=z/\z<=4):gL z.toNat<=96:=by have:=zfW z;unfold zaY at this;rwa[if_pos hz] at this
theorem zkD(z:Int)(l:List UInt8):nd 65536 (zbi z l).1<=64:=by
 unfold zbi;by_cases h:(1<=z/\z<=4)/\l.length=gL z.toNat
 ·rw[if_pos h];have:=zdp h.1;exact ndW (zi6 q_o)
 ·rw[if_neg h];exact BG (Nat.le_of_eq (zbv _)) (AE _)
theorem zqs(z:Int)(l:List UInt8):zcp z l=((zbi z l).2&&(decide ((zbi z l).1<gQ z.toNat)&&decide ((zbi z l).1≠0))):=by
 unfold zcp zbi zaK;by_cases hz:1<=z/\z<=4
 ·rw[if_pos hz];by_cases h1:l.length<gL z.toNat
  ·rw[if_pos h1,if_neg (show ¬((1<=z/\z<=4)/\l.length=gL z.toNat) from λh=>by omega)];rfl
  rw[if_neg h1];by_cases h2:gL z.toNat<l.length
  ·rw[if_pos h2,if_neg (show ¬((1<=z/\z<=4)/\l.length=gL z.toNat) from λh=>by omega)];rfl
  rw[if_neg h2,if_pos (show(1<=z/\z<=4)/\l.length=gL z.toNat from ⟨hz,by omega⟩)];by_cases h3:bev 256 (bn l)<gQ z.toNat
  ·rw[if_pos h3];simp[h3]
  ·rw[if_neg h3];simp[h3]
 ·rw[if_neg hz,if_neg (show ¬((1<=z/\z<=4)/\l.length=gL z.toNat) from λh=>hz h.1)];rfl
theorem zs3{z:Int}{l:List UInt8}(h:zcp z l=true):(zbi z l).1=(zaK z l).1:=by
 unfold zcp at h;rw[AB,decide_eq_true_eq] at h;obtain⟨q,j,-,m⟩:=zeT h.1;rw[m];unfold zbi;rw[if_pos ⟨q,j⟩]
theorem zsy(z:Int)(l:List UInt8):decide ((gel z l).2=0)=((zbi z l).2&&zap (gP z.toNat) (gQ z.toNat) (zbi z l).1):=by
 unfold zbi gel;by_cases hz:1<=z/\z<=4
 ·rw[if_pos hz];by_cases h1:l.length<gL z.toNat
  ·rw[if_pos h1,if_neg (show ¬((1<=z/\z<=4)/\l.length=gL z.toNat) from λh=>by omega)];rfl
  rw[if_neg h1];by_cases h2:gL z.toNat<l.length
  ·rw[if_pos h2,if_neg (show ¬((1<=z/\z<=4)/\l.length=gL z.toNat) from λh=>by omega)];rfl
  rw[if_neg h2,if_pos (show(1<=z/\z<=4)/\l.length=gL z.toNat from ⟨hz,by omega⟩)];by_cases h3:zap (gP z.toNat) (gQ z.toNat) (bev 256 (bn l))=true
  ·rw[if_pos h3];dsimp only;rw[h3];rfl
  ·rw[if_neg h3];dsimp only;rw[Bool.not_eq_true] at h3;rw[h3];rfl
 ·rw[if_neg hz,if_neg (show ¬((1<=z/\z<=4)/\l.length=gL z.toNat) from λh=>hz h.1)];rfl
theorem zuL{z:Int}{l:List UInt8}(h:(gel z l).2=0):(zbi z l).1=(gel z l).1:=by
 obtain⟨q,j,-,m⟩:=zg1 h;rw[m];unfold zbi;rw[if_pos ⟨q,j⟩]
attribute [local irreducible] Sy SyL SyX Sy.Fn callFunc zf z8 zG iC gP gQ gL zap zab zaF zaK gel zaJ zaZ
theorem zjE(a:Option Addr)(j x:Nat)(w:World)(ha:SlA w a (zG x))(hx:nd 65536 x<20000):q_G 146 [.slice a (nd 65536 x) j] w (.bool (decide (x=0))):=by
 refine zo Tryz.func146 Tryz.ntmps146 ?_;have r:=λq (A:Keep No w q)=>zhx a j x q (ha.to A (λ_ h=> .inr h)).sla q_o;have t:decide (((nd 2 x:Nat):Int)=0)=decide (x=0):=decide_eq_decide.2 (by
  constructor
  ·intro h;exact(zj1 2 x q_e).1 q_o
  ·rintro rfl;rw[zbv];rfl)
 generalize nd 2 x=m at*;repeat' (first|refine s_0 ?_|refine q_k 0 ?_|refine q_k 1 ?_;refine q_v (za (hc:=zq r)) ?_;refine q_x (zaa (hr:=t)) ?_)
 exact q_r
def ziD(x:Nat)(b:Bool)(v:Value)(R:List Res):Prop:=∃a c,v= .tuple #[.slice a (nd 65536 x) c,.bool b]/\R= [.row (.slice a (nd 65536 x) c) 3 1 (nd 65536 x) (zG x)]
theorem zkf(z:Int)(a:Option Addr)(n c:Nat)(l:List UInt8)(w:World)(B:l.length=n)(hb:SlA w a (l.map v8)):
  Sy.Fn Tryz.prog 220 [.int .i64 z,.slice a n c] w No (ziD (zbi z l).1 (zbi z l).2):=by
 refine zo Tryz.func220 Tryz.ntmps220 ?_;have r:=λj=>zkM z j;by_cases hz:1<=z/\z<=4
 ·rw[decide_eq_true hz] at r;obtain⟨i,rfl,A,h0,F⟩:=zcs hz;have t:=λj=>zkC i j h0 F;have C:=zdp hz;rw[A] at C;by_cases hn:n=gL i
  ·have q:zbi (i:Int) l=(bev 256 (bn l),true):=by unfold zbi;rw[if_pos ⟨hz,by rw[B,A];exact hn⟩]
   rw[q];have E:=λj (G:Keep No w j)=>zi1 a n c l j B (hb.to G (λ_ h=> .inr h)).sla q_o;unfold zaW at E;have g1:decide ((n:Int)≠((gL i:Nat):Int))=false:=decide_eq_false (λh=>h q_o);generalize gL i=m,bev 256 (bn l)=x at*;repeat' (first|refine s_0 ?_|refine q_k 0 ?_|refine q_k 1 ?_;refine q_v (za (hc:=q_c r)) ?_;refine zJ ?_;refine zb ?_;refine q_v (za (hc:=q_c t)) ?_;refine q_x (zaC (hr:=g1)) ?_|refine q_k 3 ?_;(refine q_s (zh (hc:=zq E)) ?_;rintro _ _ ⟨R,rfl,a1,H,rfl,rfl⟩);refine zb ?_)
   exact zad rfl (zr rfl) (zr rfl) q_h ⟨_,_,rfl,rfl⟩
  ·have q:zbi (i:Int) l=(0,false):=by unfold zbi;rw[if_neg (λh=>hn (by rw[<-B,h.2,A]))]
   rw[q];have g1:decide ((n:Int)≠((gL i:Nat):Int))=true:=decide_eq_true (λh=>hn q_o);generalize gL i=m at*;repeat' (first|refine s_0 ?_|refine zK [0,2] ?_;refine zb ?_|refine q_k 1 ?_;refine q_v (za (hc:=q_c r)) ?_;refine zJ ?_;refine zb ?_;refine q_v (za (hc:=q_c t)) ?_;refine q_x (zaC (hr:=g1)) ?_)
   refine zbK (zaO 3 1) ?_;exact zad (R:=[.row (.slice none 0 0) 3 1 0 []]) rfl (zr rfl) (zr rfl) q_h ⟨none,0,by rw[zbv],by rw[zbv,zij]⟩
 ·rw[decide_eq_false hz] at r;have q:zbi z l=(0,false):=by unfold zbi;rw[if_neg (λh=>hz h.1)]
  rw[q];repeat' (first|refine s_0 ?_|refine zK [0,2] ?_;refine zb ?_|refine q_k 1 ?_;refine q_v (za (hc:=q_c r)) ?_;refine zJ ?_;refine zb ?_)
  refine zbK (zaO 3 1) ?_;exact zad (R:=[.row (.slice none 0 0) 3 1 0 []]) rfl (zr rfl) (zr rfl) q_h ⟨none,0,by rw[zbv],by rw[zbv,zij]⟩
theorem zol(z:Int)(a:Option Addr)(n c:Nat)(l:List UInt8)(w:World)(G:l.length=n)(hb:SlA w a (l.map v8)):
  Sy.Fn Tryz.prog 145 [.int .i64 z,.slice a n c] w No (ziD (zbi z l).1 (zcp z l)):=by
 refine zo Tryz.func145 Tryz.ntmps145 ?_;have A:=λj (t:Keep No w j)=>zkf z a n c l j G (hb.to t (λ_ h=> .inr h)).sla;have H:=zkD z l;have m:=zqs z l;have C:(zbi z l).2=true->1<=z/\z<=4:=by
  intro h;unfold zbi at h;by_cases h1:(1<=z/\z<=4)/\l.length=gL z.toNat
  ·exact h1.1
  ·rw[if_neg h1] at h;cases h
 unfold ziD at A;generalize (zbi z l).2=b,(zbi z l).1=x,zcp z l=J at*;cases b with
 |false=>
  rw[BX] at m;rw[m];repeat' (first|refine s_0 ?_|refine zK [0,2] ?_;refine zb ?_|refine q_k 1 ?_;(refine q_s (zh (hc:=zq A)) ?_;rintro _ _ ⟨R,rfl,a1,q,rfl,rfl⟩);refine zb ?_)
  exact zad rfl (zr rfl) (zr rfl) q_h ⟨_,_,rfl,rfl⟩
 |true=>
  obtain⟨i,rfl,F,h0,E⟩:=zcs (C rfl);rw[Ax,F] at m;have B:=λj a1 q (h:SlA j a1 (zG x))=>zf3 i a1 q x j h0 E h q_o;have I:=λj a1 q (h:SlA j a1 (zG x))=>zjE a1 q x j h q_o;cases hd:decide (x<gQ i) with
  |false=>
   rw[hd,BX] at m;rw[hd] at B;rw[m];repeat' (first|refine s_0 ?_|refine q_k 0 ?_|refine q_k 1 ?_;(refine q_s (zh (hc:=zq A)) ?_;rintro _ _ ⟨R,rfl,a1,q,rfl,rfl⟩);refine zb ?_|refine q_k 2 ?_;refine q_v (za (hc:=λj X t r=>B j _ _ (zI r q_h))) ?_;refine zb ?_)
   exact zad rfl (zr rfl) (zr rfl) q_h ⟨_,_,rfl,rfl⟩
  |true=>
   rw[hd,Ax] at m;rw[hd] at B;rw[show J=!decide (x=0) by rw[m];by_cases hx:x=0 <;> simp[hx]];repeat' (first|refine s_0 ?_|refine q_k 0 ?_|refine q_k 1 ?_;(refine q_s (zh (hc:=zq A)) ?_;rintro _ _ ⟨R,rfl,a1,q,rfl,rfl⟩);refine zb ?_|refine q_k 2 ?_;refine q_v (za (hc:=λj X t r=>B j _ _ (zI r q_h))) ?_;refine zb ?_;refine q_v (za (hc:=λj X t r=>I j _ _ (zI r q_h))) ?_;refine zJ ?_;refine zb ?_)
   exact zad rfl (zr rfl) (zr rfl) q_h ⟨_,_,rfl,rfl⟩
theorem zjW(z:Int)(a:Option Addr)(n c:Nat)(l:List UInt8)(w:World)(F:l.length=n)(hb:SlA w a (l.map v8)):
  Sy.Fn Tryz.prog 153 [.int .i64 z,.slice a n c] w No (ziD (zbi z l).1 (decide ((gel z l).2=0))):=by
 refine zo Tryz.func153 Tryz.ntmps153 ?_;have r:=λj (A:Keep No w j)=>zkf z a n c l j F (hb.to A (λ_ h=> .inr h)).sla;have G:=zkD z l;rw[zsy z l];have t:(zbi z l).2=true->1<=z/\z<=4:=by
  intro h;unfold zbi at h;by_cases h1:(1<=z/\z<=4)/\l.length=gL z.toNat
  ·exact h1.1
  ·rw[if_neg h1] at h;cases h
 unfold ziD at r;generalize (zbi z l).2=b,(zbi z l).1=x at*;cases b with
 |false=>
  rw[BX];repeat' (first|refine s_0 ?_|refine zK [0,2] ?_;refine zb ?_|refine q_k 1 ?_;(refine q_s (zh (hc:=zq r)) ?_;rintro _ _ ⟨R,rfl,a1,q,rfl,rfl⟩);refine zb ?_)
  exact zad rfl (zr rfl) (zr rfl) q_h ⟨_,_,rfl,rfl⟩
 |true=>
  obtain⟨i,rfl,E,h0,B⟩:=zcs (t rfl);rw[Ax,E];have H:=λj a1 q (h:SlA j a1 (zG x))=>zpw i a1 q x j h0 B h q_o;generalize zap (gP i) (gQ i) x=m at*;repeat' (first|refine s_0 ?_|refine q_k 0 ?_|refine q_k 1 ?_;(refine q_s (zh (hc:=zq r)) ?_;rintro _ _ ⟨R,rfl,a1,q,rfl,rfl⟩);refine zb ?_|refine q_k 2 ?_;refine q_v (za (hc:=λj X A C=>H j _ _ (zI C q_h))) ?_;refine zb ?_)
  exact zad rfl (zr rfl) (zr rfl) q_h ⟨_,_,rfl,rfl⟩
theorem zlg(z:Int)(a:Option Addr)(n c:Nat)(l:List UInt8)(w:World)(r:l.length=n)(hb:SlA w a (l.map v8)):
  q_G 69 [.int .i64 z,.slice a n c] w (.bool (decide ((gel z l).2=0))):=by
 refine zo Tryz.func69 Tryz.ntmps69 ?_;have j:=λm (q:Keep No w m)=>zjW z a n c l m r (hb.to q (λ_ h=> .inr h)).sla;unfold ziD at j;generalize (zbi z l).1=x,decide ((gel z l).2=0)=b at*;repeat' (first|refine s_0 ?_|refine zK [0,2] ?_;refine zb ?_|refine q_k 1 ?_;(refine q_s (zh (hc:=zq j)) ?_;rintro _ _ ⟨R,rfl,a1,t,rfl,rfl⟩);refine zb ?_)
 exact q_r
end Go.Proofs.YtdnlngbjpdbffaaGreatDoor
namespace Go.Wd
section
open Go Go.RowKit Go.Sy
def vi(x:UInt32):Value:=.int .i64 (n32 x)
theorem zcJ(a:Int)(h0: -9223372036854775808<=a)(h1:a<9223372036854775808):IntKind.i64.wrap a=a:=IntWalk.i64_in _ q_o
theorem zgo(x:UInt32):BitVec.ofInt 64 (n32 x)=x.toBitVec.setWidth 64:=by
 unfold n32;rw[DA];apply Eg;simp
theorem znn(r:BitVec 32):IntKind.i64.wrap ((r.setWidth 64).toNat:Int)=n32 (UInt32.ofBitVec r):=by
 have:=r.isLt;rw[BitVec.toNat_setWidth,A3 q_o,zcJ _ q_o q_o];rfl
theorem znY(x y:UInt32):bits .and .i64 (n32 x) (n32 y)=n32 (x &&& y):=by
 simp only[bits];rw[show IntKind.i64.bits=64 from rfl,zgo,zgo,<-BitVec.setWidth_and,znn];rfl
theorem zgn(x y:UInt32):bits .xor .i64 (n32 x) (n32 y)=n32 (x ^^^ y):=by
 simp only[bits];rw[show IntKind.i64.bits=64 from rfl,zgo,zgo,<-BitVec.setWidth_xor,znn];rfl
theorem zxh(x:UInt32):IntKind.i64.wrap (4294967295-n32 x)=n32 (~~~x):=by
 have h0:=zQ x;have m:=zaR x;rw[zcJ _ q_o q_o];have j:(~~~x).toNat=4294967295-x.toNat:=by
  rw[UInt32.toNat_not];rfl
 unfold n32 at*;rw[j];omega
theorem zbg(x:UInt32):n32 x%(4294967296:Int)=n32 x:=Int.emod_eq_of_lt (zQ x) (zaR x)
theorem zd7(a b:Int)(p q:UInt32)(ha:a%4294967296=n32 p)(hb:b%4294967296=n32 q):(a+b)%4294967296=n32 (p+q):=by
 rw[<-zr1 p q,<-ha,<-hb,Int.emod_add_emod,Int.add_emod_emod]
theorem zma(a:Int)(p:UInt32)(h0:0<=a)(ha:a%4294967296=n32 p):a.tmod 4294967296=n32 p:=by
 rw[Bu h0];exact ha
variable (a b c d e f g:UInt32)
theorem ws2:IntKind.i64.wrap (n32 a+n32 b)=n32 a+n32 b:=by
 have:=zaR a;have:=zaR b;have:=zQ a;have:=zQ b;exact zcJ _ q_o q_o
theorem ws3:IntKind.i64.wrap (n32 a+n32 b+n32 c)=n32 a+n32 b+n32 c:=by
 have:=zaR a;have:=zaR b;have:=zaR c;have:=zQ a;have:=zQ b;have:=zQ c;exact zcJ _ q_o q_o
theorem ws4:IntKind.i64.wrap (n32 a+n32 b+n32 c+n32 d)=n32 a+n32 b+n32 c+n32 d:=by
 have:=zaR a;have:=zaR b;have:=zaR c;have:=zaR d;have:=zQ a;have:=zQ b;have:=zQ c;have:=zQ d;exact zcJ _ q_o q_o
theorem ws5:IntKind.i64.wrap (n32 a+n32 b+n32 c+n32 d+n32 e)=n32 a+n32 b+n32 c+n32 d+n32 e:=by
 have:=zaR a;have:=zaR b;have:=zaR c;have:=zaR d;have:=zaR e;have:=zQ a;have:=zQ b;have:=zQ c;have:=zQ d;have:=zQ e;exact zcJ _ q_o q_o
theorem ws7:IntKind.i64.wrap (n32 a+n32 b+n32 c+n32 d+n32 e+(n32 f+n32 g))=n32 a+n32 b+n32 c+n32 d+n32 e+(n32 f+n32 g):=by
 have:=zaR a;have:=zaR b;have:=zaR c;have:=zaR d;have:=zaR e;have:=zQ a;have:=zQ b;have:=zQ c;have:=zQ d;have:=zQ e;have:=zaR f;have:=zaR g;have:=zQ f;have:=zQ g;exact zcJ _ q_o q_o
theorem ws6:IntKind.i64.wrap (n32 f+(n32 a+n32 b+n32 c+n32 d+n32 e))=n32 f+(n32 a+n32 b+n32 c+n32 d+n32 e):=by
 have:=zaR a;have:=zaR b;have:=zaR c;have:=zaR d;have:=zaR e;have:=zQ a;have:=zQ b;have:=zQ c;have:=zQ d;have:=zQ e;have:=zaR f;have:=zQ f;exact zcJ _ q_o q_o
theorem rs2:(n32 a+n32 b).tmod 4294967296=n32 (a+b):=by
 have:=zQ a;have:=zQ b;exact zma _ _ q_o (zd7 _ _ _ _ (zbg a) (zbg b))
theorem rs4:(n32 a+n32 b+n32 c+n32 d).tmod 4294967296=n32 (a+b+c+d):=by
 have:=zQ a;have:=zQ b;have:=zQ c;have:=zQ d;exact zma _ _ q_o (zd7 _ _ _ _ (zd7 _ _ _ _ (zd7 _ _ _ _ (zbg a) (zbg b)) (zbg c)) (zbg d))
theorem rs7:(n32 a+n32 b+n32 c+n32 d+n32 e+(n32 f+n32 g)).tmod 4294967296=n32 ((((a+b+c)+d)+e)+(f+g)):=by
 have:=zQ a;have:=zQ b;have:=zQ c;have:=zQ d;have:=zQ e;have:=zQ f;have:=zQ g;exact zma _ _ q_o (zd7 _ _ _ _ (zd7 _ _ _ _ (zd7 _ _ _ _ (zd7 _ _ _ _ (zd7 _ _ _ _ (zbg a) (zbg b)) (zbg c)) (zbg d)) (zbg e)) (zd7 _ _ _ _ (zbg f) (zbg g)))
theorem rs6:(n32 f+(n32 a+n32 b+n32 c+n32 d+n32 e)).tmod 4294967296=n32 (f+((((a+b)+c)+d)+e)):=by
 have:=zQ a;have:=zQ b;have:=zQ c;have:=zQ d;have:=zQ e;have:=zQ f;exact zma _ _ q_o (zd7 _ _ _ _ (zbg f) (zd7 _ _ _ _ (zd7 _ _ _ _ (zd7 _ _ _ _ (zd7 _ _ _ _ (zbg a) (zbg b)) (zbg c)) (zbg d)) (zbg e)))
end
open Go Go.RowKit Go.Sy
theorem zxp(a:Int)(k:IntKind)(n:Nat)(h:n<64):Op.shift .shl .i64 a k (n:Int)=pure (.int .i64 (IntKind.i64.wrap (a*2^n))):=by
 rw[shift_shl_any _ _ _ _ (BV _),B6,show min n IntKind.i64.bits=n from BO (BH h)]
theorem ztI(a:Int)(k:IntKind)(n:Nat)(h:n<64):Op.shift .shr .i64 a k (n:Int)=pure (.int .i64 (a/2^n)):=by
 rw[shift_shr_any _ _ _ _ (BV _),B6,show min n IntKind.i64.bits=n from BO (BH h)]
end Go.Wd
namespace Go.Sh
open Go.Wd Go.RowKit
theorem zst(x n:Nat)(hx:x<4294967296)(hn:n<=32):x/2^n+x*2^(32-n)%4294967296=(x <<< (32-n))%4294967296 ||| (x >>> n):=by
 have e:(4294967296:Nat)=2^n*2^(32-n):=by rw[<-As];rw[show n+(32-n)=32 by omega]
 have j:x*2^(32-n)%4294967296=(x%2^n)*2^(32-n):=by rw[e,Cd]
 rw[C6,j,EH,<-C6,<-CP,CW];rw[AW (Nat.two_pow_pos n),A8,<-e];exact hx
theorem zsT(x:UInt32)(n:Nat)(h0:0<n)(h1:n<32):n32 x/2^n+n32 x*2^(32-n)%4294967296=n32 (zcT x n):=by
 have h:=zst x.toNat n x.toNat_lt q_o;have r:(zcT x n).toNat=(x.toNat <<< (32-n))%4294967296 ||| (x.toNat >>> n):=by
  unfold zcT;rw[UInt32.toNat_or,Dd,EQ,Cn,Cn,
   show(32-n)%2^32%32=32-n from by omega,show n%2^32%32=n from by omega]
 have c:∀a b p q m s:Nat,a/p+b*q%m=s->(a:Int)/(p:Int)+(b:Int)*(q:Int)%(m:Int)=(s:Int):=λa b p q m s j=>by
  rw[<-j,DT,DG,ET,BW]
 have:=c _ _ _ _ _ _ h;unfold n32;rw[r,<-this,CE,CE];rfl
theorem zsR(n:Nat):(0:Int)<2^n:=Int.pow_pos q_e
theorem zrP(x:UInt32)(n:Nat)(h0:0<n)(h1:n<32):IntKind.i64.wrap (n32 x*2^(32-n))=n32 x*2^(32-n)/\0<=n32 x*2^(32-n):=by
 have a0:=zQ x;have a1:=zaR x;have p:(2:Int)^(32-n)<=2147483648:=by
  have:2^(32-n)<=2^31:=AA q_e q_o;have j:=Int.ofNat_le.2 this;rw[CE,CE] at j;exact Int.le_trans j q_e
 have r:=zsR (32-n);have m:0<=n32 x*2^(32-n):=Int.mul_nonneg a0 q_o;have q:n32 x*2^(32-n)<=4294967295*2147483648:=Int.mul_le_mul q_o p q_o q_o;exact⟨zcJ _ q_o q_o,m⟩
theorem zqy(x:UInt32)(n:Nat)(h0:0<n)(h1:n<32):IntKind.i64.wrap (n32 x/2^n+n32 x*2^(32-n)%4294967296)=n32 (zcT x n):=by
 rw[zsT x n h0 h1];have:=zaR (zcT x n);have:=zQ (zcT x n);exact zcJ _ q_o q_o
end Go.Sh
namespace Go.Proofs.YtdnlngbjpdbffaaGreatDoor
open Go Go.Sy Go.Wd Go.Sh
attribute [local irreducible] Sy SyL SyX
theorem zcy(x:UInt32)(n:Nat)(w:World)(h0:0<n)(h1:n<32):q_G 309 [.int .i64 (n32 x),.int .i64 n] w (vi (zcT x n)):=by
 refine zo Tryz.func309 Tryz.ntmps309 ?_;have j:IntKind.i64.wrap (32-(n:Int))=((32-n:Nat):Int):=by rw[zcJ _ q_o q_o];omega
 obtain⟨m,q⟩:=zrP x n h0 h1;repeat' (first|refine s_0 ?_|refine q_k 0 ?_|refine z5 (id:=1) 8 [[],[],[0,1],[],[],[4],[3,4,5],[3,4,5,6],[0,1,2,3,4,5,6,7],[0,1,2,3,4,5,6,7,8]] mixed ?_ ?_;kernel_rfl;refine zt ?_;refine zt ?_;refine q_D (zbp rfl rfl rfl (ztI _ _ n q_o)) ?_;refine zt ?_;refine zt ?_;refine q_D (zH rfl rfl rfl j) ?_;refine q_D (zgb rfl rfl rfl ((zxp _ _ (32-n) q_o).trans (by rw[m]))) ?_;refine q_D (zaN rfl rfl rfl q_e (Bu q)) ?_;refine zam ?_;refine q_v (zA rfl rfl rfl (zqy x n h0 h1)) ?_;refine zB ?_|fail)
 exact q_r
theorem zsu(x y z:UInt32)(w:World):q_G 310 [.int .i64 (n32 x),.int .i64 (n32 y),.int .i64 (n32 z)] w (vi ((x &&& y) ^^^ (~~~x &&& z))):=by
 refine zo Tryz.func310 Tryz.ntmps310 ?_;repeat' (first|refine s_0 ?_|refine q_k 0 ?_|refine q_k 1 ?_;refine q_x (zfE rfl rfl rfl (znY _ _)) ?_;refine q_x (zH rfl rfl rfl (zxh _)) ?_;refine q_v (zfE rfl rfl rfl (znY _ _)) ?_;refine q_x (zdt rfl rfl rfl (zgn _ _)) ?_)
 exact q_r
theorem zr4(x y z:UInt32)(w:World):q_G 311 [.int .i64 (n32 x),.int .i64 (n32 y),.int .i64 (n32 z)] w (vi (((x &&& y) ^^^ (x &&& z)) ^^^ (y &&& z))):=by
 refine zo Tryz.func311 Tryz.ntmps311 ?_;repeat' (first|refine s_0 ?_|refine q_k 0 ?_|refine q_k 1 ?_;refine q_x (zfE rfl rfl rfl (znY _ _)) ?_;refine q_v (zfE rfl rfl rfl (znY _ _)) ?_;refine q_x (zdt rfl rfl rfl (zgn _ _)) ?_;refine q_v (zfE rfl rfl rfl (znY _ _)) ?_;refine q_x (zdt rfl rfl rfl (zgn _ _)) ?_)
 exact q_r
end Go.Proofs.YtdnlngbjpdbffaaGreatDoor
namespace Go.Sh
open Go.Wd Go.RowKit Go.Sy
def zqe(O:Nat->Prop)(x:List UInt8)(vs:List Value)(RA:List Res)(W:World):Prop:=∃b o,vs= [.slice (some ⟨b,o,none⟩) 64 64]/\RA= []/\W.rangeAt b o (x.map Sy.v8)/\¬O b
theorem zs4(n i:Nat)(j:i<8):Op.shift .shr .u64 ((n:Int)*8) .i64 (8*(i:Int))=pure (.int .u64 (((8*n)/256^i:Nat):Int))/\IntKind.u8.wrap (((8*n)/256^i:Nat):Int)=n8 (UInt8.ofNat ((8*n)/256^i)):=by
 refine⟨?_,?_⟩
 ·rw[show(8*(i:Int))=((8*i:Nat):Int) from (BW 8 i).symm,shift_shr_any _ _ _ _ (BV _),B6,show min (8*i) IntKind.u64.bits=8*i from BO (by show 8*i<=64;omega)];congr 2;rw[show((n:Int)*8)=((8*n:Nat):Int) from by omega,show((2:Int)^(8*i))=((256^i:Nat):Int) by rw[CE,Int.pow_mul];rfl,<-DG]
 ·rw[wrap_u8_nat,n8_of_nat]
end Go.Sh
namespace Go.Proofs.YtdnlngbjpdbffaaGreatDoor
section
open Go Go.Sy Go.Wd Go.Sh
attribute [local irreducible] Sy SyL SyX Sy.Fn callFunc n8 n32 Rem Has Upd SubR Sy.Sub SetAt Rd Reads Seg RemL
theorem zrT(v:Value)(n:Int)(w:World)(hv:v.oneCell'=true):
  Sy.Fn Tryz.prog 246 [v,.int .i64 n] w No (λu R=>∃j m,u= .func (.func 295) #[] #[.pointer (some ⟨j,0,none⟩),.pointer (some ⟨m,0,none⟩)]/\R= [.blk j 23 [v],.blk m 3 [.int .i64 n]]):=by
 refine zo Tryz.func246 Tryz.ntmps246 ?_;refine zb0 ?_;refine zbU ?_;refine ya (zrD (hv:=hv)) (k:=?_);intro j;repeat' (first|refine s_0 ?_|refine zg 1 ?_;refine q_x zaj ?_|(refine zW ?_;first|refine zB ?_|refine zi ?_;intro _|fail)|fail)
 rename_i m;exact zaw rfl (zr rfl) q_h ⟨j,m,rfl,rfl⟩
theorem zpF(G H:Nat)(a0:Option Addr)(n cap total:Nat)(last:List UInt8)(w:World)(M:Nat->Prop)(hn:last.length=n)(Y:n<=cap)(ht:total<2305843009213693952)
  (b5:SlF w M a0 (last.map Sy.v8)):
  zky Tryz.prog 295 [.pointer (some ⟨G,0,none⟩),.pointer (some ⟨H,0,none⟩)] (zaL last total) zqe w M [.blk G 23 [.slice a0 n cap],.blk H 3 [.int .i64 total]]:=by
 intro l J Jx j0 b0 hh hY;refine zcl Tryz.func295 rfl Tryz.ntmps295 q_p hh ?_;repeat' (first|refine s_t ?_|refine zg 0 ?_;refine zk ?_;refine zb ?_)
 refine zE (γ:=Nat×Nat×Nat×Option Addr×Res) (λg=>[(0,.func (.yield l) #[] #[]),(1,.pointer (some ⟨G,0,none⟩)),(2,.pointer (some ⟨H,0,none⟩)),(4,.slice g.2.2.2.1 g.2.1 g.2.2.1)])
  (λg=>[g.2.2.2.2,.blk G 23 [.slice a0 n cap],.blk H 3 [.int .i64 total]])
  (λg=>64*g.1+g.2.1=n/\g.2.1<=g.2.2.1/\g.2.2.1<=cap/\J g.1 g.2.2.2.2/\SlF w M g.2.2.2.1 ((last.drop (64*g.1)).map v8))
  (λg=>g.2.1) (0,n,cap,a0,j0) ⟨by simp,Y,A4 _,b0,by simpa using b5⟩ ?_ ?_ ?_
 ·exact q_h
 ·exact q_h
 rintro⟨q,m,c,a1,j⟩ ⟨hq,b4,c1,hJ,F⟩;dsimp only at*;have A:(last.drop (64*q)).length=m:=by rw[List.length_drop];omega
 by_cases hge:64<=m
 ·have b3:q<last.length/64:=q_o;have Z:q<(zaL last total).length:=by rw[zj2];omega
  have b8:(zaL last total)[q]=(last.drop (64*q)).take 64:=by
   have:=zpK last total q b3;rw[A1 Z] at this;exact Ap this
  obtain⟨b,o,rfl,hr,a6⟩:∃b o,a1=some ⟨b,o,none⟩/\w.rangeAt b o ((last.drop (64*q)).map v8)/\¬M b:=by
   rcases F with h|h
   ·exfalso;have:=congrArg List.length h;rw[A0,A] at this;simp at this;omega
   ·exact h
  have harg:∀(B:World) (X:List Res),Keep M w B->Holds w.heap.size M (j::[]++X) B->zqe j.own (zaL last total)[q] [.slice (some ⟨b,o,none⟩) 64 64] [] B:=λB X C t=>
   ⟨b,o,rfl,rfl,λi v E=>C.cell (hr i v (by
    rw[b8,CN,Bt] at E;split at E
    ·exact E
    ·cases E)) a6,λW=>by
    rcases t.mine j A5 b W with h|h
    ·have:=World.block_lt_of_cell? w ⟨b,o,none⟩ (u:=Sy.v8 ((last.drop (64*q)).getD 0 0)) (by
      have:=hr 0 (Sy.v8 ((last.drop (64*q)).getD 0 0)) (by rw[AY,DB,A1 q_o];rfl);rw[BI] at this;exact this)
     dsimp only at this;omega
    ·exact a6 h⟩
  repeat' (first|refine s_t ?_|refine q_k 1 ?_;refine q_v zP ?_|refine q_k 2 ?_;refine zcC ?_;(refine q_s (zda hY Z hJ (hL:=FH (by exact F1) rfl FP) (harg:=λB X C t=>harg B _ C t)) ?_;rintro _ _ ⟨y,L,rfl,rfl,K⟩);refine zJ ?_)
  refine zej rfl (λh=>?_) (λh=>?_)
  ·obtain rfl:y=false:=by simpa using h
   repeat' (first|refine s_0 ?_|fail)
   exact zk7 rfl q_h ⟨L,rfl,.inr ⟨q+1,by omega,K⟩⟩
  ·obtain rfl:y=true:=by simpa using h
   repeat' (first|refine s_0 ?_|refine q_k 3 ?_;refine zcC ?_;refine zb ?_)
   refine zy (q+1,m-64,c-64,zb4 (some ⟨b,o,none⟩) 64 c 1,L) ?_ ?_ ?_ ?_
   ·refine⟨by dsimp only;omega,by dsimp only;omega,by dsimp only;omega,K,?_⟩
    ·have:=F.mov (l:=64) (m:=c) (by rw[List.length_map,A];exact b4);rw[<-Cm,DD,show 64*q+64=64*(q+1) from by omega] at this;exact this
   ·show m-64<m;omega
   ·exact q_h
   ·exact q_h
 -- the end
 obtain⟨r,hr⟩:∃r,r=last.drop (64*q):=⟨_,rfl⟩;have Q:last.length/64=q:=q_o;rw[<-hr] at A F;repeat' (first|refine s_0 ?_|refine q_k 1 ?_;refine q_v zP ?_|refine q_k 4 ?_|refine q_k 5 ?_;refine zaI ?_;refine q_v zF ?_)
 refine zb9 (γ:=Nat) (λS=>[(0,.func (.yield l) #[] #[]),(1,.pointer (some ⟨G,0,none⟩)),(2,.pointer (some ⟨H,0,none⟩)),(4,.slice a1 m c),(5,.int .i64 S)])
  (λ_=>[j,.blk G 23 [.slice a0 n cap],.blk H 3 [.int .i64 total]]) (λS=>S=if m+9>64 then 128 else 64) ?_ ?_
 ·refine zej rfl (λh=>?_) (λh=>?_)
  ·repeat' (first|refine zav ?_|refine zai ?_|refine q_k 6 ?_)
   refine zZ 128 ?_ ?_ ?_
   ·rw[if_pos (by have:=of_decide_eq_true h;omega)]
   ·exact q_h
   ·exact q_h
  ·repeat' (first|refine zee ?_|refine zai ?_|fail)
   refine zZ 64 ?_ ?_ ?_
   ·rw[if_neg (by have:=of_decide_eq_false h;omega)]
   ·exact q_h
   ·exact q_h
 intro S hS;have b9:m+9<=S/\S<=128:=by split at hS <;> omega
 have T:zaz (List.replicate S (Value.int .u8 0)) 0 (r.map Sy.v8)=(r++List.replicate (S-m) 0).map Sy.v8:=by
  rw[zvz,A0,A,List.drop_replicate,Aw,Ba,zpm]
 repeat' (first|refine s_t ?_|refine zK [7,10] ?_;refine zb ?_|refine q_k 8 ?_;refine q_v (ze1 (Rd.oldF F) (by rw[A0,A]) T) ?_|refine q_k 9 ?_;refine zD ?_;refine zS ?_|refine q_s zd1 ?_;rintro _ _ ⟨I,rfl,rfl⟩|(refine zW ?_;first|refine zB ?_|fail)|fail)
 obtain⟨d,hd⟩:∃d,S=m+1+d+8:=⟨S-m-9,by omega⟩;refine zE (γ:=Nat) (λi=>[(0,.func (.yield l) #[] #[]),(1,.pointer (some ⟨G,0,none⟩)),(2,.pointer (some ⟨H,0,none⟩)),(5,.int .i64 S),(6,.slice (some ⟨I,0,none⟩) S S),(32,.int .i64 i)])
  (λi=>[.blk I 5 ((r++128::(List.replicate (d+8-i) 0++(be8 (8*total)).drop (8-i))).map Sy.v8),j,.blk G 23 [.slice a0 n cap],.blk H 3 [.int .i64 total]])
  (λi=>i<=8) (λi=>8-i) 0 (AE _) ?_ ?_ ?_
 ·exact q_h
 ·(repeat' (first|exact F2|apply F9;with_reducible (focus ((repeat (first|exact F1|apply F3));done))|apply FC;(focus ((repeat (first|exact F1|apply F3));done))|apply FA;(focus ((repeat (first|exact F1|apply F3));done))|rfl))
  have e1:(be8 (8*total)).drop 8= []:=Bd (by rw[zfT];omega);have e2:S-m=(d+8)+1:=q_o;show _=List.map Sy.v8 (r++128::(List.replicate (d+8) 0++(be8 (8*total)).drop 8));rw[e1,e2,AZ,show Value.int .u8 128=Sy.v8 128 from Sy.v8_lit 128 q_e,<-BS,Ce _ _ q_o,A,C5];rfl
 intro i hi;by_cases hlt:i<8
 ·obtain⟨q1,q2⟩:=zs4 total i hlt;have q3:IntKind.i64.wrap (8*(i:Int))=8*(i:Int):=zcJ _ q_o q_o;have q4:IntKind.i64.wrap ((S:Int)-1-(i:Int))=((r.length+1+(d+7-i):Nat):Int):=by rw[zcJ _ q_o q_o,A];omega
  repeat' (first|refine s_t ?_|refine zg 11 ?_;refine zR ?_|refine q_k 12 ?_|refine q_k 13 ?_;refine q_x zH ?_;refine q_v (zH (hr:=q4)) ?_;refine zk ?_;refine q_v (by first|exact op_convSame|exact op_toStrD|exact zal) ?_;refine q_x zas ?_;refine q_v zas ?_;refine q_v (zbp (hr:=q1)) ?_;refine q_v (zal (hr:=q2)) ?_;refine zD ?_;refine zS ?_|refine zg 14 ?_;refine zaI ?_;refine zb ?_)
  refine zy (i+1) ?_ ?_ ?_ ?_
  ·show i+1<=8;omega
  ·show 8-(i+1)<8-i;omega
  ·exact q_h
  ·(repeat' (first|exact F2|apply F9;with_reducible (focus ((repeat (first|exact F1|apply F3));done))|apply FC;(focus ((repeat (first|exact F1|apply F3));done))|apply FA;(focus ((repeat (first|exact F1|apply F3));done))|rfl))
   rw[<-zr6 r d (8*total) i hlt,BS];rfl
 obtain rfl:i=8:=q_o;have R:r++128::(List.replicate (d+8-8) 0++(be8 (8*total)).drop (8-8))=tail r total:=by
  unfold tail;rw[A,<-hS,show S-m-9=d from by omega];simp
 rw[R];have a7:(tail r total).length=S:=by rw[znB r total q_o,A,hS]
 have c0:(zaL last total).length=q+S/64:=by rw[zj2,Q,<-hr,a7]
 have b7:∀i,i<S/64->∃h:q+i<(zaL last total).length,(zaL last total)[q+i]=((tail r total).drop (64*i)).take 64:=λi hi=>by
  have N:q+i<(zaL last total).length:=q_o;have:=zop last total i (by rw[Q,<-hr,a7];exact hi);rw[Q,<-hr,A1 N] at this;exact⟨N,Ap this⟩
 have V:S=64\/S=128:=by split at hS <;> omega
 generalize zaL last total=U,tail r total=tl at*
 -- what is handed over
 have harg:∀(i:Nat) (j:Res) (N:q+i<U.length) (Rest:List Res),i<S/64->∀(B:World) (X:List Res),Keep M w B->Holds w.heap.size M (j::[]++((.blk I 5 (tl.map Sy.v8)::Rest)++X)) B->zqe j.own U[q+i] [.slice (some ⟨I,64*i,none⟩) 64 64] [] B:=λi j N Rest hi B X C t=>by
  refine⟨I,64*i,rfl,rfl,?_,λW=>?_⟩
  ·have W:(Res.blk I 5 (tl.map Sy.v8)).holds B:=t.all _ q_p;rw[(b7 i hi).2];intro k v E;rw[zeR W];rw[CN,Cm,Bt] at E;split at E
   ·rw[Be] at E;exact E
   ·cases E
  ·have:=(Am.1 t.apart).1 (Res.blk I 5 (tl.map Sy.v8)) q_p I W;exact this rfl
 have h0:q+0<U.length:=q_o;rcases V with O|O
 ·subst O;have P:U.length=q+1:=q_o;repeat' (first|refine s_0 ?_|refine zg 11 ?_;refine zR ?_|refine q_k 15 ?_;refine zcC ?_;(refine q_s (zda hY h0 hJ (hL:=FH (by exact F3 F1) rfl FP) (harg:=λB X C t=>harg 0 j h0 _ q_e B X C t)) ?_;rintro _ _ ⟨y,L,rfl,rfl,K⟩;cases y);refine zb ?_|(refine zW ?_;first|refine q_v zF ?_|refine zaS ?_|refine zcb ?_|fail)|fail)
  ·exact ze4 rfl q_h ⟨L,rfl,.inr ⟨q+1,by omega,K⟩⟩
  ·exact ze4 rfl q_h ⟨L,rfl,.inl (by rw[P];exact K)⟩
 ·subst O;have P:U.length=q+1+1:=q_o;have N:q+1<U.length:=q_o;repeat' (first|refine s_0 ?_|refine zg 11 ?_;refine zR ?_|refine q_k 15 ?_;refine zcC ?_;(refine q_s (zda hY h0 hJ (hL:=FH (by exact F3 F1) rfl FP) (harg:=λB X C t=>harg 0 j h0 _ q_e B X C t)) ?_;rintro _ _ ⟨y,L,rfl,rfl,K⟩;cases y);refine zb ?_|refine q_k 16 ?_;refine zcC ?_|(refine zW ?_;first|refine q_v zF ?_|refine zaS ?_|refine zcb ?_|fail)|fail)
  ·exact ze4 rfl q_h ⟨L,rfl,.inr ⟨q+1,by omega,K⟩⟩
  ·repeat' (first|refine zav ?_|(refine zW ?_;first|refine q_s (zda hY N K (hL:=FH (by exact F1) rfl FP) (harg:=λB X C t=>harg 1 L N _ q_e B X C t)) ?_;rintro _ _ ⟨y,a9,rfl,rfl,a8⟩;cases y|fail)|fail)
   ·exact ze4 rfl q_h ⟨a9,rfl,.inr ⟨q+1+1,by omega,a8⟩⟩
   ·exact ze4 rfl q_h ⟨a9,rfl,.inl (by rw[P];exact a8)⟩
end
open Go Go.Sy Go.Wd Go.Sh
attribute [local irreducible] Sy SyL SyX Sy.Fn callFunc
theorem zlW(s:List UInt32)(k:Nat)(h:k<s.length):ser (s.take (k+1))=ser (s.take k)++be4 (s.getD k 0):=by
 unfold ser;rw[Aj h,CS];simp[List.getD,h]
theorem ziZ(s:List UInt32):(ser s).length=4*s.length:=by
 induction s with
 |nil=>rfl
 |cons x s ih=>simp only[ser,Dg,A2] at*;rw[ih];simp[be4];omega
theorem za8{α:Type}{C L:List α}{k:Nat}(h:k<C.length)(hL:C.take k=L)(v:α):(C.set k v).take (k+1)=L++[v]:=by
 rw[Aj (by simpa using h),DL (A4 k),hL];simp
theorem zro{α:Type}{C L:List α}{k:Nat}(h:k+3<C.length)(hL:C.take k=L)(a b c d:α):
  ((((C.set k a).set (k+1) b).set (k+2) c).set (k+3) d).take (k+4)=L++[a,b,c,d]:=by
 have j:=za8 (C:=C) q_o hL a;have m:=za8 (C:=C.set k a) (by simp;omega) j b;have q:=za8 (C:=(C.set k a).set (k+1) b) (by simp;omega) m c;have r:=za8 (C:=((C.set k a).set (k+1) b).set (k+2) c) (by simp;omega) q d;rw[r];simp
theorem zqR(s:List UInt32)(w:World)(t:s.length=8):q_G 248 [.agg (s.map v32).toArray] w (.agg ((ser s).map v8).toArray):=by
 refine zo Tryz.func248 Tryz.ntmps248 ?_;repeat' (first|refine s_t ?_|refine zg 0 ?_;refine zi ?_;intro _;refine zi ?_;intro _|refine zg 1 ?_;refine zk ?_;refine zb ?_)
 rename_i B m;refine zE (γ:=Nat×List UInt8) (λg=>[(2,.pointer (some ⟨m,0,none⟩)),(5,.agg (s.map v32).toArray),(6,.int .i64 g.1)]) (λg=>[.blk m 199 (g.2.map v8)])
  (λg=>g.1<=8/\g.2.length=32/\g.2.take (4*g.1)=ser (s.take g.1)) (λg=>8-g.1) (0,List.replicate 32 0) ⟨by omega,by simp,rfl⟩ ?_ ?_ ?_
 ·exact q_h
 ·exact q_h
 ·rintro⟨k,C⟩ ⟨E,r,j⟩;dsimp only at*;by_cases hlt:k<8
  ·have q:(s.map v32)[k]?=some (v32 (s.getD k 0)):=by simp[List.getD,t,hlt]
   generalize A:s.getD k 0=x at*;repeat' (first|refine s_t ?_|refine zg 2 ?_;refine zR ?_|refine q_k 3 ?_;refine q_x (by first|exact zjy|exact zN) ?_|refine q_k 4 ?_;refine q_x zas ?_;refine q_v zas ?_;refine zaI ?_;refine zb ?_;refine q_v zas ?_;refine zaI ?_;refine zb ?_;refine q_v zas ?_;refine zaI ?_;refine zb ?_;refine q_v (zbp (hr:=zk6 x _ 24 q_e)) ?_;refine q_x (zal (hr:=zdz _)) ?_;refine q_v (zbp (hr:=zk6 x _ 16 q_e)) ?_;refine q_x (zal (hr:=zdz _)) ?_;refine q_v (zbp (hr:=zk6 x _ 8 q_e)) ?_;refine q_x (zal (hr:=zdz _)) ?_;refine q_v (zal (hr:=zdz _)) ?_;refine zD ?_;refine zS ?_;refine zD ?_;refine zS ?_;refine zD ?_;refine zS ?_;refine zD ?_;refine zS ?_|refine zg 5 ?_;refine zaI ?_;refine zb ?_)
   refine zy (k+1,((((C.set (4*k) (x >>> UInt32.ofNat 24).toUInt8).set (4*k+1) (x >>> UInt32.ofNat 16).toUInt8).set (4*k+2) (x >>> UInt32.ofNat 8).toUInt8).set (4*k+3) x.toUInt8)) ?_ ?_ ?_ ?_
   ·refine⟨by omega,by simp only[AI];exact r,?_⟩;show List.take (4*(k+1)) _=_;rw[zlW s k q_o,show 4*(k+1)=4*k+4 from by omega,A];exact zro q_o j _ _ _ _
   ·show 8-(k+1)<8-k;omega
   ·exact q_h
   ·(repeat' (first|exact F2|apply F9;with_reducible (focus ((repeat (first|exact F1|apply F3));done))|apply FC;(focus ((repeat (first|exact F1|apply F3));done))|apply FA;(focus ((repeat (first|exact F1|apply F3));done))|rfl))
    simp only[BS];rfl
  ·obtain rfl:k=8:=q_o;repeat' (first|refine s_0 ?_|refine zg 2 ?_;refine zR ?_|refine zg 6 ?_;refine zk ?_;refine zS ?_)
   refine zaw rfl (zz rfl (ty rfl) rfl F4 F0 (by first|rfl|simp only[A0,AI,AK,A2];omega|(simp only[A0];first|assumption|omega)|simp;omega|fail)) F2 ⟨?_,rfl⟩;rw[A6 q_o,A6 q_o] at j;rw[j]
end Go.Proofs.YtdnlngbjpdbffaaGreatDoor
