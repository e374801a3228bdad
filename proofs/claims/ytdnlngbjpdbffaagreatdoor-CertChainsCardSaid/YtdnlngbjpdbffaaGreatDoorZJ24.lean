/- Lemmas. -/
import Derived.Test.YtdnlngbjpdbffaaGreatDoorZJ23
import Derived.Test.YtdnlngbjpdbffaaGreatDoorZJ21
import Derived.Deep.QuietTactic
import Derived.BigQuiet
import Derived.Lib.Hide
set_option maxHeartbeats 1000000
set_option maxRecDepth 10000
set_option linter.all false
namespace Go.Nt
open Go Go.Sy
theorem zAr:18446744073709551616^16=65536^64:=zhC 65536 16 64 rfl rfl
theorem ndW{x:Nat}(h:x<18446744073709551616^16):nd 65536 x<=64:=zbj _ _ _ q_e (by rw[<-zAr];exact h)
theorem zxs(i:Nat)(h0:1<=i)(j:i<=4):(gP i-1)/2=gQ i:=by
 have:=zsl i h0 j;omega
end Go.Nt
namespace Go.Proofs.YtdnlngbjpdbffaaGreatDoor
section
open Go Go.Sy Go.Nt Go.RowKit
attribute [local irreducible] Sy SyL SyX Sy.Fn callFunc zg zac iC gP gQ gL zaL
theorem zl2(z:Int)(w:World):q_G 228 [.int .i64 z] w (.bool (decide (1<=z/\z<=4))):=by
 refine zt Tryz.func228 Tryz.ntmps228 ?_;by_cases h1:1<=z
 ·have g1:decide (z>=1)=true:=decide_eq_true h1;have g2:decide (z<=4)=decide (1<=z/\z<=4):=decide_eq_decide.2 ⟨λh=>⟨h1,h⟩,λh=>h.2⟩;generalize decide (1<=z/\z<=4)=b at*;repeat' (first|refine s_0 ?_|refine q_k 0 ?_|refine q_k 1 ?_;refine q_x (zO (hr:=g1)) ?_;refine q_x (zaA (hr:=g2)) ?_)
  exact q_r
 ·have g1:decide (z>=1)=false:=decide_eq_false h1;rw[show decide (1<=z/\z<=4)=false from decide_eq_false (λh=>h1 h.1)];repeat' (first|refine s_0 ?_|refine q_k 0 ?_|refine q_k 1 ?_;refine q_x (zO (hr:=g1)) ?_)
  exact q_r
theorem zjx(i:Nat)(w:World)(h0:1<=i)(r:i<=4):Sy.Fn Tryz.prog 229 [.int .i64 (i:Int)] w No (zc7 (gP i)):=by
 refine zt Tryz.func229 Tryz.ntmps229 ?_;have g3:IntKind.i64.wrap ((i:Int)-1)=((i-1:Nat):Int):=q_w;have m:=zlk i h0 r;have q:=λA=>ztu (gS i) A (by have:=zsG i h0 r;omega);rw[zol i h0 r] at q;dsimp only at q;unfold zc7;repeat' (first|refine s_0 ?_|refine q_k 0 ?_)
 refine zf 1 ?_;refine q_s (zz (vs:=zek)) ?_;rintro _ _ ⟨E,rfl,rfl⟩;generalize gS i=S,zek=B at*;repeat' (first|refine s_0 ?_|refine q_k 2 ?_;(refine q_s (zi (hc:=λA X H G=>q A)) ?_;rintro _ _ ⟨R,rfl,a1,F,rfl,rfl⟩);refine zb ?_|refine q_k 3 ?_|(refine zx ?_;first|refine q_v (zK (hr:=g3)) ?_|refine q_v (zcV (j:=i-1)) ?_|refine q_v (zM (hv:=m)) ?_|refine zw ?_|refine zaU ?_|fail)|fail)
 exact q_r
theorem zsM(i:Nat)(w:World)(h0:1<=i)(B:i<=4):Sy.Fn Tryz.prog 158 [.int .i64 (i:Int)] w No (zc7 (gQ i)):=by
 refine zt Tryz.func158 Tryz.ntmps158 ?_;have K:=zcq i h0 B;have W:=ndW K;have M:=zbS i h0 B;have L:=λj=>zjx i j h0 B;have I:=λj=>zlr 1 j q_e;have J:=λj=>zlr 2 j q_e;have Y:=zbj 65536 1 1 q_e q_e;have Z:=zbj 65536 2 1 q_e q_e;have n3:=zqE 65536 (gP i-1) (gP i) q_e (EL _ _);have N:=λj a c A F (h:SlA j a (zac (gP i))) (G:SlA j A (zac 1))=>zmc a A c F (gP i) 1 j h G q_o q_o;have H:=λj a c A F (h:SlA j a (zac (gP i-1))) (G:SlA j A (zac 2))=>zli a A c F (gP i-1) 2 j h G q_o q_o q_e;rw[zxs i h0 B] at H;unfold zc7 at*;generalize gQ i=q,gP i=p,gP i-1=p1,(gP i-1)%2=r at*;repeat' (first|refine s_0 ?_|refine zA [0,2] ?_;refine zb ?_|refine q_k 1 ?_;(refine q_s (zi (hc:=λj X E m=>L j)) ?_;rintro _ _ ⟨R,rfl,a1,P,rfl,rfl⟩);(refine q_s (zi (hc:=λj X E m=>I j)) ?_;rintro _ _ ⟨R,rfl,a2,Q,rfl,rfl⟩);(refine q_s (zi (hc:=λj X E m=>N j _ _ _ _ (zat m q_h) (zat m q_h))) ?_;rintro _ _ ⟨R,rfl,a3,S,rfl,rfl⟩);(refine q_s (zi (hc:=λj X E m=>J j)) ?_;rintro _ _ ⟨R,rfl,a4,T,rfl,rfl⟩);(refine q_s (zi (hc:=λj X E m=>H j _ _ _ _ (zat m q_h) (zat m q_h))) ?_;rintro _ _ ⟨R,rfl,a5,U,O,V,rfl,rfl⟩);refine zb ?_)
 exact q_r
theorem zzS(i:Nat)(h0:1<=i)(j:i<=4):decide (1<=(i:Int)/\(i:Int)<=4)=true:=decide_eq_true ⟨by omega,by omega⟩
theorem zxR(i:Nat)(w:World)(h0:1<=i)(q:i<=4):q_G 154 [.int .i64 (i:Int)] w (.int .i64 ((gL i:Nat):Int)):=by
 refine zt Tryz.func154 Tryz.ntmps154 ?_;have m:=λj=>zl2 (i:Int) j;rw[zzS i h0 q] at m;have G:=ndW (zcq i h0 q);have A:=λj=>zjx i j h0 q;have r:=λj a c (h:SlA j a (zac (gP i)))=>zs8 a c (gP i) j h q_o;rw[zlE i h0 q] at r;unfold zc7 at A;generalize gL i=l,gP i=p,byt (gP i)=D at*;repeat' (first|refine s_0 ?_|refine q_k 0 ?_|refine q_k 1 ?_;refine q_v (za (hc:=q_c m)) ?_;refine zI ?_|refine q_k 3 ?_;(refine q_s (zi (hc:=λj X B m=>A j)) ?_;rintro _ _ ⟨R,rfl,a1,E,rfl,rfl⟩);(refine q_s (zi (hc:=λj X B m=>r j _ _ (zat m q_h))) ?_;rintro _ _ ⟨R,rfl,a2,F,rfl,rfl⟩);refine zb ?_)
 exact q_r
theorem zrq(i:Nat)(a:Option Addr)(G x:Nat)(w:World)(h0:1<=i)(E:i<=4)(ha:SlA w a (zac x))(hx:nd 65536 x<20000):
  q_G 227 [.int .i64 (i:Int),.slice a (nd 65536 x) G] w (.bool (zaL (gP i) (gQ i) x)):=by
 refine zt Tryz.func227 Tryz.ntmps227 ?_;have m:=λj=>zl2 (i:Int) j;rw[zzS i h0 E] at m;have Y:=ndW (zcq i h0 E);have Z:=ndW (zci i h0 E);have T:=zbS i h0 E;have Q:=(zrw 65536 x q_e).1;rcases AE x with h|h
 ·subst h;have I:zaL (gP i) (gQ i) 0=false:=by unfold zaL;exact decide_eq_false (λh=>absurd h.1 q_o)
  rw[I];have g1:decide (((nd 65536 0:Nat):Int)=0)=true:=decide_eq_true (by rw[zb4];rfl);repeat' (first|refine s_0 ?_|refine zA [0,2] ?_;refine zb ?_|refine q_k 1 ?_;refine q_v (za (hc:=q_c m)) ?_;refine zI ?_;refine zb ?_;refine q_x (zS (hr:=g1)) ?_)
  exact q_r
 have g1:decide (((nd 65536 x:Nat):Int)=0)=false:=q_f;have K:=λj=>zjx i j h0 E;have hc:=λj d cd (A:Keep No w j) (h:SlA j d (zac (gP i)))=>zhB a d G cd x (gP i) j (ha.to A (λ_ h=> .inr h)).sla h q_o q_o;by_cases hxp:x<gP i
 ·have g2:decide (zbA x (gP i)>=0)=false:=by rw[zhZ hxp];rfl
  have S:=λj=>zsM i j h0 E;have P:=λj d cd F B (A:Keep No w j) (h:SlA j d (zac (gQ i))) (H:SlA j F (zac (gP i)))=>zyg a d F G cd B x (gQ i) (gP i) j (ha.to A (λ_ h=> .inr h)).sla h H hx q_o q_o q_o;have O:=λj=>zlr 1 j q_e;have n1:=zbj 65536 1 1 q_e q_e;have nr:=ztC 65536 (x^gQ i) (gP i) q_e q_o;have J:=λj d cd F B (h:SlA j d (zac (x^gQ i%gP i))) (H:SlA j F (zac 1))=>zhB d F cd B (x^gQ i%gP i) 1 j h H q_o q_o;have g3:decide (zbA (x^gQ i%gP i) 1=0)=zaL (gP i) (gQ i) x:=by
   unfold zaL;refine decide_eq_decide.2 ⟨λe=>⟨h,hxp,ztj e⟩,λe=>?_⟩;rw[e.2.2];exact zjf 1
  unfold zc7 at*;generalize x^gQ i%gP i=r,zaL (gP i) (gQ i) x=b at*;generalize zbA x (gP i)=M,zbA r 1=N at*;generalize gQ i=q,gP i=p at*;repeat' (first|refine s_0 ?_|refine q_k 0 ?_|refine q_k 1 ?_;refine q_v (za (hc:=q_c m)) ?_;refine zI ?_;refine zb ?_;refine q_x (zS (hr:=g1)) ?_;(refine q_s (zi (hc:=λj X A m=>K j)) ?_;rintro _ _ ⟨R,rfl,a1,L,rfl,rfl⟩);refine q_v (za (hc:=λj X A m=>hc j _ _ A (zat m q_h))) ?_;refine q_x (zO (hr:=g2)) ?_|refine q_k 3 ?_;(refine q_s (zi (hc:=λj X A m=>S j)) ?_;rintro _ _ ⟨R,rfl,a2,U,rfl,rfl⟩);refine zb ?_;(refine q_s (zi (hc:=λj X A m=>K j)) ?_;rintro _ _ ⟨R,rfl,a1,L,rfl,rfl⟩);(refine q_s (zi (hc:=λj X A m=>P j _ _ _ _ A (zat m q_h) (zat m q_h))) ?_;rintro _ _ ⟨R,rfl,a3,V,rfl,rfl⟩);(refine q_s (zi (hc:=λj X A m=>O j)) ?_;rintro _ _ ⟨R,rfl,a4,W,rfl,rfl⟩);refine q_v (za (hc:=λj X A m=>J j _ _ _ _ (zat m q_h) (zat m q_h))) ?_;refine q_x (zS (hr:=g3)) ?_)
  exact q_r
 ·have g2:decide (zbA x (gP i)>=0)=true:=decide_eq_true (zlS q_o);have I:zaL (gP i) (gQ i) x=false:=by unfold zaL;exact decide_eq_false (λh=>hxp h.2.1)
  rw[I];unfold zc7 at*;generalize gP i=p,zbA x (gP i)=M at*;repeat' (first|refine s_0 ?_|refine zA [0,2] ?_;refine zb ?_|refine q_k 1 ?_;refine q_v (za (hc:=q_c m)) ?_;refine zI ?_;refine zb ?_;refine q_x (zS (hr:=g1)) ?_;(refine q_s (zi (hc:=λj X A m=>K j)) ?_;rintro _ _ ⟨R,rfl,a1,L,rfl,rfl⟩);refine q_v (za (hc:=λj X A m=>hc j _ _ A (zat m q_h))) ?_;refine q_x (zO (hr:=g2)) ?_)
  exact q_r
end
open Go Go.Sy Go.Nt Go.RowKit
def zdQ(z:Int)(l:List UInt8):Nat×Bool:=if (1<=z/\z<=4)/\l.length=gL z.toNat then (bev 256 (bn l),true) else (0,false)
theorem zf5{z:Int}(hz:1<=z/\z<=4):gL z.toNat<=96:=by have:=zgJ z;unfold zbm at this;rwa[if_pos hz] at this
theorem zxf(z:Int)(l:List UInt8):nd 65536 (zdQ z l).1<=64:=by
 unfold zdQ;by_cases h:(1<=z/\z<=4)/\l.length=gL z.toNat
 ·rw[if_pos h];have:=zf5 h.1;exact ndW (znD q_o)
 ·rw[if_neg h];exact BE (Nat.le_of_eq (zb4 _)) (AA _)
theorem zui(z:Int)(l:List UInt8):decide ((gel z l).2=0)=((zdQ z l).2&&zaL (gP z.toNat) (gQ z.toNat) (zdQ z l).1):=by
 unfold zdQ gel;by_cases hz:1<=z/\z<=4
 ·rw[if_pos hz];by_cases h1:l.length<gL z.toNat
  ·rw[if_pos h1,if_neg (show ¬((1<=z/\z<=4)/\l.length=gL z.toNat) from λh=>by omega)];rfl
  rw[if_neg h1];by_cases h2:gL z.toNat<l.length
  ·rw[if_pos h2,if_neg (show ¬((1<=z/\z<=4)/\l.length=gL z.toNat) from λh=>by omega)];rfl
  rw[if_neg h2,if_pos (show(1<=z/\z<=4)/\l.length=gL z.toNat from ⟨hz,by omega⟩)];by_cases h3:zaL (gP z.toNat) (gQ z.toNat) (bev 256 (bn l))=true
  ·rw[if_pos h3];dsimp only;rw[h3];rfl
  ·rw[if_neg h3];dsimp only;rw[Bool.not_eq_true] at h3;rw[h3];rfl
 ·rw[if_neg hz,if_neg (show ¬((1<=z/\z<=4)/\l.length=gL z.toNat) from λh=>hz h.1)];rfl
attribute [local irreducible] Sy SyL SyX Sy.Fn callFunc zg zae zac iC gP gQ gL zaL zag zbc za5 gel zaW zb2
def zrT(x:Nat)(b:Bool)(v:Value)(R:List Res):Prop:=∃a c,v= .tuple #[.slice a (nd 65536 x) c,.bool b]/\R= [.row (.slice a (nd 65536 x) c) 3 1 (nd 65536 x) (zac x)]
theorem zrj(z:Int)(a:Option Addr)(n c:Nat)(l:List UInt8)(w:World)(E:l.length=n)(hb:SlA w a (l.map v8)):
  Sy.Fn Tryz.prog 220 [.int .i64 z,.slice a n c] w No (zrT (zdQ z l).1 (zdQ z l).2):=by
 refine zt Tryz.func220 Tryz.ntmps220 ?_;have r:=λj=>zl2 z j;by_cases hz:1<=z/\z<=4
 ·rw[decide_eq_true hz] at r;obtain⟨i,rfl,B,h0,H⟩:=zdj hz;have A:=λj=>zxR i j h0 H;have F:=zf5 hz;rw[B] at F;by_cases hn:n=gL i
  ·have q:zdQ (i:Int) l=(bev 256 (bn l),true):=by unfold zdQ;rw[if_pos ⟨hz,by rw[E,B];exact hn⟩]
   rw[q];have G:=λj (I:Keep No w j)=>zxC a n c l j E (hb.to I (λ_ h=> .inr h)).sla q_o;unfold zc7 at G;have g1:decide ((n:Int)≠((gL i:Nat):Int))=false:=decide_eq_false (λh=>h q_o);generalize gL i=m,bev 256 (bn l)=x at*;repeat' (first|refine s_0 ?_|refine q_k 0 ?_|refine q_k 1 ?_;refine q_v (za (hc:=q_c r)) ?_;refine zI ?_;refine zb ?_;refine q_v (za (hc:=q_c A)) ?_;refine q_x (zad (hr:=g1)) ?_|refine q_k 3 ?_;(refine q_s (zi (hc:=zr G)) ?_;rintro _ _ ⟨R,rfl,a1,J,rfl,rfl⟩);refine zb ?_)
   exact zU rfl (zh rfl) (zh rfl) q_h ⟨_,_,rfl,rfl⟩
  ·have q:zdQ (i:Int) l=(0,false):=by unfold zdQ;rw[if_neg (λh=>hn (by rw[<-E,h.2,B]))]
   rw[q];have g1:decide ((n:Int)≠((gL i:Nat):Int))=true:=decide_eq_true (λh=>hn q_o);generalize gL i=m at*;repeat' (first|refine s_0 ?_|refine zA [0,2] ?_;refine zb ?_|refine q_k 1 ?_;refine q_v (za (hc:=q_c r)) ?_;refine zI ?_;refine zb ?_;refine q_v (za (hc:=q_c A)) ?_;refine q_x (zad (hr:=g1)) ?_)
   refine zcp (zaT 3 1) ?_;exact zU (R:=[.row (.slice none 0 0) 3 1 0 []]) rfl (zh rfl) (zh rfl) q_h ⟨none,0,by rw[zb4],by rw[zb4,zjy]⟩
 ·rw[decide_eq_false hz] at r;have q:zdQ z l=(0,false):=by unfold zdQ;rw[if_neg (λh=>hz h.1)]
  rw[q];repeat' (first|refine s_0 ?_|refine zA [0,2] ?_;refine zb ?_|refine q_k 1 ?_;refine q_v (za (hc:=q_c r)) ?_;refine zI ?_;refine zb ?_)
  refine zcp (zaT 3 1) ?_;exact zU (R:=[.row (.slice none 0 0) 3 1 0 []]) rfl (zh rfl) (zh rfl) q_h ⟨none,0,by rw[zb4],by rw[zb4,zjy]⟩
theorem zq5(z:Int)(a:Option Addr)(n c:Nat)(l:List UInt8)(w:World)(H:l.length=n)(hb:SlA w a (l.map v8)):
  Sy.Fn Tryz.prog 153 [.int .i64 z,.slice a n c] w No (zrT (zdQ z l).1 (decide ((gel z l).2=0))):=by
 refine zt Tryz.func153 Tryz.ntmps153 ?_;have r:=λj (B:Keep No w j)=>zrj z a n c l j H (hb.to B (λ_ h=> .inr h)).sla;have I:=zxf z l;rw[zui z l];have A:(zdQ z l).2=true->1<=z/\z<=4:=by
  intro h;unfold zdQ at h;by_cases h1:(1<=z/\z<=4)/\l.length=gL z.toNat
  ·exact h1.1
  ·rw[if_neg h1] at h;cases h
 unfold zrT at r;generalize (zdQ z l).2=b,(zdQ z l).1=x at*;cases b with
 |false=>
  rw[BX];repeat' (first|refine s_0 ?_|refine zA [0,2] ?_;refine zb ?_|refine q_k 1 ?_;(refine q_s (zi (hc:=zr r)) ?_;rintro _ _ ⟨R,rfl,a1,q,rfl,rfl⟩);refine zb ?_)
  exact zU rfl (zh rfl) (zh rfl) q_h ⟨_,_,rfl,rfl⟩
 |true=>
  obtain⟨i,rfl,G,h0,E⟩:=zdj (A rfl);rw[B2,G];have J:=λj a1 q (h:SlA j a1 (zac x))=>zrq i a1 q x j h0 E h q_o;generalize zaL (gP i) (gQ i) x=m at*;repeat' (first|refine s_0 ?_|refine q_k 0 ?_|refine q_k 1 ?_;(refine q_s (zi (hc:=zr r)) ?_;rintro _ _ ⟨R,rfl,a1,q,rfl,rfl⟩);refine zb ?_|refine q_k 2 ?_;refine q_v (za (hc:=λj X B F=>J j _ _ (zat F q_h))) ?_;refine zb ?_)
  exact zU rfl (zh rfl) (zh rfl) q_h ⟨_,_,rfl,rfl⟩
theorem ztl(z:Int)(a:Option Addr)(n c:Nat)(l:List UInt8)(w:World)(r:l.length=n)(hb:SlA w a (l.map v8)):
  q_G 69 [.int .i64 z,.slice a n c] w (.bool (decide ((gel z l).2=0))):=by
 refine zt Tryz.func69 Tryz.ntmps69 ?_;have j:=λm (q:Keep No w m)=>zq5 z a n c l m r (hb.to q (λ_ h=> .inr h)).sla;unfold zrT at j;generalize (zdQ z l).1=x,decide ((gel z l).2=0)=b at*;repeat' (first|refine s_0 ?_|refine zA [0,2] ?_;refine zb ?_|refine q_k 1 ?_;(refine q_s (zi (hc:=zr j)) ?_;rintro _ _ ⟨R,rfl,a1,A,rfl,rfl⟩);refine zb ?_)
 exact q_r
end Go.Proofs.YtdnlngbjpdbffaaGreatDoor
namespace Go.Wd
open Go Go.RowKit Go.Sy
def vi(x:UInt32):Value:=.int .i64 (n32 x)
theorem zwD(a:Int)(h0: -9223372036854775808<=a)(h1:a<9223372036854775808):IntKind.i64.wrap a=a:=IntWalk.i64_in _ q_o
end Go.Wd
namespace Go.Sh
open Go.Wd Go.RowKit Go.Sy
def zsa(O:Nat->Prop)(x:List UInt8)(vs:List Value)(RA:List Res)(W:World):Prop:=∃b o,vs= [.slice (some ⟨b,o,none⟩) 64 64]/\RA= []/\W.rangeAt b o (x.map Sy.v8)/\¬O b
theorem zve(n i:Nat)(j:i<8):Op.shift .shr .u64 ((n:Int)*8) .i64 (8*(i:Int))=pure (.int .u64 (((8*n)/256^i:Nat):Int))/\IntKind.u8.wrap (((8*n)/256^i:Nat):Int)=n8 (UInt8.ofNat ((8*n)/256^i)):=by
 refine⟨?_,?_⟩
 ·rw[show(8*(i:Int))=((8*i:Nat):Int) from (Bg 8 i).symm,shift_shr_any _ _ _ _ (Bq _),Bn,show min (8*i) IntKind.u64.bits=8*i from BP (by show 8*i<=64;omega)];congr 2;rw[show((n:Int)*8)=((8*n:Nat):Int) from by omega,show((2:Int)^(8*i))=((256^i:Nat):Int) by rw[EV,Int.pow_mul];rfl,<-E7]
 ·rw[wrap_u8_nat,n8_of_nat]
end Go.Sh
namespace Go.Proofs.YtdnlngbjpdbffaaGreatDoor
section
open Go Go.Sy Go.Wd Go.Sh
attribute [local irreducible] Sy SyL SyX Sy.Fn callFunc n8 n32 Rem Has Upd SubR Sy.Sub SetAt Rd Reads Seg RemL
theorem zsz(v:Value)(n:Int)(w:World)(hv:v.oneCell'=true):
  Sy.Fn Tryz.prog 246 [v,.int .i64 n] w No (λu R=>∃j m,u= .func (.func 295) #[] #[.pointer (some ⟨j,0,none⟩),.pointer (some ⟨m,0,none⟩)]/\R= [.blk j 23 [v],.blk m 3 [.int .i64 n]]):=by
 refine zt Tryz.func246 Tryz.ntmps246 ?_;refine zdf ?_;refine zdF ?_;refine ya (zsO (hv:=hv)) (k:=?_);intro j;repeat' (first|refine s_0 ?_|refine zf 1 ?_;refine q_x zab ?_|(refine zx ?_;first|refine zw ?_|refine zk ?_;intro _|fail)|fail)
 rename_i m;exact zar rfl (zh rfl) q_h ⟨j,m,rfl,rfl⟩
theorem zrL(I K:Nat)(a0:Option Addr)(n cap total:Nat)(last:List UInt8)(w:World)(M:Nat->Prop)(hn:last.length=n)(a6:n<=cap)(ht:total<2305843009213693952)
  (b8:SlF w M a0 (last.map Sy.v8)):
  zlM Tryz.prog 295 [.pointer (some ⟨I,0,none⟩),.pointer (some ⟨K,0,none⟩)] (blocks last total) zsa w M [.blk I 23 [.slice a0 n cap],.blk K 3 [.int .i64 total]]:=by
 intro l J Jx j0 b4 hh hY;refine zaX Tryz.func295 rfl Tryz.ntmps295 q_p hh ?_;repeat' (first|refine s_t ?_|refine zf 0 ?_;refine zm ?_;refine zb ?_)
 refine zL (γ:=Nat×Nat×Nat×Option Addr×Res) (λg=>[(0,.func (.yield l) #[] #[]),(1,.pointer (some ⟨I,0,none⟩)),(2,.pointer (some ⟨K,0,none⟩)),(4,.slice g.2.2.2.1 g.2.1 g.2.2.1)])
  (λg=>[g.2.2.2.2,.blk I 23 [.slice a0 n cap],.blk K 3 [.int .i64 total]])
  (λg=>64*g.1+g.2.1=n/\g.2.1<=g.2.2.1/\g.2.2.1<=cap/\J g.1 g.2.2.2.2/\SlF w M g.2.2.2.1 ((last.drop (64*g.1)).map v8))
  (λg=>g.2.1) (0,n,cap,a0,j0) ⟨by simp,a6,A7 _,b4,by simpa using b8⟩ ?_ ?_ ?_
 ·exact q_h
 ·exact q_h
 rintro⟨q,m,c,a1,j⟩ ⟨hq,b7,c3,hJ,H⟩;dsimp only at*;have B:(last.drop (64*q)).length=m:=by rw[List.length_drop];omega
 by_cases hge:64<=m
 ·have b5:q<last.length/64:=q_o;have a7:q<(blocks last total).length:=by rw[zlh];omega
  have c0:(blocks last total)[q]=(last.drop (64*q)).take 64:=by
   have:=zrA last total q b5;rw[A2 a7] at this;exact Am this
  obtain⟨b,o,rfl,hr,a8⟩:∃b o,a1=some ⟨b,o,none⟩/\w.rangeAt b o ((last.drop (64*q)).map v8)/\¬M b:=by
   rcases H with h|h
   ·exfalso;have:=congrArg List.length h;rw[A0,B] at this;simp at this;omega
   ·exact h
  have harg:∀(E:World) (X:List Res),Keep M w E->Holds w.heap.size M (j::[]++X) E->zsa j.own (blocks last total)[q] [.slice (some ⟨b,o,none⟩) 64 64] [] E:=λE X F A=>
   ⟨b,o,rfl,rfl,λi v G=>F.cell (hr i v (by
    rw[c0,C0,CI] at G;split at G
    ·exact G
    ·cases G)) a8,λZ=>by
    rcases A.mine j A3 b Z with h|h
    ·have:=World.block_lt_of_cell? w ⟨b,o,none⟩ (u:=Sy.v8 ((last.drop (64*q)).getD 0 0)) (by
      have:=hr 0 (Sy.v8 ((last.drop (64*q)).getD 0 0)) (by rw[AW,Dv,A2 q_o];rfl);rw[BZ] at this;exact this)
     dsimp only at this;omega
    ·exact a8 h⟩
  repeat' (first|refine s_t ?_|refine q_k 1 ?_;refine q_v zO ?_|refine q_k 2 ?_;refine zbR ?_;(refine q_s (zdK hY a7 hJ (hL:=F0 (by exact Eu) rfl F2) (harg:=λE X F A=>harg E _ F A)) ?_;rintro _ _ ⟨y,O,rfl,rfl,N⟩);refine zI ?_)
  refine ze2 rfl (λh=>?_) (λh=>?_)
  ·obtain rfl:y=false:=by simpa using h
   repeat' (first|refine s_0 ?_|fail)
   exact zmr rfl q_h ⟨O,rfl,.inr ⟨q+1,by omega,N⟩⟩
  ·obtain rfl:y=true:=by simpa using h
   repeat' (first|refine s_0 ?_|refine q_k 3 ?_;refine zbR ?_;refine zb ?_)
   refine zC (q+1,m-64,c-64,zbB (some ⟨b,o,none⟩) 64 c 1,O) ?_ ?_ ?_ ?_
   ·refine⟨by dsimp only;omega,by dsimp only;omega,by dsimp only;omega,N,?_⟩
    ·have:=H.mov (l:=64) (m:=c) (by rw[List.length_map,B];exact b7);rw[<-Cd,Cw,show 64*q+64=64*(q+1) from by omega] at this;exact this
   ·show m-64<m;omega
   ·exact q_h
   ·exact q_h
 -- the end
 obtain⟨r,hr⟩:∃r,r=last.drop (64*q):=⟨_,rfl⟩;have T:last.length/64=q:=q_o;rw[<-hr] at B H;repeat' (first|refine s_0 ?_|refine q_k 1 ?_;refine q_v zO ?_|refine q_k 4 ?_|refine q_k 5 ?_;refine zba ?_;refine q_v zH ?_)
 refine zcu (γ:=Nat) (λS=>[(0,.func (.yield l) #[] #[]),(1,.pointer (some ⟨I,0,none⟩)),(2,.pointer (some ⟨K,0,none⟩)),(4,.slice a1 m c),(5,.int .i64 S)])
  (λ_=>[j,.blk I 23 [.slice a0 n cap],.blk K 3 [.int .i64 total]]) (λS=>S=if m+9>64 then 128 else 64) ?_ ?_
 ·refine ze2 rfl (λh=>?_) (λh=>?_)
  ·repeat' (first|refine zap ?_|refine zao ?_|refine q_k 6 ?_)
   refine zaj 128 ?_ ?_ ?_
   ·rw[if_pos (by have:=of_decide_eq_true h;omega)]
   ·exact q_h
   ·exact q_h
  ·repeat' (first|refine ze7 ?_|refine zao ?_|fail)
   refine zaj 64 ?_ ?_ ?_
   ·rw[if_neg (by have:=of_decide_eq_false h;omega)]
   ·exact q_h
   ·exact q_h
 intro S hS;have c1:m+9<=S/\S<=128:=by split at hS <;> omega
 have V:zaK (List.replicate S (Value.int .u8 0)) 0 (r.map Sy.v8)=(r++List.replicate (S-m) 0).map Sy.v8:=by
  rw[zyD,A0,B,List.drop_replicate,Ar,BY,zqz]
 repeat' (first|refine s_t ?_|refine zA [7,10] ?_;refine zb ?_|refine q_k 8 ?_;refine q_v (zfx (Rd.oldF H) (by rw[A0,B]) V) ?_|refine q_k 9 ?_;refine zQ ?_;refine zP ?_|refine q_s zeP ?_;rintro _ _ ⟨L,rfl,rfl⟩|(refine zx ?_;first|refine zw ?_|fail)|fail)
 obtain⟨d,hd⟩:∃d,S=m+1+d+8:=⟨S-m-9,by omega⟩;refine zL (γ:=Nat) (λi=>[(0,.func (.yield l) #[] #[]),(1,.pointer (some ⟨I,0,none⟩)),(2,.pointer (some ⟨K,0,none⟩)),(5,.int .i64 S),(6,.slice (some ⟨L,0,none⟩) S S),(32,.int .i64 i)])
  (λi=>[.blk L 5 ((r++128::(List.replicate (d+8-i) 0++(be8 (8*total)).drop (8-i))).map Sy.v8),j,.blk I 23 [.slice a0 n cap],.blk K 3 [.int .i64 total]])
  (λi=>i<=8) (λi=>8-i) 0 (AA _) ?_ ?_ ?_
 ·exact q_h
 ·(repeat' (first|exact Ev|apply F3;with_reducible (focus ((repeat (first|exact Eu|apply Ew));done))|apply F9;(focus ((repeat (first|exact Eu|apply Ew));done))|apply F6;(focus ((repeat (first|exact Eu|apply Ew));done))|rfl))
  have e1:(be8 (8*total)).drop 8= []:=Ba (by rw[zmd];omega);have e2:S-m=(d+8)+1:=q_o;show _=List.map Sy.v8 (r++128::(List.replicate (d+8) 0++(be8 (8*total)).drop 8));rw[e1,e2,AJ,show Value.int .u8 128=Sy.v8 128 from Sy.v8_lit 128 q_e,<-Bw,CV _ _ q_o,B,C7];rfl
 intro i hi;by_cases hlt:i<8
 ·obtain⟨q1,q2⟩:=zve total i hlt;have q3:IntKind.i64.wrap (8*(i:Int))=8*(i:Int):=zwD _ q_o q_o;have q4:IntKind.i64.wrap ((S:Int)-1-(i:Int))=((r.length+1+(d+7-i):Nat):Int):=by rw[zwD _ q_o q_o,B];omega
  repeat' (first|refine s_t ?_|refine zf 11 ?_;refine zaf ?_|refine q_k 12 ?_|refine q_k 13 ?_;refine q_x zK ?_;refine q_v (zK (hr:=q4)) ?_;refine zm ?_;refine zbh ?_;refine q_x zaM ?_;refine q_v zaM ?_;refine q_v (zcl (hr:=q1)) ?_;refine q_v (zam (hr:=q2)) ?_;refine zQ ?_;refine zP ?_|refine zf 14 ?_;refine zba ?_;refine zb ?_)
  refine zC (i+1) ?_ ?_ ?_ ?_
  ·show i+1<=8;omega
  ·show 8-(i+1)<8-i;omega
  ·exact q_h
  ·(repeat' (first|exact Ev|apply F3;with_reducible (focus ((repeat (first|exact Eu|apply Ew));done))|apply F9;(focus ((repeat (first|exact Eu|apply Ew));done))|apply F6;(focus ((repeat (first|exact Eu|apply Ew));done))|rfl))
   rw[<-zuG r d (8*total) i hlt,Bw];rfl
 obtain rfl:i=8:=q_o;have U:r++128::(List.replicate (d+8-8) 0++(be8 (8*total)).drop (8-8))=tail r total:=by
  unfold tail;rw[B,<-hS,show S-m-9=d from by omega];simp
 rw[U];have a9:(tail r total).length=S:=by rw[zu0 r total q_o,B,hS]
 have c2:(blocks last total).length=q+S/64:=by rw[zlh,T,<-hr,a9]
 have b9:∀i,i<S/64->∃h:q+i<(blocks last total).length,(blocks last total)[q+i]=((tail r total).drop (64*i)).take 64:=λi hi=>by
  have P:q+i<(blocks last total).length:=q_o;have:=zpY last total i (by rw[T,<-hr,a9];exact hi);rw[T,<-hr,A2 P] at this;exact⟨P,Am this⟩
 have Y:S=64\/S=128:=by split at hS <;> omega
 generalize blocks last total=W,tail r total=tl at*
 -- what is handed over
 have harg:∀(i:Nat) (j:Res) (P:q+i<W.length) (Rest:List Res),i<S/64->∀(E:World) (X:List Res),Keep M w E->Holds w.heap.size M (j::[]++((.blk L 5 (tl.map Sy.v8)::Rest)++X)) E->zsa j.own W[q+i] [.slice (some ⟨L,64*i,none⟩) 64 64] [] E:=λi j P Rest hi E X F A=>by
  refine⟨L,64*i,rfl,rfl,?_,λZ=>?_⟩
  ·have Z:(Res.blk L 5 (tl.map Sy.v8)).holds E:=A.all _ q_p;rw[(b9 i hi).2];intro k v G;rw[zfI Z];rw[C0,Cd,CI] at G;split at G
   ·rw[Bp] at G;exact G
   ·cases G
  ·have:=(Ah.1 A.apart).1 (Res.blk L 5 (tl.map Sy.v8)) q_p L Z;exact this rfl
 have h0:q+0<W.length:=q_o;rcases Y with Q|Q
 ·subst Q;have R:W.length=q+1:=q_o;repeat' (first|refine s_0 ?_|refine zf 11 ?_;refine zaf ?_|refine q_k 15 ?_;refine zbR ?_;(refine q_s (zdK hY h0 hJ (hL:=F0 (by exact Ew Eu) rfl F2) (harg:=λE X F A=>harg 0 j h0 _ q_e E X F A)) ?_;rintro _ _ ⟨y,O,rfl,rfl,N⟩;cases y);refine zb ?_|(refine zx ?_;first|refine q_v zH ?_|refine zaU ?_|refine zdz ?_|fail)|fail)
  ·exact zft rfl q_h ⟨O,rfl,.inr ⟨q+1,by omega,N⟩⟩
  ·exact zft rfl q_h ⟨O,rfl,.inl (by rw[R];exact N)⟩
 ·subst Q;have R:W.length=q+1+1:=q_o;have P:q+1<W.length:=q_o;repeat' (first|refine s_0 ?_|refine zf 11 ?_;refine zaf ?_|refine q_k 15 ?_;refine zbR ?_;(refine q_s (zdK hY h0 hJ (hL:=F0 (by exact Ew Eu) rfl F2) (harg:=λE X F A=>harg 0 j h0 _ q_e E X F A)) ?_;rintro _ _ ⟨y,O,rfl,rfl,N⟩;cases y);refine zb ?_|refine q_k 16 ?_;refine zbR ?_|(refine zx ?_;first|refine q_v zH ?_|refine zaU ?_|refine zdz ?_|fail)|fail)
  ·exact zft rfl q_h ⟨O,rfl,.inr ⟨q+1,by omega,N⟩⟩
  ·repeat' (first|refine zap ?_|(refine zx ?_;first|refine q_s (zdK hY P N (hL:=F0 (by exact Eu) rfl F2) (harg:=λE X F A=>harg 1 O P _ q_e E X F A)) ?_;rintro _ _ ⟨y,b3,rfl,rfl,b0⟩;cases y|fail)|fail)
   ·exact zft rfl q_h ⟨b3,rfl,.inr ⟨q+1+1,by omega,b0⟩⟩
   ·exact zft rfl q_h ⟨b3,rfl,.inl (by rw[R];exact b0)⟩
end
open Go Go.Sy Go.Wd Go.Sh
attribute [local irreducible] Sy SyL SyX Sy.Fn callFunc
theorem znl(s:List UInt32)(k:Nat)(h:k<s.length):ser (s.take (k+1))=ser (s.take k)++be4 (s.getD k 0):=by
 unfold ser;rw[BN h,CO];simp[List.getD,h]
theorem zqH(s:List UInt32):(ser s).length=4*s.length:=by
 induction s with
 |nil=>rfl
 |cons x s ih=>simp only[ser,E4,A4] at*;rw[ih];simp[be4];omega
theorem zcI{α:Type}{C L:List α}{k:Nat}(h:k<C.length)(hL:C.take k=L)(v:α):(C.set k v).take (k+1)=L++[v]:=by
 rw[BN (by simpa using h),Dk (A7 k),hL];simp
theorem ztv{α:Type}{C L:List α}{k:Nat}(h:k+3<C.length)(hL:C.take k=L)(a b c d:α):
  ((((C.set k a).set (k+1) b).set (k+2) c).set (k+3) d).take (k+4)=L++[a,b,c,d]:=by
 have j:=zcI (C:=C) q_o hL a;have m:=zcI (C:=C.set k a) (by simp;omega) j b;have q:=zcI (C:=(C.set k a).set (k+1) b) (by simp;omega) m c;have r:=zcI (C:=((C.set k a).set (k+1) b).set (k+2) c) (by simp;omega) q d;rw[r];simp
theorem ztx(s:List UInt32)(w:World)(A:s.length=8):q_G 248 [.agg (s.map v32).toArray] w (.agg ((ser s).map v8).toArray):=by
 refine zt Tryz.func248 Tryz.ntmps248 ?_;repeat' (first|refine s_t ?_|refine zf 0 ?_;refine zk ?_;intro _;refine zk ?_;intro _|refine zf 1 ?_;refine zm ?_;refine zb ?_)
 rename_i E m;refine zL (γ:=Nat×List UInt8) (λg=>[(2,.pointer (some ⟨m,0,none⟩)),(5,.agg (s.map v32).toArray),(6,.int .i64 g.1)]) (λg=>[.blk m 199 (g.2.map v8)])
  (λg=>g.1<=8/\g.2.length=32/\g.2.take (4*g.1)=ser (s.take g.1)) (λg=>8-g.1) (0,List.replicate 32 0) ⟨by omega,by simp,rfl⟩ ?_ ?_ ?_
 ·exact q_h
 ·exact q_h
 ·rintro⟨k,C⟩ ⟨F,r,j⟩;dsimp only at*;by_cases hlt:k<8
  ·have q:(s.map v32)[k]?=some (v32 (s.getD k 0)):=by simp[List.getD,A,hlt]
   generalize B:s.getD k 0=x at*;repeat' (first|refine s_t ?_|refine zf 2 ?_;refine zaf ?_|refine q_k 3 ?_;refine q_x (by first|exact zkQ|exact zR) ?_|refine q_k 4 ?_;refine q_x zaM ?_;refine q_v zaM ?_;refine zba ?_;refine zb ?_;refine q_v zaM ?_;refine zba ?_;refine zb ?_;refine q_v zaM ?_;refine zba ?_;refine zb ?_;refine q_v (zcl (hr:=zmp x _ 24 q_e)) ?_;refine q_x (zam (hr:=ze4 _)) ?_;refine q_v (zcl (hr:=zmp x _ 16 q_e)) ?_;refine q_x (zam (hr:=ze4 _)) ?_;refine q_v (zcl (hr:=zmp x _ 8 q_e)) ?_;refine q_x (zam (hr:=ze4 _)) ?_;refine q_v (zam (hr:=ze4 _)) ?_;refine zQ ?_;refine zP ?_;refine zQ ?_;refine zP ?_;refine zQ ?_;refine zP ?_;refine zQ ?_;refine zP ?_|refine zf 5 ?_;refine zba ?_;refine zb ?_)
   refine zC (k+1,((((C.set (4*k) (x >>> UInt32.ofNat 24).toUInt8).set (4*k+1) (x >>> UInt32.ofNat 16).toUInt8).set (4*k+2) (x >>> UInt32.ofNat 8).toUInt8).set (4*k+3) x.toUInt8)) ?_ ?_ ?_ ?_
   ·refine⟨by omega,by simp only[AO];exact r,?_⟩;show List.take (4*(k+1)) _=_;rw[znl s k q_o,show 4*(k+1)=4*k+4 from by omega,B];exact ztv q_o j _ _ _ _
   ·show 8-(k+1)<8-k;omega
   ·exact q_h
   ·(repeat' (first|exact Ev|apply F3;with_reducible (focus ((repeat (first|exact Eu|apply Ew));done))|apply F9;(focus ((repeat (first|exact Eu|apply Ew));done))|apply F6;(focus ((repeat (first|exact Eu|apply Ew));done))|rfl))
    simp only[Bw];rfl
  ·obtain rfl:k=8:=q_o;repeat' (first|refine s_0 ?_|refine zf 2 ?_;refine zaf ?_|refine zf 6 ?_;refine zm ?_;refine zP ?_)
   refine zar rfl (zE rfl (ty rfl) rfl Ey Ex (by first|rfl|simp only[A0,AO,AL,A4];omega|(simp only[A0];first|assumption|omega)|simp;omega|fail)) Ev ⟨?_,rfl⟩;rw[A6 q_o,A6 q_o] at j;rw[j]
end Go.Proofs.YtdnlngbjpdbffaaGreatDoor
namespace Go.Wd
open Go Go.RowKit
def v8(x:UInt8):Value:=.int .u8 (n8 x)
def v32(x:UInt32):Value:=.int .u32 (n32 x)
def Blk(w:World)(B T:Nat)(C:List Value):Prop:=w.heap[B]?=some (.cells C.toArray T (0,0))
theorem Blk.cell{w:World}{B T:Nat}{C:List Value}(h:Blk w B T C)(i:Nat):w.cell? ⟨B,i,none⟩=C[i]?:=by
 unfold Blk at h;simp[World.cell?,h]
theorem Blk.free{w:World}{B T:Nat}{C:List Value}(h:Blk w B T C)(i:Nat):w.frozen? ⟨B,i,none⟩=false:=by
 unfold Blk at h;simp[World.frozen?,h]
theorem Blk.lt{w:World}{B T:Nat}{C:List Value}(h:Blk w B T C):B<w.heap.size:=lt_of_block h
theorem Blk.new(w:World)(T:Nat)(C:List Value):Blk (w.alloc (.cells C.toArray T)) w.heap.size T C:=by
 unfold Blk;show(w.heap.push _)[w.heap.size]?=_;simp
theorem Blk.alloc{w:World}{B T:Nat}{C:List Value}(h:Blk w B T C)(o:Obj):Blk (w.alloc o) B T C:=by
 unfold Blk at*;rw[Below.heap_alloc _ _ _ (lt_of_block h)];exact h
theorem Blk.drew{w:World}{B T:Nat}{C:List Value}(h:Blk w B T C):Blk w.drew B T C:=h
theorem Blk.drewN{w:World}{B T:Nat}{C:List Value}(h:Blk w B T C)(n:Nat):Blk (w.drewN n) B T C:=h
theorem Blk.set{w:World}{B T:Nat}{C:List Value}(h:Blk w B T C)(i:Nat)(v:Value):Blk (w.setCell ⟨B,i,none⟩ v) B T (C.set i v):=by
 unfold Blk at*;simp[World.setCell,DV,h]
theorem Blk.setMap{w:World}{B T:Nat}{α:Type}{f:α->Value}{L:List α}(h:Blk w B T (L.map f))(i:Nat)(x:α):Blk (w.setCell ⟨B,i,none⟩ (f x)) B T ((L.set i x).map f):=by
 rw[Bw];exact h.set i (f x)
theorem zkl(n k:Nat)(w:World):Below n w (w.drewN k):=⟨rfl,rfl,rfl,A7 _,λ_ _=>rfl⟩
theorem Below.setCell_both{n:Nat}{a w:World}(h:Below n a w)(p:Addr)(v:Value):Below n (a.setCell p v) (w.setCell p v):=by
 refine⟨h.os,h.tape,h.output,by simpa using h.size,λk j=>?_⟩;simp only[World.setCell,DV];rw[h.block k j]
theorem ziP(B:Nat):∀(l:List Value) (o:Nat) (w:World) (v:Value),(w.setCells B o l).setCell ⟨B,o+l.length,none⟩ v=w.setCells B o (l++[v])
 | [],o,w,v=>by simp[World.setCells]
 |x::l,o,w,v=>by
  have:=ziP B l (o+1) (w.setCell ⟨B,o,none⟩ x) v;simp only[World.setCells,Ae,AQ];rw[<-this];congr 2;omega
theorem size_setCells(B:Nat):∀(l:List Value) (o:Nat) (w:World),(w.setCells B o l).heap.size=w.heap.size
 | [],_,_=>rfl
 |x::l,o,w=>by simp only[World.setCells];rw[size_setCells B l];simp
theorem znu{w w':World}{n b o:Nat}{cs:List Value}(h:w.rangeAt b o cs)(hb:Below n w w')(m:b<n):w'.rangeAt b o cs:=λj v q=>by
 rw[hb.cell (p:=⟨b,o+j,none⟩) m];exact h j v q
theorem ziR{P:Program}{T E n:Nat}{d:TypeDesc}{cs:Array Value}{i:Nat}{v:Value}(hu:P.underlying T=some (.array n E))(q:(P.info? E).map (·.size)=some 1)
  (he:P.underlying E=some d)(B:d.isRow=false)(r:i<n)(hv:cs[i]?=some v)(w:World):(Instr.index T (.agg cs) (.int .i64 i)).run P w= .ok v w:=by
 cases hq:P.info? E with
 |none=>simp[hq] at q
 |some j=>
  have A:j.size=1:=by simpa [hq] using q
  have m:(isAgg E).run P w= .ok false w:=by
   unfold isAgg;rw[Sem.run_bind,run_underlying he w];cases d <;> simp_all
  have h0:(0:Int)<=(i:Int)/\(i:Int)<(n:Int):=q_o;simp[Instr.index,asIntOf,Sem.run_bind,run_underlying hu w,h0,sizeOf,typeInfo,hq,A,part,m,hv,r]
theorem zp2{k:IntKind}{a b:Int}(h:a=b):Ending.returned (.int k a)= .returned (.int k b):=by rw[h]
theorem zcI{α:Type}{C L:List α}{k:Nat}(h:k<C.length)(hL:C.take k=L)(v:α):(C.set k v).take (k+1)=L++[v]:=by
 rw[BN (by simpa using h),Dk (A7 k),hL];simp
theorem zoD{α:Type}{C L:List α}{k i:Nat}(hL:C.take k=L)(j:i<k)(d:α):C.getD i d=L.getD i d:=by
 subst hL;simp[List.getD,j]
theorem Blk.cellD{w:World}{B T:Nat}{α:Type}{f:α->Value}{L:List α}(h:Blk w B T (L.map f)){i:Nat}(j:i<L.length)(d:α):w.cell? ⟨B,i,none⟩=some (f (L.getD i d)):=by
 rw[h.cell];simp[j,List.getD]
theorem zei{w:World}{b o:Nat}{α:Type}{f:α->Value}{L:List α}(h:w.rangeAt b o (L.map f)){i:Nat}(j:i<L.length)(d:α):w.cell? ⟨b,o+i,none⟩=some (f (L.getD i d)):=
 h i _ (by simp[j,List.getD])
theorem ziT{α:Type}(f:α->Value)(L:List α){i:Nat}(j:i<L.length)(d:α):(L.map f).toArray[i]?=some (f (L.getD i d)):=by
 simp[List.getD,j]
theorem ziU{w m:World}{S o n k:Nat}{L:List Value}{v:Value}(h:Below n (w.setCells S o (L.take k)) m)(hv:L[k]?=some v):
  Below n (w.setCells S o (L.take (k+1))) (m.setCell ⟨S,o+k,none⟩ v):=by
 obtain⟨j,rfl⟩:=AR.1 hv;have:=Below.setCell_both h ⟨S,o+k,none⟩ L[k];have e:=ziP S (L.take k) o w L[k];rw[AS,BP (BT j)] at e;rw[e] at this;rw[BN j];exact this
theorem zhd(S:Nat):∀(l:List Value) (o:Nat) (w:World) (a:Addr),(w.setCells S o l).frozen? a=w.frozen? a
 | [],_,_,_=>rfl
 |x::l,o,w,a=>by simp only[World.setCells];rw[zhd S l,World.frozen?_setCell]
theorem zob{w j:World}{S o n k:Nat}{L:List Value}{v:Value}(h:Below n (w.setCells S o (L.take k)) j)(m:S<n)(hv:w.cell? ⟨S,o+k,none⟩=some v):j.cell? ⟨S,o+k,none⟩=some v:=by
 rw[h.cell (p:=⟨S,o+k,none⟩) m,World.cell?_setCells_out S _ _ _ _ (λ_ _=>Or.inr (by have:=List.length_take_le k L;show o+_<=o+k;omega))];exact hv
theorem zl9{w j:World}{S o n:Nat}{L:List Value}{a:Addr}{x:Bool}(h:Below n (w.setCells S o L) j)(m:a.block<n)(hv:w.frozen? a=x):j.frozen? a=x:=by
 rw[h.frozen m,zhd];exact hv
theorem getD_some{α:Type}{L:List α}{i:Nat}(j:i<L.length)(d:α):L[i]?=some (L.getD i d):=by simp[List.getD,j]
theorem zm6{w:World}{a:Addr}{x:Option Value}(h:w.cell? a=x):w.drew.cell? a=x:=h
theorem zlG{w:World}{a:Addr}{x:Value}(o:Obj)(h:w.cell? a=some x):(w.alloc o).cell? a=some x:=by
 rw[World.cell?_alloc_lt _ _ _ (World.block_lt_of_cell? w a h)];exact h
theorem zvd{w:World}{b i j:Nat}{v:Value}{x:Option Value}(m:i≠j)(h:w.cell? ⟨b,j,none⟩=x):(w.setCell ⟨b,i,none⟩ v).cell? ⟨b,j,none⟩=x:=by
 rw[World.cell?_setCell_other _ _ _ _ (λe=>m (congrArg Addr.off e))];exact h
end Go.Wd
