/- Lemmas of this proof. -/
import Derived.Test.YtdnlngbjpdbffaaGreatDoorWJ23
import Derived.Test.YtdnlngbjpdbffaaGreatDoorWJ21
import Derived.Deep.QuietTactic
import Derived.BigQuiet
import Derived.Lib.Hide
set_option maxHeartbeats 1000000
set_option maxRecDepth 10000
set_option linter.all false
namespace Go.Nt
open Go Go.Sy
theorem zzX:18446744073709551616^16=65536^64:=zhm 65536 16 64 rfl rfl
theorem ndW{x:Nat}(h:x<18446744073709551616^16):nd 65536 x<=64:=zbc _ _ _ q_e (by rw[<-zzX];exact h)
theorem zwi(i:Nat)(h0:1<=i)(j:i<=4):(gP i-1)/2=gQ i:=by
 have:=zr8 i h0 j;omega
end Go.Nt
namespace Go.Proofs.YtdnlngbjpdbffaaGreatDoor
section
open Go Go.Sy Go.Nt Go.RowKit
attribute [local irreducible] Sy SyL SyX Sy.Fn callFunc zg zac iC gP gQ gL zaH
theorem zlT(z:Int)(w:World):q_G 228 [.int .i64 z] w (.bool (decide (1<=z/\z<=4))):=by
 refine zt Tryz.func228 Tryz.ntmps228 ?_;by_cases h1:1<=z
 ·have g1:decide (z>=1)=true:=decide_eq_true h1;have g2:decide (z<=4)=decide (1<=z/\z<=4):=decide_eq_decide.2 ⟨λh=>⟨h1,h⟩,λh=>h.2⟩;generalize decide (1<=z/\z<=4)=b at*;repeat' (first|refine s_0 ?_|refine q_k 0 ?_|refine q_k 1 ?_;refine q_x (zP (hr:=g1)) ?_;refine q_x (zaF (hr:=g2)) ?_)
  exact q_r
 ·have g1:decide (z>=1)=false:=decide_eq_false h1;rw[show decide (1<=z/\z<=4)=false from decide_eq_false (λh=>h1 h.1)];repeat' (first|refine s_0 ?_|refine q_k 0 ?_|refine q_k 1 ?_;refine q_x (zP (hr:=g1)) ?_)
  exact q_r
theorem ziE(i:Nat)(w:World)(h0:1<=i)(r:i<=4):Sy.Fn Tryz.prog 229 [.int .i64 (i:Int)] w No (zc0 (gP i)):=by
 refine zt Tryz.func229 Tryz.ntmps229 ?_;have g3:IntKind.i64.wrap ((i:Int)-1)=((i-1:Nat):Int):=q_w;have m:=zkR i h0 r;have q:=λA=>zsh (gS i) A (by have:=zr0 i h0 r;omega);rw[znI i h0 r] at q;dsimp only at q;unfold zc0;repeat' (first|refine s_0 ?_|refine q_k 0 ?_)
 refine zf 1 ?_;refine q_s (zz (vs:=zed)) ?_;rintro _ _ ⟨C,rfl,rfl⟩;generalize gS i=S,zed=B at*;repeat' (first|refine s_0 ?_|refine q_k 2 ?_;(refine q_s (zi (hc:=λA X G F=>q A)) ?_;rintro _ _ ⟨R,rfl,a1,E,rfl,rfl⟩);refine zb ?_|refine q_k 3 ?_|(refine zy ?_;first|refine q_v (zI (hr:=g3)) ?_|refine q_v (zcN (j:=i-1)) ?_|refine q_v (zL (hv:=m)) ?_|refine zw ?_|refine zaR ?_|fail)|fail)
 exact q_r
theorem zsj(i:Nat)(w:World)(h0:1<=i)(B:i<=4):Sy.Fn Tryz.prog 158 [.int .i64 (i:Int)] w No (zc0 (gQ i)):=by
 refine zt Tryz.func158 Tryz.ntmps158 ?_;have J:=zcg i h0 B;have V:=ndW J;have L:=zbR i h0 B;have K:=λj=>ziE i j h0 B;have H:=λj=>zlb 1 j q_e;have I:=λj=>zlb 2 j q_e;have W:=zbc 65536 1 1 q_e q_e;have Y:=zbc 65536 2 1 q_e q_e;have Z:=zqc 65536 (gP i-1) (gP i) q_e (EL _ _);have M:=λj a c A E (h:SlA j a (zac (gP i))) (F:SlA j A (zac 1))=>zlD a A c E (gP i) 1 j h F q_o q_o;have G:=λj a c A E (h:SlA j a (zac (gP i-1))) (F:SlA j A (zac 2))=>zkN a A c E (gP i-1) 2 j h F q_o q_o q_e;rw[zwi i h0 B] at G;unfold zc0 at*;generalize gQ i=q,gP i=p,gP i-1=p1,(gP i-1)%2=r at*;repeat' (first|refine s_0 ?_|refine zD [0,2] ?_;refine zb ?_|refine q_k 1 ?_;(refine q_s (zi (hc:=λj X C m=>K j)) ?_;rintro _ _ ⟨R,rfl,a1,O,rfl,rfl⟩);(refine q_s (zi (hc:=λj X C m=>H j)) ?_;rintro _ _ ⟨R,rfl,a2,P,rfl,rfl⟩);(refine q_s (zi (hc:=λj X C m=>M j _ _ _ _ (zas m q_h) (zas m q_h))) ?_;rintro _ _ ⟨R,rfl,a3,Q,rfl,rfl⟩);(refine q_s (zi (hc:=λj X C m=>I j)) ?_;rintro _ _ ⟨R,rfl,a4,S,rfl,rfl⟩);(refine q_s (zi (hc:=λj X C m=>G j _ _ _ _ (zas m q_h) (zas m q_h))) ?_;rintro _ _ ⟨R,rfl,a5,T,N,U,rfl,rfl⟩);refine zb ?_)
 exact q_r
theorem zy4(i:Nat)(h0:1<=i)(j:i<=4):decide (1<=(i:Int)/\(i:Int)<=4)=true:=decide_eq_true ⟨by omega,by omega⟩
theorem zxj(i:Nat)(w:World)(h0:1<=i)(q:i<=4):q_G 154 [.int .i64 (i:Int)] w (.int .i64 ((gL i:Nat):Int)):=by
 refine zt Tryz.func154 Tryz.ntmps154 ?_;have m:=λj=>zlT (i:Int) j;rw[zy4 i h0 q] at m;have F:=ndW (zcg i h0 q);have A:=λj=>ziE i j h0 q;have r:=λj a c (h:SlA j a (zac (gP i)))=>zsU a c (gP i) j h q_o;rw[zkE i h0 q] at r;unfold zc0 at A;generalize gL i=l,gP i=p,byt (gP i)=D at*;repeat' (first|refine s_0 ?_|refine q_k 0 ?_|refine q_k 1 ?_;refine q_v (za (hc:=q_c m)) ?_;refine zJ ?_|refine q_k 3 ?_;(refine q_s (zi (hc:=λj X B m=>A j)) ?_;rintro _ _ ⟨R,rfl,a1,C,rfl,rfl⟩);(refine q_s (zi (hc:=λj X B m=>r j _ _ (zas m q_h))) ?_;rintro _ _ ⟨R,rfl,a2,E,rfl,rfl⟩);refine zb ?_)
 exact q_r
theorem zq2(i:Nat)(a:Option Addr)(F x:Nat)(w:World)(h0:1<=i)(C:i<=4)(ha:SlA w a (zac x))(hx:nd 65536 x<20000):
  q_G 227 [.int .i64 (i:Int),.slice a (nd 65536 x) F] w (.bool (zaH (gP i) (gQ i) x)):=by
 refine zt Tryz.func227 Tryz.ntmps227 ?_;have m:=λj=>zlT (i:Int) j;rw[zy4 i h0 C] at m;have W:=ndW (zcg i h0 C);have Y:=ndW (zcb i h0 C);have S:=zbR i h0 C;have P:=(zq9 65536 x q_e).1;rcases AD x with h|h
 ·subst h;have H:zaH (gP i) (gQ i) 0=false:=by unfold zaH;exact decide_eq_false (λh=>absurd h.1 q_o)
  rw[H];have g1:decide (((nd 65536 0:Nat):Int)=0)=true:=decide_eq_true (by rw[zbZ];rfl);repeat' (first|refine s_0 ?_|refine zD [0,2] ?_;refine zb ?_|refine q_k 1 ?_;refine q_v (za (hc:=q_c m)) ?_;refine zJ ?_;refine zb ?_;refine q_x (zS (hr:=g1)) ?_)
  exact q_r
 have g1:decide (((nd 65536 x:Nat):Int)=0)=false:=q_f;have J:=λj=>ziE i j h0 C;have hc:=λj d cd (A:Keep No w j) (h:SlA j d (zac (gP i)))=>zho a d F cd x (gP i) j (ha.to A (λ_ h=> .inr h)).sla h q_o q_o;by_cases hxp:x<gP i
 ·have g2:decide (zbx x (gP i)>=0)=false:=by rw[zhJ hxp];rfl
  have Q:=λj=>zsj i j h0 C;have O:=λj d cd E B (A:Keep No w j) (h:SlA j d (zac (gQ i))) (G:SlA j E (zac (gP i)))=>zxI a d E F cd B x (gQ i) (gP i) j (ha.to A (λ_ h=> .inr h)).sla h G hx q_o q_o q_o;have N:=λj=>zlb 1 j q_e;have Z:=zbc 65536 1 1 q_e q_e;have nr:=zsV 65536 (x^gQ i) (gP i) q_e q_o;have I:=λj d cd E B (h:SlA j d (zac (x^gQ i%gP i))) (G:SlA j E (zac 1))=>zho d E cd B (x^gQ i%gP i) 1 j h G q_o q_o;have g3:decide (zbx (x^gQ i%gP i) 1=0)=zaH (gP i) (gQ i) x:=by
   unfold zaH;refine decide_eq_decide.2 ⟨λe=>⟨h,hxp,zrU e⟩,λe=>?_⟩;rw[e.2.2];exact ziK 1
  unfold zc0 at*;generalize x^gQ i%gP i=r,zaH (gP i) (gQ i) x=b at*;generalize zbx x (gP i)=L,zbx r 1=M at*;generalize gQ i=q,gP i=p at*;repeat' (first|refine s_0 ?_|refine q_k 0 ?_|refine q_k 1 ?_;refine q_v (za (hc:=q_c m)) ?_;refine zJ ?_;refine zb ?_;refine q_x (zS (hr:=g1)) ?_;(refine q_s (zi (hc:=λj X A m=>J j)) ?_;rintro _ _ ⟨R,rfl,a1,K,rfl,rfl⟩);refine q_v (za (hc:=λj X A m=>hc j _ _ A (zas m q_h))) ?_;refine q_x (zP (hr:=g2)) ?_|refine q_k 3 ?_;(refine q_s (zi (hc:=λj X A m=>Q j)) ?_;rintro _ _ ⟨R,rfl,a2,T,rfl,rfl⟩);refine zb ?_;(refine q_s (zi (hc:=λj X A m=>J j)) ?_;rintro _ _ ⟨R,rfl,a1,K,rfl,rfl⟩);(refine q_s (zi (hc:=λj X A m=>O j _ _ _ _ A (zas m q_h) (zas m q_h))) ?_;rintro _ _ ⟨R,rfl,a3,U,rfl,rfl⟩);(refine q_s (zi (hc:=λj X A m=>N j)) ?_;rintro _ _ ⟨R,rfl,a4,V,rfl,rfl⟩);refine q_v (za (hc:=λj X A m=>I j _ _ _ _ (zas m q_h) (zas m q_h))) ?_;refine q_x (zS (hr:=g3)) ?_)
  exact q_r
 ·have g2:decide (zbx x (gP i)>=0)=true:=decide_eq_true (zlL q_o);have H:zaH (gP i) (gQ i) x=false:=by unfold zaH;exact decide_eq_false (λh=>hxp h.2.1)
  rw[H];unfold zc0 at*;generalize gP i=p,zbx x (gP i)=L at*;repeat' (first|refine s_0 ?_|refine zD [0,2] ?_;refine zb ?_|refine q_k 1 ?_;refine q_v (za (hc:=q_c m)) ?_;refine zJ ?_;refine zb ?_;refine q_x (zS (hr:=g1)) ?_;(refine q_s (zi (hc:=λj X A m=>J j)) ?_;rintro _ _ ⟨R,rfl,a1,K,rfl,rfl⟩);refine q_v (za (hc:=λj X A m=>hc j _ _ A (zas m q_h))) ?_;refine q_x (zP (hr:=g2)) ?_)
  exact q_r
end
open Go Go.Sy Go.Nt Go.RowKit
def zdK(z:Int)(l:List UInt8):Nat×Bool:=if (1<=z/\z<=4)/\l.length=gL z.toNat then (bev 256 (bn l),true) else (0,false)
theorem zfY{z:Int}(hz:1<=z/\z<=4):gL z.toNat<=96:=by have:=zgu z;unfold zbh at this;rwa[if_pos hz] at this
theorem zwF(z:Int)(l:List UInt8):nd 65536 (zdK z l).1<=64:=by
 unfold zdK;by_cases h:(1<=z/\z<=4)/\l.length=gL z.toNat
 ·rw[if_pos h];have:=zfY h.1;exact ndW (znc q_o)
 ·rw[if_neg h];exact BG (Nat.le_of_eq (zbZ _)) (A9 _)
theorem zut(z:Int)(l:List UInt8):decide ((gel z l).2=0)=((zdK z l).2&&zaH (gP z.toNat) (gQ z.toNat) (zdK z l).1):=by
 unfold zdK gel;by_cases hz:1<=z/\z<=4
 ·rw[if_pos hz];by_cases h1:l.length<gL z.toNat
  ·rw[if_pos h1,if_neg (show ¬((1<=z/\z<=4)/\l.length=gL z.toNat) from λh=>by omega)];rfl
  rw[if_neg h1];by_cases h2:gL z.toNat<l.length
  ·rw[if_pos h2,if_neg (show ¬((1<=z/\z<=4)/\l.length=gL z.toNat) from λh=>by omega)];rfl
  rw[if_neg h2,if_pos (show(1<=z/\z<=4)/\l.length=gL z.toNat from ⟨hz,by omega⟩)];by_cases h3:zaH (gP z.toNat) (gQ z.toNat) (bev 256 (bn l))=true
  ·rw[if_pos h3];dsimp only;rw[h3];rfl
  ·rw[if_neg h3];dsimp only;rw[Bool.not_eq_true] at h3;rw[h3];rfl
 ·rw[if_neg hz,if_neg (show ¬((1<=z/\z<=4)/\l.length=gL z.toNat) from λh=>hz h.1)];rfl
attribute [local irreducible] Sy SyL SyX Sy.Fn callFunc zg zae zac iC gP gQ gL zaH zai za7 za1 gel zaU zbX
def zrA(x:Nat)(b:Bool)(v:Value)(R:List Res):Prop:=∃a c,v= .tuple #[.slice a (nd 65536 x) c,.bool b]/\R= [.row (.slice a (nd 65536 x) c) 3 1 (nd 65536 x) (zac x)]
theorem zq7(z:Int)(a:Option Addr)(n c:Nat)(l:List UInt8)(w:World)(C:l.length=n)(hb:SlA w a (l.map v8)):
  Sy.Fn Tryz.prog 220 [.int .i64 z,.slice a n c] w No (zrA (zdK z l).1 (zdK z l).2):=by
 refine zt Tryz.func220 Tryz.ntmps220 ?_;have r:=λj=>zlT z j;by_cases hz:1<=z/\z<=4
 ·rw[decide_eq_true hz] at r;obtain⟨i,rfl,B,h0,G⟩:=zdf hz;have A:=λj=>zxj i j h0 G;have E:=zfY hz;rw[B] at E;by_cases hn:n=gL i
  ·have q:zdK (i:Int) l=(bev 256 (bn l),true):=by unfold zdK;rw[if_pos ⟨hz,by rw[C,B];exact hn⟩]
   rw[q];have F:=λj (H:Keep No w j)=>zxC a n c l j C (hb.to H (λ_ h=> .inr h)).sla q_o;unfold zc0 at F;have g1:decide ((n:Int)≠((gL i:Nat):Int))=false:=decide_eq_false (λh=>h q_o);generalize gL i=m,bev 256 (bn l)=x at*;repeat' (first|refine s_0 ?_|refine q_k 0 ?_|refine q_k 1 ?_;refine q_v (za (hc:=q_c r)) ?_;refine zJ ?_;refine zb ?_;refine q_v (za (hc:=q_c A)) ?_;refine q_x (zaf (hr:=g1)) ?_|refine q_k 3 ?_;(refine q_s (zi (hc:=zu F)) ?_;rintro _ _ ⟨R,rfl,a1,I,rfl,rfl⟩);refine zb ?_)
   exact zU rfl (zh rfl) (zh rfl) q_h ⟨_,_,rfl,rfl⟩
  ·have q:zdK (i:Int) l=(0,false):=by unfold zdK;rw[if_neg (λh=>hn (by rw[<-C,h.2,B]))]
   rw[q];have g1:decide ((n:Int)≠((gL i:Nat):Int))=true:=decide_eq_true (λh=>hn q_o);generalize gL i=m at*;repeat' (first|refine s_0 ?_|refine zD [0,2] ?_;refine zb ?_|refine q_k 1 ?_;refine q_v (za (hc:=q_c r)) ?_;refine zJ ?_;refine zb ?_;refine q_v (za (hc:=q_c A)) ?_;refine q_x (zaf (hr:=g1)) ?_)
   refine zcf (za3 3 1) ?_;exact zU (R:=[.row (.slice none 0 0) 3 1 0 []]) rfl (zh rfl) (zh rfl) q_h ⟨none,0,by rw[zbZ],by rw[zbZ,ziT]⟩
 ·rw[decide_eq_false hz] at r;have q:zdK z l=(0,false):=by unfold zdK;rw[if_neg (λh=>hz h.1)]
  rw[q];repeat' (first|refine s_0 ?_|refine zD [0,2] ?_;refine zb ?_|refine q_k 1 ?_;refine q_v (za (hc:=q_c r)) ?_;refine zJ ?_;refine zb ?_)
  refine zcf (za3 3 1) ?_;exact zU (R:=[.row (.slice none 0 0) 3 1 0 []]) rfl (zh rfl) (zh rfl) q_h ⟨none,0,by rw[zbZ],by rw[zbZ,ziT]⟩
theorem zrb(z:Int)(a:Option Addr)(n c:Nat)(l:List UInt8)(w:World)(G:l.length=n)(hb:SlA w a (l.map v8)):
  Sy.Fn Tryz.prog 153 [.int .i64 z,.slice a n c] w No (zrA (zdK z l).1 (decide ((gel z l).2=0))):=by
 refine zt Tryz.func153 Tryz.ntmps153 ?_;have r:=λj (B:Keep No w j)=>zq7 z a n c l j G (hb.to B (λ_ h=> .inr h)).sla;have H:=zwF z l;rw[zut z l];have A:(zdK z l).2=true->1<=z/\z<=4:=by
  intro h;unfold zdK at h;by_cases h1:(1<=z/\z<=4)/\l.length=gL z.toNat
  ·exact h1.1
  ·rw[if_neg h1] at h;cases h
 unfold zrA at r;generalize (zdK z l).2=b,(zdK z l).1=x at*;cases b with
 |false=>
  rw[BZ];repeat' (first|refine s_0 ?_|refine zD [0,2] ?_;refine zb ?_|refine q_k 1 ?_;(refine q_s (zi (hc:=zu r)) ?_;rintro _ _ ⟨R,rfl,a1,q,rfl,rfl⟩);refine zb ?_)
  exact zU rfl (zh rfl) (zh rfl) q_h ⟨_,_,rfl,rfl⟩
 |true=>
  obtain⟨i,rfl,F,h0,C⟩:=zdf (A rfl);rw[B6,F];have I:=λj a1 q (h:SlA j a1 (zac x))=>zq2 i a1 q x j h0 C h q_o;generalize zaH (gP i) (gQ i) x=m at*;repeat' (first|refine s_0 ?_|refine q_k 0 ?_|refine q_k 1 ?_;(refine q_s (zi (hc:=zu r)) ?_;rintro _ _ ⟨R,rfl,a1,q,rfl,rfl⟩);refine zb ?_|refine q_k 2 ?_;refine q_v (za (hc:=λj X B E=>I j _ _ (zas E q_h))) ?_;refine zb ?_)
  exact zU rfl (zh rfl) (zh rfl) q_h ⟨_,_,rfl,rfl⟩
theorem zsE(z:Int)(a:Option Addr)(n c:Nat)(l:List UInt8)(w:World)(r:l.length=n)(hb:SlA w a (l.map v8)):
  q_G 69 [.int .i64 z,.slice a n c] w (.bool (decide ((gel z l).2=0))):=by
 refine zt Tryz.func69 Tryz.ntmps69 ?_;have j:=λm (q:Keep No w m)=>zrb z a n c l m r (hb.to q (λ_ h=> .inr h)).sla;unfold zrA at j;generalize (zdK z l).1=x,decide ((gel z l).2=0)=b at*;repeat' (first|refine s_0 ?_|refine zD [0,2] ?_;refine zb ?_|refine q_k 1 ?_;(refine q_s (zi (hc:=zu j)) ?_;rintro _ _ ⟨R,rfl,a1,A,rfl,rfl⟩);refine zb ?_)
 exact q_r
end Go.Proofs.YtdnlngbjpdbffaaGreatDoor
namespace Go.Wd
open Go Go.RowKit Go.Sy
def vi(x:UInt32):Value:=.int .i64 (n32 x)
theorem zv4(a:Int)(h0: -9223372036854775808<=a)(h1:a<9223372036854775808):IntKind.i64.wrap a=a:=IntWalk.i64_in _ q_o
end Go.Wd
namespace Go.Sh
open Go.Wd Go.RowKit Go.Sy
def zrE(O:Nat->Prop)(x:List UInt8)(vs:List Value)(RA:List Res)(W:World):Prop:=∃b o,vs= [.slice (some ⟨b,o,none⟩) 64 64]/\RA= []/\W.rangeAt b o (x.map Sy.v8)/\¬O b
theorem zuq(n i:Nat)(j:i<8):Op.shift .shr .u64 ((n:Int)*8) .i64 (8*(i:Int))=pure (.int .u64 (((8*n)/256^i:Nat):Int))/\IntKind.u8.wrap (((8*n)/256^i:Nat):Int)=n8 (UInt8.ofNat ((8*n)/256^i)):=by
 refine⟨?_,?_⟩
 ·rw[show(8*(i:Int))=((8*i:Nat):Int) from (Bd 8 i).symm,shift_shr_any _ _ _ _ (Bm _),Bj,show min (8*i) IntKind.u64.bits=8*i from BM (by show 8*i<=64;omega)];congr 2;rw[show((n:Int)*8)=((8*n:Nat):Int) from by omega,show((2:Int)^(8*i))=((256^i:Nat):Int) by rw[EU,Int.pow_mul];rfl,<-E7]
 ·rw[wrap_u8_nat,n8_of_nat]
end Go.Sh
namespace Go.Proofs.YtdnlngbjpdbffaaGreatDoor
section
open Go Go.Sy Go.Wd Go.Sh
attribute [local irreducible] Sy SyL SyX Sy.Fn callFunc n8 n32 Rem Has Upd SubR Sy.Sub SetAt Rd Reads Seg RemL
theorem zsC(v:Value)(n:Int)(w:World)(hv:v.oneCell'=true):
  Sy.Fn Tryz.prog 246 [v,.int .i64 n] w No (λu R=>∃j m,u= .func (.func 295) #[] #[.pointer (some ⟨j,0,none⟩),.pointer (some ⟨m,0,none⟩)]/\R= [.blk j 23 [v],.blk m 3 [.int .i64 n]]):=by
 refine zt Tryz.func246 Tryz.ntmps246 ?_;refine zc9 ?_;refine zdz ?_;refine ya (zs3 (hv:=hv)) (k:=?_);intro j;repeat' (first|refine s_0 ?_|refine zf 1 ?_;refine q_x zab ?_|(refine zy ?_;first|refine zw ?_|refine zj ?_;intro _|fail)|fail)
 rename_i m;exact zap rfl (zh rfl) q_h ⟨j,m,rfl,rfl⟩
theorem zrj(H I:Nat)(a0:Option Addr)(n cap total:Nat)(last:List UInt8)(w:World)(M:Nat->Prop)(hn:last.length=n)(Z:n<=cap)(ht:total<2305843009213693952)
  (b7:SlF w M a0 (last.map Sy.v8)):
  zlp Tryz.prog 295 [.pointer (some ⟨H,0,none⟩),.pointer (some ⟨I,0,none⟩)] (blocks last total) zrE w M [.blk H 23 [.slice a0 n cap],.blk I 3 [.int .i64 total]]:=by
 intro l J Jx j0 b3 hh hY;refine zaW Tryz.func295 rfl Tryz.ntmps295 q_p hh ?_;repeat' (first|refine s_t ?_|refine zf 0 ?_;refine zm ?_;refine zb ?_)
 refine zN (γ:=Nat×Nat×Nat×Option Addr×Res) (λg=>[(0,.func (.yield l) #[] #[]),(1,.pointer (some ⟨H,0,none⟩)),(2,.pointer (some ⟨I,0,none⟩)),(4,.slice g.2.2.2.1 g.2.1 g.2.2.1)])
  (λg=>[g.2.2.2.2,.blk H 23 [.slice a0 n cap],.blk I 3 [.int .i64 total]])
  (λg=>64*g.1+g.2.1=n/\g.2.1<=g.2.2.1/\g.2.2.1<=cap/\J g.1 g.2.2.2.2/\SlF w M g.2.2.2.1 ((last.drop (64*g.1)).map v8))
  (λg=>g.2.1) (0,n,cap,a0,j0) ⟨by simp,Z,A6 _,b3,by simpa using b7⟩ ?_ ?_ ?_
 ·exact q_h
 ·exact q_h
 rintro⟨q,m,c,a1,j⟩ ⟨hq,b5,c2,hJ,G⟩;dsimp only at*;have B:(last.drop (64*q)).length=m:=by rw[List.length_drop];omega
 by_cases hge:64<=m
 ·have b4:q<last.length/64:=q_o;have a6:q<(blocks last total).length:=by rw[zkW];omega
  have b9:(blocks last total)[q]=(last.drop (64*q)).take 64:=by
   have:=zq1 last total q b4;rw[A1 a6] at this;exact Am this
  obtain⟨b,o,rfl,hr,a7⟩:∃b o,a1=some ⟨b,o,none⟩/\w.rangeAt b o ((last.drop (64*q)).map v8)/\¬M b:=by
   rcases G with h|h
   ·exfalso;have:=congrArg List.length h;rw[A0,B] at this;simp at this;omega
   ·exact h
  have harg:∀(C:World) (X:List Res),Keep M w C->Holds w.heap.size M (j::[]++X) C->zrE j.own (blocks last total)[q] [.slice (some ⟨b,o,none⟩) 64 64] [] C:=λC X E A=>
   ⟨b,o,rfl,rfl,λi v F=>E.cell (hr i v (by
    rw[b9,C9,CO] at F;split at F
    ·exact F
    ·cases F)) a7,λY=>by
    rcases A.mine j A3 b Y with h|h
    ·have:=World.block_lt_of_cell? w ⟨b,o,none⟩ (u:=Sy.v8 ((last.drop (64*q)).getD 0 0)) (by
      have:=hr 0 (Sy.v8 ((last.drop (64*q)).getD 0 0)) (by rw[AY,E0,A1 q_o];rfl);rw[BU] at this;exact this)
     dsimp only at this;omega
    ·exact a7 h⟩
  repeat' (first|refine s_t ?_|refine q_k 1 ?_;refine q_v zP ?_|refine q_k 2 ?_;refine zbN ?_;(refine q_s (zdD hY a6 hJ (hL:=Ew (by exact Es) rfl Ez) (harg:=λC X E A=>harg C _ E A)) ?_;rintro _ _ ⟨y,N,rfl,rfl,L⟩);refine zJ ?_)
  refine zeP rfl (λh=>?_) (λh=>?_)
  ·obtain rfl:y=false:=by simpa using h
   repeat' (first|refine s_0 ?_|fail)
   exact zl0 rfl q_h ⟨N,rfl,.inr ⟨q+1,by omega,L⟩⟩
  ·obtain rfl:y=true:=by simpa using h
   repeat' (first|refine s_0 ?_|refine q_k 3 ?_;refine zbN ?_;refine zb ?_)
   refine zE (q+1,m-64,c-64,zbw (some ⟨b,o,none⟩) 64 c 1,N) ?_ ?_ ?_ ?_
   ·refine⟨by dsimp only;omega,by dsimp only;omega,by dsimp only;omega,L,?_⟩
    ·have:=G.mov (l:=64) (m:=c) (by rw[List.length_map,B];exact b5);rw[<-CX,Cv,show 64*q+64=64*(q+1) from by omega] at this;exact this
   ·show m-64<m;omega
   ·exact q_h
   ·exact q_h
 -- the end
 obtain⟨r,hr⟩:∃r,r=last.drop (64*q):=⟨_,rfl⟩;have R:last.length/64=q:=q_o;rw[<-hr] at B G;repeat' (first|refine s_0 ?_|refine q_k 1 ?_;refine q_v zP ?_|refine q_k 4 ?_|refine q_k 5 ?_;refine za4 ?_;refine q_v zH ?_)
 refine zcn (γ:=Nat) (λS=>[(0,.func (.yield l) #[] #[]),(1,.pointer (some ⟨H,0,none⟩)),(2,.pointer (some ⟨I,0,none⟩)),(4,.slice a1 m c),(5,.int .i64 S)])
  (λ_=>[j,.blk H 23 [.slice a0 n cap],.blk I 3 [.int .i64 total]]) (λS=>S=if m+9>64 then 128 else 64) ?_ ?_
 ·refine zeP rfl (λh=>?_) (λh=>?_)
  ·repeat' (first|refine zaq ?_|refine zat ?_|refine q_k 6 ?_)
   refine zak 128 ?_ ?_ ?_
   ·rw[if_pos (by have:=of_decide_eq_true h;omega)]
   ·exact q_h
   ·exact q_h
  ·repeat' (first|refine zeR ?_|refine zat ?_|fail)
   refine zak 64 ?_ ?_ ?_
   ·rw[if_neg (by have:=of_decide_eq_false h;omega)]
   ·exact q_h
   ·exact q_h
 intro S hS;have c0:m+9<=S/\S<=128:=by split at hS <;> omega
 have U:zaI (List.replicate S (Value.int .u8 0)) 0 (r.map Sy.v8)=(r++List.replicate (S-m) 0).map Sy.v8:=by
  rw[zxV,A0,B,List.drop_replicate,Aq,BT,zqj]
 repeat' (first|refine s_t ?_|refine zD [7,10] ?_;refine zb ?_|refine q_k 8 ?_;refine q_v (zfy (Rd.oldF G) (by rw[A0,B]) U) ?_|refine q_k 9 ?_;refine zQ ?_;refine zO ?_|refine q_s zeD ?_;rintro _ _ ⟨K,rfl,rfl⟩|(refine zy ?_;first|refine zw ?_|fail)|fail)
 obtain⟨d,hd⟩:∃d,S=m+1+d+8:=⟨S-m-9,by omega⟩;refine zN (γ:=Nat) (λi=>[(0,.func (.yield l) #[] #[]),(1,.pointer (some ⟨H,0,none⟩)),(2,.pointer (some ⟨I,0,none⟩)),(5,.int .i64 S),(6,.slice (some ⟨K,0,none⟩) S S),(32,.int .i64 i)])
  (λi=>[.blk K 5 ((r++128::(List.replicate (d+8-i) 0++(be8 (8*total)).drop (8-i))).map Sy.v8),j,.blk H 23 [.slice a0 n cap],.blk I 3 [.int .i64 total]])
  (λi=>i<=8) (λi=>8-i) 0 (A9 _) ?_ ?_ ?_
 ·exact q_h
 ·(repeat' (first|exact Er|apply F2;with_reducible (focus ((repeat (first|exact Es|apply Eu));done))|apply F7;(focus ((repeat (first|exact Es|apply Eu));done))|apply F3;(focus ((repeat (first|exact Es|apply Eu));done))|rfl))
  have e1:(be8 (8*total)).drop 8= []:=BX (by rw[zlO];omega);have e2:S-m=(d+8)+1:=q_o;show _=List.map Sy.v8 (r++128::(List.replicate (d+8) 0++(be8 (8*total)).drop 8));rw[e1,e2,AG,show Value.int .u8 128=Sy.v8 128 from Sy.v8_lit 128 q_e,<-Bq,CS _ _ q_o,B,C5];rfl
 intro i hi;by_cases hlt:i<8
 ·obtain⟨q1,q2⟩:=zuq total i hlt;have q3:IntKind.i64.wrap (8*(i:Int))=8*(i:Int):=zv4 _ q_o q_o;have q4:IntKind.i64.wrap ((S:Int)-1-(i:Int))=((r.length+1+(d+7-i):Nat):Int):=by rw[zv4 _ q_o q_o,B];omega
  repeat' (first|refine s_t ?_|refine zf 11 ?_;refine zag ?_|refine q_k 12 ?_|refine q_k 13 ?_;refine q_x zI ?_;refine q_v (zI (hr:=q4)) ?_;refine zm ?_;refine zbd ?_;refine q_x zaJ ?_;refine q_v zaJ ?_;refine q_v (zce (hr:=q1)) ?_;refine q_v (zam (hr:=q2)) ?_;refine zQ ?_;refine zO ?_|refine zf 14 ?_;refine za4 ?_;refine zb ?_)
  refine zE (i+1) ?_ ?_ ?_ ?_
  ·show i+1<=8;omega
  ·show 8-(i+1)<8-i;omega
  ·exact q_h
  ·(repeat' (first|exact Er|apply F2;with_reducible (focus ((repeat (first|exact Es|apply Eu));done))|apply F7;(focus ((repeat (first|exact Es|apply Eu));done))|apply F3;(focus ((repeat (first|exact Es|apply Eu));done))|rfl))
   rw[<-zuC r d (8*total) i hlt,Bq];rfl
 obtain rfl:i=8:=q_o;have T:r++128::(List.replicate (d+8-8) 0++(be8 (8*total)).drop (8-8))=tail r total:=by
  unfold tail;rw[B,<-hS,show S-m-9=d from by omega];simp
 rw[T];have a8:(tail r total).length=S:=by rw[zuT r total q_o,B,hS]
 have c1:(blocks last total).length=q+S/64:=by rw[zkW,R,<-hr,a8]
 have b8:∀i,i<S/64->∃h:q+i<(blocks last total).length,(blocks last total)[q+i]=((tail r total).drop (64*i)).take 64:=λi hi=>by
  have O:q+i<(blocks last total).length:=q_o;have:=zpd last total i (by rw[R,<-hr,a8];exact hi);rw[R,<-hr,A1 O] at this;exact⟨O,Am this⟩
 have W:S=64\/S=128:=by split at hS <;> omega
 generalize blocks last total=V,tail r total=tl at*
 -- what is handed over
 have harg:∀(i:Nat) (j:Res) (O:q+i<V.length) (Rest:List Res),i<S/64->∀(C:World) (X:List Res),Keep M w C->Holds w.heap.size M (j::[]++((.blk K 5 (tl.map Sy.v8)::Rest)++X)) C->zrE j.own V[q+i] [.slice (some ⟨K,64*i,none⟩) 64 64] [] C:=λi j O Rest hi C X E A=>by
  refine⟨K,64*i,rfl,rfl,?_,λY=>?_⟩
  ·have Y:(Res.blk K 5 (tl.map Sy.v8)).holds C:=A.all _ q_p;rw[(b8 i hi).2];intro k v F;rw[zfs Y];rw[C9,CX,CO] at F;split at F
   ·rw[Bn] at F;exact F
   ·cases F
  ·have:=(Ag.1 A.apart).1 (Res.blk K 5 (tl.map Sy.v8)) q_p K Y;exact this rfl
 have h0:q+0<V.length:=q_o;rcases W with P|P
 ·subst P;have Q:V.length=q+1:=q_o;repeat' (first|refine s_0 ?_|refine zf 11 ?_;refine zag ?_|refine q_k 15 ?_;refine zbN ?_;(refine q_s (zdD hY h0 hJ (hL:=Ew (by exact Eu Es) rfl Ez) (harg:=λC X E A=>harg 0 j h0 _ q_e C X E A)) ?_;rintro _ _ ⟨y,N,rfl,rfl,L⟩;cases y);refine zb ?_|(refine zy ?_;first|refine q_v zH ?_|refine zaR ?_|refine zds ?_|fail)|fail)
  ·exact zfo rfl q_h ⟨N,rfl,.inr ⟨q+1,by omega,L⟩⟩
  ·exact zfo rfl q_h ⟨N,rfl,.inl (by rw[Q];exact L)⟩
 ·subst P;have Q:V.length=q+1+1:=q_o;have O:q+1<V.length:=q_o;repeat' (first|refine s_0 ?_|refine zf 11 ?_;refine zag ?_|refine q_k 15 ?_;refine zbN ?_;(refine q_s (zdD hY h0 hJ (hL:=Ew (by exact Eu Es) rfl Ez) (harg:=λC X E A=>harg 0 j h0 _ q_e C X E A)) ?_;rintro _ _ ⟨y,N,rfl,rfl,L⟩;cases y);refine zb ?_|refine q_k 16 ?_;refine zbN ?_|(refine zy ?_;first|refine q_v zH ?_|refine zaR ?_|refine zds ?_|fail)|fail)
  ·exact zfo rfl q_h ⟨N,rfl,.inr ⟨q+1,by omega,L⟩⟩
  ·repeat' (first|refine zaq ?_|(refine zy ?_;first|refine q_s (zdD hY O L (hL:=Ew (by exact Es) rfl Ez) (harg:=λC X E A=>harg 1 N O _ q_e C X E A)) ?_;rintro _ _ ⟨y,b0,rfl,rfl,a9⟩;cases y|fail)|fail)
   ·exact zfo rfl q_h ⟨b0,rfl,.inr ⟨q+1+1,by omega,a9⟩⟩
   ·exact zfo rfl q_h ⟨b0,rfl,.inl (by rw[Q];exact a9)⟩
end
open Go Go.Sy Go.Wd Go.Sh
attribute [local irreducible] Sy SyL SyX Sy.Fn callFunc
theorem zm4(s:List UInt32)(k:Nat)(h:k<s.length):ser (s.take (k+1))=ser (s.take k)++be4 (s.getD k 0):=by
 unfold ser;rw[BK h,CM];simp[List.getD,h]
theorem zp0(s:List UInt32):(ser s).length=4*s.length:=by
 induction s with
 |nil=>rfl
 |cons x s ih=>simp only[ser,E5,A2] at*;rw[ih];simp[be4];omega
theorem zcy{α:Type}{C L:List α}{k:Nat}(h:k<C.length)(hL:C.take k=L)(v:α):(C.set k v).take (k+1)=L++[v]:=by
 rw[BK (by simpa using h),Do (A6 k),hL];simp
theorem zsL{α:Type}{C L:List α}{k:Nat}(h:k+3<C.length)(hL:C.take k=L)(a b c d:α):
  ((((C.set k a).set (k+1) b).set (k+2) c).set (k+3) d).take (k+4)=L++[a,b,c,d]:=by
 have j:=zcy (C:=C) q_o hL a;have m:=zcy (C:=C.set k a) (by simp;omega) j b;have q:=zcy (C:=(C.set k a).set (k+1) b) (by simp;omega) m c;have r:=zcy (C:=((C.set k a).set (k+1) b).set (k+2) c) (by simp;omega) q d;rw[r];simp
theorem zsn(s:List UInt32)(w:World)(A:s.length=8):q_G 248 [.agg (s.map v32).toArray] w (.agg ((ser s).map v8).toArray):=by
 refine zt Tryz.func248 Tryz.ntmps248 ?_;repeat' (first|refine s_t ?_|refine zf 0 ?_;refine zj ?_;intro _;refine zj ?_;intro _|refine zf 1 ?_;refine zm ?_;refine zb ?_)
 rename_i E m;refine zN (γ:=Nat×List UInt8) (λg=>[(2,.pointer (some ⟨m,0,none⟩)),(5,.agg (s.map v32).toArray),(6,.int .i64 g.1)]) (λg=>[.blk m 199 (g.2.map v8)])
  (λg=>g.1<=8/\g.2.length=32/\g.2.take (4*g.1)=ser (s.take g.1)) (λg=>8-g.1) (0,List.replicate 32 0) ⟨by omega,by simp,rfl⟩ ?_ ?_ ?_
 ·exact q_h
 ·exact q_h
 ·rintro⟨k,C⟩ ⟨F,r,j⟩;dsimp only at*;by_cases hlt:k<8
  ·have q:(s.map v32)[k]?=some (v32 (s.getD k 0)):=by simp[List.getD,A,hlt]
   generalize B:s.getD k 0=x at*;repeat' (first|refine s_t ?_|refine zf 2 ?_;refine zag ?_|refine q_k 3 ?_;refine q_x (by first|exact zkl|exact zR) ?_|refine q_k 4 ?_;refine q_x zaJ ?_;refine q_v zaJ ?_;refine za4 ?_;refine zb ?_;refine q_v zaJ ?_;refine za4 ?_;refine zb ?_;refine q_v zaJ ?_;refine za4 ?_;refine zb ?_;refine q_v (zce (hr:=zl1 x _ 24 q_e)) ?_;refine q_x (zam (hr:=zeS _)) ?_;refine q_v (zce (hr:=zl1 x _ 16 q_e)) ?_;refine q_x (zam (hr:=zeS _)) ?_;refine q_v (zce (hr:=zl1 x _ 8 q_e)) ?_;refine q_x (zam (hr:=zeS _)) ?_;refine q_v (zam (hr:=zeS _)) ?_;refine zQ ?_;refine zO ?_;refine zQ ?_;refine zO ?_;refine zQ ?_;refine zO ?_;refine zQ ?_;refine zO ?_|refine zf 5 ?_;refine za4 ?_;refine zb ?_)
   refine zE (k+1,((((C.set (4*k) (x >>> UInt32.ofNat 24).toUInt8).set (4*k+1) (x >>> UInt32.ofNat 16).toUInt8).set (4*k+2) (x >>> UInt32.ofNat 8).toUInt8).set (4*k+3) x.toUInt8)) ?_ ?_ ?_ ?_
   ·refine⟨by omega,by simp only[AO];exact r,?_⟩;show List.take (4*(k+1)) _=_;rw[zm4 s k q_o,show 4*(k+1)=4*k+4 from by omega,B];exact zsL q_o j _ _ _ _
   ·show 8-(k+1)<8-k;omega
   ·exact q_h
   ·(repeat' (first|exact Er|apply F2;with_reducible (focus ((repeat (first|exact Es|apply Eu));done))|apply F7;(focus ((repeat (first|exact Es|apply Eu));done))|apply F3;(focus ((repeat (first|exact Es|apply Eu));done))|rfl))
    simp only[Bq];rfl
  ·obtain rfl:k=8:=q_o;repeat' (first|refine s_0 ?_|refine zf 2 ?_;refine zag ?_|refine zf 6 ?_;refine zm ?_;refine zO ?_)
   refine zap rfl (zB rfl (ty rfl) rfl Ev Et (by first|rfl|simp only[A0,AO,AJ,A2];omega|(simp only[A0];first|assumption|omega)|simp;omega|fail)) Er ⟨?_,rfl⟩;rw[A8 q_o,A8 q_o] at j;rw[j]
end Go.Proofs.YtdnlngbjpdbffaaGreatDoor
namespace Go.Wd
open Go Go.RowKit
def v8(x:UInt8):Value:=.int .u8 (n8 x)
def v32(x:UInt32):Value:=.int .u32 (n32 x)
def Blk(w:World)(B T:Nat)(C:List Value):Prop:=w.heap[B]?=some (.cells C.toArray T (0,0))
theorem Blk.cell{w:World}{B T:Nat}{C:List Value}(h:Blk w B T C)(i:Nat):w.cell? ⟨B,i,none⟩=C[i]?:=by
 unfold Blk at h;simp[World.cell?,h]
theorem Blk.free{w:World}{B T:Nat}{C:List Value}(h:Blk w B T C)(i:Nat):w.frozen? ⟨B,i,none⟩=false:=by
 unfold Blk at h;simp[World.frozen?,h]
theorem Blk.lt{w:World}{B T:Nat}{C:List Value}(h:Blk w B T C):B<w.heap.size:=lt_of_block h
theorem Blk.new(w:World)(T:Nat)(C:List Value):Blk (w.alloc (.cells C.toArray T)) w.heap.size T C:=by
 unfold Blk;show(w.heap.push _)[w.heap.size]?=_;simp
theorem Blk.alloc{w:World}{B T:Nat}{C:List Value}(h:Blk w B T C)(o:Obj):Blk (w.alloc o) B T C:=by
 unfold Blk at*;rw[Below.heap_alloc _ _ _ (lt_of_block h)];exact h
theorem Blk.drew{w:World}{B T:Nat}{C:List Value}(h:Blk w B T C):Blk w.drew B T C:=h
theorem Blk.drewN{w:World}{B T:Nat}{C:List Value}(h:Blk w B T C)(n:Nat):Blk (w.drewN n) B T C:=h
theorem Blk.set{w:World}{B T:Nat}{C:List Value}(h:Blk w B T C)(i:Nat)(v:Value):Blk (w.setCell ⟨B,i,none⟩ v) B T (C.set i v):=by
 unfold Blk at*;simp[World.setCell,DV,h]
theorem Blk.setMap{w:World}{B T:Nat}{α:Type}{f:α->Value}{L:List α}(h:Blk w B T (L.map f))(i:Nat)(x:α):Blk (w.setCell ⟨B,i,none⟩ (f x)) B T ((L.set i x).map f):=by
 rw[Bq];exact h.set i (f x)
theorem zjU(n k:Nat)(w:World):Below n w (w.drewN k):=⟨rfl,rfl,rfl,A6 _,λ_ _=>rfl⟩
theorem Below.setCell_both{n:Nat}{a w:World}(h:Below n a w)(p:Addr)(v:Value):Below n (a.setCell p v) (w.setCell p v):=by
 refine⟨h.os,h.tape,h.output,by simpa using h.size,λk j=>?_⟩;simp only[World.setCell,DV];rw[h.block k j]
theorem ziC(B:Nat):∀(l:List Value) (o:Nat) (w:World) (v:Value),(w.setCells B o l).setCell ⟨B,o+l.length,none⟩ v=w.setCells B o (l++[v])
 | [],o,w,v=>by simp[World.setCells]
 |x::l,o,w,v=>by
  have:=ziC B l (o+1) (w.setCell ⟨B,o,none⟩ x) v;simp only[World.setCells,Ab,AQ];rw[<-this];congr 2;omega
theorem size_setCells(B:Nat):∀(l:List Value) (o:Nat) (w:World),(w.setCells B o l).heap.size=w.heap.size
 | [],_,_=>rfl
 |x::l,o,w=>by simp only[World.setCells];rw[size_setCells B l];simp
theorem zm3{w w':World}{n b o:Nat}{cs:List Value}(h:w.rangeAt b o cs)(hb:Below n w w')(m:b<n):w'.rangeAt b o cs:=λj v q=>by
 rw[hb.cell (p:=⟨b,o+j,none⟩) m];exact h j v q
theorem ziy{P:Program}{T E n:Nat}{d:TypeDesc}{cs:Array Value}{i:Nat}{v:Value}(hu:P.underlying T=some (.array n E))(q:(P.info? E).map (·.size)=some 1)
  (he:P.underlying E=some d)(B:d.isRow=false)(r:i<n)(hv:cs[i]?=some v)(w:World):(Instr.index T (.agg cs) (.int .i64 i)).run P w= .ok v w:=by
 cases hq:P.info? E with
 |none=>simp[hq] at q
 |some j=>
  have A:j.size=1:=by simpa [hq] using q
  have m:(isAgg E).run P w= .ok false w:=by
   unfold isAgg;rw[Sem.run_bind,run_underlying he w];cases d <;> simp_all
  have h0:(0:Int)<=(i:Int)/\(i:Int)<(n:Int):=q_o;simp[Instr.index,asIntOf,Sem.run_bind,run_underlying hu w,h0,sizeOf,typeInfo,hq,A,part,m,hv,r]
theorem zqw{k:IntKind}{a b:Int}(h:a=b):Ending.returned (.int k a)= .returned (.int k b):=by rw[h]
theorem zcy{α:Type}{C L:List α}{k:Nat}(h:k<C.length)(hL:C.take k=L)(v:α):(C.set k v).take (k+1)=L++[v]:=by
 rw[BK (by simpa using h),Do (A6 k),hL];simp
theorem zoO{α:Type}{C L:List α}{k i:Nat}(hL:C.take k=L)(j:i<k)(d:α):C.getD i d=L.getD i d:=by
 subst hL;simp[List.getD,j]
theorem Blk.cellD{w:World}{B T:Nat}{α:Type}{f:α->Value}{L:List α}(h:Blk w B T (L.map f)){i:Nat}(j:i<L.length)(d:α):w.cell? ⟨B,i,none⟩=some (f (L.getD i d)):=by
 rw[h.cell];simp[j,List.getD]
theorem zd4{w:World}{b o:Nat}{α:Type}{f:α->Value}{L:List α}(h:w.rangeAt b o (L.map f)){i:Nat}(j:i<L.length)(d:α):w.cell? ⟨b,o+i,none⟩=some (f (L.getD i d)):=
 h i _ (by simp[j,List.getD])
theorem ziz{α:Type}(f:α->Value)(L:List α){i:Nat}(j:i<L.length)(d:α):(L.map f).toArray[i]?=some (f (L.getD i d)):=by
 simp[List.getD,j]
theorem ziD{w m:World}{S o n k:Nat}{L:List Value}{v:Value}(h:Below n (w.setCells S o (L.take k)) m)(hv:L[k]?=some v):
  Below n (w.setCells S o (L.take (k+1))) (m.setCell ⟨S,o+k,none⟩ v):=by
 obtain⟨j,rfl⟩:=AU.1 hv;have:=Below.setCell_both h ⟨S,o+k,none⟩ L[k];have e:=ziC S (L.take k) o w L[k];rw[AR,BM (BP j)] at e;rw[e] at this;rw[BK j];exact this
theorem zgY(S:Nat):∀(l:List Value) (o:Nat) (w:World) (a:Addr),(w.setCells S o l).frozen? a=w.frozen? a
 | [],_,_,_=>rfl
 |x::l,o,w,a=>by simp only[World.setCells];rw[zgY S l,World.frozen?_setCell]
theorem znJ{w j:World}{S o n k:Nat}{L:List Value}{v:Value}(h:Below n (w.setCells S o (L.take k)) j)(m:S<n)(hv:w.cell? ⟨S,o+k,none⟩=some v):j.cell? ⟨S,o+k,none⟩=some v:=by
 rw[h.cell (p:=⟨S,o+k,none⟩) m,World.cell?_setCells_out S _ _ _ _ (λ_ _=>Or.inr (by have:=List.length_take_le k L;show o+_<=o+k;omega))];exact hv
theorem zlu{w j:World}{S o n:Nat}{L:List Value}{a:Addr}{x:Bool}(h:Below n (w.setCells S o L) j)(m:a.block<n)(hv:w.frozen? a=x):j.frozen? a=x:=by
 rw[h.frozen m,zgY];exact hv
theorem getD_some{α:Type}{L:List α}{i:Nat}(j:i<L.length)(d:α):L[i]?=some (L.getD i d):=by simp[List.getD,j]
theorem zl2{w:World}{a:Addr}{x:Option Value}(h:w.cell? a=x):w.drew.cell? a=x:=h
theorem zk9{w:World}{a:Addr}{x:Value}(o:Obj)(h:w.cell? a=some x):(w.alloc o).cell? a=some x:=by
 rw[World.cell?_alloc_lt _ _ _ (World.block_lt_of_cell? w a h)];exact h
theorem zuL{w:World}{b i j:Nat}{v:Value}{x:Option Value}(m:i≠j)(h:w.cell? ⟨b,j,none⟩=x):(w.setCell ⟨b,i,none⟩ v).cell? ⟨b,j,none⟩=x:=by
 rw[World.cell?_setCell_other _ _ _ _ (λe=>m (congrArg Addr.off e))];exact h
end Go.Wd
