/- The specification of layer sign, walked: keys. -/
import Derived.Test.YtdnlngbjpdbffaaGreatDoorLJ22
import Derived.Test.YtdnlngbjpdbffaaGreatDoorLJ26
import Derived.Test.YtdnlngbjpdbffaaGreatDoorLJ08
import Derived.Test.YtdnlngbjpdbffaaGreatDoorLJ03
import Derived.Test.YtdnlngbjpdbffaaGreatDoorLJ04
set_option maxHeartbeats 1000000
set_option maxRecDepth 10000
set_option linter.all false
section
namespace Go.Proofs.YtdnlngbjpdbffaaGreatDoor
open Go Go.Sy Go.Nt Go.RowKit
def rnum (z:Int) (l:List UInt8):Nat×Bool:=if (1<=z/\z<=4)/\l.length=gL z.toNat then (bev 256 (bn l),true) else (0,false)
theorem zcd {z:Int}(hz:1<=z/\z<=4):gL z.toNat<=96:=by have:=zdG z;unfold glen at this;rwa [if_pos hz] at this
theorem zqo (z:Int) (l:List UInt8):nd 65536 (rnum z l).1<=64:=by
 unfold rnum;by_cases h:(1<=z/\z<=4)/\l.length=gL z.toNat
 ·rw [if_pos h];have:=zcd h.1;exact ndW (bevW' q_o)
 ·rw [if_neg h];exact Nat.le_trans (Nat.le_of_eq (zaT _)) (Nat.zero_le _)
theorem zoI (z:Int) (l:List UInt8):decide ((gel z l).2=0)=((rnum z l).2 && memB (gP z.toNat) (gQ z.toNat) (rnum z l).1):=by
 unfold rnum gel;by_cases hz:1<=z/\z<=4
 ·rw [if_pos hz];by_cases h1:l.length < gL z.toNat
  ·rw [if_pos h1,if_neg (show ¬((1<=z/\z<=4)/\l.length=gL z.toNat) from λh=>by omega)];rfl
  rw [if_neg h1];by_cases h2:gL z.toNat < l.length
  ·rw [if_pos h2,if_neg (show ¬((1<=z/\z<=4)/\l.length=gL z.toNat) from λh=>by omega)];rfl
  rw [if_neg h2,if_pos (show (1<=z/\z<=4)/\l.length=gL z.toNat from ⟨hz,by omega⟩)];by_cases h3:memB (gP z.toNat) (gQ z.toNat) (bev 256 (bn l))=true
  ·rw [if_pos h3];dsimp only;rw [h3];rfl
  ·rw [if_neg h3];dsimp only;rw [Bool.not_eq_true] at h3;rw [h3];rfl
 ·rw [if_neg hz,if_neg (show ¬((1<=z/\z<=4)/\l.length=gL z.toNat) from λh=>hz h.1)];rfl
theorem zp7 {z:Int}{l:List UInt8}(h:(gel z l).2=0):(rnum z l).1=(gel z l).1:=by
 obtain ⟨hz,hl,-,hx⟩:=zeG h;rw [hx];unfold rnum;rw [if_pos ⟨hz,hl⟩]
attribute [local irreducible] Sy SyL SyX Sy.Fn callFunc natC rowN refC iC gP gQ gL memB safeC fixB gnum gel gsca chal
def RefB (x:Nat) (b:Bool) (v:Value) (R:List Res):Prop:=∃a c,v= .tuple #[.slice a (nd 65536 x) c,.bool b]/\R= [.row (.slice a (nd 65536 x) c) 3 1 (nd 65536 x) (refC x)]
theorem zlT (z:Int) (a:Option Addr) (n c:Nat) (l:List UInt8) (w:World) (hl:l.length=n) (hb:SlA w a (l.map v8)):
  Sy.Fn Tryz.prog 220 [.int .i64 z,.slice a n c] w No (RefB (rnum z l).1 (rnum z l).2):=by
 refine zg Tryz.func220 rfl Tryz.ntmps220 q_p Holds.nil ?_;have hh:=λw'=>zhI z w';by_cases hz:1<=z/\z<=4
 ·rw [decide_eq_true hz] at hh;obtain ⟨i,rfl,hi,h0,h5⟩:=zbA hz;have hle:=λw'=>zhR i w' h0 h5;have hlx:=zcd hz;rw [hi] at hlx;by_cases hn:n=gL i
  ·have hR:rnum (i:Int) l=(bev 256 (bn l),true):=by unfold rnum;rw [if_pos ⟨hz,by rw [hl,hi];exact hn⟩]
   rw [hR];have hf:=λw' (hk:Keep No w w')=>zf7 a n c l w' hl (hb.to hk (λ_ h=> .inr h)).sla q_o;unfold RefG at hf;have g1:decide ((n:Int)≠((gL i:Nat):Int))=false:=decide_eq_false (λh=>h q_o);generalize bev 256 (bn l)=x at *;generalize gL i=m at *;repeat' (first|refine s_0 ?_|(refine zb 0 (za ?_))|(refine zb 1 (za ?_);refine yv (zd (hc:=λ_ _ _ _=>(hh _))) (k:=?_);refine za ?_;refine yv (zd (hc:=λ_ _ _ _=>(hle _))) (k:=?_);refine yv (zag (hr:=g1)) (k:=za ?_))|(refine zb 3 (za ?_);(refine ys (zh (f:=155) (hc:=zr hf)) (k:=?_);rintro _ _ ⟨R,rfl,a1,c1,rfl,rfl⟩);refine za ?_))
   exact ret2 rfl (resTmp rfl) (resTmp rfl) q_h ⟨_,_,rfl,rfl⟩
  ·have hR:rnum (i:Int) l=(0,false):=by unfold rnum;rw [if_neg (λh=>hn (by rw [<-hl,h.2,hi]))]
   rw [hR];have g1:decide ((n:Int)≠((gL i:Nat):Int))=true:=decide_eq_true (λh=>hn q_o);generalize gL i=m at *;repeat' (first|refine s_0 ?_|(refine zB [0,2] ?_;refine za ?_)|(refine zb 1 (za ?_);refine yv (zd (hc:=λ_ _ _ _=>(hh _))) (k:=?_);refine za ?_;refine yv (zd (hc:=λ_ _ _ _=>(hle _))) (k:=?_);refine yv (zag (hr:=g1)) (k:=za ?_)))
   refine zbm (zaE 3 1) ?_;exact ret2 (R:=[.row (.slice none 0 0) 3 1 0 []]) rfl (resTmp rfl) (resTmp rfl) q_h ⟨none,0,by rw [zaT],by rw [zaT,zfz]⟩
 ·rw [decide_eq_false hz] at hh;have hR:rnum z l=(0,false):=by unfold rnum;rw [if_neg (λh=>hz h.1)]
  rw [hR];repeat' (first|refine s_0 ?_|(refine zB [0,2] ?_;refine za ?_)|(refine zb 1 (za ?_);refine yv (zd (hc:=λ_ _ _ _=>(hh _))) (k:=?_);refine za ?_))
  refine zbm (zaE 3 1) ?_;exact ret2 (R:=[.row (.slice none 0 0) 3 1 0 []]) rfl (resTmp rfl) (resTmp rfl) q_h ⟨none,0,by rw [zaT],by rw [zaT,zfz]⟩
theorem zho (z:Int) (a:Option Addr) (n c:Nat) (l:List UInt8) (w:World) (hl:l.length=n) (hb:SlA w a (l.map v8)):
  Sy.Fn Tryz.prog 153 [.int .i64 z,.slice a n c] w No (RefB (rnum z l).1 (decide ((gel z l).2=0))):=by
 refine zg Tryz.func153 rfl Tryz.ntmps153 q_p Holds.nil ?_;have hn:=λw' (hk:Keep No w w')=>zlT z a n c l w' hl (hb.to hk (λ_ h=> .inr h)).sla;have hnd:=zqo z l;rw [zoI z l];have hzz:(rnum z l).2=true->1<=z/\z<=4:=by
  intro h;unfold rnum at h;by_cases h1:(1<=z/\z<=4)/\l.length=gL z.toNat
  ·exact h1.1
  ·rw [if_neg h1] at h;cases h
 unfold RefB at hn;generalize (rnum z l).1=x at *;generalize (rnum z l).2=b at *;cases b with
 |false=>
  rw [Bool.false_and];repeat' (first|refine s_0 ?_|(refine zB [0,2] ?_;refine za ?_)|(refine zb 1 (za ?_);(refine ys (zh (f:=220) (hc:=zr hn)) (k:=?_);rintro _ _ ⟨R,rfl,a1,c1,rfl,rfl⟩);refine za ?_))
  exact ret2 rfl (resTmp rfl) (resTmp rfl) q_h ⟨_,_,rfl,rfl⟩
 |true=>
  obtain ⟨i,rfl,hi,h0,h5⟩:=zbA (hzz rfl);rw [Bool.true_and,hi];have hq:=λw' a1 c1 (h:SlA w' a1 (refC x))=>zlU i a1 c1 x w' h0 h5 h q_o;generalize memB (gP i) (gQ i) x=m at *;repeat' (first|refine s_0 ?_|(refine zb 0 (za ?_))|(refine zb 1 (za ?_);(refine ys (zh (f:=220) (hc:=zr hn)) (k:=?_);rintro _ _ ⟨R,rfl,a1,c1,rfl,rfl⟩);refine za ?_)|(refine zb 2 (za ?_);refine yv (zd (f:=227) (hc:=λw' X hk hh=>hq w' _ _ (zJ hh q_h))) (k:=?_);refine za ?_))
  exact ret2 rfl (resTmp rfl) (resTmp rfl) q_h ⟨_,_,rfl,rfl⟩
theorem zfh (z:Int) (a:Option Addr) (n c:Nat) (l:List UInt8) (w:World) (hl:l.length=n) (hb:SlA w a (l.map v8)):
  Sy.Fn Tryz.prog 69 [.int .i64 z,.slice a n c] w No (Gives (.bool (decide ((gel z l).2=0)))):=by
 refine zg Tryz.func69 rfl Tryz.ntmps69 q_p Holds.nil ?_;have hn:=λw' (hk:Keep No w w')=>zho z a n c l w' hl (hb.to hk (λ_ h=> .inr h)).sla;unfold RefB at hn;generalize decide ((gel z l).2=0)=b at *;generalize (rnum z l).1=x at *;repeat' (first|refine s_0 ?_|(refine zB [0,2] ?_;refine za ?_)|(refine zb 1 (za ?_);(refine ys (zh (f:=153) (hc:=zr hn)) (k:=?_);rintro _ _ ⟨R,rfl,a1,c1,rfl,rfl⟩);refine za ?_))
 exact q_r
end Go.Proofs.YtdnlngbjpdbffaaGreatDoor
end
section
namespace Go.Wd
open Go Go.RowKit Go.Sy
def vi (x:UInt32):Value:=.int .i64 (n32 x)
theorem wrapi (a:Int) (h0: -9223372036854775808<=a) (h1:a < 9223372036854775808):IntKind.i64.wrap a=a:=IntWalk.i64_in _ q_o
theorem zd3 (x:UInt32):BitVec.ofInt 64 (n32 x)=x.toBitVec.setWidth 64:=by
 unfold n32;rw [BitVec.ofInt_natCast];apply BitVec.eq_of_toNat_eq;simp
theorem zj3 (r:BitVec 32):IntKind.i64.wrap ((r.setWidth 64).toNat:Int)=n32 (UInt32.ofBitVec r):=by
 have:=r.isLt;rw [BitVec.toNat_setWidth,Nat.mod_eq_of_lt q_o,wrapi _ q_o q_o];rfl
theorem andi (x y:UInt32):bits .and .i64 (n32 x) (n32 y)=n32 (x &&& y):=by
 simp only [bits];rw [show IntKind.i64.bits=64 from rfl,zd3,zd3,<-BitVec.setWidth_and,zj3];rfl
theorem xori (x y:UInt32):bits .xor .i64 (n32 x) (n32 y)=n32 (x ^^^ y):=by
 simp only [bits];rw [show IntKind.i64.bits=64 from rfl,zd3,zd3,<-BitVec.setWidth_xor,zj3];rfl
theorem noti (x:UInt32):IntKind.i64.wrap (4294967295 - n32 x)=n32 (~~~x):=by
 have h0:=zH x;have h1:=zar x;rw [wrapi _ q_o q_o];have h2:(~~~x).toNat=4294967295 - x.toNat:=by
  rw [UInt32.toNat_not];rfl
 unfold n32 at *;rw [h2];omega
theorem zaD (x:UInt32):n32 x % (4294967296:Int)=n32 x:=Int.emod_eq_of_lt (zH x) (zar x)
theorem late (a b:Int) (p q:UInt32) (ha:a % 4294967296=n32 p) (hb:b % 4294967296=n32 q):(a+b) % 4294967296=n32 (p+q):=by
 rw [<-add32m p q,<-ha,<-hb,Int.emod_add_emod,Int.add_emod_emod]
theorem lateT (a:Int) (p:UInt32) (h0:0<=a) (ha:a % 4294967296=n32 p):a.tmod 4294967296=n32 p:=by
 rw [Int.tmod_eq_emod_of_nonneg h0];exact ha
section sums
variable (a b c d e f g:UInt32)
theorem ws2:IntKind.i64.wrap (n32 a+n32 b)=n32 a+n32 b:=by
 have:=zar a;have:=zar b;have:=zH a;have:=zH b;exact wrapi _ q_o q_o
theorem ws3:IntKind.i64.wrap (n32 a+n32 b+n32 c)=n32 a+n32 b+n32 c:=by
 have:=zar a;have:=zar b;have:=zar c;have:=zH a;have:=zH b;have:=zH c;exact wrapi _ q_o q_o
theorem ws4:IntKind.i64.wrap (n32 a+n32 b+n32 c+n32 d)=n32 a+n32 b+n32 c+n32 d:=by
 have:=zar a;have:=zar b;have:=zar c;have:=zar d;have:=zH a;have:=zH b;have:=zH c;have:=zH d;exact wrapi _ q_o q_o
theorem ws5:IntKind.i64.wrap (n32 a+n32 b+n32 c+n32 d+n32 e)=n32 a+n32 b+n32 c+n32 d+n32 e:=by
 have:=zar a;have:=zar b;have:=zar c;have:=zar d;have:=zar e;have:=zH a;have:=zH b;have:=zH c;have:=zH d;have:=zH e;exact wrapi _ q_o q_o
theorem ws7:IntKind.i64.wrap (n32 a+n32 b+n32 c+n32 d+n32 e+(n32 f+n32 g))=n32 a+n32 b+n32 c+n32 d+n32 e+(n32 f+n32 g):=by
 have:=zar a;have:=zar b;have:=zar c;have:=zar d;have:=zar e;have:=zH a;have:=zH b;have:=zH c;have:=zH d;have:=zH e;have:=zar f;have:=zar g;have:=zH f;have:=zH g;exact wrapi _ q_o q_o
theorem ws6:IntKind.i64.wrap (n32 f+(n32 a+n32 b+n32 c+n32 d+n32 e))=n32 f+(n32 a+n32 b+n32 c+n32 d+n32 e):=by
 have:=zar a;have:=zar b;have:=zar c;have:=zar d;have:=zar e;have:=zH a;have:=zH b;have:=zH c;have:=zH d;have:=zH e;have:=zar f;have:=zH f;exact wrapi _ q_o q_o
theorem rs2:(n32 a+n32 b).tmod 4294967296=n32 (a+b):=by
 have:=zH a;have:=zH b;exact lateT _ _ q_o (late _ _ _ _ (zaD a) (zaD b))
theorem rs4:(n32 a+n32 b+n32 c+n32 d).tmod 4294967296=n32 (a+b+c+d):=by
 have:=zH a;have:=zH b;have:=zH c;have:=zH d;exact lateT _ _ q_o (late _ _ _ _ (late _ _ _ _ (late _ _ _ _ (zaD a) (zaD b)) (zaD c)) (zaD d))
theorem rs7:(n32 a+n32 b+n32 c+n32 d+n32 e+(n32 f+n32 g)).tmod 4294967296=n32 ((((a+b+c)+d)+e)+(f+g)):=by
 have:=zH a;have:=zH b;have:=zH c;have:=zH d;have:=zH e;have:=zH f;have:=zH g;exact lateT _ _ q_o (late _ _ _ _ (late _ _ _ _ (late _ _ _ _ (late _ _ _ _ (late _ _ _ _ (zaD a) (zaD b)) (zaD c)) (zaD d)) (zaD e)) (late _ _ _ _ (zaD f) (zaD g)))
theorem rs6:(n32 f+(n32 a+n32 b+n32 c+n32 d+n32 e)).tmod 4294967296=n32 (f+((((a+b)+c)+d)+e)):=by
 have:=zH a;have:=zH b;have:=zH c;have:=zH d;have:=zH e;have:=zH f;exact lateT _ _ q_o (late _ _ _ _ (zaD f) (late _ _ _ _ (late _ _ _ _ (late _ _ _ _ (late _ _ _ _ (zaD a) (zaD b)) (zaD c)) (zaD d)) (zaD e)))
end sums
theorem shli (a:Int) (k:IntKind) (n:Nat) (h:n < 64):Op.shift .shl .i64 a k (n:Int)=pure (.int .i64 (IntKind.i64.wrap (a*2 ^ n))):=by
 rw [shift_shl_any _ _ _ _ (Int.natCast_nonneg _),Int.toNat_natCast,show min n IntKind.i64.bits=n from Nat.min_eq_left (Nat.le_of_lt h)]
theorem shri (a:Int) (k:IntKind) (n:Nat) (h:n < 64):Op.shift .shr .i64 a k (n:Int)=pure (.int .i64 (a / 2 ^ n)):=by
 rw [shift_shr_any _ _ _ _ (Int.natCast_nonneg _),Int.toNat_natCast,show min n IntKind.i64.bits=n from Nat.min_eq_left (Nat.le_of_lt h)]
end Go.Wd
namespace Go.Sh
open Go.Wd Go.RowKit
theorem zoC (x n:Nat) (hx:x < 4294967296) (hn:n<=32):x / 2 ^ n+x*2 ^ (32 - n) % 4294967296=(x <<< (32 - n)) % 4294967296 ||| (x >>> n):=by
 have e:(4294967296:Nat)=2 ^ n*2 ^ (32 - n):=by rw [<-Nat.pow_add];rw [show n+(32 - n)=32 by omega]
 have e2:x*2 ^ (32 - n) % 4294967296=(x % 2 ^ n)*2 ^ (32 - n):=by rw [e,Nat.mul_mod_mul_right]
 rw [Nat.shiftLeft_eq,e2,Nat.shiftRight_eq_div_pow,<-Nat.shiftLeft_eq,<-Nat.shiftLeft_add_eq_or_of_lt,Nat.add_comm];rw [Nat.div_lt_iff_lt_mul (Nat.two_pow_pos n),Nat.mul_comm,<-e];exact hx
theorem zoW (x:UInt32) (n:Nat) (h0:0 < n) (h1:n < 32):n32 x / 2 ^ n+n32 x*2 ^ (32 - n) % 4294967296=n32 (rotr x n):=by
 have h:=zoC x.toNat n x.toNat_lt q_o;have r:(rotr x n).toNat=(x.toNat <<< (32 - n)) % 4294967296 ||| (x.toNat >>> n):=by
  unfold rotr;rw [UInt32.toNat_or,UInt32.toNat_shiftLeft,UInt32.toNat_shiftRight,UInt32.toNat_ofNat',UInt32.toNat_ofNat',
   show (32 - n) % 2 ^ 32 % 32=32 - n from by omega,show n % 2 ^ 32 % 32=n from by omega]
 have c: ∀a b p q m s:Nat,a / p+b*q % m=s->(a:Int) / (p:Int)+(b:Int)*(q:Int) % (m:Int)=(s:Int):=λa b p q m s hs=>by
  rw [<-hs,Int.natCast_add,Int.natCast_ediv,Int.natCast_emod,Int.natCast_mul]
 have:=c _ _ _ _ _ _ h;unfold n32;rw [r,<-this,Int.natCast_pow,Int.natCast_pow];rfl
theorem zpo (n:Nat):(0:Int) < 2 ^ n:=Int.pow_pos q_e
theorem zmY (x:UInt32) (n:Nat) (h0:0 < n) (h1:n < 32):IntKind.i64.wrap (n32 x*2 ^ (32 - n))=n32 x*2 ^ (32 - n)/\0<=n32 x*2 ^ (32 - n):=by
 have a0:=zH x;have a1:=zar x;have p:(2:Int) ^ (32 - n)<=2147483648:=by
  have:2 ^ (32 - n)<=2 ^ 31:=Nat.pow_le_pow_right q_e q_o;have h2:=Int.ofNat_le.2 this;rw [Int.natCast_pow,Int.natCast_pow] at h2;exact Int.le_trans h2 q_e
 have p0:=zpo (32 - n);have m0:0<=n32 x*2 ^ (32 - n):=Int.mul_nonneg a0 q_o;have m1:n32 x*2 ^ (32 - n)<=4294967295*2147483648:=Int.mul_le_mul q_o p q_o q_o;exact ⟨wrapi _ q_o q_o,m0⟩
theorem znc (x:UInt32) (n:Nat) (h0:0 < n) (h1:n < 32):IntKind.i64.wrap (n32 x / 2 ^ n+n32 x*2 ^ (32 - n) % 4294967296)=n32 (rotr x n):=by
 rw [zoW x n h0 h1];have:=zar (rotr x n);have:=zH (rotr x n);exact wrapi _ q_o q_o
end Go.Sh
namespace Go.Proofs.YtdnlngbjpdbffaaGreatDoor
open Go Go.Sy Go.Wd Go.Sh
attribute [local irreducible] Sy SyL SyX
theorem zbs (x:UInt32) (n:Nat) (w:World) (h0:0 < n) (h1:n < 32):Sy.Fn Tryz.prog 309 [.int .i64 (n32 x),.int .i64 n] w No (Gives (vi (rotr x n))):=by
 refine zg Tryz.func309 rfl Tryz.ntmps309 q_p Holds.nil ?_;have e32:IntKind.i64.wrap (32 - (n:Int))=((32 - n:Nat):Int):=by rw [wrapi _ q_o q_o];omega
 obtain ⟨e1,e2⟩:=zmY x n h0 h1;repeat' (first|refine s_0 ?_|(refine zb 0 (za ?_))|(refine zM (id:=1) 8 [[],[],[0,1],[],[],[4],[3,4,5],[3,4,5,6],[0,1,2,3,4,5,6,7],[0,1,2,3,4,5,6,7,8]] mixed ?_ ?_;kernel_rfl;refine zk ?_;refine zk ?_;refine dc (λ_ _=>zaJ rfl rfl rfl (shri _ _ n q_o)) (k:=?_);refine zk ?_;refine zk ?_;refine dc (λ_ _=>zD rfl rfl rfl e32) (k:=?_);refine dc (λ_ _=>zdW rfl rfl rfl ((shli _ _ (32 - n) q_o).trans (by rw [e1]))) (k:=?_);refine dc (λ_ _=>zap rfl rfl rfl q_e (Int.tmod_eq_emod_of_nonneg e2)) (k:=?_);refine zY ?_;refine yv (zu rfl rfl rfl (znc x n h0 h1)) (k:=?_);refine zx ?_)|fail)
 exact q_r
theorem zoU (x y z:UInt32) (w:World):Sy.Fn Tryz.prog 310 [.int .i64 (n32 x),.int .i64 (n32 y),.int .i64 (n32 z)] w No (Gives (vi ((x &&& y) ^^^ (~~~x &&& z)))):=by
 refine zg Tryz.func310 rfl Tryz.ntmps310 q_p Holds.nil ?_;repeat' (first|refine s_0 ?_|(refine zb 0 (za ?_))|(refine zb 1 (za ?_);refine yv (zdq rfl rfl rfl (andi _ _)) (k:=za ?_);refine yv (zD rfl rfl rfl (noti _)) (k:=za ?_);refine yv (zdq rfl rfl rfl (andi _ _)) (k:=?_);refine yv (zb5 rfl rfl rfl (xori _ _)) (k:=za ?_)))
 exact q_r
theorem zpc (x y z:UInt32) (w:World):Sy.Fn Tryz.prog 311 [.int .i64 (n32 x),.int .i64 (n32 y),.int .i64 (n32 z)] w No (Gives (vi (((x &&& y) ^^^ (x &&& z)) ^^^ (y &&& z)))):=by
 refine zg Tryz.func311 rfl Tryz.ntmps311 q_p Holds.nil ?_;repeat' (first|refine s_0 ?_|(refine zb 0 (za ?_))|(refine zb 1 (za ?_);refine yv (zdq rfl rfl rfl (andi _ _)) (k:=za ?_);refine yv (zdq rfl rfl rfl (andi _ _)) (k:=?_);refine yv (zb5 rfl rfl rfl (xori _ _)) (k:=za ?_);refine yv (zdq rfl rfl rfl (andi _ _)) (k:=?_);refine yv (zb5 rfl rfl rfl (xori _ _)) (k:=za ?_)))
 exact q_r
end Go.Proofs.YtdnlngbjpdbffaaGreatDoor
end
section
namespace Go.Sh
open Go.Wd Go.RowKit Go.Sy
def ArgB (O:Nat->Prop) (x:List UInt8) (vs:List Value) (RA:List Res) (W:World):Prop:=∃b o,vs= [.slice (some ⟨b,o,none⟩) 64 64]/\RA= []/\W.rangeAt b o (x.map Sy.v8)/\ ¬O b
theorem zo5 (n i:Nat) (hi:i < 8):Op.shift .shr .u64 ((n:Int)*8) .i64 (8*(i:Int))=pure (.int .u64 (((8*n) / 256 ^ i:Nat):Int))/\IntKind.u8.wrap (((8*n) / 256 ^ i:Nat):Int)=n8 (UInt8.ofNat ((8*n) / 256 ^ i)):=by
 refine ⟨?_,?_⟩
 ·rw [show (8*(i:Int))=((8*i:Nat):Int) from (Int.natCast_mul 8 i).symm,shift_shr_any _ _ _ _ (Int.natCast_nonneg _),Int.toNat_natCast,show min (8*i) IntKind.u64.bits=8*i from Nat.min_eq_left (by show 8*i<=64;omega)];congr 2;rw [show ((n:Int)*8)=((8*n:Nat):Int) from by omega,show ((2:Int) ^ (8*i))=((256 ^ i:Nat):Int) by rw [Int.natCast_pow,Int.pow_mul];rfl,<-Int.natCast_ediv]
 ·rw [wrap_u8_nat,n8_of_nat]
end Go.Sh
namespace Go.Proofs.YtdnlngbjpdbffaaGreatDoor
open Go Go.Sy Go.Wd Go.Sh
attribute [local irreducible] Sy SyL SyX Sy.Fn callFunc n8 n32 Rem Has Upd SubR Sy.Sub SetAt Rd Reads Seg RemL
theorem znb (v:Value) (n:Int) (w:World) (hv:v.oneCell'=true):
  Sy.Fn Tryz.prog 246 [v,.int .i64 n] w No (λu R=>∃b1 b2,u= .func (.func 295) #[] #[.pointer (some ⟨b1,0,none⟩),.pointer (some ⟨b2,0,none⟩)]/\R= [.blk b1 23 [v],.blk b2 3 [.int .i64 n]]):=by
 refine zg Tryz.func246 rfl Tryz.ntmps246 q_p Holds.nil ?_;refine zbC ?_;refine zbc ?_;refine ya (znM (hv:=hv)) (k:=?_);intro b1;repeat' (first|refine s_0 ?_|(refine zb 1 ?_;refine zaa ?_;refine za ?_)|(refine zP ?_;first|refine zx ?_|(refine zj ?_;intro _)|fail)|fail)
 rename_i b2;exact ret1 rfl (resTmp rfl) q_h ⟨b1,b2,rfl,rfl⟩
theorem zl7 (b1 b2:Nat) (a0:Option Addr) (n cap total:Nat) (last:List UInt8) (w:World) (M:Nat->Prop) (hn:last.length=n) (hcap:n<=cap) (ht:total < 2305843009213693952)
  (hsl:SlF w M a0 (last.map Sy.v8)):
  IterC Tryz.prog 295 [.pointer (some ⟨b1,0,none⟩),.pointer (some ⟨b2,0,none⟩)] (blocks last total) ArgB w M [.blk b1 23 [.slice a0 n cap],.blk b2 3 [.int .i64 total]]:=by
 intro l J Jx j0 hJ0 hh hY;refine zg Tryz.func295 rfl Tryz.ntmps295 q_p hh ?_;repeat' (first|refine s_t ?_|(refine zb 0 ?_;refine zm ?_;refine za ?_))
 refine zy (γ:=Nat×Nat×Nat×Option Addr×Res) (λg=>[(0,.func (.yield l) #[] #[]),(1,.pointer (some ⟨b1,0,none⟩)),(2,.pointer (some ⟨b2,0,none⟩)),(4,.slice g.2.2.2.1 g.2.1 g.2.2.1)])
  (λg=>[g.2.2.2.2,.blk b1 23 [.slice a0 n cap],.blk b2 3 [.int .i64 total]])
  (λg=>64*g.1+g.2.1=n/\g.2.1<=g.2.2.1/\g.2.2.1<=cap/\J g.1 g.2.2.2.2/\SlF w M g.2.2.2.1 ((last.drop (64*g.1)).map v8))
  (λg=>g.2.1) (0,n,cap,a0,j0) ⟨by simp,hcap,Nat.le_refl _,hJ0,by simpa using hsl⟩ ?_ ?_ ?_
 ·exact q_h
 ·exact q_h
 rintro ⟨q,m,c,a1,j⟩ ⟨hq,hmc,hcc,hJ,hs1⟩;dsimp only at *;have hrl:(last.drop (64*q)).length=m:=by rw [List.length_drop];omega
 by_cases hge:64<=m
 ·have hjq:q < last.length / 64:=q_o;have hkx:q < (blocks last total).length:=by rw [zg2];omega
  have hxj:(blocks last total)[q]=(last.drop (64*q)).take 64:=by
   have:=zlH last total q hjq;rw [List.getElem?_eq_getElem hkx] at this;exact Option.some.inj this
  obtain ⟨b,o,rfl,hr,hnM⟩: ∃b o,a1=some ⟨b,o,none⟩/\w.rangeAt b o ((last.drop (64*q)).map v8)/\ ¬M b:=by
   rcases hs1 with h|h
   ·exfalso;have:=congrArg List.length h;rw [List.length_map,hrl] at this;simp at this;omega
   ·exact h
  have harg: ∀(w':World) (X:List Res),Keep M w w'->Holds w.heap.size M (j::[] ++ X) w'->ArgB j.own (blocks last total)[q] [.slice (some ⟨b,o,none⟩) 64 64] [] w':=λw' X hk hh'=>
   ⟨b,o,rfl,rfl,λi v hv=>hk.cell (hr i v (by
    rw [hxj,List.map_take,List.getElem?_take] at hv;split at hv
    ·exact hv
    ·cases hv)) hnM,λhb=>by
    rcases hh'.mine j List.mem_cons_self b hb with h|h
    ·have:=World.block_lt_of_cell? w ⟨b,o,none⟩ (u:=Sy.v8 ((last.drop (64*q)).getD 0 0)) (by
      have:=hr 0 (Sy.v8 ((last.drop (64*q)).getD 0 0)) (by rw [List.getElem?_map,List.getD_eq_getElem?_getD,List.getElem?_eq_getElem q_o];rfl);rw [Nat.add_zero] at this;exact this)
     dsimp only at this;omega
    ·exact hnM h⟩
  repeat' (first|refine s_t ?_|(refine zb 1 (za ?_);refine zad ?_)|(refine zb 2 (za ?_);refine zbv ?_;(refine ys (zbS hY hkx hJ (hL:=RemL.cons (by exact Rem.here) rfl RemL.nil) (harg:=λw' X hk hh'=>harg w' _ hk hh')) (k:=?_);rintro _ _ ⟨y,j',rfl,rfl,hy⟩);refine za ?_))
  refine zcy rfl (λh=>?_) (λh=>?_)
  ·obtain rfl:y=false:=by simpa using h
   repeat' (first|refine s_0 ?_|fail)
   exact ret0 rfl q_h ⟨j',rfl,.inr ⟨q+1,by omega,hy⟩⟩
  ·obtain rfl:y=true:=by simpa using h
   repeat' (first|refine s_0 ?_|(refine zb 3 (za ?_);refine zbv ?_;refine za ?_))
   refine zq (q+1,m - 64,c - 64,movA (some ⟨b,o,none⟩) 64 c 1,j') ?_ ?_ ?_ ?_
   ·refine ⟨by dsimp only;omega,by dsimp only;omega,by dsimp only;omega,hy,?_⟩
    ·have:=hs1.mov (l:=64) (m:=c) (by rw [List.length_map,hrl];exact hmc);rw [<-List.map_drop,List.drop_drop,show 64*q+64=64*(q+1) from by omega] at this;exact this
   ·show m - 64 < m;omega
   ·exact q_h
   ·exact q_h
 -- the end
 obtain ⟨r,hr⟩: ∃r,r=last.drop (64*q):=⟨_,rfl⟩;have hq2:last.length / 64=q:=q_o;rw [<-hr] at hrl hs1;repeat' (first|refine s_0 ?_|(refine zb 1 (za ?_);refine zad ?_)|(refine zb 4 (za ?_))|(refine zb 5 (za ?_);refine zaj ?_;refine zak ?_))
 refine zba (γ:=Nat) (λS=>[(0,.func (.yield l) #[] #[]),(1,.pointer (some ⟨b1,0,none⟩)),(2,.pointer (some ⟨b2,0,none⟩)),(4,.slice a1 m c),(5,.int .i64 S)])
  (λ_=>[j,.blk b1 23 [.slice a0 n cap],.blk b2 3 [.int .i64 total]]) (λS=>S=if m+9 > 64 then 128 else 64) ?_ ?_
 ·refine zcy rfl (λh=>?_) (λh=>?_)
  ·repeat' (first|refine zae ?_|refine zZ ?_|(refine zb 6 (za ?_)))
   refine zT 128 ?_ ?_ ?_
   ·rw [if_pos (by have:=of_decide_eq_true h;omega)]
   ·exact q_h
   ·exact q_h
  ·repeat' (first|refine zcE ?_|refine zZ ?_|fail)
   refine zT 64 ?_ ?_ ?_
   ·rw [if_neg (by have:=of_decide_eq_false h;omega)]
   ·exact q_h
   ·exact q_h
 intro S hS;have hS2:m+9<=S/\S<=128:=by split at hS <;> omega
 have hzero:setSeg (List.replicate S (Value.int .u8 0)) 0 (r.map Sy.v8)=(r ++ List.replicate (S - m) 0).map Sy.v8:=by
  rw [setSeg0,List.length_map,hrl,List.drop_replicate,List.map_append,List.map_replicate,zkZ]
 repeat' (first|refine s_t ?_|(refine zB [7,10] ?_;refine za ?_)|(refine zb 8 (za ?_);refine yv (zc3 (Rd.oldF hs1) (by rw [List.length_map,hrl]) hzero) (k:=?_))|(refine zb 9 (za ?_);refine zw ?_;refine zI ?_)|(refine ys zcu (k:=?_);rintro _ _ ⟨b6,rfl,rfl⟩)|(refine zP ?_;first|refine zx ?_|fail)|fail)
 obtain ⟨d,hd⟩: ∃d,S=m+1+d+8:=⟨S - m - 9,by omega⟩;refine zy (γ:=Nat) (λi=>[(0,.func (.yield l) #[] #[]),(1,.pointer (some ⟨b1,0,none⟩)),(2,.pointer (some ⟨b2,0,none⟩)),(5,.int .i64 S),(6,.slice (some ⟨b6,0,none⟩) S S),(32,.int .i64 i)])
  (λi=>[.blk b6 5 ((r ++ 128::(List.replicate (d+8 - i) 0 ++ (be8 (8*total)).drop (8 - i))).map Sy.v8),j,.blk b1 23 [.slice a0 n cap],.blk b2 3 [.int .i64 total]])
  (λi=>i<=8) (λi=>8 - i) 0 (Nat.zero_le _) ?_ ?_ ?_
 ·exact q_h
 ·(repeat' (first|exact SubR.nil|(apply SubR.same;with_reducible (focus ((repeat (first|exact Rem.here|apply Rem.there));done)))|(apply SubR.blk;(focus ((repeat (first|exact Rem.here|apply Rem.there));done)))|(apply SubR.pick;(focus ((repeat (first|exact Rem.here|apply Rem.there));done)))|rfl))
  have e1:(be8 (8*total)).drop 8= []:=List.drop_eq_nil_of_le (by rw [zdM];omega);have e2:S - m=(d+8)+1:=q_o;show _=List.map Sy.v8 (r ++ 128::(List.replicate (d+8) 0 ++ (be8 (8*total)).drop 8));rw [e1,e2,List.append_nil,show Value.int .u8 128=Sy.v8 128 from Sy.v8_lit 128 q_e,<-List.map_set,List.set_append_right _ _ q_o,hrl,Nat.sub_self];rfl
 intro i hi;by_cases hlt:i < 8
 ·obtain ⟨q1,q2⟩:=zo5 total i hlt;have q3:IntKind.i64.wrap (8*(i:Int))=8*(i:Int):=wrapi _ q_o q_o;have q4:IntKind.i64.wrap ((S:Int) - 1 - (i:Int))=((r.length+1+(d+7 - i):Nat):Int):=by rw [wrapi _ q_o q_o,hrl];omega
  repeat' (first|refine s_t ?_|(refine zb 11 ?_;refine zL ?_)|(refine zb 12 (za ?_))|(refine zb 13 (za ?_);refine zdc ?_;refine za ?_;refine yv (zD (hr:=q4)) (k:=?_);refine zm ?_;refine zee ?_;refine zdo ?_;refine za ?_;refine zdo ?_;refine yv (zaJ (hr:=q1)) (k:=?_);refine yv (z5 (hr:=q2)) (k:=?_);refine zw ?_;refine zI ?_)|(refine zb 14 ?_;refine zaj ?_;refine za ?_))
  refine zq (i+1) ?_ ?_ ?_ ?_
  ·show i+1<=8;omega
  ·show 8 - (i+1) < 8 - i;omega
  ·exact q_h
  ·(repeat' (first|exact SubR.nil|(apply SubR.same;with_reducible (focus ((repeat (first|exact Rem.here|apply Rem.there));done)))|(apply SubR.blk;(focus ((repeat (first|exact Rem.here|apply Rem.there));done)))|(apply SubR.pick;(focus ((repeat (first|exact Rem.here|apply Rem.there));done)))|rfl))
   rw [<-zn9 r d (8*total) i hlt,List.map_set];rfl
 obtain rfl:i=8:=q_o;have htail:r ++ 128::(List.replicate (d+8 - 8) 0 ++ (be8 (8*total)).drop (8 - 8))=tail r total:=by
  unfold tail;rw [hrl,<-hS,show S - m - 9=d from by omega];simp
 rw [htail];have htl:(tail r total).length=S:=by rw [zjW r total q_o,hrl,hS]
 have hbl:(blocks last total).length=q+S / 64:=by rw [zg2,hq2,<-hr,htl]
 have hx0: ∀i,i < S / 64-> ∃h:q+i < (blocks last total).length,(blocks last total)[q+i]=((tail r total).drop (64*i)).take 64:=λi hi=>by
  have h1:q+i < (blocks last total).length:=q_o;have:=zkt last total i (by rw [hq2,<-hr,htl];exact hi);rw [hq2,<-hr,List.getElem?_eq_getElem h1] at this;exact ⟨h1,Option.some.inj this⟩
 have hS64:S=64\/S=128:=by split at hS <;> omega
 generalize tail r total=tl at *;generalize blocks last total=bl at *
 -- what is handed over
 have harg: ∀(i:Nat) (j:Res) (h1:q+i < bl.length) (Rest:List Res),i < S / 64-> ∀(w':World) (X:List Res),Keep M w w'->Holds w.heap.size M (j::[] ++ ((.blk b6 5 (tl.map Sy.v8)::Rest) ++ X)) w'->ArgB j.own bl[q+i] [.slice (some ⟨b6,64*i,none⟩) 64 64] [] w':=λi j h1 Rest hi w' X hk hh'=>by
  refine ⟨b6,64*i,rfl,rfl,?_,λhb=>?_⟩
  ·have hb:(Res.blk b6 5 (tl.map Sy.v8)).holds w':=hh'.all _ q_p;rw [(hx0 i hi).2];intro k v hv;rw [zc0 hb];rw [List.map_take,List.map_drop,List.getElem?_take] at hv;split at hv
   ·rw [List.getElem?_drop] at hv;exact hv
   ·cases hv
  ·have:=(List.pairwise_cons.1 hh'.apart).1 (Res.blk b6 5 (tl.map Sy.v8)) q_p b6 hb;exact this rfl
 have h0:q+0 < bl.length:=q_o;rcases hS64 with hS1|hS1
 ·subst hS1;have hq1:bl.length=q+1:=q_o;repeat' (first|refine s_0 ?_|(refine zb 11 ?_;refine zL ?_)|(refine zb 15 (za ?_);refine zbv ?_;(refine ys (zbS hY h0 hJ (hL:=RemL.cons (by exact Rem.there Rem.here) rfl RemL.nil) (harg:=λw' X hk hh'=>harg 0 j h0 _ q_e w' X hk hh')) (k:=?_);rintro _ _ ⟨y,j',rfl,rfl,hy⟩;cases y);refine za ?_)|(refine zP ?_;first|refine zak ?_|refine zaH ?_|refine za1 ?_|fail)|fail)
  ·exact end0 rfl q_h ⟨j',rfl,.inr ⟨q+1,by omega,hy⟩⟩
  ·exact end0 rfl q_h ⟨j',rfl,.inl (by rw [hq1];exact hy)⟩
 ·subst hS1;have hq1:bl.length=q+1+1:=q_o;have h1:q+1 < bl.length:=q_o;repeat' (first|refine s_0 ?_|(refine zb 11 ?_;refine zL ?_)|(refine zb 15 (za ?_);refine zbv ?_;(refine ys (zbS hY h0 hJ (hL:=RemL.cons (by exact Rem.there Rem.here) rfl RemL.nil) (harg:=λw' X hk hh'=>harg 0 j h0 _ q_e w' X hk hh')) (k:=?_);rintro _ _ ⟨y,j',rfl,rfl,hy⟩;cases y);refine za ?_)|(refine zb 16 (za ?_);refine zbv ?_)|(refine zP ?_;first|refine zak ?_|refine zaH ?_|refine za1 ?_|fail)|fail)
  ·exact end0 rfl q_h ⟨j',rfl,.inr ⟨q+1,by omega,hy⟩⟩
  ·repeat' (first|refine zae ?_|(refine zP ?_;first|(refine ys (zbS hY h1 hy (hL:=RemL.cons (by exact Rem.here) rfl RemL.nil) (harg:=λw' X hk hh'=>harg 1 j' h1 _ q_e w' X hk hh')) (k:=?_);rintro _ _ ⟨y,j'',rfl,rfl,hy2⟩;cases y)|fail)|fail)
   ·exact end0 rfl q_h ⟨j'',rfl,.inr ⟨q+1+1,by omega,hy2⟩⟩
   ·exact end0 rfl q_h ⟨j'',rfl,.inl (by rw [hq1];exact hy2)⟩
end Go.Proofs.YtdnlngbjpdbffaaGreatDoor
end
section
namespace Go.Proofs.YtdnlngbjpdbffaaGreatDoor
open Go Go.Sy Go.Wd Go.Sh
attribute [local irreducible] Sy SyL SyX Sy.Fn callFunc
theorem ziu (s:List UInt32) (k:Nat) (h:k < s.length):ser (s.take (k+1))=ser (s.take k) ++ be4 (s.getD k 0):=by
 unfold ser;rw [List.take_succ_eq_append_getElem h,List.flatMap_append];simp [List.getD,h]
theorem zf0 (s:List UInt32):(ser s).length=4*s.length:=by
 induction s with
 |nil=>rfl
 |cons x s ih=>simp only [ser,List.flatMap_cons,List.length_append] at *;rw [ih];simp [be4];omega
theorem zax {α:Type}{C L:List α}{k:Nat}(h:k < C.length) (hL:C.take k=L) (v:α):(C.set k v).take (k+1)=L ++ [v]:=by
 rw [List.take_succ_eq_append_getElem (by simpa using h),List.take_set_of_le (Nat.le_refl k),hL];simp
theorem zmF {α:Type}{C L:List α}{k:Nat}(h:k+3 < C.length) (hL:C.take k=L) (a b c d:α):
  ((((C.set k a).set (k+1) b).set (k+2) c).set (k+3) d).take (k+4)=L ++ [a,b,c,d]:=by
 have e1:=zax (C:=C) q_o hL a;have e2:=zax (C:=C.set k a) (by simp;omega) e1 b;have e3:=zax (C:=(C.set k a).set (k+1) b) (by simp;omega) e2 c;have e4:=zax (C:=((C.set k a).set (k+1) b).set (k+2) c) (by simp;omega) e3 d;rw [e4];simp
theorem zmx (s:List UInt32) (w:World) (hs:s.length=8):Sy.Fn Tryz.prog 248 [.agg (s.map v32).toArray] w No (Gives (.agg ((ser s).map v8).toArray)):=by
 refine zg Tryz.func248 rfl Tryz.ntmps248 q_p Holds.nil ?_;repeat' (first|refine s_t ?_|(refine zb 0 ?_;refine zj ?_;intro _;refine zj ?_;intro _)|(refine zb 1 ?_;refine zm ?_;refine za ?_))
 rename_i b1 b2;refine zy (γ:=Nat×List UInt8) (λg=>[(2,.pointer (some ⟨b2,0,none⟩)),(5,.agg (s.map v32).toArray),(6,.int .i64 g.1)]) (λg=>[.blk b2 199 (g.2.map v8)])
  (λg=>g.1<=8/\g.2.length=32/\g.2.take (4*g.1)=ser (s.take g.1)) (λg=>8 - g.1) (0,List.replicate 32 0) ⟨by omega,by simp,rfl⟩ ?_ ?_ ?_
 ·exact q_h
 ·exact q_h
 ·rintro ⟨k,C⟩ ⟨hk,hC,hW⟩;dsimp only at *;by_cases hlt:k < 8
  ·have hget:(s.map v32)[k]?=some (v32 (s.getD k 0)):=by simp [List.getD,hs,hlt]
   generalize hx:s.getD k 0=x at *;repeat' (first|refine s_t ?_|(refine zb 2 ?_;refine zL ?_)|(refine zb 3 (za ?_);refine zqn ?_;refine za ?_)|(refine zb 4 (za ?_);refine zdo ?_;refine za ?_;refine zdo ?_;refine zaj ?_;refine za ?_;refine zdo ?_;refine zaj ?_;refine za ?_;refine zdo ?_;refine zaj ?_;refine za ?_;refine yv (zaJ (hr:=opshr32 x _ 24 q_e)) (k:=?_);refine yv (z5 (hr:=zb4 _)) (k:=za ?_);refine yv (zaJ (hr:=opshr32 x _ 16 q_e)) (k:=?_);refine yv (z5 (hr:=zb4 _)) (k:=za ?_);refine yv (zaJ (hr:=opshr32 x _ 8 q_e)) (k:=?_);refine yv (z5 (hr:=zb4 _)) (k:=za ?_);refine yv (z5 (hr:=zb4 _)) (k:=?_);refine zw ?_;refine zI ?_;refine zw ?_;refine zI ?_;refine zw ?_;refine zI ?_;refine zw ?_;refine zI ?_)|(refine zb 5 ?_;refine zaj ?_;refine za ?_))
   refine zq (k+1,((((C.set (4*k) (x >>> UInt32.ofNat 24).toUInt8).set (4*k+1) (x >>> UInt32.ofNat 16).toUInt8).set (4*k+2) (x >>> UInt32.ofNat 8).toUInt8).set (4*k+3) x.toUInt8)) ?_ ?_ ?_ ?_
   ·refine ⟨by omega,by simp only [List.length_set];exact hC,?_⟩;show List.take (4*(k+1)) _=_;rw [ziu s k q_o,show 4*(k+1)=4*k+4 from by omega,hx];exact zmF q_o hW _ _ _ _
   ·show 8 - (k+1) < 8 - k;omega
   ·exact q_h
   ·(repeat' (first|exact SubR.nil|(apply SubR.same;with_reducible (focus ((repeat (first|exact Rem.here|apply Rem.there));done)))|(apply SubR.blk;(focus ((repeat (first|exact Rem.here|apply Rem.there));done)))|(apply SubR.pick;(focus ((repeat (first|exact Rem.here|apply Rem.there));done)))|rfl))
    simp only [List.map_set];rfl
  ·obtain rfl:k=8:=q_o;repeat' (first|refine s_0 ?_|(refine zb 2 ?_;refine zL ?_)|(refine zb 6 ?_;refine zm ?_;refine zI ?_))
   refine ret1 rfl (resCells rfl (ty rfl) rfl Has.go Seg.all (by first|rfl|(simp only [List.length_map,List.length_set,List.length_replicate,List.length_append];omega)|(simp only [List.length_map];first|assumption|omega)|(simp;omega)|fail)) SubR.nil ⟨?_,rfl⟩;rw [List.take_of_length_le q_o,List.take_of_length_le q_o] at hW;rw [hW]
end Go.Proofs.YtdnlngbjpdbffaaGreatDoor
end
