/- Certificates, the specification walked: encodings. -/
import Derived.Test.YtdnlngbjpdbffaaGreatDoorLJ36
import Derived.Test.YtdnlngbjpdbffaaGreatDoorLJ17
set_option maxHeartbeats 1000000
set_option maxRecDepth 10000
set_option linter.all false
section
namespace Go.Ct
open Go Go.Sy
theorem remN (p k:Nat):(p:Int).tmod (k:Int)=((p % k:Nat):Int):=rfl
theorem u8M (x:Nat):IntKind.u8.wrap ((x % 256:Nat):Int)=Wd.n8 (UInt8.ofNat x):=by rw [u8N,Wd.n8_of_nat,Wd.n8_of_nat,Nat.mod_mod]
theorem zli (v:Nat): ∀(n k:Nat),k < n->(beN v n)[k]?=some (UInt8.ofNat (v / 256 ^ (n - 1 - k)))
 |n+1,0,_=>by rw [beN,List.getElem?_cons_zero];simp
 |n+1,k+1,h=>by
  rw [beN,List.getElem?_cons_succ,zli v n k q_o,show n+1 - 1 - (k+1)=n - 1 - k by omega]
theorem zpp (v n k:Nat) (h:k < n):(beN v n).take (k+1)=(beN v n).take k ++ [UInt8.ofNat (v / 256 ^ (n - 1 - k))]:=by
 rw [List.take_succ,zli v n k h];rfl
end Go.Ct
namespace Go.Proofs.YtdnlngbjpdbffaaGreatDoor
open Go Go.Sy Go.Ct Go.Nt Go.RowKit
attribute [local irreducible] Sy SyL SyX SyC SyF Sy.Fn callFunc
theorem zqf (t:Nat) (s:Bs) (w:World) (ht:t < 256) (hs:s.ok w) (hb:s.l.length < 16777216):Sy.Fn Tryz.prog 85 [.int .i64 (t:Int),s.val] w No (BytR (tlv t s.l)):=by
 refine zg Tryz.func85 rfl Tryz.ntmps85 q_p Holds.nil ?_;obtain ⟨a,n,c,l⟩:=s;have hl:=hs.len;have hsl:=hs.sla;have hnl:=hs.nil;dsimp only at hl hsl hnl hb ⊢;rw [show (⟨a,n,c,l⟩:Bs).val= .slice a n c from rfl];obtain ⟨H,hH⟩: ∃H,H=UInt8.ofNat t::derL n:=⟨_,rfl⟩;have htlv:tlv t l=H ++ l:=by rw [hH];unfold tlv;rw [hl];rfl
 have hHl:H.length<=5:=by rw [hH,List.length_cons];have:=zgz n;omega
 have hy:H.map v8= .int .u8 (t:Int)::(derL n).map v8:=by rw [hH,List.map_cons,<-v8_lit t ht]
 rw [zkW] at hy;have g0:IntKind.u8.wrap (t:Int)=(t:Int):=IntWalk.u8_in _ q_o;have g1:=u8N n;have g2:=u8M n;have g3:=u8N (n / 256);have g4:=u8M (n / 256);have g5:=u8N (n / 65536);have q1:IntKind.i64.wrap ((n:Int).tdiv 256)=((n / 256:Nat):Int):=quoI (k:=256) q_o;have q2:IntKind.i64.wrap ((n:Int).tdiv 65536)=((n / 65536:Nat):Int):=quoI (k:=65536) q_o;have q3:(n:Int).tmod 256=((n % 256:Nat):Int):=remN n 256;have q4:((n / 256:Nat):Int).tmod 256=((n / 256 % 256:Nat):Int):=remN (n / 256) 256;rw [htlv];repeat' (first|refine s_0 ?_|(refine zB [0,1] ?_;refine za ?_)|(refine zb 2 (za ?_);refine yv (z5 (hr:=g0)) (k:=?_);(refine ys zt (k:=?_);rintro _ _ ⟨_,rfl,rfl⟩);refine za ?_))
 rename_i b6;refine zba (γ:=Option Addr×Nat) (λg=>[(1,.slice a n c),(6,.slice g.1 H.length g.2)]) (λg=>[.row (.slice g.1 H.length g.2) 5 1 H.length (H.map v8)]) (λ_=>True) ?_ ?_
 ·have hc:n < 128\/(128<=n/\n < 256)\/(256<=n/\n < 65536)\/65536<=n:=q_o;rcases hc with h|h|h|h
  ·rw [if_pos h] at hy;have e: [Value.int .u8 (t:Int)] ++ [.int .u8 (Wd.n8 (UInt8.ofNat n))]=H.map v8:=hy.symm;have el:1+1=H.length:=by rw [<-List.length_map v8,<-e];rfl
   have k1:decide ((n:Int) < 128)=true:=q_d;repeat' (first|refine s_t ?_|(refine zb 4 (za ?_);refine yv (zn (hr:=k1)) (k:=za ?_))|(refine zb 5 (za ?_);refine yv (z5 (hr:=g1)) (k:=?_);(refine ys zt (k:=?_);rintro _ _ ⟨_,rfl,rfl⟩);(refine ys (zaW (hys:=e) (hkm:=el)) (k:=?_);rintro _ _ ⟨rfl,aN,cN,rfl⟩);refine za ?_))
   exact zT (aN,cN) trivial q_h q_h
  ·rw [if_neg q_o,if_pos h.2] at hy;have e: [Value.int .u8 (t:Int)] ++ [.int .u8 129,.int .u8 (Wd.n8 (UInt8.ofNat n))]=H.map v8:=hy.symm;have el:1+2=H.length:=by rw [<-List.length_map v8,<-e];rfl
   have k1:decide ((n:Int) < 128)=false:=q_f;have k2:decide ((n:Int) < 256)=true:=q_d;repeat' (first|refine s_t ?_|(refine zb 4 (za ?_);refine yv (zn (hr:=k1)) (k:=za ?_))|(refine zb 6 (za ?_);refine yv (zn (hr:=k2)) (k:=za ?_))|(refine zb 7 (za ?_);refine yv (z5 (hr:=g1)) (k:=?_);(refine ys zt (k:=?_);rintro _ _ ⟨_,rfl,rfl⟩);(refine ys (zaW (hys:=e) (hkm:=el)) (k:=?_);rintro _ _ ⟨rfl,aN,cN,rfl⟩);refine za ?_))
   exact zT (aN,cN) trivial q_h q_h
  ·rw [if_neg q_o,if_neg q_o,if_pos h.2] at hy;have e: [Value.int .u8 (t:Int)] ++ [.int .u8 130,.int .u8 (Wd.n8 (UInt8.ofNat (n / 256))),.int .u8 (Wd.n8 (UInt8.ofNat n))]=H.map v8:=hy.symm;have el:1+3=H.length:=by rw [<-List.length_map v8,<-e];rfl
   have k1:decide ((n:Int) < 128)=false:=q_f;have k2:decide ((n:Int) < 256)=false:=q_f;have k3:decide ((n:Int) < 65536)=true:=q_d;repeat' (first|refine s_t ?_|(refine zb 4 (za ?_);refine yv (zn (hr:=k1)) (k:=za ?_))|(refine zb 6 (za ?_);refine yv (zn (hr:=k2)) (k:=za ?_))|(refine zb 8 (za ?_);refine yv (zn (hr:=k3)) (k:=za ?_))|(refine zb 9 (za ?_);refine yv (zaz (hr:=q1)) (k:=?_);refine yv (z5 (hr:=g3)) (k:=za ?_);refine yv (zap (hr:=q3)) (k:=?_);refine yv (z5 (hr:=g2)) (k:=?_);(refine ys zt (k:=?_);rintro _ _ ⟨_,rfl,rfl⟩);(refine ys (zaW (hys:=e) (hkm:=el)) (k:=?_);rintro _ _ ⟨rfl,aN,cN,rfl⟩);refine za ?_))
   exact zT (aN,cN) trivial q_h q_h
  ·rw [if_neg q_o,if_neg q_o,if_neg q_o] at hy;have e: [Value.int .u8 (t:Int)] ++ [.int .u8 131,.int .u8 (Wd.n8 (UInt8.ofNat (n / 65536))),.int .u8 (Wd.n8 (UInt8.ofNat (n / 256))),.int .u8 (Wd.n8 (UInt8.ofNat n))]=H.map v8:=hy.symm;have el:1+4=H.length:=by rw [<-List.length_map v8,<-e];rfl
   have k1:decide ((n:Int) < 128)=false:=q_f;have k2:decide ((n:Int) < 256)=false:=q_f;have k3:decide ((n:Int) < 65536)=false:=q_f;repeat' (first|refine s_t ?_|(refine zb 4 (za ?_);refine yv (zn (hr:=k1)) (k:=za ?_))|(refine zb 6 (za ?_);refine yv (zn (hr:=k2)) (k:=za ?_))|(refine zb 8 (za ?_);refine yv (zn (hr:=k3)) (k:=za ?_))|(refine zb 3 (za ?_);refine yv (zaz (hr:=q2)) (k:=?_);refine yv (z5 (hr:=g5)) (k:=za ?_);refine yv (zaz (hr:=q1)) (k:=?_);refine yv (zap (hr:=q4)) (k:=?_);refine yv (z5 (hr:=g4)) (k:=za ?_);refine yv (zap (hr:=q3)) (k:=?_);refine yv (z5 (hr:=g2)) (k:=?_);(refine ys zt (k:=?_);rintro _ _ ⟨_,rfl,rfl⟩);(refine ys (zaW (hys:=e) (hkm:=el)) (k:=?_);rintro _ _ ⟨rfl,aN,cN,rfl⟩);refine za ?_))
   exact zT (aN,cN) trivial q_h q_h
 rintro ⟨aH,cH⟩ -;dsimp only;have e:H.map v8 ++ l.map v8=(H ++ l).map v8:=List.map_append.symm;have el:H.length+n=(H ++ l).length:=by rw [List.length_append,hl]
 repeat' (first|refine s_0 ?_|(refine zb 10 (za ?_);(refine ys (z9 (hr:=Rd.old hsl (λ_ _ h=>h)) (hn:=by rw [List.length_map,hl,Nat.mul_one]) (hnil:=hnl) (hys:=e) (hkm:=el)) (k:=?_);rintro _ _ ⟨rfl,aN,cN,rfl⟩);refine za ?_))
 exact q_r
theorem zbQ (t:Nat) (a:Option Addr) (n c:Nat) (l D:List UInt8) (w:World) (ht:t < 256) (hs:(⟨a,n,c,l⟩:Bs).ok w) (hb:l.length < 16777216) (hD:D=tlv t l):Sy.Fn Tryz.prog 85 [.int .i64 (t:Int),.slice a n c] w No (BytR D):=by
 subst hD;exact zqf t ⟨a,n,c,l⟩ w ht hs hb
theorem zpQ (a:Option Addr) (n c:Nat) (l:List UInt8) (w:World) (hs:(⟨a,n,c,l⟩:Bs).ok w) (hb:l.length < 16777216):Sy.Fn Tryz.prog 78 [.slice a n c] w No (BytR (derO l)):=by
 refine zg Tryz.func78 rfl Tryz.ntmps78 q_p Holds.nil ?_;have h:=λw' (hk:Keep No w w')=>zbQ 4 a n c l (derO l) w' q_e (hs.keep hk) hb rfl;generalize derO l=D at *;repeat' (first|refine s_0 ?_|(refine zb 0 (za ?_))|(refine zb 1 (za ?_);(refine ys (zh (f:=85) (hc:=zr h)) (k:=?_);rintro _ _ ⟨R,rfl,aE,cE,rfl,rfl⟩);refine za ?_))
 exact q_r
theorem zb0 (n:Nat) (a:Option Addr) (m c:Nat) (l D:List UInt8) (w:World) (hn:n<=30) (hs:(⟨a,m,c,l⟩:Bs).ok w) (h0:0 < l.length) (hb:l.length < 16777216) (hD:D=derG n l):Sy.Fn Tryz.prog 77 [.int .i64 (n:Int),.slice a m c] w No (BytR D):=by
 refine zg Tryz.func77 rfl Tryz.ntmps77 q_p Holds.nil ?_;have h:=λw' (hk:Keep No w w')=>zbQ (0xa0+n) a m c l D w' q_o (hs.keep hk) hb hD;have hl:=hs.len;dsimp only at hl;have g1:decide ((m:Int)=0)=false:=q_f;have g2:IntKind.i64.wrap (160+(n:Int))=((160+n:Nat):Int):=q_w;repeat' (first|refine s_0 ?_|(refine zb 0 (za ?_))|(refine zb 1 (za ?_);refine yv (zX (hr:=g1)) (k:=?_))|(refine zb 3 (za ?_);refine yv (zu (hr:=g2)) (k:=za ?_);(refine ys (zh (f:=85) (hc:=zr h)) (k:=?_);rintro _ _ ⟨R,rfl,aE,cE,rfl,rfl⟩);refine za ?_))
 exact q_r
theorem zlr (l:List UInt8) (w:World) (hb:l.length < 16777216):Sy.Fn Tryz.prog 170 [strV l] w No (BytR (derS l)):=by
 refine zg Tryz.func170 rfl Tryz.ntmps170 q_p Holds.nil ?_;unfold strV;have h:=λw' b k (hs:(⟨some ⟨b,0,none⟩,l.length,k,l⟩:Bs).ok w')=>zbQ 27 (some ⟨b,0,none⟩) l.length k l (derS l) w' q_e hs hb rfl;generalize derS l=D at *;repeat' (first|refine s_0 ?_|(refine zB [0,1] ?_;refine za ?_)|(refine ys (zgm (l:=l)) (k:=?_);rintro _ _ ⟨bN,J,rfl,rfl⟩)|(refine zP ?_;first|(refine ys (zh (f:=85) (hc:=λw' X hk hh=>h w' bN _ (objBs hk hh rfl (Nat.le_add_right _ _) Has.here))) (k:=?_);rintro _ _ ⟨R,rfl,aE,cE,rfl,rfl⟩)|refine zx ?_|fail)|fail)
 exact q_r
theorem zpX (v n:Nat) (w:World) (hv:v < 9223372036854775808) (hn:n<=8):Sy.Fn Tryz.prog 171 [.int .i64 (v:Int),.int .i64 (n:Int)] w No (BytR (beN v n)):=by
 refine zg Tryz.func171 rfl Tryz.ntmps171 q_p Holds.nil ?_;have g1:IntKind.i64.wrap ((n:Int) - 1)=(n:Int) - 1 - ((0:Nat):Int):=q_w;have hbl:=zbg v n;repeat' (first|refine s_t ?_|(refine zB [0,1] ?_;refine za ?_)|(refine zb 2 (za ?_);refine yv (zD (hr:=g1)) (k:=za ?_)))
 refine zaR (zaE 5 1) ?_;refine zy (γ:=Nat×Option Addr×Nat) (λg=>[(0,.int .i64 (v:Int)),(6,.int .i64 ((n:Int) - 1 - (g.1:Int))),(5,.slice g.2.1 g.1 g.2.2)]) (λg=>[.row (.slice g.2.1 g.1 g.2.2) 5 1 g.1 (((beN v n).take g.1).map v8)]) (λg=>g.1<=n) (λg=>n - g.1) (0,none,0) (Nat.zero_le _) ?_ ?_ ?_
 ·exact q_h
 ·exact q_h
 rintro ⟨k,a,c⟩ hk;dsimp only at hk ⊢;by_cases hlt:k < n
 ·have e0:((n:Int) - 1 - (k:Int))=((n - 1 - k:Nat):Int):=q_o;rw [e0];have g2:decide (((n - 1 - k:Nat):Int)>=0)=true:=q_d;have g3:IntKind.i64.wrap (8*((n - 1 - k:Nat):Int))=((8*(n - 1 - k):Nat):Int):=q_w;have g4:Op.shift .shr .i64 (v:Int) .i64 ((8*(n - 1 - k):Nat):Int)=pure (.int .i64 ((v / 256 ^ (n - 1 - k):Nat):Int)):=by
   rw [shrC v _ _ q_o,Nat.pow_mul]
  have g5:((v / 256 ^ (n - 1 - k):Nat):Int).tmod 256=((v / 256 ^ (n - 1 - k) % 256:Nat):Int):=remN _ 256;have g6:=u8M (v / 256 ^ (n - 1 - k));have g7:IntKind.i64.wrap (((n - 1 - k:Nat):Int) - 1)=(n:Int) - 1 - ((k+1:Nat):Int):=q_w;have e:((beN v n).take k).map v8 ++ [.int .u8 (Wd.n8 (UInt8.ofNat (v / 256 ^ (n - 1 - k))))]=((beN v n).take (k+1)).map v8:=by rw [zpp v n k hlt,List.map_append];rfl
  generalize v / 256 ^ (n - 1 - k)=q at *;repeat' (first|refine s_t ?_|(refine zb 3 (za ?_);refine yv (zab (hr:=g2)) (k:=?_))|(refine zb 5 (za ?_);refine yv (zah (hr:=g3)) (k:=?_);refine yv (zaJ (hr:=g4)) (k:=?_);refine yv (zap (hr:=g5)) (k:=?_);refine yv (z5 (hr:=g6)) (k:=?_);(refine ys zt (k:=?_);rintro _ _ ⟨_,rfl,rfl⟩);(refine ys (z9 (hys:=e) (hkm:=rfl)) (k:=?_);rintro _ _ ⟨rfl,aN,cN,rfl⟩);refine za ?_)|(refine zb 4 (za ?_);refine yv (zD (hr:=g7)) (k:=za ?_)))
  refine zq (k+1,aN,cN) hlt ?_ ?_ ?_
  ·show n - (k+1) < n - k;omega
  ·exact q_h
  ·exact q_h
 obtain rfl:k=n:=q_o;rw [List.take_of_length_le q_o];have g2:decide (((k:Int) - 1 - (k:Int))>=0)=false:=q_f;repeat' (first|refine s_0 ?_|(refine zb 3 (za ?_);refine yv (zab (hr:=g2)) (k:=?_))|(refine zb 6 (za ?_)))
 exact ret1 rfl (resTmp rfl) (R:=[.row (.slice a k c) 5 1 k ((beN v k).map v8)]) q_h ⟨a,c,by rw [hbl],by rw [hbl]⟩
theorem zkb (v:Int) (w:World) (h1:0<=v) (h2:v<=1099511627776):Sy.Fn Tryz.prog 81 [.int .i64 v] w No (BytR (derT v.toNat)):=by
 refine zg Tryz.func81 rfl Tryz.ntmps81 q_p Holds.nil ?_;have hn:=λw'=>zpX v.toNat 6 w' q_o q_e;rw [Int.toNat_of_nonneg h1] at hn;have hlen:(beN v.toNat 6).length=6:=zbg _ _;unfold derT;repeat' (first|refine s_0 ?_|(refine zb 0 (za ?_))|(refine zb 1 (za ?_);(refine ys (zh (f:=171) (hc:=λw' X hk hh=>hn w')) (k:=?_);rintro _ _ ⟨R,rfl,aN,cN,rfl,rfl⟩);(refine ys (zh (f:=85) (hc:=λw' X hk hh=>zbQ 24 aN _ cN (beN v.toNat 6) _ w' q_e (rowBs hh rfl q_h) q_o rfl)) (k:=?_);rintro _ _ ⟨R,rfl,aE,cE,rfl,rfl⟩);refine za ?_))
 exact q_r
theorem zns (v:Nat) (w:World) (hv:v < 9223372036854775808):Sy.Fn Tryz.prog 83 [.int .i64 (v:Int)] w No (BytR (derI v)):=by
 refine zg Tryz.func83 rfl Tryz.ntmps83 q_p Holds.nil ?_;have g1:(v:Int).tmod 256=((v % 256:Nat):Int):=remN v 256;have g2:=u8M v;have g3:IntKind.i64.wrap ((v:Int).tdiv 256)=((v / 256 ^ (0+1):Nat):Int):=by rw [Nat.zero_add,Nat.pow_one];exact quoI (k:=256) q_o
 have e1: [Value.int .u8 (Wd.n8 (UInt8.ofNat v))]=(beN v (0+1)).map v8:=by rw [beN,Nat.pow_zero,Nat.div_one];rfl
 repeat' (first|refine s_t ?_|(refine zb 0 (za ?_))|(refine zb 1 (za ?_);refine yv (zap (hr:=g1)) (k:=?_);refine yv (z5 (hr:=g2)) (k:=?_);(refine ys zt (k:=?_);rintro _ _ ⟨_,rfl,rfl⟩);refine za ?_)|(refine zb 2 (za ?_);refine yv (zaz (hr:=g3)) (k:=za ?_)))
 rename_i b3;rw [e1];refine zaR (zb7 (b:=b3) (E:=5) (s:=1) (n:=1) (xs:=(beN v (0+1)).map v8) (by exact Rem.here) (by rw [List.length_map,zbg]) (by unfold maxLen;decide)) ?_;refine zy (γ:=Nat×Option Addr×Nat) (λg=>[(0,.int .i64 ((v / 256 ^ (g.1+1):Nat):Int)),(3,.slice g.2.1 (g.1+1) g.2.2)]) (λg=>[.row (.slice g.2.1 (g.1+1) g.2.2) 5 1 (g.1+1) ((beN v (g.1+1)).map v8)]) (λg=>g.1<=8/\(g.1=0\/256 ^ g.1<=v)) (λg=>v / 256 ^ (g.1+1)) (0,some ⟨b3,0,none⟩,1) ⟨Nat.zero_le _,.inl rfl⟩ ?_ ?_ ?_
 ·exact q_h
 ·exact q_h
 rintro ⟨j,a,c⟩ ⟨hj8,hj⟩;dsimp only at hj8 hj ⊢;by_cases hr:v / 256 ^ (j+1)=0
 ·have hlt:v < 256 ^ (j+1):=by
   rcases Nat.lt_or_ge v (256 ^ (j+1)) with h|h
   ·exact h
   ·have:=Nat.div_pos h (Nat.pow_pos q_e);omega
  have hsz:=zgc j v hlt hj;have k1:decide (((v / 256 ^ (j+1):Nat):Int) > 0)=false:=q_f;repeat' (first|refine s_0 ?_|(refine zb 3 (za ?_);refine yv (zU (hr:=k1)) (k:=?_)))
  refine zf3 (a:=a) (cp:=c) (E:=5) (s:=1) (n:=j+1) (xs:=(beN v (j+1)).map v8) (by exact Rem.here) q_o λb J ha hJ hc hm hx=>?_;subst ha;have hcell:((beN v (j+1)).map v8 ++ J)[0]?=some (.int .u8 (Wd.n8 (UInt8.ofNat (v / 256 ^ j)))):=rfl;have hn8:Wd.n8 (UInt8.ofNat (v / 256 ^ j))=((v / 256 ^ j:Nat):Int):=by
   rw [Wd.n8_of_nat];have:v / 256 ^ j < 256:=by rw [Nat.div_lt_iff_lt_mul (Nat.pow_pos q_e),Nat.mul_comm,<-Nat.pow_succ];exact hlt
   rw [Nat.mod_eq_of_lt this]
  rw [hn8] at hcell;have hrd:Seg ((beN v (j+1)).map v8 ++ J) 0 ((beN v (j+1)).map v8):=λi u hi=>by rw [Nat.zero_add,List.getElem?_append_left (List.getElem?_eq_some_iff.1 hi).1];exact hi
  unfold derI;rw [hsz];by_cases hb:128<=v / 256 ^ j
  ·rw [if_pos hb];have k2:decide (((v / 256 ^ j:Nat):Int)>=128)=true:=q_d;have e: [Value.int .u8 0] ++ (beN v (j+1)).map v8=(beN v (j+2)).map v8:=by
    show _=(beN v (j+1+1)).map v8;rw [beN.eq_2 v (j+1),Nat.div_eq_of_lt hlt];rfl
   generalize beN v (j+1)=l at *;have hB:=zbg v (j+2);generalize beN v (j+2)=B at *;repeat' (first|refine s_0 ?_|(refine zb 6 (za ?_);refine yv (zbw (j:=0) (hj:=Nat.succ_pos _)) (k:=?_);refine yv (zC (hv:=hcell)) (k:=?_);refine yv (zab (hr:=k2)) (k:=?_))|(refine zb 7 ?_;(refine ys zt (k:=?_);rintro _ _ ⟨_,rfl,rfl⟩);refine za ?_;(refine ys (zaW (hr:=Rd.of (Reads.blk (by exact Has.here) hrd)) (m:=j+1) (hn:=by rw [Nat.mul_one];rwa [Nat.mul_one] at hx) (hys:=e) (hkm:=(by omega:1+(j+1)=j+2))) (k:=?_);rintro _ _ ⟨rfl,aN,cN,rfl⟩);refine za ?_)|(refine zb 8 (za ?_);(refine ys (zh (f:=85) (hc:=λw' X hk hh=>zbQ 2 aN _ cN B _ w' q_e (rowBs hh hB q_h) q_o rfl)) (k:=?_);rintro _ _ ⟨R,rfl,aE,cE,rfl,rfl⟩);refine za ?_))
   exact q_r
  ·rw [if_neg hb];have k2:decide (((v / 256 ^ j:Nat):Int)>=128)=false:=q_f;have hB:=zbg v (j+1);generalize beN v (j+1)=l at *;repeat' (first|refine s_0 ?_|(refine zb 6 (za ?_);refine yv (zbw (j:=0) (hj:=Nat.succ_pos _)) (k:=?_);refine yv (zC (hv:=hcell)) (k:=?_);refine yv (zab (hr:=k2)) (k:=?_))|(refine zb 8 (za ?_);(refine ys (zh (f:=85) (hc:=λw' X hk hh=>zbQ 2 (some ⟨b,0,none⟩) (j+1) c l _ w' q_e ⟨hB,hc,.inr ⟨b,0,rfl,zp (hh.has q_h) hrd⟩,λh=>by cases h⟩ q_o rfl)) (k:=?_);rintro _ _ ⟨R,rfl,aE,cE,rfl,rfl⟩);refine za ?_))
   exact q_r
 ·refine zcA (p:=a=none->c=0) (λw hh h=>(Row.nil hh Has.here h).1) λhnil=>?_;have hge:256 ^ (j+1)<=v:=by
   rcases Nat.lt_or_ge v (256 ^ (j+1)) with h|h
   ·exact absurd (Nat.div_eq_of_lt h) hr
   ·exact h
  have hj7:j+1<=8:=by
   rcases Nat.lt_or_ge j 8 with h|h
   ·omega
   ·have:=Nat.pow_le_pow_right (show 0 < 256 by decide) (show 8<=j+1 by omega);have h8:256 ^ 8=18446744073709551616:=by decide
    omega
  have hpos:0 < v / 256 ^ (j+1):=Nat.pos_of_ne_zero hr;have k1:decide (((v / 256 ^ (j+1):Nat):Int) > 0)=true:=decide_eq_true (Int.natCast_pos.2 hpos);have hrl:v / 256 ^ (j+1)<=v:=Nat.div_le_self _ _;have hlt:v / 256 ^ (j+2) < v / 256 ^ (j+1):=by
   rw [Nat.pow_succ 256 (j+1),<-Nat.div_div_eq_div_mul];exact Nat.div_lt_self hpos q_e
  have hq:v / 256 ^ (j+1) / 256=v / 256 ^ (j+2):=by rw [Nat.div_div_eq_div_mul,<-Nat.pow_succ]
  have e: [Value.int .u8 (Wd.n8 (UInt8.ofNat (v / 256 ^ (j+1))))] ++ (beN v (j+1)).map v8=(beN v (j+1+1)).map v8:=rfl;have g4:((v / 256 ^ (j+1):Nat):Int).tmod 256=((v / 256 ^ (j+1) % 256:Nat):Int):=remN _ 256;have g5:=u8M (v / 256 ^ (j+1));have g6:IntKind.i64.wrap (((v / 256 ^ (j+1):Nat):Int).tdiv 256)=((v / 256 ^ (j+2):Nat):Int):=by rw [<-hq];exact quoI (k:=256) q_o
  have hln:=zbg v (j+1);repeat' (first|refine s_t ?_|(refine zb 3 (za ?_);refine yv (zU (hr:=k1)) (k:=?_))|(refine zb 5 (za ?_);refine yv (zap (hr:=g4)) (k:=?_);refine yv (z5 (hr:=g5)) (k:=?_);(refine ys zt (k:=?_);rintro _ _ ⟨_,rfl,rfl⟩);refine za ?_;(refine ys (zaW (m:=j+1) (hn:=by rw [List.length_map,hln,Nat.mul_one]) (hnil:=hnil) (hys:=e) (hkm:=(by omega:1+(j+1)=j+1+1))) (k:=?_);rintro _ _ ⟨rfl,aN,cN,rfl⟩);refine za ?_)|(refine zb 4 (za ?_);refine yv (zaz (hr:=g6)) (k:=za ?_)))
  refine zq (j+1,aN,cN) ⟨hj7,.inr hge⟩ hlt ?_ ?_
  ·exact q_h
  ·exact q_h
theorem zlm (a:Option Addr) (m d:Nat) (xs:List Bs) (D:List UInt8) (w:World) (hm:xs.length=m) (hmb:m < 1000) (hmd:m<=d) (hsx:SlA w a (xs.map Bs.val)) (hok: ∀s∈xs,s.ok w) (hb:(Bs.cat xs).length < 16777216) (hD:D=tlv 0x30 (Bs.cat xs)):
  Sy.Fn Tryz.prog 42 [.slice a m d] w No (BytR D):=by
 subst hD;refine zg Tryz.func42 rfl Tryz.ntmps42 q_p Holds.nil ?_;have hle: ∀i,(Bs.cat (xs.take i)).length<=(Bs.cat xs).length:=λi=>by
  have:Bs.cat xs=Bs.cat (xs.take i) ++ Bs.cat (xs.drop i):=by unfold Bs.cat;rw [<-List.flatMap_append,List.take_append_drop]
  rw [this,List.length_append];omega
 have hsuc:=λi (h:i < m)=>Bs.cat_succ xs i q_o;repeat' (first|refine s_t ?_|(refine zB [0,1,2] ?_;refine za ?_))
 refine zaR (zaE 5 1) ?_;refine zy (γ:=Nat×Option Addr×Nat) (λg=>[(0,.slice a m d),(4,.int .i64 (g.1:Int)),(3,.slice g.2.1 (Bs.cat (xs.take g.1)).length g.2.2)]) (λg=>[.row (.slice g.2.1 (Bs.cat (xs.take g.1)).length g.2.2) 5 1 (Bs.cat (xs.take g.1)).length ((Bs.cat (xs.take g.1)).map v8)]) (λg=>g.1<=m) (λg=>m - g.1) (0,none,0) (Nat.zero_le _) ?_ ?_ ?_
 ·exact q_h
 ·exact q_h
 rintro ⟨i,aJ,cJ⟩ hi;dsimp only at hi ⊢;by_cases hlt:i < m
 ·obtain ⟨bl,ol,rfl,hcell⟩:=Bs.get hsx (i:=i) q_o;have hc:=hcell i q_o;have ho:=hok xs[i] (List.getElem_mem q_o);have hs:=hsuc i hlt;have hl1:=hle (i+1);have hlen:xs[i].l.length=xs[i].n:=ho.len;have hsl:=ho.sla;have hnl:=ho.nil;have e:(Bs.cat (xs.take i)).map v8 ++ xs[i].l.map v8=(Bs.cat (xs.take (i+1))).map v8:=by rw [hs];exact List.map_append.symm
  have el:(Bs.cat (xs.take i)).length+xs[i].n=(Bs.cat (xs.take (i+1))).length:=by rw [hs];simp only [List.length_append,hlen]
  generalize Bs.cat (xs.take i)=K at *;obtain ⟨K',hK'⟩: ∃k,k=Bs.cat (xs.take (i+1)):=⟨_,rfl⟩;rw [<-hK'] at e el hl1;generalize xs[i]=s at *;obtain ⟨sa,sn,sc,sl⟩:=s;dsimp only at *;have g1:decide ((i:Int) < (m:Int))=true:=q_d;have g6:IntKind.i64.wrap ((i:Int)+1)=((i+1:Nat):Int):=q_w;repeat' (first|refine s_t ?_|(refine zb 3 (za ?_);refine yv (zn (hr:=g1)) (k:=?_))|(refine zb 5 (za ?_);refine yv (zG (j:=i)) (k:=?_);refine yv (zl (hv:=hc)) (k:=?_);(refine ys (z9 (hr:=Rd.old hsl (λ_ _ h=>h)) (hn:=by rw [List.length_map,hlen,Nat.mul_one]) (hnil:=hnl) (hys:=e) (hkm:=el)) (k:=?_);rintro _ _ ⟨rfl,aN,cN,rfl⟩);refine za ?_)|(refine zb 4 (za ?_);refine yv (zu (hr:=g6)) (k:=za ?_)))
  refine zq (i+1,aN,cN) hlt ?_ ?_ ?_
  ·show m - (i+1) < m - i;omega
  ·dsimp only;rw [<-hK'];exact q_h
  ·dsimp only;rw [<-hK'];exact q_h
 obtain rfl:i=m:=q_o;rw [List.take_of_length_le q_o];have g6:decide ((i:Int) < (i:Int))=false:=q_f;generalize Bs.cat xs=K at *;repeat' (first|refine s_0 ?_|(refine zb 3 (za ?_);refine yv (zn (hr:=g6)) (k:=?_))|(refine zb 6 (za ?_);(refine ys (zh (f:=85) (hc:=λw' X hk hh=>zbQ 48 aJ _ cJ K _ w' q_e (rowBs hh rfl q_h) hb rfl)) (k:=?_);rintro _ _ ⟨R,rfl,aE,cE,rfl,rfl⟩);refine za ?_))
 exact q_r
theorem zpk (v:Bool) (w:World):Sy.Fn Tryz.prog 82 [.bool v] w No (BytR (derB v)):=by
 refine zg Tryz.func82 rfl Tryz.ntmps82 q_p Holds.nil ?_;unfold derB;have e0: [Value.int .u8 0]= [(0:UInt8)].map v8:=rfl;have e1: [Value.int .u8 255]= [(255:UInt8)].map v8:=rfl;cases v
 ·rw [show (if false=true then (255:UInt8) else 0)=0 from rfl];repeat' (first|refine s_0 ?_|(refine zB [0,1] ?_;refine za ?_)|(refine zb 3 ?_;(refine ys zt (k:=?_);rintro _ _ ⟨bL,rfl,rfl⟩)))
  rw [e0];refine ys (zh (f:=85) (hc:=λw' X hk hh=>zbQ 1 (some ⟨bL,0,none⟩) 1 1 [0] _ w' q_e (blkBs hh rfl q_h) (by show 1 < 16777216;decide) rfl)) (k:=?_);rintro _ _ ⟨R,rfl,aE,cE,rfl,rfl⟩;repeat' (first|refine s_0 ?_|(refine zP ?_;first|refine zx ?_|fail)|fail)
  exact q_r
 ·rw [show (if true=true then (255:UInt8) else 0)=255 from rfl];repeat' (first|refine s_0 ?_|(refine zB [0,1] ?_;refine za ?_)|(refine zb 2 ?_;(refine ys zt (k:=?_);rintro _ _ ⟨bL,rfl,rfl⟩)))
  rw [e1];refine ys (zh (f:=85) (hc:=λw' X hk hh=>zbQ 1 (some ⟨bL,0,none⟩) 1 1 [255] _ w' q_e (blkBs hh rfl q_h) (by show 1 < 16777216;decide) rfl)) (k:=?_);rintro _ _ ⟨R,rfl,aE,cE,rfl,rfl⟩;repeat' (first|refine s_0 ?_|(refine zP ?_;first|refine zx ?_|fail)|fail)
  exact q_r
theorem zjm (v:Int) (w:World) (h1:0<=v) (h2:v<=4611686018427387904):Sy.Fn Tryz.prog 83 [.int .i64 v] w No (BytR (derI v.toNat)):=by
 have:=zns v.toNat w q_o;rwa [Int.toNat_of_nonneg h1] at this
theorem zmP (v:Int) (w:World) (h1:0<=v) (h2:v<=4611686018427387904):Sy.Fn Tryz.prog 79 [.int .i64 v] w No (BytR (derI v.toNat)):=by
 refine zg Tryz.func79 rfl Tryz.ntmps79 q_p Holds.nil ?_;have h:=λw'=>zjm v w' h1 h2;repeat' (first|refine s_0 ?_|(refine zb 0 (za ?_))|(refine zb 1 (za ?_);(refine ys (zh (f:=83) (hc:=λw' X hk hh=>h w')) (k:=?_);rintro _ _ ⟨R,rfl,aE,cE,rfl,rfl⟩);refine za ?_))
 exact q_r
end Go.Proofs.YtdnlngbjpdbffaaGreatDoor
end
