/- Layer group: one contract for a function, whatever the group is. -/
import Derived.Test.YtdnlngbjpdbffaaGreatDoorLJ21
import Derived.Test.YtdnlngbjpdbffaaGreatDoorLJ02
import Derived.Test.YtdnlngbjpdbffaaGreatDoorLJ08
import Derived.Test.YtdnlngbjpdbffaaGreatDoorLJ06
import Derived.Test.YtdnlngbjpdbffaaGreatDoorLJ13
import Derived.Lib.MakeNoZero
set_option maxRecDepth 10000
set_option linter.all false
section
namespace Go.Proofs.YtdnlngbjpdbffaaGreatDoor
open Go Go.Sy Go.Nt Go.RowKit
attribute [local irreducible] Sy SyL SyX Sy.Fn callFunc natC rowN refC iC gP gQ gL memB safeC fixB
def gnum (z:Int) (l:List UInt8):Nat×Int:=
 if 1<=z/\z<=4 then if l.length < gL z.toNat then (0,4) else if gL z.toNat < l.length then (0,5) else if bev 256 (bn l) < gQ z.toNat then (bev 256 (bn l),0) else (0,3) else (0,2)
def gel (z:Int) (l:List UInt8):Nat×Int:=
 if 1<=z/\z<=4 then if l.length < gL z.toNat then (0,4) else if gL z.toNat < l.length then (0,5) else if memB (gP z.toNat) (gQ z.toNat) (bev 256 (bn l)) then (bev 256 (bn l),0) else (0,3) else (0,2)
def gsca (z:Int) (l:List UInt8):Nat×Int:=if 1<=z/\z<=4 then (bev 256 (bn l) % gQ z.toNat,0) else (0,2)
def gord (z:Int):Nat×Int:=if 1<=z/\z<=4 then (gQ z.toNat,0) else (0,2)
def glen (z:Int):Nat:=if 1<=z/\z<=4 then gL z.toNat else 0
theorem zbA {z:Int}(hz:1<=z/\z<=4): ∃i:Nat,z=(i:Int)/\z.toNat=i/\1<=i/\i<=4:=⟨z.toNat,by omega,rfl,by omega,by omega⟩
theorem zra (z:Int) (l:List UInt8):(gsca z l).1 < 18446744073709551616 ^ 16:=by
 unfold gsca;by_cases hz:1<=z/\z<=4
 ·rw [if_pos hz];obtain ⟨i,-,hi,h0,h5⟩:=zbA hz;rw [hi];exact Nat.lt_trans (Nat.mod_lt _ (Nat.lt_of_lt_of_le q_e (zaB i h0 h5))) (zaV i h0 h5)
 ·rw [if_neg hz];exact Nat.pow_pos q_e
theorem zdK {z:Int}{l:List UInt8}(h:(gnum z l).2=0):(1<=z/\z<=4)/\l.length=gL z.toNat/\bev 256 (bn l) < gQ z.toNat/\(gnum z l).1=bev 256 (bn l):=by
 unfold gnum at h ⊢;by_cases hz:1<=z/\z<=4
 ·rw [if_pos hz] at h ⊢;by_cases h1:l.length < gL z.toNat
  ·rw [if_pos h1] at h;cases h
  rw [if_neg h1] at h ⊢;by_cases h2:gL z.toNat < l.length
  ·rw [if_pos h2] at h;cases h
  rw [if_neg h2] at h ⊢;by_cases h3:bev 256 (bn l) < gQ z.toNat
  ·rw [if_pos h3];exact ⟨hz,by omega,h3,rfl⟩
  ·rw [if_neg h3] at h;cases h
 ·rw [if_neg hz] at h;cases h
theorem zeG {z:Int}{l:List UInt8}(h:(gel z l).2=0):(1<=z/\z<=4)/\l.length=gL z.toNat/\memB (gP z.toNat) (gQ z.toNat) (bev 256 (bn l))=true/\(gel z l).1=bev 256 (bn l):=by
 unfold gel at h ⊢;by_cases hz:1<=z/\z<=4
 ·rw [if_pos hz] at h ⊢;by_cases h1:l.length < gL z.toNat
  ·rw [if_pos h1] at h;cases h
  rw [if_neg h1] at h ⊢;by_cases h2:gL z.toNat < l.length
  ·rw [if_pos h2] at h;cases h
  rw [if_neg h2] at h ⊢;by_cases h3:memB (gP z.toNat) (gQ z.toNat) (bev 256 (bn l))=true
  ·rw [if_pos h3];exact ⟨hz,by omega,h3,rfl⟩
  ·rw [if_neg h3] at h;cases h
 ·rw [if_neg hz] at h;cases h
theorem zkS (z:Int) (l:List UInt8):(gnum z l).1 < 18446744073709551616 ^ 16:=by
 by_cases h:(gnum z l).2=0
 ·obtain ⟨hz,-,h3,h4⟩:=zdK h;obtain ⟨i,-,hi,h0,h5⟩:=zbA hz;rw [h4];rw [hi] at h3;exact Nat.lt_trans h3 (zaV i h0 h5)
 ·have:(gnum z l).1=0:=by
   unfold gnum at h ⊢;split
   ·rename_i hz;rw [if_pos hz] at h;split
    ·rfl
    ·rename_i h1;rw [if_neg h1] at h;split
     ·rfl
     ·rename_i h2;rw [if_neg h2] at h;split
      ·rename_i h3;rw [if_pos h3] at h;exact absurd rfl h
      ·rfl
   ·rfl
  rw [this];exact Nat.pow_pos q_e
theorem zrk (z:Int) (l:List UInt8):(gel z l).1 < 18446744073709551616 ^ 16:=by
 by_cases h:(gel z l).2=0
 ·obtain ⟨hz,-,h3,h4⟩:=zeG h;obtain ⟨i,-,hi,h0,h5⟩:=zbA hz;rw [h4];rw [hi] at h3;exact Nat.lt_trans (za7 h3) (zaN i h0 h5)
 ·have:(gel z l).1=0:=by
   unfold gel at h ⊢;split
   ·rename_i hz;rw [if_pos hz] at h;split
    ·rfl
    ·rename_i h1;rw [if_neg h1] at h;split
     ·rfl
     ·rename_i h2;rw [if_neg h2] at h;split
      ·rename_i h3;rw [if_pos h3] at h;exact absurd rfl h
      ·rfl
   ·rfl
  rw [this];exact Nat.pow_pos q_e
theorem zqr (z:Int) (a:Option Addr) (n c:Nat) (bl:List UInt8) (w:World) (hG:GT w) (hl:bl.length=n) (hc:n<=c) (hb:SlA w a (bl.map v8)):
  Sy.Fn Tryz.prog 179 [.int .i64 z,.slice a n c] w No (Gives (.tuple #[natV (gnum z bl).1,.int .i64 (gnum z bl).2])):=by
 unfold gnum;by_cases hz:1<=z/\z<=4
 ·rw [if_pos hz];obtain ⟨i,rfl,hi,h0,h5⟩:=zbA hz;rw [hi,hl];by_cases h1:n < gL i
  ·rw [if_pos h1];exact ziE i a n c w h0 h5 hG h1
  rw [if_neg h1];by_cases h2:gL i < n
  ·rw [if_pos h2];exact zjS i a n c w h0 h5 hG h2
  rw [if_neg h2];by_cases h3:bev 256 (bn bl) < gQ i
  ·rw [if_pos h3];exact zlZ i a n c bl w h0 h5 hG q_o hl hc hb (decide_eq_true h3)
  ·rw [if_neg h3];exact zl3 i a n c bl w h0 h5 hG q_o hl hc hb (decide_eq_false h3)
 ·rw [if_neg hz];exact zkr z a n c w hz
theorem zmS (z:Int) (a:Option Addr) (n c:Nat) (bl:List UInt8) (w:World) (hG:GT w) (hl:bl.length=n) (hc:n<=c) (hb:SlA w a (bl.map v8)):
  Sy.Fn Tryz.prog 128 [.int .i64 z,.slice a n c] w No (Gives (.tuple #[natV (gel z bl).1,.int .i64 (gel z bl).2])):=by
 unfold gel;by_cases hz:1<=z/\z<=4
 ·rw [if_pos hz];obtain ⟨i,rfl,hi,h0,h5⟩:=zbA hz;rw [hi,hl];by_cases h1:n < gL i
  ·rw [if_pos h1];exact zhL i a n c w h0 h5 hG h1
  rw [if_neg h1];by_cases h2:gL i < n
  ·rw [if_pos h2];exact ziG i a n c w h0 h5 hG h2
  rw [if_neg h2];by_cases h3:memB (gP i) (gQ i) (bev 256 (bn bl))=true
  ·rw [if_pos h3];exact zkK i a n c bl w h0 h5 hG q_o hl hc hb h3
  ·rw [if_neg h3];exact zkC i a n c bl w h0 h5 hG q_o hl hc hb (by simpa using h3)
 ·rw [if_neg hz];exact zjw z a n c w hz
theorem zpP (z:Int) (a:Option Addr) (n c:Nat) (bl:List UInt8) (w:World) (hG:GT w) (hl:bl.length=n) (hc:n<=c) (hn:n < 1000000) (hb:SlA w a (bl.map v8)):
  Sy.Fn Tryz.prog 100 [.int .i64 z,.slice a n c] w No (Gives (.tuple #[natV (gsca z bl).1,.int .i64 (gsca z bl).2])):=by
 unfold gsca;by_cases hz:1<=z/\z<=4
 ·rw [if_pos hz];obtain ⟨i,rfl,hi,h0,h5⟩:=zbA hz;rw [hi];exact zhn i a n c bl w h0 h5 hG hl hc hn hb
 ·rw [if_neg hz];exact zkB z a n c w hz
theorem zqE (z:Int) (w:World) (hG:GT w):Sy.Fn Tryz.prog 129 [.int .i64 z] w No (Gives (.tuple #[natV (gord z).1,.int .i64 (gord z).2])):=by
 unfold gord;by_cases hz:1<=z/\z<=4
 ·rw [if_pos hz];obtain ⟨i,rfl,hi,h0,h5⟩:=zbA hz;rw [hi];exact zml i w h0 h5 hG
 ·rw [if_neg hz];exact zmg z w hz
theorem zjg (z:Int) (w:World) (hG:GT w):Sy.Fn Tryz.prog 270 [.int .i64 z] w No (Gives (.int .i64 ((glen z:Nat):Int))):=by
 unfold glen;by_cases hz:1<=z/\z<=4
 ·rw [if_pos hz];obtain ⟨i,rfl,hi,h0,h5⟩:=zbA hz;rw [hi];exact zqV i w h0 h5 hG
 ·rw [if_neg hz];exact zpq z w hz
end Go.Proofs.YtdnlngbjpdbffaaGreatDoor
end
section
namespace Go.Sh
def rotr (x:UInt32) (n:Nat):UInt32:=(x <<< UInt32.ofNat (32 - n)) ||| (x >>> UInt32.ofNat n)
def turn (x:UInt32) (ns:List Nat):UInt32:=ns.foldl (λy n=>y ^^^ rotr x n) 0
theorem znr (x:UInt32) (ns:List Nat) (k:Nat) (h:k < ns.length):turn x (ns.take (k+1))=turn x (ns.take k) ^^^ rotr x ns[k]:=by
 unfold turn;rw [List.take_succ_eq_append_getElem h,List.foldl_append];rfl
def kC:List UInt32:=[
 0x428a2f98,0x71374491,0xb5c0fbcf,0xe9b5dba5,0x3956c25b,0x59f111f1,0x923f82a4,0xab1c5ed5,
 0xd807aa98,0x12835b01,0x243185be,0x550c7dc3,0x72be5d74,0x80deb1fe,0x9bdc06a7,0xc19bf174,
 0xe49b69c1,0xefbe4786,0x0fc19dc6,0x240ca1cc,0x2de92c6f,0x4a7484aa,0x5cb0a9dc,0x76f988da,
 0x983e5152,0xa831c66d,0xb00327c8,0xbf597fc7,0xc6e00bf3,0xd5a79147,0x06ca6351,0x14292967,
 0x27b70a85,0x2e1b2138,0x4d2c6dfc,0x53380d13,0x650a7354,0x766a0abb,0x81c2c92e,0x92722c85,
 0xa2bfe8a1,0xa81a664b,0xc24b8b70,0xc76c51a3,0xd192e819,0xd6990624,0xf40e3585,0x106aa070,
 0x19a4c116,0x1e376c08,0x2748774c,0x34b0bcb5,0x391c0cb3,0x4ed8aa4a,0x5b9cca4f,0x682e6ff3,
 0x748f82ee,0x78a5636f,0x84c87814,0x8cc70208,0x90befffa,0xa4506ceb,0xbef9a3f7,0xc67178f2]
theorem zkf:kC.length=64:=rfl
def h0:List UInt32:=[0x6a09e667,0xbb67ae85,0x3c6ef372,0xa54ff53a,0x510e527f,0x9b05688c,0x1f83d9ab,0x5be0cd19]
def word (a b c d:UInt8):UInt32:=(((a.toUInt32 <<< 24) ||| (b.toUInt32 <<< 16)) ||| (c.toUInt32 <<< 8)) ||| d.toUInt32
def wordAt (b:List UInt8) (t:Nat):UInt32:=word (b.getD (4*t) 0) (b.getD (4*t+1) 0) (b.getD (4*t+2) 0) (b.getD (4*t+3) 0)
def next (y w7 x w16:UInt32):UInt32:=(((turn y [17,19] ^^^ (y >>> 10))+w7)+(turn x [7,18] ^^^ (x >>> 3)))+w16
def sched (b:List UInt8):Nat->List UInt32
 |0=>[]
 |t+1=>let w:=sched b t
  w ++ [if t < 16 then wordAt b t else next (w.getD (t - 2) 0) (w.getD (t - 7) 0) (w.getD (t - 15) 0) (w.getD (t - 16) 0)]
theorem zil (b:List UInt8) (t:Nat) (h:t < 16):sched b (t+1)=sched b t ++ [wordAt b t]:=by simp [sched,h]
theorem zhh (b:List UInt8) (t:Nat) (h:16<=t):sched b (t+1)=sched b t ++ [next ((sched b t).getD (t - 2) 0) ((sched b t).getD (t - 7) 0) ((sched b t).getD (t - 15) 0) ((sched b t).getD (t - 16) 0)]:=by
 simp [sched,Nat.not_lt.2 h]
structure St where
 a:UInt32
 b:UInt32
 c:UInt32
 d:UInt32
 e:UInt32
 f:UInt32
 g:UInt32
 h:UInt32
def St.list (v:St):List UInt32:=[v.a,v.b,v.c,v.d,v.e,v.f,v.g,v.h]
def St.of (l:List UInt32):St:=⟨l.getD 0 0,l.getD 1 0,l.getD 2 0,l.getD 3 0,l.getD 4 0,l.getD 5 0,l.getD 6 0,l.getD 7 0⟩
def t1 (v:St) (k w:UInt32):UInt32:=(((v.h+turn v.e [6,11,25])+((v.e &&& v.f) ^^^ (~~~v.e &&& v.g)))+k)+w
def t2 (v:St):UInt32:=turn v.a [2,13,22]+(((v.a &&& v.b) ^^^ (v.a &&& v.c)) ^^^ (v.b &&& v.c))
def St.step (v:St) (k w:UInt32):St:=⟨t1 v k w+t2 v,v.a,v.b,v.c,v.d+t1 v k w,v.e,v.f,v.g⟩
def rounds (s:List UInt32) (W:List UInt32):Nat->St
 |0=>St.of s
 |t+1=>(rounds s W t).step (kC.getD t 0) (W.getD t 0)
def compress (s:List UInt32) (b:List UInt8):List UInt32:=List.zipWith (· + ·) s (rounds s (sched b 64) 64).list
theorem zbN (s:List UInt32) (b:List UInt8) (h:s.length=8):(compress s b).length=8:=by simp [compress,h,St.list]
def be8 (n:Nat):List UInt8:=(List.range 8).map λi=>UInt8.ofNat (n / 256 ^ (7 - i))
def tail (b:List UInt8) (total:Nat):List UInt8:=b ++ 128::List.replicate ((if b.length+9 > 64 then 128 else 64) - b.length - 9) 0 ++ be8 (8*total)
def whole:Nat->List UInt8->List (List UInt8)
 |0,_=>[]
 |n+1,b=>b.take 64::whole n (b.drop 64)
def blocks (b:List UInt8) (total:Nat):List (List UInt8):=
 let n:=b.length / 64;let t:=tail (b.drop (64*n)) total
 whole n b ++ whole (t.length / 64) t
def fold (s:List UInt32) (l:List (List UInt8)):List UInt32:=l.foldl compress s
def be4 (v:UInt32):List UInt8:=[(v >>> 24).toUInt8,(v >>> 16).toUInt8,(v >>> 8).toUInt8,v.toUInt8]
def ser (s:List UInt32):List UInt8:=s.flatMap be4
def sum (b:List UInt8):List UInt8:=ser (fold h0 (blocks b b.length))
theorem zds (n:Nat) (b:List UInt8):(whole n b).length=n:=by induction n generalizing b with|zero=>rfl|succ n ih=>simp [whole,ih]
theorem zfJ (n j:Nat) (b:List UInt8) (h:j < n):(whole n b)[j]?=some ((b.drop (64*j)).take 64):=by
 induction n generalizing b j with
 |zero=>omega
 |succ n ih=>
  cases j with
  |zero=>simp [whole]
  |succ j=>simp only [whole,List.getElem?_cons_succ];rw [ih j (b.drop 64) q_o,List.drop_drop];congr 3;omega
theorem zdM (n:Nat):(be8 n).length=8:=by simp [be8]
theorem zjW (r:List UInt8) (total:Nat) (h:r.length < 64):(tail r total).length=if r.length+9 > 64 then 128 else 64:=by
 simp only [tail,List.length_append,List.length_cons,List.length_replicate,zdM];split <;> omega
theorem zg2 (b:List UInt8) (total:Nat):(blocks b total).length=b.length / 64+(tail (b.drop (64*(b.length / 64))) total).length / 64:=by
 simp [blocks,zds]
theorem zlH (b:List UInt8) (total j:Nat) (h:j < b.length / 64):(blocks b total)[j]?=some ((b.drop (64*j)).take 64):=by
 simp only [blocks];rw [List.getElem?_append_left (by rw [zds];exact h)];exact zfJ _ _ _ h
theorem zkt (b:List UInt8) (total i:Nat) (h:i < (tail (b.drop (64*(b.length / 64))) total).length / 64):
  (blocks b total)[b.length / 64+i]?=some (((tail (b.drop (64*(b.length / 64))) total).drop (64*i)).take 64):=by
 simp only [blocks];rw [List.getElem?_append_right (by rw [zds];omega),zds,show b.length / 64+i - b.length / 64=i from by omega];exact zfJ _ _ _ h
theorem zl0 (b:List UInt8) (total:Nat): ∀x∈blocks b total,x.length=64:=by
 have hw: ∀(n:Nat) (b:List UInt8),64*n<=b.length-> ∀x∈whole n b,x.length=64:=by
  intro n
  induction n with
  |zero=>intro b _ x hx;simp [whole] at hx
  |succ n ih=>
   intro b hb x hx;simp only [whole,List.mem_cons] at hx;rcases hx with rfl|hx
   ·rw [List.length_take];omega
   ·exact ih _ (by rw [List.length_drop];omega) x hx
 intro x hx;simp only [blocks,List.mem_append] at hx;rcases hx with hx|hx
 ·exact hw _ _ q_o x hx
 ·exact hw _ _ q_o x hx
theorem zqc (n j:Nat) (h:j < 8):(be8 n).drop j=UInt8.ofNat (n / 256 ^ (7 - j))::(be8 n).drop (j+1):=by
 have hl:j < (be8 n).length:=by rw [zdM];exact h
 rw [List.drop_eq_getElem_cons hl];congr 1;simp [be8]
theorem zn9 (r:List UInt8) (d n i:Nat) (hi:i < 8):
  (r ++ 128::(List.replicate (d+8 - i) 0 ++ (be8 n).drop (8 - i))).set (r.length+1+(d+7 - i)) (UInt8.ofNat (n / 256 ^ i)) =
   r ++ 128::(List.replicate (d+8 - (i+1)) 0 ++ (be8 n).drop (8 - (i+1))):=by
 rw [List.set_append_right _ _ q_o,show r.length+1+(d+7 - i) - r.length=(d+7 - i)+1 from by omega,List.set_cons_succ];congr 2;rw [show d+8 - i=(d+7 - i)+1 from by omega,List.replicate_succ',List.append_assoc,List.set_append_right _ _ q_p];rw [List.length_replicate,Nat.sub_self,List.cons_append,List.set_cons_zero,List.nil_append];rw [show d+8 - (i+1)=d+7 - i from by omega,zqc n (8 - (i+1)) q_o,show 7 - (8 - (i+1))=i from by omega,show 8 - (i+1)+1=8 - i from by omega]
end Go.Sh
end
section
namespace Go.Nt
theorem zni {m a b:Nat}(h:Cg m a b) (n:Nat):Cg m (a ^ n) (b ^ n):=h.pow n
theorem zpe {i k e x:Nat}(h0:1<=i) (h5:i<=4) (he:e<=gQ i):
  (4 ^ ((k+e*x % gQ i) % gQ i) % gP i)*((4 ^ x % gP i) ^ ((gQ i - e) % gQ i) % gP i) % gP i=4 ^ k % gP i:=by
 have hg:Cg (gP i) (4 ^ gQ i) 1:=zfx h0 h5 (g4 i h0 h5);have h1:Cg (gP i) (4 ^ ((k+e*x % gQ i) % gQ i)) (4 ^ k*4 ^ (e*x)):=by
  refine (zhO (e:=k+e*x % gQ i) hg).trans ?_;rw [Nat.pow_add];exact (Cg.refl _ _).mul (zhO hg)
 have hx:Cg (gP i) ((4 ^ x) ^ gQ i) 1:=by
  rw [<-Nat.pow_mul,Nat.mul_comm,Nat.pow_mul];have:=zni hg x;rwa [Nat.one_pow] at this
 have h2:Cg (gP i) ((4 ^ x % gP i) ^ ((gQ i - e) % gQ i)) (4 ^ (x*(gQ i - e))):=by
  refine (zni (zci _ _) _).trans ?_;rw [Nat.pow_mul];exact zhO hx
 have h3:Cg (gP i) (4 ^ ((k+e*x % gQ i) % gQ i)*(4 ^ x % gP i) ^ ((gQ i - e) % gQ i)) (4 ^ k):=by
  refine (h1.mul h2).trans ?_;rw [Nat.mul_assoc,<-Nat.pow_add,show e*x+x*(gQ i - e)=x*gQ i by rw [Nat.mul_comm e x,<-Nat.mul_add,Nat.add_sub_cancel' he],Nat.pow_mul];have:=(Cg.refl (gP i) (4 ^ k)).mul hx;rwa [Nat.mul_one] at this
 rw [<-Nat.mul_mod];exact h3.mod
theorem bevW' {l:List UInt8}(h:l.length<=128):bev 256 (bn l) < 18446744073709551616 ^ 16:=by
 rw [zel 256 8 128 rfl rfl];refine Nat.lt_of_lt_of_le (zcf 256 (bn l) (zeh l)) ?_;rw [show (bn l).length=l.length from List.length_map _];exact Nat.pow_le_pow_right q_e h
end Go.Nt
namespace Go.Proofs.YtdnlngbjpdbffaaGreatDoor
open Go Go.Sy Go.Nt Go.RowKit
theorem zdG (z:Int):glen z<=96:=by
 unfold glen;by_cases hz:1<=z/\z<=4
 ·rw [if_pos hz];obtain ⟨i,-,hi,h0,h5⟩:=zbA hz;rw [hi];exact zbl (p:=λi=>gL i<=96) q_e q_e q_e q_e i h0 h5
 ·rw [if_neg hz];decide
def chal (i:Nat) (y:List UInt8) (r:Nat) (m:List UInt8):Nat:=bev 256 (bn (Sh.sum (UInt8.ofNat i::(y ++ (fixB (gL i) r ++ m))))) % gQ i
def skey (z:Int) (l:List UInt8):Bool:=decide ((gnum z l).2=0) && decide ((gnum z l).1≠0)
def sPub (z:Int) (l:List UInt8):Option (List UInt8):=if skey z l then some (fixB (gL z.toNat) (4 ^ (gnum z l).1 % gP z.toNat)) else none
def sE (i x k:Nat) (m:List UInt8):Nat:=chal i (fixB (gL i) (4 ^ x % gP i)) (4 ^ k % gP i) m
def sS (i x k:Nat) (m:List UInt8):Nat:=(k+sE i x k m*x % gQ i) % gQ i
def sSig (z:Int) (key nonce m:List UInt8):Option (List UInt8):=
 if skey z key=true/\(gsca z nonce).2=0/\(gsca z nonce).1≠0/\m.length<=65536 then
  some (fixB (gL z.toNat) (sE z.toNat (gnum z key).1 (gsca z nonce).1 m) ++ fixB (gL z.toNat) (sS z.toNat (gnum z key).1 (gsca z nonce).1 m)) else none
def sR (i y e s:Nat):Nat:=(4 ^ s % gP i)*(y ^ ((gQ i - e) % gQ i) % gP i) % gP i
def sVer (z:Int) (pub m sig:List UInt8):Int:=
 if (gel z pub).2≠0\/65536 < m.length then 2
 else if sig.length≠2*gL z.toNat then 10
 else if gQ z.toNat<=bev 256 (bn (sig.take (gL z.toNat)))\/gQ z.toNat<=bev 256 (bn (sig.drop (gL z.toNat))) then 10
 else if chal z.toNat pub (sR z.toNat (gel z pub).1 (bev 256 (bn (sig.take (gL z.toNat)))) (bev 256 (bn (sig.drop (gL z.toNat))))) m=bev 256 (bn (sig.take (gL z.toNat))) then 0 else 10
def sParts (z:Int) (sig:List UInt8):List Nat:=
 if glen z=0\/sig.length≠2*glen z then [] else [bev 256 (bn (sig.take (glen z))),bev 256 (bn (sig.drop (glen z)))]
theorem zgH (l x:Nat):bev 256 (bn (fixB l x))=x:=by unfold fixB;rw [zfM,zlB]
theorem zeB {i:Nat}(h0:1<=i) (h5:i<=4) (y:List UInt8) (r:Nat) (m:List UInt8):chal i y r m < gQ i:=
 Nat.mod_lt _ (Nat.lt_of_lt_of_le q_e (zaB i h0 h5))
theorem zf4 {i x:Nat}(h0:1<=i) (h5:i<=4) (h:x < gQ i):nd 256 x<=gL i:=ze5 h0 h5 (Nat.lt_of_lt_of_le h (zrq i))
theorem zrr {i e:Nat}(h0:1<=i) (h5:i<=4) (x:Nat):nd 256 (x ^ e % gP i)<=gL i:=ze5 h0 h5 (Nat.mod_lt _ (Nat.lt_trans Nat.zero_lt_one (zaI i h0 h5)))
theorem zoq {z:Int}{l p:List UInt8}(h:sPub z l=some p):p.length=gL z.toNat:=by
 unfold sPub at h;split at h
 ·rename_i hk;cases h;unfold skey at hk;rw [Bool.and_eq_true,decide_eq_true_eq] at hk;obtain ⟨i,-,hi,h0,h5⟩:=zbA (zdK hk.1).1;rw [hi];exact zbH _ _ (zrr h0 h5 4)
 ·cases h
theorem zfY {z:Int}{l p:List UInt8}(h:sPub z l=some p):gel z p=(4 ^ (gnum z l).1 % gP z.toNat,0):=by
 have hl:=zoq h;unfold sPub at h;split at h
 ·rename_i hk;cases h;unfold skey at hk;rw [Bool.and_eq_true,decide_eq_true_eq] at hk;obtain ⟨hz,-,-,-⟩:=zdK hk.1;obtain ⟨i,-,hi,h0,h5⟩:=zbA hz;rw [hi] at hl ⊢;unfold gel;rw [if_pos hz,hi,hl,if_neg (Nat.lt_irrefl _),if_neg (Nat.lt_irrefl _),zgH];have hm:memB (gP i) (gQ i) (4 ^ (gnum z l).1 % gP i)=true:=zaY.2 (zes h0 h5 _);rw [if_pos hm]
 ·cases h
theorem zqL {z:Int}{key nonce m p s:List UInt8}(hp:sPub z key=some p) (hs:sSig z key nonce m=some s):sVer z p m s=0:=by
 have hg:=zfY hp;unfold sSig at hs;split at hs
 ·rename_i hk;obtain ⟨hk,hn,-,hm⟩:=hk;cases hs;have hkey:=hk;unfold skey at hk;rw [Bool.and_eq_true,decide_eq_true_eq] at hk;obtain ⟨hz,-,hx,hx2⟩:=zdK hk.1;obtain ⟨i,-,hi,h0,h5⟩:=zbA hz;rw [hi] at hx;have hp2:p=fixB (gL i) (4 ^ (gnum z key).1 % gP i):=by
   unfold sPub at hp;rw [if_pos hkey,hi] at hp;exact (Option.some.inj hp).symm
  unfold sVer;rw [hg,hi];generalize (gnum z key).1=x at *;generalize (gsca z nonce).1=k at *;have hE:sE i x k m < gQ i:=zeB h0 h5 _ _ _;have hQ0:0 < gQ i:=Nat.lt_of_lt_of_le q_e (zaB i h0 h5);have hS:sS i x k m < gQ i:=Nat.mod_lt _ hQ0;have l1:=zbH (gL i) (sE i x k m) (zf4 h0 h5 hE);have l2:=zbH (gL i) (sS i x k m) (zf4 h0 h5 hS);rw [if_neg (by simp only [ne_eq,not_true,false_or];omega),if_neg (by rw [List.length_append];omega),List.take_left' l1,List.drop_left' l1,zgH,zgH,if_neg q_o,if_pos];have hR:sR i (4 ^ x % gP i) (sE i x k m) (sS i x k m)=4 ^ k % gP i:=zpe h0 h5 (Nat.le_of_lt hE);rw [hR,hp2];rfl
 ·cases hs
end Go.Proofs.YtdnlngbjpdbffaaGreatDoor
end
section
namespace Go.Proofs.YtdnlngbjpdbffaaGreatDoor
open Go Go.Sy Go.Nt Go.RowKit
attribute [local irreducible] Sy SyL SyX Sy.Fn callFunc natC rowN refC iC gP gQ gL memB safeC fixB gnum gel gsca chal
def BR (o:Option (List UInt8)) (v:Value) (R:List Res):Prop:=
 ∃a n c,v= .tuple #[.slice a n c,.int .i64 (if o.isSome then 0 else 2)]/\n=(o.getD []).length/\R= [.row (.slice a n c) 5 1 n ((o.getD []).map v8)]
theorem zbI (x:Nat) (e:Int) (w:World):Sy.Fn Tryz.prog 105 [natV x,.int .i64 e] w No (Gives (natV x)):=by
 refine zg Tryz.func105 rfl Tryz.ntmps105 q_p Holds.nil ?_;have hl:=ze x;repeat' (first|refine s_0 ?_|(refine zb 0 ?_;refine zj ?_;intro _;refine zj ?_;intro _)|(refine zb 1 ?_;refine yv (zf (B:=natC x)) (k:=?_);refine yn (zi (n:=x)) (k:=?_)))
 exact ret1 rfl (resCells (B:=natC x) rfl (ty rfl) rfl Has.go Seg.all (ze _).symm) SubR.nil ⟨rfl,rfl⟩
theorem zj9 (a:Option Addr) (n c:Nat) (e:Int) (w:World):Sy.Fn Tryz.prog 103 [.slice a n c,.int .i64 e] w No (Gives (.slice a n c)):=by
 refine zg Tryz.func103 rfl Tryz.ntmps103 q_p Holds.nil ?_;repeat' (first|refine s_0 ?_|(refine zB [0,1] ?_;refine za ?_))
 exact q_r
theorem zmJ (z:Int) (a:Option Addr) (n c:Nat) (l:List UInt8) (w:World) (hG:GT w) (hl:l.length=n) (hc:n<=c) (hb:SlA w a (l.map v8)):
  Sy.Fn Tryz.prog 99 [.int .i64 z,.slice a n c] w No (Gives (.tuple #[natV (gnum z l).1,.bool (skey z l)])):=by
 refine zg Tryz.func99 rfl Tryz.ntmps99 q_p Holds.nil ?_;have hn:=λw' (hk:Keep No w w')=>zqr z a n c l w' (hG.to hk) hl hc (hb.to hk (λ_ h=> .inr h)).sla;have hlt:=zkS z l;have hs:skey z l=(decide ((gnum z l).2=0) && decide ((gnum z l).1≠0)):=rfl;generalize skey z l=b at *;generalize (gnum z l).1=x at *;generalize (gnum z l).2=e at *;have hz:=λw'=>zbP x w' hlt;have hlx:=ze x;by_cases he:e=0
 ·have g1:decide (e=0)=true:=decide_eq_true he;rw [g1,Bool.true_and] at hs;have hs':b=!decide (x=0):=by rw [hs];by_cases hx:x=0 <;> simp [hx]
  rw [hs'];repeat' (first|refine s_0 ?_|(refine zb 0 ?_;refine zO ?_;intro _)|(refine zb 1 (za ?_);refine yv (zd (f:=179) (hc:=zr hn)) (k:=?_);refine za ?_;refine zj ?_;intro _;refine yn (zi (n:=x)) (k:=za ?_)))
  rename_i b4 b6;refine zbj (id:=2) mixed ?_
  (refine zbi 9 9 [[],[],[1],[1,2],[1,2,3],[1,2,3,4],[1,2,3,4,5],[1,2,3,4,5,6],[0,1,2,3,4,5],[0,1,2,3,4,5,6,7,8]] [[],[],[],[],[],[],[],[],[],[]] (some 8) rfl ?_ ?_ ?_;kernel_rfl;kernel_rfl;refine dcE (λ_ _=>zf (B:=natC x)) (k:=?_);refine zaq ?_;refine dcE (λ_ _=>zX (hr:=g1)) (k:=?_);refine zaq ?_;refine dcE (λ_ _=>zf (B:=natC x)) (k:=?_);refine dcE (λ_ _=>zd (hc:=λ_ _ _ _=>(hz _))) (k:=?_);refine zrY ?_;refine znT ?_;try refine dh_0nE (h:=?_))
  refine zgV (R:=λ_ _ Nw=>Nw= [.blk b6 133 (natC x),.blk b4 133 (natC x)]) (λ_ _ _=>rfl)
   (λρ hρ=>OpT.mono (zi (n:=x) (C:=List.replicate 16 (Value.int IntKind.u64 0)) (L':=[.blk b6 133 (natC x),.blk b4 133 (natC x)]) (hL:=by exact Upd.there Upd.here)) λv L' h=>?_) (h:=?_)
  ·obtain ⟨rfl,rfl⟩:=h;exact ⟨_,(List.append_nil _).symm,rfl⟩
  refine zco (h:=?_);rintro ρ ⟨f',-⟩
  (refine zbk [[],[],[1],[1,2],[1,2,3],[1,2,3,4],[1,2,3,4,5],[1,2,3,4,5,6],[0,1,2,3,4,5],[0,1,2,3,4,5,6,7,8]] ?_ ?_;kernel_rfl)
  have f':(ρ 8).2= [.blk b6 133 (natC x),.blk b4 133 (natC x)]:=f';refine SyL.weaken (fr':=[(4,.pointer (some ⟨b4,0,none⟩)),(21,.bool (!decide (x=0)))]) (L':=[.blk b4 133 (natC x)]) ?_ q_h ?_
  ·repeat' (first|refine s_0 ?_|(refine zP ?_;first|refine zx ?_|fail)|fail)
   exact ret2 rfl (resCells (B:=natC x) rfl (ty rfl) rfl Has.go Seg.all (ze _).symm) (resTmp rfl) SubR.nil ⟨rfl,rfl⟩
  ·show SubR _ ((ρ 8).2 ++ _);rw [f'];exact q_h
 ·have g1:decide (e=0)=false:=decide_eq_false he;rw [g1,Bool.false_and] at hs;rw [hs];repeat' (first|refine s_0 ?_|(refine zb 0 ?_;refine zO ?_;intro _)|(refine zb 1 (za ?_);refine yv (zd (f:=179) (hc:=zr hn)) (k:=?_);refine za ?_;refine zj ?_;intro _;refine yn (zi (n:=x)) (k:=za ?_)))
  rename_i b4 b6;refine zbj (id:=2) mixed ?_
  (refine zbi 9 9 [[],[],[1],[1,2],[1,2,3],[1,2,3,4],[1,2,3,4,5],[1,2,3,4,5,6],[0,1,2,3,4,5],[0,1,2,3,4,5,6,7,8]] [[],[],[],[],[],[],[],[],[],[]] (some 8) rfl ?_ ?_ ?_;kernel_rfl;kernel_rfl;refine dcE (λ_ _=>zf (B:=natC x)) (k:=?_);refine zaq ?_;refine dcE (λ_ _=>zX (hr:=g1)) (k:=?_);refine zaq ?_;refine zgE (λ_=>rfl) rfl (h:=?_);refine zgE (λ_=>rfl) rfl (h:=?_);refine zgE (λ_=>rfl) rfl (h:=?_);refine znT ?_;try refine dh_0nE (h:=?_))
  refine zgV (R:=λ_ _ Nw=>Nw= [.blk b6 133 (natC x),.blk b4 133 (natC x)]) (λ_ _ _=>rfl)
   (λρ hρ=>OpT.mono (zi (n:=x) (C:=List.replicate 16 (Value.int IntKind.u64 0)) (L':=[.blk b6 133 (natC x),.blk b4 133 (natC x)]) (hL:=by exact Upd.there Upd.here)) λv L' h=>?_) (h:=?_)
  ·obtain ⟨rfl,rfl⟩:=h;exact ⟨_,(List.append_nil _).symm,rfl⟩
  refine zco (h:=?_);rintro ρ ⟨f',-⟩
  (refine zbk [[],[],[1],[1,2],[1,2,3],[1,2,3,4],[1,2,3,4,5],[1,2,3,4,5,6],[0,1,2,3,4,5],[0,1,2,3,4,5,6,7,8]] ?_ ?_;kernel_rfl)
  have f':(ρ 8).2= [.blk b6 133 (natC x),.blk b4 133 (natC x)]:=f';refine SyL.weaken (fr':=[(4,.pointer (some ⟨b4,0,none⟩)),(21,.bool false)]) (L':=[.blk b4 133 (natC x)]) ?_ q_h ?_
  ·repeat' (first|refine s_0 ?_|(refine zP ?_;first|refine zx ?_|fail)|fail)
   exact ret2 rfl (resCells (B:=natC x) rfl (ty rfl) rfl Has.go Seg.all (ze _).symm) (resTmp rfl) SubR.nil ⟨rfl,rfl⟩
  ·show SubR _ ((ρ 8).2 ++ _);rw [f'];exact q_h
theorem zqe {z:Int}{l:List UInt8}(h:skey z l=true): ∃i:Nat,z=(i:Int)/\z.toNat=i/\1<=i/\i<=4/\(gnum z l).1 < gQ i:=by
 unfold skey at h;rw [Bool.and_eq_true,decide_eq_true_eq] at h;obtain ⟨hz,-,hx,hx2⟩:=zdK h.1;obtain ⟨i,h1,hi,h0,h5⟩:=zbA hz;rw [hi] at hx;exact ⟨i,h1,hi,h0,h5,hx2 ▸ hx⟩
theorem zgM (z:Int) (a:Option Addr) (n c:Nat) (l:List UInt8) (w:World) (hG:GT w) (hl:l.length=n) (hc:n<=c) (hb:SlA w a (l.map v8)):
  Sy.Fn Tryz.prog 55 [.int .i64 z,.slice a n c] w No (Gives (.bool (decide ((gel z l).2=0)))):=by
 refine zg Tryz.func55 rfl Tryz.ntmps55 q_p Holds.nil ?_;have hn:=λw' (hk:Keep No w w')=>zmS z a n c l w' (hG.to hk) hl hc (hb.to hk (λ_ h=> .inr h)).sla;have hlt:=zrk z l;have hlx:=ze (gel z l).1;generalize (gel z l).1=x at *;generalize (gel z l).2=e at *;repeat' (first|refine s_0 ?_|(refine zb 0 (za ?_))|(refine zb 1 (za ?_);refine yv (zd (f:=128) (hc:=zr hn)) (k:=?_);refine za ?_;refine zj ?_;intro _;refine yn (zi (n:=x)) (k:=za ?_))|(refine zb 2 (za ?_);refine yv (zX (hr:=rfl)) (k:=za ?_)))
 exact q_r
theorem zqp (z:Int) (w:World) (hG:GT w):Sy.Fn Tryz.prog 271 [.int .i64 z] w No (Gives (.int .i64 ((2*glen z:Nat):Int))):=by
 refine zg Tryz.func271 rfl Tryz.ntmps271 q_p Holds.nil ?_;have hg:=λw' (hk:Keep No w w')=>zjg z w' (hG.to hk);have hle:=zdG z;generalize glen z=m at *;have hm:IntKind.i64.wrap (2*(m:Int))=((2*m:Nat):Int):=q_w;repeat' (first|refine s_0 ?_|(refine zb 0 (za ?_))|(refine zb 1 (za ?_);refine yv (zd (f:=270) (hc:=zr hg)) (k:=?_);refine yv (zah (hr:=hm)) (k:=za ?_)))
 exact q_r
end Go.Proofs.YtdnlngbjpdbffaaGreatDoor
end
section
namespace Go.Sy
open Go
section
variable {P:Program}{ro:Option Nat}{N:Nat}{w0:World}{M:Nat->Prop}{ds:List Deferred}{g:Nat->Option Value}{L:List Res}{o:Oper}
theorem znV {fo:Operand}{args:Array Operand}{tys:Array TypeId}{f e n:Nat}(hr: ∀w:World,∃cs:Array Value,(callFunc f [Value.int .i64 n].toArray).run P w= .ok (.value (.slice (some ⟨w.heap.size,0,none⟩) n cs.size)) (w.drew.drew.alloc (.cells cs e))/\n<=cs.size/\cs.size<=maxLen)
  (ho:o.op= .call { callee:=.value fo,args:=args,argTypes:=tys } :=by exact rfl) (hf:ev g fo=some (.func (.func f) #[] #[]):=by exact rfl) (ha:evs g args.toList=some [.int .i64 n]:=by exact rfl):
  OpT P ro N w0 M ds o g L (λv L'=>∃(b:Nat) (cs:List Value),v= .slice (some ⟨b,0,none⟩) n cs.length/\n<=cs.length/\cs.length<=maxLen/\L'= .blk b e cs::L):=
 OpT.run (by rw [ho];rfl) λa w X hs=>by
  obtain ⟨cs,h1,h2,h3⟩:=hr w;have hk:Keep No w w.drew.drew:=⟨rfl,rfl,rfl,Nat.le_refl _,λ_ _ _=>rfl⟩;have hs':St N w0 M ds g (L ++ X) a w.drew.drew:=⟨hs.size,hs.agr,hs.keep.trans hk (λ_ h=>h.elim),hs.hold.keep hk (λ_ _ _ _ h=>h)⟩;obtain ⟨k1,k2⟩:=zaU hs' e cs.toList;refine ⟨_,_,_,_,?_,.inl rfl,⟨w.heap.size,cs.toList,rfl,by simpa using h2,by simpa using h3,rfl⟩,k1,k2⟩;have hargs:args.map a.eval= [Value.int .i64 n].toArray:=Array.toList_inj.1 (by rw [Array.toList_map,hs.agr.evals ha]);simp only [execOp,ho,resolve,hs.agr.eval hf,Deferred.ofValue,hargs,Sem.run_bind,Sem.run_pure,Result.andThen_ok,invoke];rw [show (#[] ++ [Value.int .i64 n].toArray ++ #[]:Array Value)= [Value.int .i64 n].toArray by simp,h1];simp
end
end Go.Sy
end
