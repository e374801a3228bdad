/- Lemmas. -/
import Derived.Test.YtdnlngbjpdbffaaGreatDoorZJ20
import Derived.Lib.MakeNoZero
set_option maxHeartbeats 1000000
set_option maxRecDepth 10000
set_option linter.all false
namespace Go.Sh
def zrY(x:UInt32)(n:Nat):UInt32:=(x <<< UInt32.ofNat (32-n)) ||| (x >>> UInt32.ofNat n)
def turn(x:UInt32)(ns:List Nat):UInt32:=ns.foldl (λy n=>y ^^^ zrY x n) 0
theorem zsc(x:UInt32)(ns:List Nat)(k:Nat)(h:k<ns.length):turn x (ns.take (k+1))=turn x (ns.take k) ^^^ zrY x ns[k]:=by
 unfold turn;rw[BN h,E3];rfl
def kC:List UInt32:=[
 0x428a2f98,0x71374491,0xb5c0fbcf,0xe9b5dba5,0x3956c25b,0x59f111f1,0x923f82a4,0xab1c5ed5,
 0xd807aa98,0x12835b01,0x243185be,0x550c7dc3,0x72be5d74,0x80deb1fe,0x9bdc06a7,0xc19bf174,
 0xe49b69c1,0xefbe4786,0x0fc19dc6,0x240ca1cc,0x2de92c6f,0x4a7484aa,0x5cb0a9dc,0x76f988da,
 0x983e5152,0xa831c66d,0xb00327c8,0xbf597fc7,0xc6e00bf3,0xd5a79147,0x06ca6351,0x14292967,
 0x27b70a85,0x2e1b2138,0x4d2c6dfc,0x53380d13,0x650a7354,0x766a0abb,0x81c2c92e,0x92722c85,
 0xa2bfe8a1,0xa81a664b,0xc24b8b70,0xc76c51a3,0xd192e819,0xd6990624,0xf40e3585,0x106aa070,
 0x19a4c116,0x1e376c08,0x2748774c,0x34b0bcb5,0x391c0cb3,0x4ed8aa4a,0x5b9cca4f,0x682e6ff3,
 0x748f82ee,0x78a5636f,0x84c87814,0x8cc70208,0x90befffa,0xa4506ceb,0xbef9a3f7,0xc67178f2]
theorem zta:kC.length=64:=rfl
def h0:List UInt32:=[0x6a09e667,0xbb67ae85,0x3c6ef372,0xa54ff53a,0x510e527f,0x9b05688c,0x1f83d9ab,0x5be0cd19]
def word(a b c d:UInt8):UInt32:=(((a.toUInt32 <<< 24) ||| (b.toUInt32 <<< 16)) ||| (c.toUInt32 <<< 8)) ||| d.toUInt32
def zpu(b:List UInt8)(t:Nat):UInt32:=word (b.getD (4*t) 0) (b.getD (4*t+1) 0) (b.getD (4*t+2) 0) (b.getD (4*t+3) 0)
def next(y w7 x w16:UInt32):UInt32:=(((turn y [17,19] ^^^ (y >>> 10))+w7)+(turn x [7,18] ^^^ (x >>> 3)))+w16
def sched(b:List UInt8):Nat->List UInt32
 |0=>[]
 |t+1=>let w:=sched b t
  w++[if t<16 then zpu b t else next (w.getD (t-2) 0) (w.getD (t-7) 0) (w.getD (t-15) 0) (w.getD (t-16) 0)]
theorem zs3(b:List UInt8)(t:Nat)(h:t<16):sched b (t+1)=sched b t++[zpu b t]:=by simp[sched,h]
theorem zra(b:List UInt8)(t:Nat)(h:16<=t):sched b (t+1)=sched b t++[next ((sched b t).getD (t-2) 0) ((sched b t).getD (t-7) 0) ((sched b t).getD (t-15) 0) ((sched b t).getD (t-16) 0)]:=by
 simp[sched,Nat.not_lt.2 h]
structure St where
 a:UInt32
 b:UInt32
 c:UInt32
 d:UInt32
 e:UInt32
 f:UInt32
 g:UInt32
 h:UInt32
def St.list(v:St):List UInt32:=[v.a,v.b,v.c,v.d,v.e,v.f,v.g,v.h]
def St.of(l:List UInt32):St:=⟨l.getD 0 0,l.getD 1 0,l.getD 2 0,l.getD 3 0,l.getD 4 0,l.getD 5 0,l.getD 6 0,l.getD 7 0⟩
def t1(v:St)(k w:UInt32):UInt32:=(((v.h+turn v.e [6,11,25])+((v.e &&& v.f) ^^^ (~~~v.e &&& v.g)))+k)+w
def t2(v:St):UInt32:=turn v.a [2,13,22]+(((v.a &&& v.b) ^^^ (v.a &&& v.c)) ^^^ (v.b &&& v.c))
def St.step(v:St)(k w:UInt32):St:=⟨t1 v k w+t2 v,v.a,v.b,v.c,v.d+t1 v k w,v.e,v.f,v.g⟩
def rounds(s:List UInt32)(W:List UInt32):Nat->St
 |0=>St.of s
 |t+1=>(rounds s W t).step (kC.getD t 0) (W.getD t 0)
def zbP(s:List UInt32)(b:List UInt8):List UInt32:=List.zipWith (· + ·) s (rounds s (sched b 64) 64).list
theorem zd9(s:List UInt32)(b:List UInt8)(h:s.length=8):(zbP s b).length=8:=by simp[zbP,h,St.list]
def be8(n:Nat):List UInt8:=(List.range 8).map λi=>UInt8.ofNat (n/256^(7-i))
def tail(b:List UInt8)(total:Nat):List UInt8:=b++128::List.replicate ((if b.length+9>64 then 128 else 64)-b.length-9) 0++be8 (8*total)
def whole:Nat->List UInt8->List (List UInt8)
 |0,_=>[]
 |n+1,b=>b.take 64::whole n (b.drop 64)
def blocks(b:List UInt8)(total:Nat):List (List UInt8):=
 let n:=b.length/64;let t:=tail (b.drop (64*n)) total
 whole n b++whole (t.length/64) t
def zeT(s:List UInt32)(l:List (List UInt8)):List UInt32:=l.foldl zbP s
def be4(v:UInt32):List UInt8:=[(v >>> 24).toUInt8,(v >>> 16).toUInt8,(v >>> 8).toUInt8,v.toUInt8]
def ser(s:List UInt32):List UInt8:=s.flatMap be4
def sum(b:List UInt8):List UInt8:=ser (zeT h0 (blocks b b.length))
theorem zho(n:Nat)(b:List UInt8):(whole n b).length=n:=by induction n generalizing b with|zero=>rfl|succ n ih=>simp[whole,ih]
theorem znc(n j:Nat)(b:List UInt8)(h:j<n):(whole n b)[j]?=some ((b.drop (64*j)).take 64):=by
 induction n generalizing b j with
 |zero=>omega
 |succ n ih=>
  cases j with
  |zero=>simp[whole]
  |succ j=>simp only[whole,BA];rw[ih j (b.drop 64) q_o,Cw];congr 3;omega
theorem zmd(n:Nat):(be8 n).length=8:=by simp[be8]
theorem zu0(r:List UInt8)(total:Nat)(h:r.length<64):(tail r total).length=if r.length+9>64 then 128 else 64:=by
 simp only[tail,A4,AQ,AL,zmd];split <;> omega
theorem zlh(b:List UInt8)(total:Nat):(blocks b total).length=b.length/64+(tail (b.drop (64*(b.length/64))) total).length/64:=by
 simp[blocks,zho]
theorem zrA(b:List UInt8)(total j:Nat)(h:j<b.length/64):(blocks b total)[j]?=some ((b.drop (64*j)).take 64):=by
 simp only[blocks];rw[BH (by rw[zho];exact h)];exact znc _ _ _ h
theorem zpY(b:List UInt8)(total i:Nat)(h:i<(tail (b.drop (64*(b.length/64))) total).length/64):
  (blocks b total)[b.length/64+i]?=some (((tail (b.drop (64*(b.length/64))) total).drop (64*i)).take 64):=by
 simp only[blocks];rw[CS (by rw[zho];omega),zho,show b.length/64+i-b.length/64=i from by omega];exact znc _ _ _ h
theorem zq2(b:List UInt8)(total:Nat):∀x∈blocks b total,x.length=64:=by
 have m:∀(n:Nat) (b:List UInt8),64*n<=b.length->∀x∈whole n b,x.length=64:=by
  intro n
  induction n with
  |zero=>intro b _ x j;simp[whole] at j
  |succ n ih=>
   intro b q x j;simp only[whole,AV] at j;rcases j with rfl|j
   ·rw[AS];omega
   ·exact ih _ (by rw[As];omega) x j
 intro x j;simp only[blocks,Ap] at j;rcases j with j|j
 ·exact m _ _ q_o x j
 ·exact m _ _ q_o x j
theorem zxj(n j:Nat)(h:j<8):(be8 n).drop j=UInt8.ofNat (n/256^(7-j))::(be8 n).drop (j+1):=by
 have m:j<(be8 n).length:=by rw[zmd];exact h
 rw[BS m];congr 1;simp[be8]
theorem zuG(r:List UInt8)(d n i:Nat)(j:i<8):
  (r++128::(List.replicate (d+8-i) 0++(be8 n).drop (8-i))).set (r.length+1+(d+7-i)) (UInt8.ofNat (n/256^i)) =
   r++128::(List.replicate (d+8-(i+1)) 0++(be8 n).drop (8-(i+1))):=by
 rw[CV _ _ q_o,show r.length+1+(d+7-i)-r.length=(d+7-i)+1 from by omega,Dx];congr 2;rw[show d+8-i=(d+7-i)+1 from by omega,Ef,AI,CV _ _ q_p];rw[AL,C7,Ae,DI,Ag];rw[show d+8-(i+1)=d+7-i from by omega,zxj n (8-(i+1)) q_o,show 7-(8-(i+1))=i from by omega,show 8-(i+1)+1=8-i from by omega]
end Go.Sh
namespace Go.Nt
theorem zsV{m a b:Nat}(h:Cg m a b)(n:Nat):Cg m (a^n) (b^n):=h.pow n
theorem zvM{i k e x:Nat}(h0:1<=i)(m:i<=4)(he:e<=gQ i):
  (4^((k+e*x%gQ i)%gQ i)%gP i)*((4^x%gP i)^((gQ i-e)%gQ i)%gP i)%gP i=4^k%gP i:=by
 have j:Cg (gP i) (4^gQ i) 1:=zjz h0 m (g4 i h0 m);have r:Cg (gP i) (4^((k+e*x%gQ i)%gQ i)) (4^k*4^(e*x)):=by
  refine(zlV (e:=k+e*x%gQ i) j).trans ?_;rw[Ax];exact(Fq _ _).mul (zlV j)
 have q:Cg (gP i) ((4^x)^gQ i) 1:=by
  rw[<-BG,AM,BG];have:=zsV j x;rwa[Ea] at this
 have w:Cg (gP i) ((4^x%gP i)^((gQ i-e)%gQ i)) (4^(x*(gQ i-e))):=by
  refine(zsV (zeB _ _) _).trans ?_;rw[BG];exact zlV q
 have A:Cg (gP i) (4^((k+e*x%gQ i)%gQ i)*(4^x%gP i)^((gQ i-e)%gQ i)) (4^k):=by
  refine(r.mul w).trans ?_;rw[B8,<-Ax,show e*x+x*(gQ i-e)=x*gQ i by rw[AM e x,<-CZ,Nat.add_sub_cancel' he],BG];have:=(Fq (gP i) (4^k)).mul q;rwa[Al] at this
 rw[<-Ee];exact A.mod
theorem znD{l:List UInt8}(h:l.length<=128):bev 256 (bn l)<18446744073709551616^16:=by
 rw[zhC 256 8 128 rfl rfl];refine AK (zfn 256 (bn l) (zih l)) ?_;rw[show(bn l).length=l.length from A0 _];exact AB q_e h
end Go.Nt
namespace Go.Proofs.YtdnlngbjpdbffaaGreatDoor
open Go Go.Sy Go.Nt Go.RowKit
theorem zgJ(z:Int):zbm z<=96:=by
 unfold zbm;by_cases hz:1<=z/\z<=4
 ·rw[if_pos hz];obtain⟨i,-,m,h0,j⟩:=zdj hz;rw[m];exact zcK (p:=λi=>gL i<=96) q_e q_e q_e q_e i h0 j
 ·rw[if_neg hz];decide
def zb2(i:Nat)(y:List UInt8)(r:Nat)(m:List UInt8):Nat:=bev 256 (bn (Sh.sum (UInt8.ofNat i::(y++(zbc (gL i) r++m)))))%gQ i
def zd1(z:Int)(l:List UInt8):Bool:=decide ((za5 z l).2=0)&&decide ((za5 z l).1≠0)
def zhF(z:Int)(l:List UInt8):Option (List UInt8):=if zd1 z l then some (zbc (gL z.toNat) (4^(za5 z l).1%gP z.toNat)) else none
def sE(i x k:Nat)(m:List UInt8):Nat:=zb2 i (zbc (gL i) (4^x%gP i)) (4^k%gP i) m
def sS(i x k:Nat)(m:List UInt8):Nat:=(k+sE i x k m*x%gQ i)%gQ i
def zhK(z:Int)(key nonce m:List UInt8):Option (List UInt8):=
 if zd1 z key=true/\(zaW z nonce).2=0/\(zaW z nonce).1≠0/\m.length<=65536 then
  some (zbc (gL z.toNat) (sE z.toNat (za5 z key).1 (zaW z nonce).1 m)++zbc (gL z.toNat) (sS z.toNat (za5 z key).1 (zaW z nonce).1 m)) else none
def sR(i y e s:Nat):Nat:=(4^s%gP i)*(y^((gQ i-e)%gQ i)%gP i)%gP i
def zfV(z:Int)(pub m sig:List UInt8):Int:=
 if (gel z pub).2≠0\/65536<m.length then 2
 else if sig.length≠2*gL z.toNat then 10
 else if gQ z.toNat<=bev 256 (bn (sig.take (gL z.toNat)))\/gQ z.toNat<=bev 256 (bn (sig.drop (gL z.toNat))) then 10
 else if zb2 z.toNat pub (sR z.toNat (gel z pub).1 (bev 256 (bn (sig.take (gL z.toNat)))) (bev 256 (bn (sig.drop (gL z.toNat))))) m=bev 256 (bn (sig.take (gL z.toNat))) then 0 else 10
def zbw(z:Int)(sig:List UInt8):List Nat:=
 if zbm z=0\/sig.length≠2*zbm z then [] else [bev 256 (bn (sig.take (zbm z))),bev 256 (bn (sig.drop (zbm z)))]
theorem zkT(l x:Nat):bev 256 (bn (zbc l x))=x:=by unfold zbc;rw[zi8,zql]
theorem zjW{i:Nat}(h0:1<=i)(j:i<=4)(y:List UInt8)(r:Nat)(m:List UInt8):zb2 i y r m<gQ i:=
 AC _ (AK q_e (zbL i h0 j))
theorem zjJ{i x:Nat}(h0:1<=i)(j:i<=4)(h:x<gQ i):nd 256 x<=gL i:=zk5 h0 j (AK h (zyS i))
theorem zyU{i e:Nat}(h0:1<=i)(j:i<=4)(x:Nat):nd 256 (x^e%gP i)<=gL i:=zk5 h0 j (AC _ (Ai Nat.zero_lt_one (zbS i h0 j)))
theorem zuv{z:Int}{l p:List UInt8}(h:zhF z l=some p):p.length=gL z.toNat:=by
 unfold zhF at h;split at h
 ·rename_i j;cases h;unfold zd1 at j;rw[A8,decide_eq_true_eq] at j;obtain⟨i,-,q,h0,m⟩:=zdj (zgG j.1).1;rw[q];exact zdL _ _ (zyU h0 m 4)
 ·cases h
theorem zjU{z:Int}{l p:List UInt8}(h:zhF z l=some p):gel z p=(4^(za5 z l).1%gP z.toNat,0):=by
 have q:=zuv h;unfold zhF at h;split at h
 ·rename_i j;cases h;unfold zd1 at j;rw[A8,decide_eq_true_eq] at j;obtain⟨r,-,-,-⟩:=zgG j.1;obtain⟨i,-,m,h0,w⟩:=zdj r;rw[m] at q ⊢;unfold gel;rw[if_pos r,m,q,if_neg (Eo _),if_neg (Eo _),zkT];have A:zaL (gP i) (gQ i) (4^(za5 z l).1%gP i)=true:=zdJ.2 (zjS h0 w _);rw[if_pos A]
 ·cases h
theorem zw7{z:Int}{key j m p s:List UInt8}(hp:zhF z key=some p)(A:zhK z key j m=some s):zfV z p m s=0:=by
 have K:=zjU hp;unfold zhK at A;split at A
 ·rename_i q;obtain⟨q,T,-,S⟩:=q;cases A;have w:=q;unfold zd1 at q;rw[A8,decide_eq_true_eq] at q;obtain⟨R,-,O,Q⟩:=zgG q.1;obtain⟨i,-,E,h0,r⟩:=zdj R;rw[E] at O;have F:p=zbc (gL i) (4^(za5 z key).1%gP i):=by
   unfold zhF at hp;rw[if_pos w,E] at hp;exact(Am hp).symm
  unfold zfV;rw[K,E];generalize (zaW z j).1=k,(za5 z key).1=x at*;have G:sE i x k m<gQ i:=zjW h0 r _ _ _;have B:0<gQ i:=AK q_e (zbL i h0 r);have J:sS i x k m<gQ i:=AC _ B;have H:=zdL (gL i) (sE i x k m) (zjJ h0 r G);have U:=zdL (gL i) (sS i x k m) (zjJ h0 r J);rw[if_neg (by simp only[ne_eq,not_true,false_or];omega),if_neg (by rw[A4];omega),Dj H,EU H,zkT,zkT,if_neg q_o,if_pos];have I:sR i (4^x%gP i) (sE i x k m) (sS i x k m)=4^k%gP i:=zvM h0 r (BT G);rw[I,F];rfl
 ·cases A
attribute [local irreducible] Sy SyL SyX Sy.Fn callFunc zg zae zac iC gP gQ gL zaL zag zbc za5 gel zaW zb2
def BR(o:Option (List UInt8))(v:Value)(R:List Res):Prop:=
 ∃a n c,v= .tuple #[.slice a n c,.int .i64 (if o.isSome then 0 else 2)]/\n=(o.getD []).length/\R= [.row (.slice a n c) 5 1 n ((o.getD []).map v8)]
theorem zdr(x:Nat)(e:Int)(w:World):q_G 105 [zu x,.int .i64 e] w (zu x):=by
 refine zt Tryz.func105 Tryz.ntmps105 ?_;have j:=zd x;repeat' (first|refine s_0 ?_|refine zf 0 ?_;refine zk ?_;intro _;refine zk ?_;intro _|refine zf 1 ?_;refine q_v (ze (B:=zg x)) ?_;refine q_n (zl (n:=x)) ?_)
 exact zar rfl (zE (B:=zg x) rfl (ty rfl) rfl Ey Ex (zd _).symm) Ev ⟨rfl,rfl⟩
theorem zoY(a:Option Addr)(n c:Nat)(e:Int)(w:World):q_G 103 [.slice a n c,.int .i64 e] w (.slice a n c):=by
 refine zt Tryz.func103 Tryz.ntmps103 ?_;repeat' (first|refine s_0 ?_|refine zA [0,1] ?_;refine zb ?_)
 exact q_r
theorem ztT(z:Int)(a:Option Addr)(n c:Nat)(l:List UInt8)(w:World)(J:GT w)(K:l.length=n)(hc:n<=c)(hb:SlA w a (l.map v8)):
  q_G 99 [.int .i64 z,.slice a n c] w (.tuple #[zu (za5 z l).1,.bool (zd1 z l)]):=by
 refine zt Tryz.func99 Tryz.ntmps99 ?_;have I:=λA (H:Keep No w A)=>zw3 z a n c l A (J.to H) K hc (hb.to H (λ_ h=> .inr h)).sla;have F:=zp4 z l;have r:zd1 z l=(decide ((za5 z l).2=0)&&decide ((za5 z l).1≠0)):=rfl;generalize (za5 z l).2=e,(za5 z l).1=x,zd1 z l=b at*;have Q:=λA=>zdH x A F;have O:=zd x;by_cases he:e=0
 ·have g1:decide (e=0)=true:=decide_eq_true he;rw[g1,B2] at r;have G:b=!decide (x=0):=by rw[r];by_cases hx:x=0 <;> simp[hx]
  rw[G];repeat' (first|refine s_0 ?_|refine zf 0 ?_;refine z9 ?_;intro _|refine q_k 1 ?_;refine q_v (za (hc:=zr I)) ?_;refine zb ?_;refine zk ?_;intro _;refine q_y (zl (n:=x)) ?_)
  rename_i j m;refine zc0 (id:=2) mixed ?_
  (refine zc1 9 9 [[],[],[1],[1,2],[1,2,3],[1,2,3,4],[1,2,3,4,5],[1,2,3,4,5,6],[0,1,2,3,4,5],[0,1,2,3,4,5,6,7,8]] [[],[],[],[],[],[],[],[],[],[]] (some 8) rfl ?_ ?_ ?_;kernel_rfl;kernel_rfl;refine q_E (ze (B:=zg x)) ?_;refine q_E zV ?_;refine q_E (zS (hr:=g1)) ?_;refine q_E zV ?_;refine q_E (ze (B:=zg x)) ?_;refine q_E (za (hc:=q_c Q)) ?_;refine dcE (by intro _ _;first|exact zh2|exact zsJ|exact op_compl) (k:=?_);refine q_E zcz ?_;try refine dh_0nE (h:=?_))
  refine zlB (R:=λ_ _ E=>E= [.blk m 133 (zg x),.blk j 133 (zg x)]) (λ_ _ _=>rfl)
   (λρ S=>FM (zl (n:=x) (C:=List.replicate 16 (Value.int IntKind.u64 0)) (L':=[.blk m 133 (zg x),.blk j 133 (zg x)]) (hL:=by exact FV FX)) λv L' h=>?_) (h:=?_)
  ·obtain⟨rfl,rfl⟩:=h;exact⟨_,(AJ _).symm,rfl⟩
  refine zfm (h:=?_);rintro ρ ⟨q,-⟩
  (refine zc2 [[],[],[1],[1,2],[1,2,3],[1,2,3,4],[1,2,3,4,5],[1,2,3,4,5,6],[0,1,2,3,4,5],[0,1,2,3,4,5,6,7,8]] ?_ ?_;kernel_rfl)
  have q:(ρ 8).2= [.blk m 133 (zg x),.blk j 133 (zg x)]:=q;refine FL (fr':=[(4,.pointer (some ⟨j,0,none⟩)),(21,.bool (!decide (x=0)))]) (L':=[.blk j 133 (zg x)]) ?_ q_h ?_
  ·repeat' (first|refine s_0 ?_|(refine zx ?_;first|refine zw ?_|fail)|fail)
   exact zU rfl (zE (B:=zg x) rfl (ty rfl) rfl Ey Ex (zd _).symm) (zh rfl) Ev ⟨rfl,rfl⟩
  ·show SubR _ ((ρ 8).2++_);rw[q];exact q_h
 ·have g1:decide (e=0)=false:=decide_eq_false he;rw[g1,BX] at r;rw[r];repeat' (first|refine s_0 ?_|refine zf 0 ?_;refine z9 ?_;intro _|refine q_k 1 ?_;refine q_v (za (hc:=zr I)) ?_;refine zb ?_;refine zk ?_;intro _;refine q_y (zl (n:=x)) ?_)
  rename_i j m;refine zc0 (id:=2) mixed ?_
  (refine zc1 9 9 [[],[],[1],[1,2],[1,2,3],[1,2,3,4],[1,2,3,4,5],[1,2,3,4,5,6],[0,1,2,3,4,5],[0,1,2,3,4,5,6,7,8]] [[],[],[],[],[],[],[],[],[],[]] (some 8) rfl ?_ ?_ ?_;kernel_rfl;kernel_rfl;refine q_E (ze (B:=zg x)) ?_;refine q_E zV ?_;refine q_E (zS (hr:=g1)) ?_;refine q_E zV ?_;refine zkG (λ_=>rfl) rfl (h:=?_);refine zkG (λ_=>rfl) rfl (h:=?_);refine zkG (λ_=>rfl) rfl (h:=?_);refine q_E zcz ?_;try refine dh_0nE (h:=?_))
  refine zlB (R:=λ_ _ E=>E= [.blk m 133 (zg x),.blk j 133 (zg x)]) (λ_ _ _=>rfl)
   (λρ S=>FM (zl (n:=x) (C:=List.replicate 16 (Value.int IntKind.u64 0)) (L':=[.blk m 133 (zg x),.blk j 133 (zg x)]) (hL:=by exact FV FX)) λv L' h=>?_) (h:=?_)
  ·obtain⟨rfl,rfl⟩:=h;exact⟨_,(AJ _).symm,rfl⟩
  refine zfm (h:=?_);rintro ρ ⟨q,-⟩
  (refine zc2 [[],[],[1],[1,2],[1,2,3],[1,2,3,4],[1,2,3,4,5],[1,2,3,4,5,6],[0,1,2,3,4,5],[0,1,2,3,4,5,6,7,8]] ?_ ?_;kernel_rfl)
  have q:(ρ 8).2= [.blk m 133 (zg x),.blk j 133 (zg x)]:=q;refine FL (fr':=[(4,.pointer (some ⟨j,0,none⟩)),(21,.bool false)]) (L':=[.blk j 133 (zg x)]) ?_ q_h ?_
  ·repeat' (first|refine s_0 ?_|(refine zx ?_;first|refine zw ?_|fail)|fail)
   exact zU rfl (zE (B:=zg x) rfl (ty rfl) rfl Ey Ex (zd _).symm) (zh rfl) Ev ⟨rfl,rfl⟩
  ·show SubR _ ((ρ 8).2++_);rw[q];exact q_h
theorem zxB{z:Int}{l:List UInt8}(h:zd1 z l=true):∃i:Nat,z=(i:Int)/\z.toNat=i/\1<=i/\i<=4/\(za5 z l).1<gQ i:=by
 unfold zd1 at h;rw[A8,decide_eq_true_eq] at h;obtain⟨A,-,q,j⟩:=zgG h.1;obtain⟨i,r,m,h0,w⟩:=zdj A;rw[m] at q;exact⟨i,r,m,h0,w,j ▸ q⟩
theorem zkM(z:Int)(a:Option Addr)(n c:Nat)(l:List UInt8)(w:World)(q:GT w)(r:l.length=n)(hc:n<=c)(hb:SlA w a (l.map v8)):
  q_G 55 [.int .i64 z,.slice a n c] w (.bool (decide ((gel z l).2=0))):=by
 refine zt Tryz.func55 Tryz.ntmps55 ?_;have E:=λm (j:Keep No w m)=>ztS z a n c l m (q.to j) r hc (hb.to j (λ_ h=> .inr h)).sla;have A:=zyZ z l;have B:=zd (gel z l).1;generalize (gel z l).2=e,(gel z l).1=x at*;repeat' (first|refine s_0 ?_|refine q_k 0 ?_|refine q_k 1 ?_;refine q_v (za (hc:=zr E)) ?_;refine zb ?_;refine zk ?_;intro _;refine q_y (zl (n:=x)) ?_|refine q_k 2 ?_;refine q_x (zS (hr:=rfl)) ?_)
 exact q_r
theorem zwO(z:Int)(w:World)(q:GT w):q_G 271 [.int .i64 z] w (.int .i64 ((2*zbm z:Nat):Int)):=by
 refine zt Tryz.func271 Tryz.ntmps271 ?_;have r:=λj (A:Keep No w j)=>zn3 z j (q.to A);have B:=zgJ z;generalize zbm z=m at*;have E:IntKind.i64.wrap (2*(m:Int))=((2*m:Nat):Int):=q_w;repeat' (first|refine s_0 ?_|refine q_k 0 ?_|refine q_k 1 ?_;refine q_v (za (hc:=zr r)) ?_;refine q_x (zaM (hr:=E)) ?_)
 exact q_r
end Go.Proofs.YtdnlngbjpdbffaaGreatDoor
namespace Go.Sy
open Go
variable {P:Program}{ro:Option Nat}{N:Nat}{w0:World}{M:Nat->Prop}{ds:List Deferred}{g:Nat->Option Value}{L:List Res}{o:Oper}
theorem ztW{B:Operand}{args:Array Operand}{A:Array TypeId}{f e n:Nat}(hr:∀w:World,∃j:Array Value,(callFunc f [Value.int .i64 n].toArray).run P w= .ok (.value (.slice (some ⟨w.heap.size,0,none⟩) n j.size)) (w.drew.drew.alloc (.cells j e))/\n<=j.size/\j.size<=maxLen)
  (F:o.op= .call { callee:=.value B,args:=args,argTypes:=A } :=by exact rfl)(K:ev g B=some (.func (.func f) #[] #[]):=by exact rfl)(ha:evs g args.toList=some [.int .i64 n]:=by exact rfl):
  OpT P ro N w0 M ds o g L (λv G=>∃(b:Nat) (j:List Value),v= .slice (some ⟨b,0,none⟩) n j.length/\n<=j.length/\j.length<=maxLen/\G= .blk b e j::L):=
 FH (by rw[F];rfl) λa w X q=>by
  obtain⟨j,H,I,J⟩:=hr w;have E:Keep No w w.drew.drew:=⟨rfl,rfl,rfl,A7 _,λ_ _ _=>rfl⟩;have r:St N w0 M ds g (L++X) a w.drew.drew:=⟨q.size,q.agr,q.keep.trans E (λ_ h=>h.elim),q.hold.keep E (λ_ _ _ _ h=>h)⟩;obtain⟨k1,k2⟩:=zbT r e j.toList;refine⟨_,_,_,_,?_,.inl rfl,⟨w.heap.size,j.toList,rfl,by simpa using I,by simpa using J,rfl⟩,k1,k2⟩;have m:args.map a.eval= [Value.int .i64 n].toArray:=B9.1 (by rw[Bj,q.agr.evals ha]);simp only[execOp,F,resolve,q.agr.eval K,Deferred.ofValue,m,Sem.run_bind,Sem.run_pure,Result.andThen_ok,invoke];rw[show(#[]++[Value.int .i64 n].toArray ++ #[]:Array Value)= [Value.int .i64 n].toArray by simp,H];simp
end Go.Sy
namespace Go.Proofs.YtdnlngbjpdbffaaGreatDoor
open Go Go.Sy Go.Nt Go.RowKit
theorem zpH(n:Nat)(hn:n<=1000000000000)(w:World):∃j:Array Value,(callFunc 249 [Value.int .i64 n].toArray).run Tryz.prog w= .ok (.value (.slice (some ⟨w.heap.size,0,none⟩) n j.size)) (w.drew.drew.alloc (.cells j 5))/\n<=j.size/\j.size<=maxLen:=by
 obtain⟨j,m,q,r⟩:=Lib.run_makeNoZero (P:=Tryz.prog) w #[3] 23 5 (by kernel_rfl) n q_o;refine⟨j,?_,q,r (by unfold maxLen;omega)⟩;show(callFunc 249 #[.int .i64 n]).run Tryz.prog w=_;rw[run_callFunc_extern Tryz.func249 (by kernel_rfl) (by kernel_rfl) (by kernel_rfl) (e:=Extern.BytealgMakeNoZero.makeNoZero #[3] #[23]) (by kernel_rfl),m];rfl
attribute [local irreducible] Sy SyL SyX Sy.Fn callFunc zg zae zac iC gP gQ gL zaL zag zbc za5 gel zaW zb2
theorem zoT{P l:List UInt8}{cs:List Value}{k:Nat}(hk:P.length=k)(h:k+l.length<=cs.length):
  zaK (P.map v8++cs.drop k) k (l.map v8)=(P++l).map v8++cs.drop (k+l.length):=by
 subst hk;unfold zaK;rw[Dj (A0 _),A0,Ar,<-Cw,EU (A0 _),Cw]
theorem zoC{a:Option Addr}{l s:Nat} :zbB a l l s=a:=if_pos rfl
def zt7(l:List UInt8)(v:Value)(R:List Res):Prop:=∃b J,v= .slice (some ⟨b,0,none⟩) l.length l.length/\R= [.blk b 5 (l.map v8++J)]
theorem zwT(a:Option Addr)(m d:Nat)(xs:List Bs)(w:World)(hm:xs.length=m)(h2:2<=m)(c4:m<1000)(c5:m<=d)(c0:SlA w a (xs.map Bs.val))(b7:∀s∈xs,s.ok w)(hb:(Bs.cat xs).length<1000000000):
  Sy.Fn Tryz.prog 186 [.slice a m d,.slice none 0 0] w No (zt7 (Bs.cat xs)):=by
 refine zt Tryz.func186 Tryz.ntmps186 ?_;have b4:decide ((m:Int)=0)=false:=q_f;have b5:decide ((m:Int)=1)=false:=q_f;have a7:∀i,(Bs.cat (xs.take i)).length<=(Bs.cat xs).length:=λi=>by
  have:Bs.cat xs=Bs.cat (xs.take i)++Bs.cat (xs.drop i):=by unfold Bs.cat;rw[<-CO,Bc]
  rw[this,A4];omega
 have R:=λi (h:i<m)=>Fx xs i q_o;obtain⟨bl,ol,rfl,Z⟩:=Bs.get c0 (i:=0) q_o;have a6:=λj (h:j<m)=>Z j q_o;have J:=λj (h:j<m)=>b7 xs[j] (AX q_o);repeat' (first|refine s_t ?_|refine zA [0,5,10] ?_;refine zb ?_|refine q_k 1 ?_;refine q_v (zS (hr:=b4)) ?_|refine q_k 3 ?_;refine q_v (zS (hr:=b5)) ?_|refine q_k 6 ?_;refine q_v zH ?_)
 refine zL (γ:=Nat) (λi=>[(0,.slice (some ⟨bl,ol,none⟩) m d),(1,.slice none 0 0),(42,.slice (some ⟨bl,ol,none⟩) m d),(43,.int .i64 m),(44,.int .i64 i),(5,.int .i64 ((Bs.cat (xs.take i)).length:Nat))]) (λ_=>[]) (λi=>i<=m) (λi=>m-i) 0 (AA _) ?_ ?_ ?_
 ·exact q_h
 ·exact q_h
 intro i hi;by_cases hlt:i<m
 ·have hc:=a6 i hlt;have ho:=J i hlt;have K:=R i hlt;have I:=a7 (i+1);rw[K,A4] at I;have q:xs[i].l.length=xs[i].n:=ho.len;rw[q] at I;have hT:((Bs.cat (xs.take (i+1))).length:Int)=((Bs.cat (xs.take i)).length:Int)+(xs[i].n:Int):=by rw[K,A4,q,Di]
  obtain⟨T',F⟩:∃t,t=(Bs.cat (xs.take (i+1))).length:=⟨_,rfl⟩;rw[<-F] at hT;generalize xs[i]=s,(Bs.cat xs).length=S,(Bs.cat (xs.take i)).length=T at*;obtain⟨sa,sn,sc,sl⟩:=s;dsimp only at*;have g1:decide ((i:Int)<(m:Int))=true:=q_d;have g2:IntKind.i64.wrap (9223372036854775807-(T:Int))=9223372036854775807-(T:Int):=IntWalk.i64_in _ q_o;have g3:decide (9223372036854775807-(T:Int)<(sn:Int))=false:=q_f;have g4:IntKind.i64.wrap ((T:Int)+(sn:Int))=((T':Nat):Int):=q_w;have g5:IntKind.i64.wrap ((i:Int)+1)=((i+1:Nat):Int):=q_w;repeat' (first|refine s_t ?_|refine zf 11 ?_;refine q_v (zn (hr:=g1)) ?_|refine zf 12 ?_;refine q_v (zq (j:=i)) ?_;refine q_x (zo (hv:=hc)) ?_|refine q_k 13 ?_;refine q_v (zK (hr:=g2)) ?_;refine q_v (zH (hr:=g3)) ?_|refine q_k 15 ?_;refine q_x (zD (hr:=g4)) ?_|refine zf 16 ?_;refine q_x (zD (hr:=g5)) ?_)
  refine zC (i+1) hlt ?_ ?_ ?_
  ·show m-(i+1)<m-i;omega
  ·rw[<-F];exact q_h
  ·exact q_h
 obtain rfl:i=m:=q_o;have W:Bs.cat xs=Bs.cat (xs.take i):=by rw[A6 q_o]
 rw[<-W];have g1:decide ((i:Int)<(i:Int))=false:=q_f;have hN:(Bs.cat xs).length<=1000000000000:=q_o;have Y:=λw=>zpH (Bs.cat xs).length hN w;have U:=a6 0 q_o;have V:=J 0 q_o;have H:Bs.cat (xs.take 1)=xs[0].l:=by
  have:=R 0 q_o;rw[this,By];rfl
 have A:=a7 1;rw[H,V.len] at A;have G:=V.len;obtain⟨S,E⟩:∃t,t=(Bs.cat xs).length:=⟨_,rfl⟩;have Q:=V.sla;rw[BZ] at U;repeat' (first|refine s_0 ?_|refine zf 11 ?_;refine q_v (zn (hr:=g1)) ?_|refine q_k 17 ?_;(refine q_s (ztW (n:=(Bs.cat xs).length) (hr:=Y)) ?_;rintro _ _ ⟨b,cs,rfl,b0,c2,rfl⟩);refine zb ?_;refine zbR ?_;refine zb ?_)
 rw[<-E] at b0 A ⊢;have g2:IntKind.i64.wrap ((i:Int)-1)=((i-1:Nat):Int):=q_w;have r:=zoT (P:=[]) (l:=xs[0].l) (cs:=cs) (k:=0) rfl q_o;rw[Ep,Ag,Ag,BL,G,Aa] at r;obtain⟨s,K⟩:∃s,s=xs[0]:=⟨_,rfl⟩;rw[<-K] at U G Q r A H;obtain⟨sa,sn,sc,sl⟩:=s;dsimp only at U G Q r A H;clear K V;have b6:zbB (some ⟨bl,ol,none⟩) 1 d 1=some ⟨bl,ol+1,none⟩:=zfC q_o;repeat' (first|refine s_t ?_|refine q_k 18 ?_;refine zQ ?_;refine q_v (zo (hv:=U)) ?_;refine q_x (zfx (B:=sl.map v8) (k:=sn) (hr:=FQ Q (λ_ _ h=>h)) (hk:=by rw[A0,G]) (hset:=r)) ?_|refine q_k 19 ?_;refine q_x (zce (ha:=b6)) ?_)
 have b8:zaK ((sl.map v8)++cs.drop sn) 0 []=sl.map v8++cs.drop sn:=by simp[zaK]
 refine zL (γ:=Nat) (λj=>[(1,.slice none 0 0),(8,.slice (some ⟨b,0,none⟩) S S),(70,.slice (some ⟨bl,ol+1,none⟩) (i-1) (d-1)),(71,.int .i64 ((i-1:Nat):Int)),(72,.int .i64 j),(9,.int .i64 ((Bs.cat (xs.take (j+1))).length:Nat))])
  (λj=>[.blk b 5 ((Bs.cat (xs.take (j+1))).map v8++cs.drop (Bs.cat (xs.take (j+1))).length)]) (λj=>j<=i-1) (λj=>i-1-j) 0 (AA _) ?_ ?_ ?_
 ·rw[H,G];exact q_h
 ·rw[H,G];exact q_h
 intro j hj;by_cases hlt:j<i-1
 ·have hc:=a6 (j+1) q_o;rw[show ol+(j+1)=ol+1+j by omega] at hc;have ho:=J (j+1) q_o;have K:=R (j+1) q_o;have I:=a7 (j+1+1);rw[K,A4,<-E] at I;have q:xs[j+1].l.length=xs[j+1].n:=ho.len;rw[q] at I;have b9:=ho.sla;have hT:((Bs.cat (xs.take (j+1+1))).length:Int)=((Bs.cat (xs.take (j+1))).length:Int)+(xs[j+1].n:Int):=by rw[K,A4,q,Di]
  have hset:=zoT (P:=Bs.cat (xs.take (j+1))) (l:=xs[j+1].l) (cs:=cs) (k:=(Bs.cat (xs.take (j+1))).length) rfl q_o;rw[<-K,q] at hset;have b2:(Bs.cat (xs.take (j+1))).length+xs[j+1].n=(Bs.cat (xs.take (j+1+1))).length:=by rw[K,A4,q]
  rw[b2] at hset;have c3:((Bs.cat (xs.take (j+1))).map v8++cs.drop (Bs.cat (xs.take (j+1))).length).length=cs.length:=by rw[A4,A0,As];omega
  have hz:zaK ((Bs.cat (xs.take (j+1))).map v8++cs.drop (Bs.cat (xs.take (j+1))).length) 0 []=(Bs.cat (xs.take (j+1))).map v8++cs.drop (Bs.cat (xs.take (j+1))).length:=by simp[zaK]
  have a8:∀k,zaK ((Bs.cat (xs.take (j+1))).map v8++cs.drop (Bs.cat (xs.take (j+1))).length) k []=(Bs.cat (xs.take (j+1))).map v8++cs.drop (Bs.cat (xs.take (j+1))).length:=λk=>by simp[zaK]
  have O:xs[j+1].n=0->(Bs.cat (xs.take (j+1+1))).map v8++cs.drop (Bs.cat (xs.take (j+1+1))).length=(Bs.cat (xs.take (j+1))).map v8++cs.drop (Bs.cat (xs.take (j+1))).length:=by
   intro h;have e:xs[j+1].l= []:=Dg q_o;rw[K,e,AJ]
  obtain⟨C',X⟩:∃c,c=(Bs.cat (xs.take (j+1+1))).map v8++cs.drop (Bs.cat (xs.take (j+1+1))).length:=⟨_,rfl⟩;rw[<-X] at hset O;generalize (Bs.cat (xs.take (j+1))).map v8++cs.drop (Bs.cat (xs.take (j+1))).length=C at*;obtain⟨T',F⟩:∃t,t=(Bs.cat (xs.take (j+1+1))).length:=⟨_,rfl⟩;rw[<-F] at hT;generalize xs[j+1]=s,(Bs.cat (xs.take (j+1))).length=T at*;obtain⟨sa,a9,sc,c1⟩:=s;dsimp only at*;have g1:decide ((j:Int)<((i-1:Nat):Int))=true:=q_d;have g3:IntKind.i64.wrap ((T:Int)+0)=(T:Int):=q_w;have g4:IntKind.i64.wrap ((T:Int)+(a9:Int))=((T':Nat):Int):=q_w;have g5:IntKind.i64.wrap ((j:Int)+1)=((j+1:Nat):Int):=q_w;by_cases hfull:T<S
  ·repeat' (first|refine s_t ?_|refine zf 20 ?_;refine q_v (zn (hr:=g1)) ?_|refine zf 21 ?_;refine q_v (zq (j:=j)) ?_;refine q_x (zo (hv:=hc)) ?_|refine q_k 22 ?_;refine zbR ?_;refine zb ?_;refine q_v (zfx (B:=[]) (k:=0) (hr:=G9) (hk:=rfl) (hone:=rfl) (hset:=a8 T) (hn:=(Nat.zero_min _).symm)) ?_;refine q_x (zD (hr:=g3)) ?_|refine q_k 23 ?_;refine zbR ?_;refine zb ?_;refine q_v (zfx (B:=c1.map v8) (k:=a9) (hr:=FQ b9 (λ_ _ h=>h)) (hk:=by rw[A0,q]) (hset:=hset)) ?_;refine q_x (zD (hr:=g4)) ?_|refine zf 24 ?_;refine q_x (zD (hr:=g5)) ?_)
   refine zC (j+1) ?_ ?_ ?_ ?_
   ·show j+1<=i-1;omega
   ·show i-1-(j+1)<i-1-j;omega
   ·rw[<-F];exact q_h
   ·rw[<-X];exact q_h
  ·have b1:a9=0:=q_o;have b3:T=S:=q_o;have hC:=O b1;subst b1;subst b3;repeat' (first|refine s_t ?_|refine zf 20 ?_;refine q_v (zn (hr:=g1)) ?_|refine zf 21 ?_;refine q_v (zq (j:=j)) ?_;refine q_x (zo (hv:=hc)) ?_|refine q_k 22 ?_;refine q_x (zce (ha:=zoC)) ?_;refine q_v (zfx (B:=[]) (k:=0) (hr:=G9) (hk:=rfl) (hone:=rfl) (hset:=a8 0) (hn:=by simp)) ?_;refine q_x (zD (hr:=g3)) ?_|refine q_k 23 ?_;refine q_x (zce (ha:=zoC)) ?_;refine q_v (zfx (B:=[]) (k:=0) (hr:=G9) (hk:=rfl) (hone:=rfl) (hset:=a8 0) (hn:=by simp)) ?_;refine q_x (zD (hr:=g3)) ?_|refine zf 24 ?_;refine q_x (zD (hr:=g5)) ?_)
   refine zC (j+1) ?_ ?_ ?_ ?_
   ·show j+1<=i-1;omega
   ·show i-1-(j+1)<i-1-j;omega
   ·rw[<-F,show T'=T by omega];exact q_h
   ·rw[<-X,hC];exact q_h
 obtain rfl:j=i-1:=q_o;have g3:decide (((i-1:Nat):Int)<((i-1:Nat):Int))=false:=q_f;rw[show i-1+1=i by omega,<-W,<-E];repeat' (first|refine s_0 ?_|refine zf 20 ?_;refine q_v (zn (hr:=g3)) ?_|refine q_k 25 ?_)
 exact zar rfl (zh rfl) q_h ⟨b,_,by rw[<-E],rfl⟩
theorem zw0(i:Nat)(h:i<=4):IntKind.u8.wrap (i:Int)=Wd.n8 (UInt8.ofNat i):=by
 rw[IntWalk.u8_in _ q_o];rcases(show i=0\/i=1\/i=2\/i=3\/i=4 by omega) with rfl|rfl|rfl|rfl|rfl <;> rfl
end Go.Proofs.YtdnlngbjpdbffaaGreatDoor
