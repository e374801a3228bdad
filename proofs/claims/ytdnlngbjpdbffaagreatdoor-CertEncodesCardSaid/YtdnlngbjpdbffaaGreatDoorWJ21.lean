/- Lemmas of this proof. -/
import Derived.Test.YtdnlngbjpdbffaaGreatDoorWJ20
import Derived.Lib.MakeNoZero
set_option maxHeartbeats 1000000
set_option maxRecDepth 10000
set_option linter.all false
namespace Go.Sh
def zrp(x:UInt32)(n:Nat):UInt32:=(x <<< UInt32.ofNat (32-n)) ||| (x >>> UInt32.ofNat n)
def turn(x:UInt32)(ns:List Nat):UInt32:=ns.foldl (λy n=>y ^^^ zrp x n) 0
theorem ztg(x:UInt32)(ns:List Nat)(k:Nat)(h:k<ns.length):turn x (ns.take (k+1))=turn x (ns.take k) ^^^ zrp x ns[k]:=by
 unfold turn;rw[BK h,E4];rfl
def kC:List UInt32:=[
 0x428a2f98,0x71374491,0xb5c0fbcf,0xe9b5dba5,0x3956c25b,0x59f111f1,0x923f82a4,0xab1c5ed5,
 0xd807aa98,0x12835b01,0x243185be,0x550c7dc3,0x72be5d74,0x80deb1fe,0x9bdc06a7,0xc19bf174,
 0xe49b69c1,0xefbe4786,0x0fc19dc6,0x240ca1cc,0x2de92c6f,0x4a7484aa,0x5cb0a9dc,0x76f988da,
 0x983e5152,0xa831c66d,0xb00327c8,0xbf597fc7,0xc6e00bf3,0xd5a79147,0x06ca6351,0x14292967,
 0x27b70a85,0x2e1b2138,0x4d2c6dfc,0x53380d13,0x650a7354,0x766a0abb,0x81c2c92e,0x92722c85,
 0xa2bfe8a1,0xa81a664b,0xc24b8b70,0xc76c51a3,0xd192e819,0xd6990624,0xf40e3585,0x106aa070,
 0x19a4c116,0x1e376c08,0x2748774c,0x34b0bcb5,0x391c0cb3,0x4ed8aa4a,0x5b9cca4f,0x682e6ff3,
 0x748f82ee,0x78a5636f,0x84c87814,0x8cc70208,0x90befffa,0xa4506ceb,0xbef9a3f7,0xc67178f2]
theorem zrQ:kC.length=64:=rfl
def h0:List UInt32:=[0x6a09e667,0xbb67ae85,0x3c6ef372,0xa54ff53a,0x510e527f,0x9b05688c,0x1f83d9ab,0x5be0cd19]
def word(a b c d:UInt8):UInt32:=(((a.toUInt32 <<< 24) ||| (b.toUInt32 <<< 16)) ||| (c.toUInt32 <<< 8)) ||| d.toUInt32
def zo6(b:List UInt8)(t:Nat):UInt32:=word (b.getD (4*t) 0) (b.getD (4*t+1) 0) (b.getD (4*t+2) 0) (b.getD (4*t+3) 0)
def next(y w7 x w16:UInt32):UInt32:=(((turn y [17,19] ^^^ (y >>> 10))+w7)+(turn x [7,18] ^^^ (x >>> 3)))+w16
def sched(b:List UInt8):Nat->List UInt32
 |0=>[]
 |t+1=>let w:=sched b t
  w++[if t<16 then zo6 b t else next (w.getD (t-2) 0) (w.getD (t-7) 0) (w.getD (t-15) 0) (w.getD (t-16) 0)]
theorem zrI(b:List UInt8)(t:Nat)(h:t<16):sched b (t+1)=sched b t++[zo6 b t]:=by simp[sched,h]
theorem zqN(b:List UInt8)(t:Nat)(h:16<=t):sched b (t+1)=sched b t++[next ((sched b t).getD (t-2) 0) ((sched b t).getD (t-7) 0) ((sched b t).getD (t-15) 0) ((sched b t).getD (t-16) 0)]:=by
 simp[sched,Nat.not_lt.2 h]
structure St where
 a:UInt32
 b:UInt32
 c:UInt32
 d:UInt32
 e:UInt32
 f:UInt32
 g:UInt32
 h:UInt32
def St.list(v:St):List UInt32:=[v.a,v.b,v.c,v.d,v.e,v.f,v.g,v.h]
def St.of(l:List UInt32):St:=⟨l.getD 0 0,l.getD 1 0,l.getD 2 0,l.getD 3 0,l.getD 4 0,l.getD 5 0,l.getD 6 0,l.getD 7 0⟩
def t1(v:St)(k w:UInt32):UInt32:=(((v.h+turn v.e [6,11,25])+((v.e &&& v.f) ^^^ (~~~v.e &&& v.g)))+k)+w
def t2(v:St):UInt32:=turn v.a [2,13,22]+(((v.a &&& v.b) ^^^ (v.a &&& v.c)) ^^^ (v.b &&& v.c))
def St.step(v:St)(k w:UInt32):St:=⟨t1 v k w+t2 v,v.a,v.b,v.c,v.d+t1 v k w,v.e,v.f,v.g⟩
def rounds(s:List UInt32)(W:List UInt32):Nat->St
 |0=>St.of s
 |t+1=>(rounds s W t).step (kC.getD t 0) (W.getD t 0)
def zbL(s:List UInt32)(b:List UInt8):List UInt32:=List.zipWith (· + ·) s (rounds s (sched b 64) 64).list
theorem zd7(s:List UInt32)(b:List UInt8)(h:s.length=8):(zbL s b).length=8:=by simp[zbL,h,St.list]
def be8(n:Nat):List UInt8:=(List.range 8).map λi=>UInt8.ofNat (n/256^(7-i))
def tail(b:List UInt8)(total:Nat):List UInt8:=b++128::List.replicate ((if b.length+9>64 then 128 else 64)-b.length-9) 0++be8 (8*total)
def whole:Nat->List UInt8->List (List UInt8)
 |0,_=>[]
 |n+1,b=>b.take 64::whole n (b.drop 64)
def blocks(b:List UInt8)(total:Nat):List (List UInt8):=
 let n:=b.length/64;let t:=tail (b.drop (64*n)) total
 whole n b++whole (t.length/64) t
def zeK(s:List UInt32)(l:List (List UInt8)):List UInt32:=l.foldl zbL s
def be4(v:UInt32):List UInt8:=[(v >>> 24).toUInt8,(v >>> 16).toUInt8,(v >>> 8).toUInt8,v.toUInt8]
def ser(s:List UInt32):List UInt8:=s.flatMap be4
def sum(b:List UInt8):List UInt8:=ser (zeK h0 (blocks b b.length))
theorem zg5(n:Nat)(b:List UInt8):(whole n b).length=n:=by induction n generalizing b with|zero=>rfl|succ n ih=>simp[whole,ih]
theorem zmB(n j:Nat)(b:List UInt8)(h:j<n):(whole n b)[j]?=some ((b.drop (64*j)).take 64):=by
 induction n generalizing b j with
 |zero=>omega
 |succ n ih=>
  cases j with
  |zero=>simp[whole]
  |succ j=>simp only[whole,B9];rw[ih j (b.drop 64) q_o,Cv];congr 3;omega
theorem zlO(n:Nat):(be8 n).length=8:=by simp[be8]
theorem zuT(r:List UInt8)(total:Nat)(h:r.length<64):(tail r total).length=if r.length+9>64 then 128 else 64:=by
 simp only[tail,A2,AQ,AJ,zlO];split <;> omega
theorem zkW(b:List UInt8)(total:Nat):(blocks b total).length=b.length/64+(tail (b.drop (64*(b.length/64))) total).length/64:=by
 simp[blocks,zg5]
theorem zq1(b:List UInt8)(total j:Nat)(h:j<b.length/64):(blocks b total)[j]?=some ((b.drop (64*j)).take 64):=by
 simp only[blocks];rw[BO (by rw[zg5];exact h)];exact zmB _ _ _ h
theorem zpd(b:List UInt8)(total i:Nat)(h:i<(tail (b.drop (64*(b.length/64))) total).length/64):
  (blocks b total)[b.length/64+i]?=some (((tail (b.drop (64*(b.length/64))) total).drop (64*i)).take 64):=by
 simp only[blocks];rw[CP (by rw[zg5];omega),zg5,show b.length/64+i-b.length/64=i from by omega];exact zmB _ _ _ h
theorem zqX(b:List UInt8)(total:Nat):∀x∈blocks b total,x.length=64:=by
 have m:∀(n:Nat) (b:List UInt8),64*n<=b.length->∀x∈whole n b,x.length=64:=by
  intro n
  induction n with
  |zero=>intro b _ x j;simp[whole] at j
  |succ n ih=>
   intro b q x j;simp only[whole,AS] at j;rcases j with rfl|j
   ·rw[AR];omega
   ·exact ih _ (by rw[Ar];omega) x j
 intro x j;simp only[blocks,Ao] at j;rcases j with j|j
 ·exact m _ _ q_o x j
 ·exact m _ _ q_o x j
theorem zwg(n j:Nat)(h:j<8):(be8 n).drop j=UInt8.ofNat (n/256^(7-j))::(be8 n).drop (j+1):=by
 have m:j<(be8 n).length:=by rw[zlO];exact h
 rw[BN m];congr 1;simp[be8]
theorem zuC(r:List UInt8)(d n i:Nat)(j:i<8):
  (r++128::(List.replicate (d+8-i) 0++(be8 n).drop (8-i))).set (r.length+1+(d+7-i)) (UInt8.ofNat (n/256^i)) =
   r++128::(List.replicate (d+8-(i+1)) 0++(be8 n).drop (8-(i+1))):=by
 rw[CS _ _ q_o,show r.length+1+(d+7-i)-r.length=(d+7-i)+1 from by omega,Dw];congr 2;rw[show d+8-i=(d+7-i)+1 from by omega,Ed,AH,CS _ _ q_p];rw[AJ,C5,Ab,DE,Af];rw[show d+8-(i+1)=d+7-i from by omega,zwg n (8-(i+1)) q_o,show 7-(8-(i+1))=i from by omega,show 8-(i+1)+1=8-i from by omega]
end Go.Sh
namespace Go.Nt
theorem zrP{m a b:Nat}(h:Cg m a b)(n:Nat):Cg m (a^n) (b^n):=h.pow n
theorem zuJ{i k e x:Nat}(h0:1<=i)(m:i<=4)(he:e<=gQ i):
  (4^((k+e*x%gQ i)%gQ i)%gP i)*((4^x%gP i)^((gQ i-e)%gQ i)%gP i)%gP i=4^k%gP i:=by
 have j:Cg (gP i) (4^gQ i) 1:=ziQ h0 m (g4 i h0 m);have r:Cg (gP i) (4^((k+e*x%gQ i)%gQ i)) (4^k*4^(e*x)):=by
  refine(zlC (e:=k+e*x%gQ i) j).trans ?_;rw[Av];exact(Fm _ _).mul (zlC j)
 have q:Cg (gP i) ((4^x)^gQ i) 1:=by
  rw[<-BE,AK,BE];have:=zrP j x;rwa[EY] at this
 have w:Cg (gP i) ((4^x%gP i)^((gQ i-e)%gQ i)) (4^(x*(gQ i-e))):=by
  refine(zrP (zet _ _) _).trans ?_;rw[BE];exact zlC q
 have A:Cg (gP i) (4^((k+e*x%gQ i)%gQ i)*(4^x%gP i)^((gQ i-e)%gQ i)) (4^k):=by
  refine(r.mul w).trans ?_;rw[B7,<-Av,show e*x+x*(gQ i-e)=x*gQ i by rw[AK e x,<-CV,Nat.add_sub_cancel' he],BE];have:=(Fm (gP i) (4^k)).mul q;rwa[Ak] at this
 rw[<-Ec];exact A.mod
theorem znc{l:List UInt8}(h:l.length<=128):bev 256 (bn l)<18446744073709551616^16:=by
 rw[zhm 256 8 128 rfl rfl];refine AI (ze6 256 (bn l) (zhY l)) ?_;rw[show(bn l).length=l.length from A0 _];exact AB q_e h
end Go.Nt
namespace Go.Proofs.YtdnlngbjpdbffaaGreatDoor
open Go Go.Sy Go.Nt Go.RowKit
theorem zgu(z:Int):zbh z<=96:=by
 unfold zbh;by_cases hz:1<=z/\z<=4
 ·rw[if_pos hz];obtain⟨i,-,m,h0,j⟩:=zdf hz;rw[m];exact zcA (p:=λi=>gL i<=96) q_e q_e q_e q_e i h0 j
 ·rw[if_neg hz];decide
def zbX(i:Nat)(y:List UInt8)(r:Nat)(m:List UInt8):Nat:=bev 256 (bn (Sh.sum (UInt8.ofNat i::(y++(za7 (gL i) r++m)))))%gQ i
def zdX(z:Int)(l:List UInt8):Bool:=decide ((za1 z l).2=0)&&decide ((za1 z l).1≠0)
def zhr(z:Int)(l:List UInt8):Option (List UInt8):=if zdX z l then some (za7 (gL z.toNat) (4^(za1 z l).1%gP z.toNat)) else none
def sE(i x k:Nat)(m:List UInt8):Nat:=zbX i (za7 (gL i) (4^x%gP i)) (4^k%gP i) m
def sS(i x k:Nat)(m:List UInt8):Nat:=(k+sE i x k m*x%gQ i)%gQ i
def zhs(z:Int)(key nonce m:List UInt8):Option (List UInt8):=
 if zdX z key=true/\(zaU z nonce).2=0/\(zaU z nonce).1≠0/\m.length<=65536 then
  some (za7 (gL z.toNat) (sE z.toNat (za1 z key).1 (zaU z nonce).1 m)++za7 (gL z.toNat) (sS z.toNat (za1 z key).1 (zaU z nonce).1 m)) else none
def sR(i y e s:Nat):Nat:=(4^s%gP i)*(y^((gQ i-e)%gQ i)%gP i)%gP i
def zfO(z:Int)(pub m sig:List UInt8):Int:=
 if (gel z pub).2≠0\/65536<m.length then 2
 else if sig.length≠2*gL z.toNat then 10
 else if gQ z.toNat<=bev 256 (bn (sig.take (gL z.toNat)))\/gQ z.toNat<=bev 256 (bn (sig.drop (gL z.toNat))) then 10
 else if zbX z.toNat pub (sR z.toNat (gel z pub).1 (bev 256 (bn (sig.take (gL z.toNat)))) (bev 256 (bn (sig.drop (gL z.toNat))))) m=bev 256 (bn (sig.take (gL z.toNat))) then 0 else 10
def zbs(z:Int)(sig:List UInt8):List Nat:=
 if zbh z=0\/sig.length≠2*zbh z then [] else [bev 256 (bn (sig.take (zbh z))),bev 256 (bn (sig.drop (zbh z)))]
theorem zj7(l x:Nat):bev 256 (bn (za7 l x))=x:=by unfold za7;rw[zjf,zqe]
theorem zjI{i:Nat}(h0:1<=i)(j:i<=4)(y:List UInt8)(r:Nat)(m:List UInt8):zbX i y r m<gQ i:=
 AC _ (AI q_e (zbH i h0 j))
theorem zjs{i x:Nat}(h0:1<=i)(j:i<=4)(h:x<gQ i):nd 256 x<=gL i:=zkV h0 j (AI h (zyq i))
theorem zyh{i e:Nat}(h0:1<=i)(j:i<=4)(x:Nat):nd 256 (x^e%gP i)<=gL i:=zkV h0 j (AC _ (Ai Nat.zero_lt_one (zbR i h0 j)))
theorem zuI{z:Int}{l p:List UInt8}(h:zhr z l=some p):p.length=gL z.toNat:=by
 unfold zhr at h;split at h
 ·rename_i j;cases h;unfold zdX at j;rw[AA,decide_eq_true_eq] at j;obtain⟨i,-,q,h0,m⟩:=zdf (zgt j.1).1;rw[q];exact zdF _ _ (zyh h0 m 4)
 ·cases h
theorem zju{z:Int}{l p:List UInt8}(h:zhr z l=some p):gel z p=(4^(za1 z l).1%gP z.toNat,0):=by
 have q:=zuI h;unfold zhr at h;split at h
 ·rename_i j;cases h;unfold zdX at j;rw[AA,decide_eq_true_eq] at j;obtain⟨r,-,-,-⟩:=zgt j.1;obtain⟨i,-,m,h0,w⟩:=zdf r;rw[m] at q ⊢;unfold gel;rw[if_pos r,m,q,if_neg (Em _),if_neg (Em _),zj7];have A:zaH (gP i) (gQ i) (4^(za1 z l).1%gP i)=true:=zdE.2 (zjr h0 w _);rw[if_pos A]
 ·cases h
theorem zwT{z:Int}{key j m p s:List UInt8}(hp:zhr z key=some p)(A:zhs z key j m=some s):zfO z p m s=0:=by
 have J:=zju hp;unfold zhs at A;split at A
 ·rename_i q;obtain⟨q,S,-,R⟩:=q;cases A;have w:=q;unfold zdX at q;rw[AA,decide_eq_true_eq] at q;obtain⟨Q,-,K,O⟩:=zgt q.1;obtain⟨i,-,C,h0,r⟩:=zdf Q;rw[C] at K;have E:p=za7 (gL i) (4^(za1 z key).1%gP i):=by
   unfold zhr at hp;rw[if_pos w,C] at hp;exact(Am hp).symm
  unfold zfO;rw[J,C];generalize (zaU z j).1=k,(za1 z key).1=x at*;have F:sE i x k m<gQ i:=zjI h0 r _ _ _;have B:0<gQ i:=AI q_e (zbH i h0 r);have I:sS i x k m<gQ i:=AC _ B;have G:=zdF (gL i) (sE i x k m) (zjs h0 r F);have T:=zdF (gL i) (sS i x k m) (zjs h0 r I);rw[if_neg (by simp only[ne_eq,not_true,false_or];omega),if_neg (by rw[A2];omega),Dk G,ET G,zj7,zj7,if_neg q_o,if_pos];have H:sR i (4^x%gP i) (sE i x k m) (sS i x k m)=4^k%gP i:=zuJ h0 r (BP F);rw[H,E];rfl
 ·cases A
attribute [local irreducible] Sy SyL SyX Sy.Fn callFunc zg zae zac iC gP gQ gL zaH zai za7 za1 gel zaU zbX
def BR(o:Option (List UInt8))(v:Value)(R:List Res):Prop:=
 ∃a n c,v= .tuple #[.slice a n c,.int .i64 (if o.isSome then 0 else 2)]/\n=(o.getD []).length/\R= [.row (.slice a n c) 5 1 n ((o.getD []).map v8)]
theorem zdj(x:Nat)(e:Int)(w:World):q_G 105 [zr x,.int .i64 e] w (zr x):=by
 refine zt Tryz.func105 Tryz.ntmps105 ?_;have j:=zd x;repeat' (first|refine s_0 ?_|refine zf 0 ?_;refine zj ?_;intro _;refine zj ?_;intro _|refine zf 1 ?_;refine q_v (ze (B:=zg x)) ?_;refine q_n (zl (n:=x)) ?_)
 exact zap rfl (zB (B:=zg x) rfl (ty rfl) rfl Ev Et (zd _).symm) Er ⟨rfl,rfl⟩
theorem zoK(a:Option Addr)(n c:Nat)(e:Int)(w:World):q_G 103 [.slice a n c,.int .i64 e] w (.slice a n c):=by
 refine zt Tryz.func103 Tryz.ntmps103 ?_;repeat' (first|refine s_0 ?_|refine zD [0,1] ?_;refine zb ?_)
 exact q_r
theorem ztf(z:Int)(a:Option Addr)(n c:Nat)(l:List UInt8)(w:World)(J:GT w)(K:l.length=n)(hc:n<=c)(hb:SlA w a (l.map v8)):
  q_G 99 [.int .i64 z,.slice a n c] w (.tuple #[zr (za1 z l).1,.bool (zdX z l)]):=by
 refine zt Tryz.func99 Tryz.ntmps99 ?_;have I:=λA (H:Keep No w A)=>zxp z a n c l A (J.to H) K hc (hb.to H (λ_ h=> .inr h)).sla;have F:=zpS z l;have r:zdX z l=(decide ((za1 z l).2=0)&&decide ((za1 z l).1≠0)):=rfl;generalize (za1 z l).2=e,(za1 z l).1=x,zdX z l=b at*;have Q:=λA=>zdA x A F;have O:=zd x;by_cases he:e=0
 ·have g1:decide (e=0)=true:=decide_eq_true he;rw[g1,B6] at r;have G:b=!decide (x=0):=by rw[r];by_cases hx:x=0 <;> simp[hx]
  rw[G];repeat' (first|refine s_0 ?_|refine zf 0 ?_;refine zW ?_;intro _|refine q_k 1 ?_;refine q_v (za (hc:=zu I)) ?_;refine zb ?_;refine zj ?_;intro _;refine q_y (zl (n:=x)) ?_)
  rename_i j m;refine zcQ (id:=2) mixed ?_
  (refine zcX 9 9 [[],[],[1],[1,2],[1,2,3],[1,2,3,4],[1,2,3,4,5],[1,2,3,4,5,6],[0,1,2,3,4,5],[0,1,2,3,4,5,6,7,8]] [[],[],[],[],[],[],[],[],[],[]] (some 8) rfl ?_ ?_ ?_;kernel_rfl;kernel_rfl;refine q_E (ze (B:=zg x)) ?_;refine q_E zZ ?_;refine q_E (zS (hr:=g1)) ?_;refine q_E zZ ?_;refine q_E (ze (B:=zg x)) ?_;refine q_E (za (hc:=q_c Q)) ?_;refine dcE (by intro _ _;first|exact ziH|exact zsI|exact op_compl) (k:=?_);refine q_E zdc ?_;try refine dh_0nE (h:=?_))
  refine zld (R:=λ_ _ E=>E= [.blk m 133 (zg x),.blk j 133 (zg x)]) (λ_ _ _=>rfl)
   (λρ S=>FH (zl (n:=x) (C:=List.replicate 16 (Value.int IntKind.u64 0)) (L':=[.blk m 133 (zg x),.blk j 133 (zg x)]) (hL:=by exact FR FT)) λv L' h=>?_) (h:=?_)
  ·obtain⟨rfl,rfl⟩:=h;exact⟨_,(AG _).symm,rfl⟩
  refine ze1 (h:=?_);rintro ρ ⟨q,-⟩
  (refine zcW [[],[],[1],[1,2],[1,2,3],[1,2,3,4],[1,2,3,4,5],[1,2,3,4,5,6],[0,1,2,3,4,5],[0,1,2,3,4,5,6,7,8]] ?_ ?_;kernel_rfl)
  have q:(ρ 8).2= [.blk m 133 (zg x),.blk j 133 (zg x)]:=q;refine FI (fr':=[(4,.pointer (some ⟨j,0,none⟩)),(21,.bool (!decide (x=0)))]) (L':=[.blk j 133 (zg x)]) ?_ q_h ?_
  ·repeat' (first|refine s_0 ?_|(refine zy ?_;first|refine zw ?_|fail)|fail)
   exact zU rfl (zB (B:=zg x) rfl (ty rfl) rfl Ev Et (zd _).symm) (zh rfl) Er ⟨rfl,rfl⟩
  ·show SubR _ ((ρ 8).2++_);rw[q];exact q_h
 ·have g1:decide (e=0)=false:=decide_eq_false he;rw[g1,BZ] at r;rw[r];repeat' (first|refine s_0 ?_|refine zf 0 ?_;refine zW ?_;intro _|refine q_k 1 ?_;refine q_v (za (hc:=zu I)) ?_;refine zb ?_;refine zj ?_;intro _;refine q_y (zl (n:=x)) ?_)
  rename_i j m;refine zcQ (id:=2) mixed ?_
  (refine zcX 9 9 [[],[],[1],[1,2],[1,2,3],[1,2,3,4],[1,2,3,4,5],[1,2,3,4,5,6],[0,1,2,3,4,5],[0,1,2,3,4,5,6,7,8]] [[],[],[],[],[],[],[],[],[],[]] (some 8) rfl ?_ ?_ ?_;kernel_rfl;kernel_rfl;refine q_E (ze (B:=zg x)) ?_;refine q_E zZ ?_;refine q_E (zS (hr:=g1)) ?_;refine q_E zZ ?_;refine zj6 (λ_=>rfl) rfl (h:=?_);refine zj6 (λ_=>rfl) rfl (h:=?_);refine zj6 (λ_=>rfl) rfl (h:=?_);refine q_E zdc ?_;try refine dh_0nE (h:=?_))
  refine zld (R:=λ_ _ E=>E= [.blk m 133 (zg x),.blk j 133 (zg x)]) (λ_ _ _=>rfl)
   (λρ S=>FH (zl (n:=x) (C:=List.replicate 16 (Value.int IntKind.u64 0)) (L':=[.blk m 133 (zg x),.blk j 133 (zg x)]) (hL:=by exact FR FT)) λv L' h=>?_) (h:=?_)
  ·obtain⟨rfl,rfl⟩:=h;exact⟨_,(AG _).symm,rfl⟩
  refine ze1 (h:=?_);rintro ρ ⟨q,-⟩
  (refine zcW [[],[],[1],[1,2],[1,2,3],[1,2,3,4],[1,2,3,4,5],[1,2,3,4,5,6],[0,1,2,3,4,5],[0,1,2,3,4,5,6,7,8]] ?_ ?_;kernel_rfl)
  have q:(ρ 8).2= [.blk m 133 (zg x),.blk j 133 (zg x)]:=q;refine FI (fr':=[(4,.pointer (some ⟨j,0,none⟩)),(21,.bool false)]) (L':=[.blk j 133 (zg x)]) ?_ q_h ?_
  ·repeat' (first|refine s_0 ?_|(refine zy ?_;first|refine zw ?_|fail)|fail)
   exact zU rfl (zB (B:=zg x) rfl (ty rfl) rfl Ev Et (zd _).symm) (zh rfl) Er ⟨rfl,rfl⟩
  ·show SubR _ ((ρ 8).2++_);rw[q];exact q_h
theorem zxu{z:Int}{l:List UInt8}(h:zdX z l=true):∃i:Nat,z=(i:Int)/\z.toNat=i/\1<=i/\i<=4/\(za1 z l).1<gQ i:=by
 unfold zdX at h;rw[AA,decide_eq_true_eq] at h;obtain⟨A,-,q,j⟩:=zgt h.1;obtain⟨i,r,m,h0,w⟩:=zdf A;rw[m] at q;exact⟨i,r,m,h0,w,j ▸ q⟩
theorem zkd(z:Int)(a:Option Addr)(n c:Nat)(l:List UInt8)(w:World)(q:GT w)(r:l.length=n)(hc:n<=c)(hb:SlA w a (l.map v8)):
  q_G 55 [.int .i64 z,.slice a n c] w (.bool (decide ((gel z l).2=0))):=by
 refine zt Tryz.func55 Tryz.ntmps55 ?_;have C:=λm (j:Keep No w m)=>zsO z a n c l m (q.to j) r hc (hb.to j (λ_ h=> .inr h)).sla;have A:=zyx z l;have B:=zd (gel z l).1;generalize (gel z l).2=e,(gel z l).1=x at*;repeat' (first|refine s_0 ?_|refine q_k 0 ?_|refine q_k 1 ?_;refine q_v (za (hc:=zu C)) ?_;refine zb ?_;refine zj ?_;intro _;refine q_y (zl (n:=x)) ?_|refine q_k 2 ?_;refine q_x (zS (hr:=rfl)) ?_)
 exact q_r
theorem zwe(z:Int)(w:World)(q:GT w):q_G 271 [.int .i64 z] w (.int .i64 ((2*zbh z:Nat):Int)):=by
 refine zt Tryz.func271 Tryz.ntmps271 ?_;have r:=λj (A:Keep No w j)=>zok z j (q.to A);have B:=zgu z;generalize zbh z=m at*;have C:IntKind.i64.wrap (2*(m:Int))=((2*m:Nat):Int):=q_w;repeat' (first|refine s_0 ?_|refine q_k 0 ?_|refine q_k 1 ?_;refine q_v (za (hc:=zu r)) ?_;refine q_x (zaJ (hr:=C)) ?_)
 exact q_r
end Go.Proofs.YtdnlngbjpdbffaaGreatDoor
namespace Go.Sy
open Go
variable {P:Program}{ro:Option Nat}{N:Nat}{w0:World}{M:Nat->Prop}{ds:List Deferred}{g:Nat->Option Value}{L:List Res}{o:Oper}
theorem zta{B:Operand}{args:Array Operand}{A:Array TypeId}{f e n:Nat}(hr:∀w:World,∃j:Array Value,(callFunc f [Value.int .i64 n].toArray).run P w= .ok (.value (.slice (some ⟨w.heap.size,0,none⟩) n j.size)) (w.drew.drew.alloc (.cells j e))/\n<=j.size/\j.size<=maxLen)
  (E:o.op= .call { callee:=.value B,args:=args,argTypes:=A } :=by exact rfl)(J:ev g B=some (.func (.func f) #[] #[]):=by exact rfl)(ha:evs g args.toList=some [.int .i64 n]:=by exact rfl):
  OpT P ro N w0 M ds o g L (λv F=>∃(b:Nat) (j:List Value),v= .slice (some ⟨b,0,none⟩) n j.length/\n<=j.length/\j.length<=maxLen/\F= .blk b e j::L):=
 FC (by rw[E];rfl) λa w X q=>by
  obtain⟨j,G,H,I⟩:=hr w;have C:Keep No w w.drew.drew:=⟨rfl,rfl,rfl,A6 _,λ_ _ _=>rfl⟩;have r:St N w0 M ds g (L++X) a w.drew.drew:=⟨q.size,q.agr,q.keep.trans C (λ_ h=>h.elim),q.hold.keep C (λ_ _ _ _ h=>h)⟩;obtain⟨k1,k2⟩:=zbQ r e j.toList;refine⟨_,_,_,_,?_,.inl rfl,⟨w.heap.size,j.toList,rfl,by simpa using H,by simpa using I,rfl⟩,k1,k2⟩;have m:args.map a.eval= [Value.int .i64 n].toArray:=BA.1 (by rw[Bg,q.agr.evals ha]);simp only[execOp,E,resolve,q.agr.eval J,Deferred.ofValue,m,Sem.run_bind,Sem.run_pure,Result.andThen_ok,invoke];rw[show(#[]++[Value.int .i64 n].toArray ++ #[]:Array Value)= [Value.int .i64 n].toArray by simp,G];simp
end Go.Sy
namespace Go.Proofs.YtdnlngbjpdbffaaGreatDoor
open Go Go.Sy Go.Nt Go.RowKit
theorem zpv(n:Nat)(hn:n<=1000000000000)(w:World):∃j:Array Value,(callFunc 249 [Value.int .i64 n].toArray).run Tryz.prog w= .ok (.value (.slice (some ⟨w.heap.size,0,none⟩) n j.size)) (w.drew.drew.alloc (.cells j 5))/\n<=j.size/\j.size<=maxLen:=by
 obtain⟨j,m,q,r⟩:=Lib.run_makeNoZero (P:=Tryz.prog) w #[3] 23 5 (by kernel_rfl) n q_o;refine⟨j,?_,q,r (by unfold maxLen;omega)⟩;show(callFunc 249 #[.int .i64 n]).run Tryz.prog w=_;rw[run_callFunc_extern Tryz.func249 (by kernel_rfl) (by kernel_rfl) (by kernel_rfl) (e:=Extern.BytealgMakeNoZero.makeNoZero #[3] #[23]) (by kernel_rfl),m];rfl
attribute [local irreducible] Sy SyL SyX Sy.Fn callFunc zg zae zac iC gP gQ gL zaH zai za7 za1 gel zaU zbX
theorem zn3{P l:List UInt8}{cs:List Value}{k:Nat}(hk:P.length=k)(h:k+l.length<=cs.length):
  zaI (P.map v8++cs.drop k) k (l.map v8)=(P++l).map v8++cs.drop (k+l.length):=by
 subst hk;unfold zaI;rw[Dk (A0 _),A0,Aq,<-Cv,ET (A0 _),Cv]
theorem znC{a:Option Addr}{l s:Nat} :zbw a l l s=a:=if_pos rfl
def ztE(l:List UInt8)(v:Value)(R:List Res):Prop:=∃b J,v= .slice (some ⟨b,0,none⟩) l.length l.length/\R= [.blk b 5 (l.map v8++J)]
theorem zwv(a:Option Addr)(m d:Nat)(xs:List Bs)(w:World)(hm:xs.length=m)(h2:2<=m)(c4:m<1000)(c5:m<=d)(c0:SlA w a (xs.map Bs.val))(b7:∀s∈xs,s.ok w)(hb:(Bs.cat xs).length<1000000000):
  Sy.Fn Tryz.prog 186 [.slice a m d,.slice none 0 0] w No (ztE (Bs.cat xs)):=by
 refine zt Tryz.func186 Tryz.ntmps186 ?_;have b4:decide ((m:Int)=0)=false:=q_f;have b5:decide ((m:Int)=1)=false:=q_f;have a7:∀i,(Bs.cat (xs.take i)).length<=(Bs.cat xs).length:=λi=>by
  have:Bs.cat xs=Bs.cat (xs.take i)++Bs.cat (xs.drop i):=by unfold Bs.cat;rw[<-CM,Bb]
  rw[this,A2];omega
 have R:=λi (h:i<m)=>Fq xs i q_o;obtain⟨bl,ol,rfl,Z⟩:=Bs.get c0 (i:=0) q_o;have a6:=λj (h:j<m)=>Z j q_o;have J:=λj (h:j<m)=>b7 xs[j] (Ad q_o);repeat' (first|refine s_t ?_|refine zD [0,5,10] ?_;refine zb ?_|refine q_k 1 ?_;refine q_v (zS (hr:=b4)) ?_|refine q_k 3 ?_;refine q_v (zS (hr:=b5)) ?_|refine q_k 6 ?_;refine q_v zH ?_)
 refine zN (γ:=Nat) (λi=>[(0,.slice (some ⟨bl,ol,none⟩) m d),(1,.slice none 0 0),(42,.slice (some ⟨bl,ol,none⟩) m d),(43,.int .i64 m),(44,.int .i64 i),(5,.int .i64 ((Bs.cat (xs.take i)).length:Nat))]) (λ_=>[]) (λi=>i<=m) (λi=>m-i) 0 (A9 _) ?_ ?_ ?_
 ·exact q_h
 ·exact q_h
 intro i hi;by_cases hlt:i<m
 ·have hc:=a6 i hlt;have ho:=J i hlt;have K:=R i hlt;have I:=a7 (i+1);rw[K,A2] at I;have q:xs[i].l.length=xs[i].n:=ho.len;rw[q] at I;have hT:((Bs.cat (xs.take (i+1))).length:Int)=((Bs.cat (xs.take i)).length:Int)+(xs[i].n:Int):=by rw[K,A2,q,Di]
  obtain⟨T',F⟩:∃t,t=(Bs.cat (xs.take (i+1))).length:=⟨_,rfl⟩;rw[<-F] at hT;generalize xs[i]=s,(Bs.cat xs).length=S,(Bs.cat (xs.take i)).length=T at*;obtain⟨sa,sn,sc,sl⟩:=s;dsimp only at*;have g1:decide ((i:Int)<(m:Int))=true:=q_d;have g2:IntKind.i64.wrap (9223372036854775807-(T:Int))=9223372036854775807-(T:Int):=IntWalk.i64_in _ q_o;have g3:decide (9223372036854775807-(T:Int)<(sn:Int))=false:=q_f;have g4:IntKind.i64.wrap ((T:Int)+(sn:Int))=((T':Nat):Int):=q_w;have g5:IntKind.i64.wrap ((i:Int)+1)=((i+1:Nat):Int):=q_w;repeat' (first|refine s_t ?_|refine zf 11 ?_;refine q_v (zo (hr:=g1)) ?_|refine zf 12 ?_;refine q_v (zq (j:=i)) ?_;refine q_x (zn (hv:=hc)) ?_|refine q_k 13 ?_;refine q_v (zI (hr:=g2)) ?_;refine q_v (zH (hr:=g3)) ?_|refine q_k 15 ?_;refine q_x (zF (hr:=g4)) ?_|refine zf 16 ?_;refine q_x (zF (hr:=g5)) ?_)
  refine zE (i+1) hlt ?_ ?_ ?_
  ·show m-(i+1)<m-i;omega
  ·rw[<-F];exact q_h
  ·exact q_h
 obtain rfl:i=m:=q_o;have W:Bs.cat xs=Bs.cat (xs.take i):=by rw[A8 q_o]
 rw[<-W];have g1:decide ((i:Int)<(i:Int))=false:=q_f;have hN:(Bs.cat xs).length<=1000000000000:=q_o;have Y:=λw=>zpv (Bs.cat xs).length hN w;have U:=a6 0 q_o;have V:=J 0 q_o;have H:Bs.cat (xs.take 1)=xs[0].l:=by
  have:=R 0 q_o;rw[this,Bu];rfl
 have A:=a7 1;rw[H,V.len] at A;have G:=V.len;obtain⟨S,E⟩:∃t,t=(Bs.cat xs).length:=⟨_,rfl⟩;have Q:=V.sla;rw[BU] at U;repeat' (first|refine s_0 ?_|refine zf 11 ?_;refine q_v (zo (hr:=g1)) ?_|refine q_k 17 ?_;(refine q_s (zta (n:=(Bs.cat xs).length) (hr:=Y)) ?_;rintro _ _ ⟨b,cs,rfl,b0,c2,rfl⟩);refine zb ?_;refine zbN ?_;refine zb ?_)
 rw[<-E] at b0 A ⊢;have g2:IntKind.i64.wrap ((i:Int)-1)=((i-1:Nat):Int):=q_w;have r:=zn3 (P:=[]) (l:=xs[0].l) (cs:=cs) (k:=0) rfl q_o;rw[List.map_nil,Af,Af,BJ,G,AZ] at r;obtain⟨s,K⟩:∃s,s=xs[0]:=⟨_,rfl⟩;rw[<-K] at U G Q r A H;obtain⟨sa,sn,sc,sl⟩:=s;dsimp only at U G Q r A H;clear K V;have b6:zbw (some ⟨bl,ol,none⟩) 1 d 1=some ⟨bl,ol+1,none⟩:=zfG q_o;repeat' (first|refine s_t ?_|refine q_k 18 ?_;refine zQ ?_;refine q_v (zn (hv:=U)) ?_;refine q_x (zfy (B:=sl.map v8) (k:=sn) (hr:=FM Q (λ_ _ h=>h)) (hk:=by rw[A0,G]) (hset:=r)) ?_|refine q_k 19 ?_;refine q_x (zb8 (ha:=b6)) ?_)
 have b8:zaI ((sl.map v8)++cs.drop sn) 0 []=sl.map v8++cs.drop sn:=by simp[zaI]
 refine zN (γ:=Nat) (λj=>[(1,.slice none 0 0),(8,.slice (some ⟨b,0,none⟩) S S),(70,.slice (some ⟨bl,ol+1,none⟩) (i-1) (d-1)),(71,.int .i64 ((i-1:Nat):Int)),(72,.int .i64 j),(9,.int .i64 ((Bs.cat (xs.take (j+1))).length:Nat))])
  (λj=>[.blk b 5 ((Bs.cat (xs.take (j+1))).map v8++cs.drop (Bs.cat (xs.take (j+1))).length)]) (λj=>j<=i-1) (λj=>i-1-j) 0 (A9 _) ?_ ?_ ?_
 ·rw[H,G];exact q_h
 ·rw[H,G];exact q_h
 intro j hj;by_cases hlt:j<i-1
 ·have hc:=a6 (j+1) q_o;rw[show ol+(j+1)=ol+1+j by omega] at hc;have ho:=J (j+1) q_o;have K:=R (j+1) q_o;have I:=a7 (j+1+1);rw[K,A2,<-E] at I;have q:xs[j+1].l.length=xs[j+1].n:=ho.len;rw[q] at I;have b9:=ho.sla;have hT:((Bs.cat (xs.take (j+1+1))).length:Int)=((Bs.cat (xs.take (j+1))).length:Int)+(xs[j+1].n:Int):=by rw[K,A2,q,Di]
  have hset:=zn3 (P:=Bs.cat (xs.take (j+1))) (l:=xs[j+1].l) (cs:=cs) (k:=(Bs.cat (xs.take (j+1))).length) rfl q_o;rw[<-K,q] at hset;have b2:(Bs.cat (xs.take (j+1))).length+xs[j+1].n=(Bs.cat (xs.take (j+1+1))).length:=by rw[K,A2,q]
  rw[b2] at hset;have c3:((Bs.cat (xs.take (j+1))).map v8++cs.drop (Bs.cat (xs.take (j+1))).length).length=cs.length:=by rw[A2,A0,Ar];omega
  have hz:zaI ((Bs.cat (xs.take (j+1))).map v8++cs.drop (Bs.cat (xs.take (j+1))).length) 0 []=(Bs.cat (xs.take (j+1))).map v8++cs.drop (Bs.cat (xs.take (j+1))).length:=by simp[zaI]
  have a8:∀k,zaI ((Bs.cat (xs.take (j+1))).map v8++cs.drop (Bs.cat (xs.take (j+1))).length) k []=(Bs.cat (xs.take (j+1))).map v8++cs.drop (Bs.cat (xs.take (j+1))).length:=λk=>by simp[zaI]
  have O:xs[j+1].n=0->(Bs.cat (xs.take (j+1+1))).map v8++cs.drop (Bs.cat (xs.take (j+1+1))).length=(Bs.cat (xs.take (j+1))).map v8++cs.drop (Bs.cat (xs.take (j+1))).length:=by
   intro h;have e:xs[j+1].l= []:=Dh q_o;rw[K,e,AG]
  obtain⟨C',X⟩:∃c,c=(Bs.cat (xs.take (j+1+1))).map v8++cs.drop (Bs.cat (xs.take (j+1+1))).length:=⟨_,rfl⟩;rw[<-X] at hset O;generalize (Bs.cat (xs.take (j+1))).map v8++cs.drop (Bs.cat (xs.take (j+1))).length=C at*;obtain⟨T',F⟩:∃t,t=(Bs.cat (xs.take (j+1+1))).length:=⟨_,rfl⟩;rw[<-F] at hT;generalize xs[j+1]=s,(Bs.cat (xs.take (j+1))).length=T at*;obtain⟨sa,a9,sc,c1⟩:=s;dsimp only at*;have g1:decide ((j:Int)<((i-1:Nat):Int))=true:=q_d;have g3:IntKind.i64.wrap ((T:Int)+0)=(T:Int):=q_w;have g4:IntKind.i64.wrap ((T:Int)+(a9:Int))=((T':Nat):Int):=q_w;have g5:IntKind.i64.wrap ((j:Int)+1)=((j+1:Nat):Int):=q_w;by_cases hfull:T<S
  ·repeat' (first|refine s_t ?_|refine zf 20 ?_;refine q_v (zo (hr:=g1)) ?_|refine zf 21 ?_;refine q_v (zq (j:=j)) ?_;refine q_x (zn (hv:=hc)) ?_|refine q_k 22 ?_;refine zbN ?_;refine zb ?_;refine q_v (zfy (B:=[]) (k:=0) (hr:=Fz) (hk:=rfl) (hone:=rfl) (hset:=a8 T) (hn:=(Nat.zero_min _).symm)) ?_;refine q_x (zF (hr:=g3)) ?_|refine q_k 23 ?_;refine zbN ?_;refine zb ?_;refine q_v (zfy (B:=c1.map v8) (k:=a9) (hr:=FM b9 (λ_ _ h=>h)) (hk:=by rw[A0,q]) (hset:=hset)) ?_;refine q_x (zF (hr:=g4)) ?_|refine zf 24 ?_;refine q_x (zF (hr:=g5)) ?_)
   refine zE (j+1) ?_ ?_ ?_ ?_
   ·show j+1<=i-1;omega
   ·show i-1-(j+1)<i-1-j;omega
   ·rw[<-F];exact q_h
   ·rw[<-X];exact q_h
  ·have b1:a9=0:=q_o;have b3:T=S:=q_o;have hC:=O b1;subst b1;subst b3;repeat' (first|refine s_t ?_|refine zf 20 ?_;refine q_v (zo (hr:=g1)) ?_|refine zf 21 ?_;refine q_v (zq (j:=j)) ?_;refine q_x (zn (hv:=hc)) ?_|refine q_k 22 ?_;refine q_x (zb8 (ha:=znC)) ?_;refine q_v (zfy (B:=[]) (k:=0) (hr:=Fz) (hk:=rfl) (hone:=rfl) (hset:=a8 0) (hn:=by simp)) ?_;refine q_x (zF (hr:=g3)) ?_|refine q_k 23 ?_;refine q_x (zb8 (ha:=znC)) ?_;refine q_v (zfy (B:=[]) (k:=0) (hr:=Fz) (hk:=rfl) (hone:=rfl) (hset:=a8 0) (hn:=by simp)) ?_;refine q_x (zF (hr:=g3)) ?_|refine zf 24 ?_;refine q_x (zF (hr:=g5)) ?_)
   refine zE (j+1) ?_ ?_ ?_ ?_
   ·show j+1<=i-1;omega
   ·show i-1-(j+1)<i-1-j;omega
   ·rw[<-F,show T'=T by omega];exact q_h
   ·rw[<-X,hC];exact q_h
 obtain rfl:j=i-1:=q_o;have g3:decide (((i-1:Nat):Int)<((i-1:Nat):Int))=false:=q_f;rw[show i-1+1=i by omega,<-W,<-E];repeat' (first|refine s_0 ?_|refine zf 20 ?_;refine q_v (zo (hr:=g3)) ?_|refine q_k 25 ?_)
 exact zap rfl (zh rfl) q_h ⟨b,_,by rw[<-E],rfl⟩
theorem zxN(i:Nat)(h:i<=4):IntKind.u8.wrap (i:Int)=Wd.n8 (UInt8.ofNat i):=by
 rw[IntWalk.u8_in _ q_o];rcases(show i=0\/i=1\/i=2\/i=3\/i=4 by omega) with rfl|rfl|rfl|rfl|rfl <;> rfl
end Go.Proofs.YtdnlngbjpdbffaaGreatDoor
