/- Layer pake, the specification walked: which arguments are valid, Start. -/
import Derived.Test.YtcpjfilcilcekaaGreatDoorYJ42
import Derived.Test.YtcpjfilcilcekaaGreatDoorYJ36
set_option linter.all false
section
namespace Go.Proofs.YtcpjfilcilcekaaGreatDoor
open Go Go.Sy Go.Sh Go.Nt Go.RowKit
attribute [local irreducible] Sy SyL SyX Sy.Fn callFunc natC rowN refC iC gP gQ gL memB safeC fixB Sh.sum HashIs pkPt pkH pkQ firstN dblock hmac pkW pkX pkOwn
set_option maxRecDepth 10000
theorem ziy (v z:Int) (a1 a2 a3:Option Addr) (n1 n2 n3 c1 c2 c3:Nat) (w:World):
  Sy.Fn Tryz.prog 13 [.int .i64 v,.int .i64 z,.slice a1 n1 c1,.slice a2 n2 c2,.slice a3 n3 c3] w No (Gives (.bool (decide ((v=1\/v=2)/\(1<=z/\z<=4)/\1<=n1/\n1<=256/\n2<=4096/\n3=32)))):=by
 refine zk Tryz.func13 rfl Tryz.ntmps13 (by simp) Holds.nil ?_
 have hh:=λw'=>zhE z w'
 by_cases hv:v=1\/v=2
 ·by_cases hz:1<=z/\z<=4
  ·have h:n1 < 1\/256 < n1\/(1<=n1/\n1<=256/\4096 < n2)\/(1<=n1/\n1<=256/\n2<=4096/\n3≠32)\/(1<=n1/\n1<=256/\n2<=4096/\n3=32):=by omega
   simp only [hz,decide_true,and_self,true_and] at hh ⊢
   rcases hv with rfl|rfl
   all_goals
    rcases h with h|h|h|h|h
    all_goals repeat' (first|refine s_0 ?_|(refine za (id:=0) ?_;refine zd ?_)|(refine za (id:=1) ?_;refine zb ?_;refine zX ?_;refine zb ?_;(first|refine zb ?_|refine zj rfl rfl rfl ?_|fail);(first|refine zX ?_|refine zj rfl rfl rfl ?_|fail);refine zo ?_;refine zb ?_;refine zb ?_;refine yv (zf (hc:=λ_ _ _ _=>(hh _))) (k:=?_);refine zo ?_;refine zb ?_;refine zb ?_;refine zq ?_;refine zac ?_;refine zo ?_;refine zb ?_;(first|refine zb ?_|refine zj rfl rfl rfl ?_|fail);(first|refine zq ?_|refine zj rfl rfl rfl ?_|fail);(first|refine zdr ?_|refine zj rfl rfl rfl ?_|fail);refine zo ?_;refine zb ?_;(first|refine zb ?_|refine zj rfl rfl rfl ?_|fail);(first|refine zq ?_|refine zj rfl rfl rfl ?_|fail);(first|refine zdr ?_|refine zj rfl rfl rfl ?_|fail);refine zo ?_;refine zb ?_;(first|refine zb ?_|refine zj rfl rfl rfl ?_|fail);(first|refine zq ?_|refine zj rfl rfl rfl ?_|fail);(first|refine zX ?_|refine zj rfl rfl rfl ?_|fail);refine zo ?_;refine zd ?_)|fail)
    all_goals exact ret1 rfl (resTmp rfl) SubR.nil ⟨congrArg Value.bool (by first|exact (decide_eq_true (by omega)).symm|exact (decide_eq_false (by omega)).symm),rfl⟩
  ·simp only [hz,decide_false,false_and,and_false] at hh ⊢
   rcases hv with rfl|rfl
   all_goals repeat' (first|refine s_0 ?_|(refine za (id:=0) ?_;refine zd ?_)|(refine za (id:=1) ?_;refine zb ?_;refine zX ?_;refine zb ?_;(first|refine zb ?_|refine zj rfl rfl rfl ?_|fail);(first|refine zX ?_|refine zj rfl rfl rfl ?_|fail);refine zo ?_;refine zb ?_;refine zb ?_;refine yv (zf (hc:=λ_ _ _ _=>(hh _))) (k:=?_);refine zo ?_;refine zb ?_;refine zj rfl rfl rfl ?_;refine zj rfl rfl rfl ?_;refine zj rfl rfl rfl ?_;refine zo ?_;refine zb ?_;refine zj rfl rfl rfl ?_;refine zj rfl rfl rfl ?_;refine zj rfl rfl rfl ?_;refine zo ?_;refine zb ?_;refine zj rfl rfl rfl ?_;refine zj rfl rfl rfl ?_;refine zj rfl rfl rfl ?_;refine zo ?_;refine zb ?_;refine zj rfl rfl rfl ?_;refine zj rfl rfl rfl ?_;refine zj rfl rfl rfl ?_;refine zo ?_;refine zd ?_)|fail)
   all_goals exact ret1 rfl (resTmp rfl) SubR.nil ⟨rfl,rfl⟩
 ·have h1:decide (v=1)=false:=decide_eq_false (by omega)
  have h2:decide (v=2)=false:=decide_eq_false (by omega)
  simp only [hv,decide_false,false_and]
  repeat' (first|refine s_0 ?_|(refine za (id:=0) ?_;refine zd ?_)|(refine za (id:=1) ?_;refine zb ?_;refine yv (z8 (hr:=h1)) (k:=?_);refine zb ?_;refine zb ?_;refine yv (z8 (hr:=h2)) (k:=?_);refine zo ?_;refine zb ?_;refine zj rfl rfl rfl ?_;refine zj rfl rfl rfl ?_;refine zo ?_;refine zb ?_;refine zj rfl rfl rfl ?_;refine zj rfl rfl rfl ?_;refine zj rfl rfl rfl ?_;refine zo ?_;refine zb ?_;refine zj rfl rfl rfl ?_;refine zj rfl rfl rfl ?_;refine zj rfl rfl rfl ?_;refine zo ?_;refine zb ?_;refine zj rfl rfl rfl ?_;refine zj rfl rfl rfl ?_;refine zj rfl rfl rfl ?_;refine zo ?_;refine zb ?_;refine zj rfl rfl rfl ?_;refine zj rfl rfl rfl ?_;refine zj rfl rfl rfl ?_;refine zo ?_;refine zd ?_)|fail)
  exact ret1 rfl (resTmp rfl) SubR.nil ⟨rfl,rfl⟩
def rxV (v z:Int) (sc sw sx so sh:Value):List Value:=[.int .i64 v,.int .i64 z,sc,sw,sx,so,sh]
def rxZ:List Value:=rxV 0 0 (.slice none 0 0) (.slice none 0 0) (.slice none 0 0) (.slice none 0 0) (.slice none 0 0)
structure RxA where
 ac:Option Addr
 kc:Nat
 aw:Option Addr
 kw:Nat
 ax:Option Addr
 kx:Nat
 ao:Option Addr
 ko:Nat
def rxC (s:Bool) (i n wv x:Nat) (r:RxA) (sh:Value):List Value:=rxV (sideI s) (i:Int) (.slice r.ac n r.kc) (.slice r.aw (nd 65536 wv) r.kw) (.slice r.ax (nd 65536 x) r.kx) (.slice r.ao (gL i) r.ko) sh
def rxRes (s:Bool) (i n wv x:Nat) (ctx:List UInt8) (r:RxA):List Res:=
 [.row (.slice r.ac n r.kc) 5 1 n (ctx.map v8),.row (.slice r.aw (nd 65536 wv) r.kw) 3 1 (nd 65536 wv) (refC wv),.row (.slice r.ax (nd 65536 x) r.kx) 3 1 (nd 65536 x) (refC x),.row (.slice r.ao (gL i) r.ko) 5 1 (gL i) ((fixB (gL i) (pkOwn s i wv x)).map v8)]
theorem zq5 (i:Nat) (p:List UInt8) (h:bev 256 (bn p) % gQ i=0):pkX i p=1:=by unfold pkX;exact if_pos h
theorem zp4 (i:Nat) (p:List UInt8) (h:bev 256 (bn p) % gQ i≠0):pkX i p=bev 256 (bn p) % gQ i:=by unfold pkX;exact if_neg h
set_option maxHeartbeats 2000000 in
theorem zm2 (s:Bool) (i:Nat) (a1 a2 a3:Option Addr) (n1 n2 c1 c2 c3 kb ko kc:Nat) (sec ctx prv:List UInt8) (w:World) (h0:1<=i) (h5:i<=4) (hR:RTab w No kb ko kc)
  (h1:(⟨a1,n1,c1,sec⟩:Bs).ok w) (h2:(⟨a2,n2,c2,ctx⟩:Bs).ok w) (h3:(⟨a3,32,c3,prv⟩:Bs).ok w) (g1:n1≠0) (g2:n1<=256) (g3:n2<=4096):
  Sy.Fn Tryz.prog 10 [.int .i64 (sideI s),.int .i64 (i:Int),.slice a1 n1 c1,.slice a2 n2 c2,.slice a3 32 c3] w No (λv R=>∃r:RxA,v= .tuple #[.agg (rxC s i n2 (pkW i sec) (pkX i prv) r (.slice none 0 0)).toArray,.int .i64 0]/\R=rxRes s i n2 (pkW i sec) (pkX i prv) ctx r):=by
 refine zk Tryz.func10 rfl Tryz.ntmps10 (by simp) Holds.nil ?_
 obtain ⟨p1,p2,p3,p4⟩:=h1
 obtain ⟨q1,q2,q3,q4⟩:=h2
 obtain ⟨r1,r2,r3,r4⟩:=h3
 dsimp only at p1 p2 p3 p4 q1 q2 q3 q4 r1 r2 r3 r4
 have hv:=λw'=>ziy (sideI s) (i:Int) a1 a2 a3 n1 n2 32 c1 c2 c3 w'
 rw [decide_eq_true (by refine ⟨?_,⟨by omega,by omega⟩,by omega,g2,g3,rfl⟩;cases s;exact .inr rfl;exact .inl rfl)] at hv
 have hui:=u8w i (by omega)
 have hmm:=λw' (hk:Keep No w w') b (h:SlA w' (some ⟨b,0,none⟩) (pkLabS.map v8))=>zi3 (some ⟨b,0,none⟩) a1 21 21 n1 c1 kb ko kc pkLabS sec w' rfl (by decide) (Nat.le_refl _) h (λh=>by cases h) p1 (by omega) ((SlF.of p3).to (Mi:=No) hk (λ_ h=> .inr h)).sla p4 (hR.no hk)
 have hH:(hmac pkLabS sec).length=32:=zbJ _ _
 have hW:pkW i sec=bev 256 (bn (firstN (dblock (hmac pkLabS sec) (pkLabW ++ [UInt8.ofNat i]) [] 32) 32)) % gQ i:=by unfold pkW;rfl
 generalize hmac pkLabS sec=H at *
 have hkd:=λw' (hk:Keep No w w') bH bL J (s0:SlA w' (some ⟨bH,0,none⟩) (H.map v8)) (s1:SlA w' (some ⟨bL,0,none⟩) ((pkLabW ++ [UInt8.ofNat i]).map v8))=>
  zli (some ⟨bH,0,none⟩) (some ⟨bL,0,none⟩) none 32 32 7 (7+J) 0 0 32 kb ko kc H (pkLabW ++ [UInt8.ofNat i]) [] w' ⟨hH,Nat.le_refl _,s0,λh=>by cases h⟩ ⟨rfl,by omega,s1,λh=>by cases h⟩ ⟨rfl,Nat.le_refl _,.inl rfl,λ_=>rfl⟩ (by decide) (by decide) (by decide) (by decide) (hR.no hk)
 have hDl:(firstN (dblock H (pkLabW ++ [UInt8.ofNat i]) [] 32) 32).length=32:=zdJ _ (λ_=>by unfold dblock;exact zbJ _ _) 32
 have hLW:(pkLabW ++ [UInt8.ofNat i]).map v8=pkLabW.map v8 ++ [.int .u8 (Wd.n8 (UInt8.ofNat i))]:=by rw [List.map_append];rfl
 rw [hLW] at hkd
 generalize firstN (dblock H (pkLabW ++ [UInt8.ofNat i]) [] 32) 32=D at *
 have hsc:=λw' aD cD (h2:SlA w' aD (D.map v8))=>zg4 i aD 32 cD D w' h0 h5 hDl h2 (by decide)
 rw [<-hW] at hsc
 have hqw:pkW i sec < gQ i:=by rw [hW];exact Nat.mod_lt _ (Nat.lt_of_lt_of_le (by decide) (zaF i h0 h5))
 clear hW
 have hsp:=λw' (hk:Keep No w w')=>zg4 i a3 32 c3 prv w' h0 h5 r1 ((SlF.of r3).to (Mi:=No) hk (λ_ h=> .inr h)).sla (by decide)
 have hqx:=zdv h0 h5 prv
 have hx0:=zq5 i prv
 have hx1:=zp4 i prv
 have hof:=λw'=>zdl 1 w' (by decide)
 generalize bev 256 (bn prv) % gQ i=X0 at *
 generalize pkW i sec=wv at *
 generalize pkX i prv=x at *
 unfold RefG at hsc hsp hof
 repeat' (first|refine s_0 ?_|(refine za (id:=0) ?_;(refine zi ?_;intro _);refine zd ?_)|(refine za (id:=1) ?_;refine zb ?_;refine zb ?_;refine zb ?_;refine zb ?_;refine zb ?_;refine yv (zf (hc:=λ_ _ _ _=>(hv _))) (k:=?_);refine zal ?_)|(refine za (id:=3) ?_;(refine ys zt (k:=?_);rintro _ _ ⟨_,rfl,rfl⟩);refine zaV ?_;refine zb ?_;(refine ys (zn (f:=38) (hc:=λw' X hk hh=>hmm w' hk _ ((Rd.of (Reads.obj Has.here Seg.all)) w' X hk hh))) (k:=?_);rintro _ _ ⟨R,rfl,bH,rfl,rfl⟩);refine zd ?_)|fail)
 rename_i b10 bL
 refine Sy.weaken (fr':=[(12,.slice (some ⟨bH,0,none⟩) 32 32),(10,.pointer (some ⟨b10,0,none⟩)),(4,.slice a3 32 c3),(3,.slice a2 n2 c2),(1,.int .i64 (i:Int)),(0,.int .i64 (sideI s))]) (L':=[.blk b10 32 rxZ,.blk bH 66 (H.map v8)]) ?_ (by exact Sub.go) (by exact SubR.go2)
 clear hmm hv
 repeat' (first|(refine za (id:=4) ?_;refine zb ?_;refine zb ?_;(refine ys zt (k:=?_);rintro _ _ ⟨_,rfl,rfl⟩);refine zaV ?_;refine zb ?_;refine yv (zZ (hr:=hui)) (k:=?_);(refine ys zt (k:=?_);rintro _ _ ⟨_,rfl,rfl⟩))|fail)
 refine ys (zg1 (k:=6) (cs:=6) (m:=1) (cx:=1) (xs:=pkLabW.map v8) (news:=[.int .u8 (Wd.n8 (UInt8.ofNat i))]) (hs:=rfl) (hx:=rfl) (hrs:=Rd.of (Reads.obj (Has.there Has.here) Seg.all)) (hrx:=Rd.of (Reads.blk Has.here Seg.all)) (hk:=rfl) (hm:=rfl) (hkp:=by decide) (hmp:=by decide) (hg:=by decide) (b1':=by decide)) (k:=?_)
 rintro _ _ ⟨bA,J,rfl,rfl⟩
 repeat' (first|refine s_0 ?_|(refine za (id:=5) ?_;refine zb ?_;refine zb ?_;(refine ys (zn (f:=39) (hc:=λw' X hk hh=>hsp w' hk)) (k:=?_);rintro _ _ ⟨R,rfl,aX,kX,rfl,rfl⟩);refine zd ?_)|(refine zC ?_;first|(refine ys (zn (f:=40) (hc:=λw' X hk hh=>hkd w' hk _ _ _ (.inr ⟨_,0,rfl,zz (hh.has (r:=.blk bH 66 (H.map v8)) (Has.append (by exact Has.go))) Seg.all⟩) ((Rd.of (Reads.blk Has.here segH)) w' X hk hh))) (k:=?_);rintro _ _ ⟨R,rfl,aD,kD,rfl,rfl⟩)|(refine ys (zn (f:=39) (hc:=λw' X hk hh=>hsc w' aD kD (zu hh (by exact Has.append Has.go)))) (k:=?_);rintro _ _ ⟨R,rfl,aW,kW,rfl,rfl⟩)|refine zd ?_|fail)|fail)
 refine zhP (γ:=Option Addr×Nat) (λg=>[(14,.slice g.1 (nd 65536 x) g.2),(13,.slice aW (nd 65536 wv) kW),(10,.pointer (some ⟨b10,0,none⟩)),(3,.slice a2 n2 c2),(1,.int .i64 (i:Int)),(0,.int .i64 (sideI s))]) (λg=>[.blk b10 32 rxZ,.row (.slice aW (nd 65536 wv) kW) 3 1 (nd 65536 wv) (refC wv),.row (.slice g.1 (nd 65536 x) g.2) 3 1 (nd 65536 x) (refC x)]) (λ_=>True) ?_ ?_
 ·by_cases hX:X0=0
  ·have hnd:decide (((nd 65536 X0:Nat):Int)=(0:Int))=true:=decide_eq_true (by rw [hX,zaY];rfl)
   obtain rfl:x=1:=hx0 hX
   repeat' (first|refine s_0 ?_|(refine za (id:=6) ?_;refine zb ?_;refine zq ?_;refine yv (z8 (hr:=hnd)) (k:=?_))|(refine za (id:=7) ?_;(refine ys (zn (f:=41) (hc:=λw' X hk hh=>hof w')) (k:=?_);rintro _ _ ⟨R,rfl,aO,kO,rfl,rfl⟩);refine zd ?_)|fail)
   exact zO (aO,kO) trivial (by exact Sub.go) (by exact SubR.go2)
  ·have hnd:decide (((nd 65536 X0:Nat):Int)=(0:Int))=false:=decide_eq_false (λh=>hX ((zdC 65536 X0 (by decide)).1 (by omega)))
   obtain rfl:x=X0:=hx1 hX
   repeat' (first|refine s_0 ?_|(refine za (id:=6) ?_;refine zb ?_;refine zq ?_;refine yv (z8 (hr:=hnd)) (k:=?_))|fail)
   exact zO (aX,kX) trivial (by exact Sub.go) (by exact SubR.go2)
 rintro ⟨aX,kX⟩ -
 dsimp only
 clear hsc hsp hof hx0 hx1 hkd
 have hpt:=λw' (hk:Keep No w w')=>zkF i s kb ko kc w' h0 h5 (hR.no hk)
 unfold RefG2 at hpt
 have kw:=zb3 (Nat.lt_trans hqw (za3 i h0 h5))
 have kx:=zb3 (Nat.lt_trans hqx (za3 i h0 h5))
 have mp:=zg2 i s h0 h5
 have kp:=zb3 (zbI h0 h5 mp)
 have k4:=zb3 (zbI h0 h5 (zgh i x h0 h5))
 have kh:=zb3 (zbI h0 h5 (zc7 h0 h5 mp wv))
 have mo:=zfF s i wv x h0 h5
 have kO:=zb3 (zbI h0 h5 mo)
 have hpow:=λw' a k (h:SlA w' a (refC x))=>zno i a k x w' h0 h5 h (by omega)
 have hexp:=λw' a k b l (h:SlA w' a (refC (pkPt i s))) (h':SlA w' b (refC wv))=>zf7 i a b k l (pkPt i s) wv w' h0 h5 h h' (by omega) (by omega)
 have hmul:=λw' a k b l (h:SlA w' a (refC (4 ^ x % gP i))) (h':SlA w' b (refC (pkPt i s ^ wv % gP i)))=>zhW i a b k l (4 ^ x % gP i) (pkPt i s ^ wv % gP i) w' h0 h5 h h' (by omega) (by omega)
 rw [show 4 ^ x % gP i*(pkPt i s ^ wv % gP i) % gP i=pkOwn s i wv x by unfold pkOwn;rfl] at hmul
 have hbyt:=λw' a k (h:SlA w' a (refC (pkOwn s i wv x)))=>zfI i a k (pkOwn s i wv x) w' h0 h5 h (by omega) (zfz s i wv x h0 h5)
 unfold RefG at hpow hexp hmul
 unfold RowOf at hbyt
 unfold rxRes rxC
 generalize pkOwn s i wv x=ov at *
 generalize 4 ^ x % gP i=gx at *
 generalize pkPt i s ^ wv % gP i=hv at *
 generalize pkPt i s=ps at *
 generalize pkPt i (!s)=pn at *
 repeat' (first|refine s_0 ?_|(refine za (id:=8) ?_;refine zb ?_;refine zb ?_;(refine ys (zn (f:=42) (hc:=λw' X hk hh=>hpt w' hk)) (k:=?_);rintro _ _ ⟨R,rfl,aP,kP,aN,kN,rfl,rfl⟩);refine zb ?_;refine zh ?_;refine zh ?_;refine zd ?_;refine zd ?_)|(refine za (id:=9) ?_;refine zb ?_;refine zb ?_;refine zb ?_;(refine ys (zn (f:=44) (hc:=λw' X hk hh=>hpow w' _ _ (zu hh (by exact Has.append Has.go)))) (k:=?_);rintro _ _ ⟨R,rfl,aG,kG,rfl,rfl⟩);refine zb ?_;refine zb ?_;refine zb ?_;(refine ys (zn (f:=45) (hc:=λw' X hk hh=>hexp w' _ _ _ _ (zu hh (by exact Has.append Has.go)) (zu hh (by exact Has.append Has.go)))) (k:=?_);rintro _ _ ⟨R,rfl,aH,kH,rfl,rfl⟩);(refine ys (zn (f:=43) (hc:=λw' X hk hh=>hmul w' _ _ _ _ (zu hh (by exact Has.append Has.go)) (zu hh (by exact Has.append Has.go)))) (k:=?_);rintro _ _ ⟨R,rfl,aM,kM,rfl,rfl⟩);refine zd ?_)|fail)
 refine Sy.weaken (fr':=[(17,.slice aM (nd 65536 ov) kM),(14,.slice aX (nd 65536 x) kX),(13,.slice aW (nd 65536 wv) kW),(10,.pointer (some ⟨b10,0,none⟩)),(3,.slice a2 n2 c2),(1,.int .i64 (i:Int)),(0,.int .i64 (sideI s))]) (L':=[.blk b10 32 rxZ,.row (.slice aW (nd 65536 wv) kW) 3 1 (nd 65536 wv) (refC wv),.row (.slice aX (nd 65536 x) kX) 3 1 (nd 65536 x) (refC x),.row (.slice aM (nd 65536 ov) kM) 3 1 (nd 65536 ov) (refC ov)]) ?_ (by exact Sub.go) (by exact SubR.go2)
 repeat' (first|refine s_0 ?_|(refine za (id:=10) ?_;refine zb ?_;refine zb ?_;(refine ys zbu (k:=?_);rintro _ _ ⟨_,rfl,rfl⟩);refine zb ?_;(refine ys (zba (k:=0) (m:=n2) (hxn:=rfl) (hn:=by rw [List.length_map,q1,Nat.mul_one])) (k:=?_);rintro _ _ ⟨rfl,aC,kC,rfl⟩);refine zb ?_;refine zb ?_;refine zb ?_;refine zb ?_;(refine ys (zn (f:=22) (hc:=λw' X hk hh=>hbyt w' _ _ (zu hh (by exact Has.append Has.go)))) (k:=?_);rintro _ _ ⟨R,rfl,aB,kB,rfl,rfl⟩);refine za0 ?_;refine zB ?_;refine zd ?_)|fail)
 exact ret2 rfl (resCells (B:=rxV (sideI s) (i:Int) (.slice aC n2 kC) (.slice aW (nd 65536 wv) kW) (.slice aX (nd 65536 x) kX) (.slice aB (gL i) kB) (.slice none 0 0)) rfl (ty rfl) rfl Has.go Seg.all rfl) (resTmp rfl) (R:=[.row (.slice aC n2 kC) 5 1 n2 (ctx.map v8),.row (.slice aW (nd 65536 wv) kW) 3 1 (nd 65536 wv) (refC wv),.row (.slice aX (nd 65536 x) kX) 3 1 (nd 65536 x) (refC x),.row (.slice aB (gL i) kB) 5 1 (gL i) ((fixB (gL i) ov).map v8)]) (by exact SubR.go2) ⟨⟨aC,kC,aW,kW,aX,kX,aB,kB⟩,rfl,rfl⟩
end Go.Proofs.YtcpjfilcilcekaaGreatDoor
end
section
namespace Go.Proofs.YtcpjfilcilcekaaGreatDoor
open Go Go.Sy Go.Sh Go.Nt Go.RowKit
attribute [local irreducible] Sy SyL SyX Sy.Fn callFunc natC rowN refC iC gP gQ gL memB safeC fixB Sh.sum HashIs pkPt pkH pkQ firstN dblock hmac pkW pkX pkOwn pkDer pkSh pkD
set_option maxRecDepth 10000
theorem zrM (v z:Int) (a b c d e:Option Addr) (n1 n2 n3 n4 n5 m1 m2 m3 m4 m5:Nat):(rxV v z (.slice a n1 m1) (.slice b n2 m2) (.slice c n3 m3) (.slice d n4 m4) (.slice e n5 m5)).all (·.oneCell')=true:=rfl
theorem zgu (v z:Int) (s1 s2 s3 s4:Value) (ah:Option Addr) (kh kb ko kc:Nat) (D lab:List UInt8) (w:World) (hD:D.length=32) (hk:32<=kh) (hs:SlA w ah (D.map v8)) (hlab:lab.length<=4096) (hR:RTab w No kb ko kc):
  Sy.Fn Tryz.prog 17 [.agg (rxV v z s1 s2 s3 s4 (.slice ah 32 kh)).toArray,.string (str lab)] w No (RowOf 5 32 ((pkDer D lab).map v8)):=by
 refine zk Tryz.func17 rfl Tryz.ntmps17 (by simp) Holds.nil ?_
 have hne:ah=none->kh=0:=λh=>by
  rcases hs with h'|⟨b,off,h',_⟩
  ·rw [List.map_eq_nil_iff] at h';rw [h'] at hD;cases hD
  ·rw [h] at h';cases h'
 have hkd:=λw' (hk':Keep No w w') bL J (s1:SlA w' (some ⟨bL,0,none⟩) (lab.map v8))=>
  zli ah (some ⟨bL,0,none⟩) none 32 kh lab.length (lab.length+J) 0 0 32 kb ko kc D lab [] w' ⟨hD,hk,((SlF.of hs).to (Mi:=No) hk' (λ_ h=> .inr h)).sla,hne⟩ ⟨rfl,by omega,s1,λh=>by cases h⟩ ⟨rfl,Nat.le_refl _,.inl rfl,λ_=>rfl⟩ (by decide) hlab (by decide) (by decide) (hR.no hk')
 rw [show firstN (dblock D lab [] 32) 32=pkDer D lab by unfold pkDer;rfl] at hkd
 generalize pkDer D lab=K at *
 repeat' (first|refine s_0 ?_|(refine za (id:=0) ?_;(refine zi ?_;intro _);refine zd ?_)|(refine za (id:=1) ?_;refine zm ?_;refine zD ?_;refine zb ?_)|(refine ys (zgr (l:=lab)) (k:=?_);rintro _ _ ⟨bB,J,rfl,rfl⟩)|(refine zC ?_;first|(refine ys (zn (f:=40) (hc:=λw' X hk hh=>hkd w' hk _ _ ((Rd.of (Reads.obj Has.here segH)) w' X hk hh))) (k:=?_);rintro _ _ ⟨R,rfl,aD,kD,rfl,rfl⟩)|refine zd ?_|fail)|fail)
 exact ret1 rfl (resTmp rfl) (by exact SubR.go2) ⟨_,_,rfl,rfl⟩
theorem zlt (v z:Int) (s1 s2 s3 s4:Value) (ah:Option Addr) (nh kh:Nat) (p:Value) (w:World) (hn:0 < nh) (h1:(rxV v z s1 s2 s3 s4 (.slice ah nh kh)).all (·.oneCell')=true):
  Sy.Fn Tryz.prog 14 [.agg (rxV v z s1 s2 s3 s4 (.slice ah nh kh)).toArray,p] w No (Gives (.tuple #[.agg (rxV v z s1 s2 s3 s4 (.slice ah nh kh)).toArray,.int .i64 8])):=by
 refine zk Tryz.func14 rfl Tryz.ntmps14 (by simp) Holds.nil ?_
 have hg:decide ((0:Int) < (nh:Int))=true:=decide_eq_true (by omega)
 repeat' (first|refine s_0 ?_|(refine za (id:=0) ?_;(refine zi ?_;intro _);(refine zi ?_;intro _);refine zd ?_)|(refine za (id:=1) ?_;refine zm ?_;refine zD ?_;refine zq ?_;refine yv (zaf (hr:=hg)) (k:=?_))|(refine za (id:=2) ?_;refine yv (zg (B:=rxV v z s1 s2 s3 s4 (.slice ah nh kh))) (k:=?_);refine yn (zM (B:=rxV v z s1 s2 s3 s4 (.slice ah nh kh)) (hv:=h1)) (k:=?_);refine zd ?_)|fail)
 exact ret2 rfl (resCells (B:=rxV v z s1 s2 s3 s4 (.slice ah nh kh)) rfl (ty rfl) rfl Has.go Seg.all rfl) (resTmp rfl) SubR.nil ⟨rfl,rfl⟩
theorem zqG {l:List UInt8}(h:l.length<=128):nd 65536 (bev 256 (bn l))<=64:=ndW (bevW' h)
theorem zpK (s:Bool) (i:Nat) (s1 s2 s3 s4:Value) (az ap:Option Addr) (kz np kp:Nat) (lp:List UInt8) (w:World) (h0:1<=i) (h5:i<=4) (hp:lp.length=np) (hn:np<=128) (hs:SlA w ap (lp.map v8))
  (h1:(rxV (sideI s) (i:Int) s1 s2 s3 s4 (.slice az 0 kz)).all (·.oneCell')=true) (hc: ¬(np=gL i/\memB (gP i) (gQ i) (bev 256 (bn lp))=true/\bev 256 (bn lp)≠1)):
  Sy.Fn Tryz.prog 14 [.agg (rxV (sideI s) (i:Int) s1 s2 s3 s4 (.slice az 0 kz)).toArray,.slice ap np kp] w No (Gives (.tuple #[.agg (rxV (sideI s) (i:Int) s1 s2 s3 s4 (.slice az 0 kz)).toArray,.int .i64 6])):=by
 refine zk Tryz.func14 rfl Tryz.ntmps14 (by simp) Holds.nil ?_
 have k0:=zqG (l:=lp) (by omega)
 have hfr:=λw' (hk:Keep No w w')=>zge ap np kp lp w' hp ((SlF.of hs).to (Mi:=No) hk (λ_ h=> .inr h)).sla (by omega)
 have hle:=λw'=>zhU i w' h0 h5
 have hme:=λw' a k (h:SlA w' a (refC (bev 256 (bn lp))))=>zhh i a k (bev 256 (bn lp)) w' h0 h5 h (by omega)
 have hof:=λw'=>zdl 1 w' (by decide)
 have hcm:=λw' a k b l (h:SlA w' a (refC (bev 256 (bn lp)))) (h':SlA w' b (refC 1))=>zbq a b k l (bev 256 (bn lp)) 1 w' h h' (by omega) (by have:=zak 65536 1 1 (by decide) (by decide);omega)
 unfold RefG at hfr hof
 have hcz:cmpI (bev 256 (bn lp)) 1=0↔bev 256 (bn lp)=1:=⟨zdw,λh=>by rw [h];exact zcF 1⟩
 generalize bev 256 (bn lp)=y at *
 generalize cmpI y 1=cy at *
 generalize memB (gP i) (gQ i) y=m at *
 by_cases e1:np=gL i
 ·have g1:decide ((np:Int)≠((gL i:Nat):Int))=false:=decide_eq_false (by omega)
  cases m with
  |false=>
   repeat' (first|refine s_0 ?_|(refine za (id:=0) ?_;(refine zi ?_;intro _);(refine zi ?_;intro _);refine zd ?_)|(refine za (id:=1) ?_;refine zm ?_;refine zD ?_;refine zq ?_;refine zaa ?_)|(refine za (id:=3) ?_;refine zb ?_;(refine ys (zn (f:=47) (hc:=λw' X hk hh=>hfr w' hk)) (k:=?_);rintro _ _ ⟨R,rfl,aY,kY,rfl,rfl⟩);refine zd ?_)|(refine za (id:=4) ?_;refine zb ?_;refine zq ?_;refine zm ?_;refine zD ?_;refine yv (zf (hc:=λ_ _ _ _=>(hle _))) (k:=?_);refine yv (zay (hr:=g1)) (k:=?_);refine zb ?_;refine zm ?_;refine zD ?_;refine zb ?_;refine yv (zf (f:=49) (hc:=λw' X hk hh=>hme w' _ _ (zu hh (by exact Has.append Has.go)))) (k:=?_);refine zal ?_;refine zo ?_;refine zb ?_;refine zj rfl rfl rfl ?_;refine zj rfl rfl rfl ?_;refine zj rfl rfl rfl ?_;refine zj rfl rfl rfl ?_;refine zo ?_)|(refine za (id:=5) ?_;refine yv (zg (B:=rxV (sideI s) (i:Int) s1 s2 s3 s4 (.slice az 0 kz))) (k:=?_);refine yn (zM (B:=rxV (sideI s) (i:Int) s1 s2 s3 s4 (.slice az 0 kz)) (hv:=h1)) (k:=?_);refine zd ?_)|fail)
   exact ret2 rfl (resCells (B:=rxV (sideI s) (i:Int) s1 s2 s3 s4 (.slice az 0 kz)) rfl (ty rfl) rfl Has.go Seg.all rfl) (resTmp rfl) SubR.nil ⟨rfl,rfl⟩
  |true=>
   have g2:decide (cy=(0:Int))=true:=decide_eq_true (hcz.2 (Classical.byContradiction λh=>hc ⟨e1,rfl,h⟩))
   repeat' (first|refine s_0 ?_|(refine za (id:=0) ?_;(refine zi ?_;intro _);(refine zi ?_;intro _);refine zd ?_)|(refine za (id:=1) ?_;refine zm ?_;refine zD ?_;refine zq ?_;refine zaa ?_)|(refine za (id:=3) ?_;refine zb ?_;(refine ys (zn (f:=47) (hc:=λw' X hk hh=>hfr w' hk)) (k:=?_);rintro _ _ ⟨R,rfl,aY,kY,rfl,rfl⟩);refine zd ?_)|(refine za (id:=4) ?_;refine zb ?_;refine zq ?_;refine zm ?_;refine zD ?_;refine yv (zf (hc:=λ_ _ _ _=>(hle _))) (k:=?_);refine yv (zay (hr:=g1)) (k:=?_);refine zb ?_;refine zm ?_;refine zD ?_;refine zb ?_;refine yv (zf (f:=49) (hc:=λw' X hk hh=>hme w' _ _ (zu hh (by exact Has.append Has.go)))) (k:=?_);refine zal ?_;refine zo ?_;refine zb ?_;refine zb ?_;(refine ys (zn (f:=41) (hc:=λw' X hk hh=>hof w')) (k:=?_);rintro _ _ ⟨R,rfl,aO,kO,rfl,rfl⟩);refine yv (zf (f:=50) (hc:=λw' X hk hh=>hcm w' _ _ _ _ (zu hh (by exact Has.append Has.go)) (zu hh (by exact Has.append Has.go)))) (k:=?_);refine yv (z8 (hr:=g2)) (k:=?_);refine zo ?_)|(refine za (id:=5) ?_;refine yv (zg (B:=rxV (sideI s) (i:Int) s1 s2 s3 s4 (.slice az 0 kz))) (k:=?_);refine yn (zM (B:=rxV (sideI s) (i:Int) s1 s2 s3 s4 (.slice az 0 kz)) (hv:=h1)) (k:=?_);refine zd ?_)|fail)
   exact ret2 rfl (resCells (B:=rxV (sideI s) (i:Int) s1 s2 s3 s4 (.slice az 0 kz)) rfl (ty rfl) rfl Has.go Seg.all rfl) (resTmp rfl) SubR.nil ⟨rfl,rfl⟩
 ·have g1:decide ((np:Int)≠((gL i:Nat):Int))=true:=decide_eq_true (by omega)
  repeat' (first|refine s_0 ?_|(refine za (id:=0) ?_;(refine zi ?_;intro _);(refine zi ?_;intro _);refine zd ?_)|(refine za (id:=1) ?_;refine zm ?_;refine zD ?_;refine zq ?_;refine zaa ?_)|(refine za (id:=3) ?_;refine zb ?_;(refine ys (zn (f:=47) (hc:=λw' X hk hh=>hfr w' hk)) (k:=?_);rintro _ _ ⟨R,rfl,aY,kY,rfl,rfl⟩);refine zd ?_)|(refine za (id:=4) ?_;refine zb ?_;refine zq ?_;refine zm ?_;refine zD ?_;refine yv (zf (hc:=λ_ _ _ _=>(hle _))) (k:=?_);refine yv (zay (hr:=g1)) (k:=?_);refine zb ?_;refine zj rfl rfl rfl ?_;refine zj rfl rfl rfl ?_;refine zj rfl rfl rfl ?_;refine zj rfl rfl rfl ?_;refine zj rfl rfl rfl ?_;refine zo ?_;refine zb ?_;refine zj rfl rfl rfl ?_;refine zj rfl rfl rfl ?_;refine zj rfl rfl rfl ?_;refine zj rfl rfl rfl ?_;refine zo ?_)|(refine za (id:=5) ?_;refine yv (zg (B:=rxV (sideI s) (i:Int) s1 s2 s3 s4 (.slice az 0 kz))) (k:=?_);refine yn (zM (B:=rxV (sideI s) (i:Int) s1 s2 s3 s4 (.slice az 0 kz)) (hv:=h1)) (k:=?_);refine zd ?_)|fail)
  exact ret2 rfl (resCells (B:=rxV (sideI s) (i:Int) s1 s2 s3 s4 (.slice az 0 kz)) rfl (ty rfl) rfl Has.go Seg.all rfl) (resTmp rfl) SubR.nil ⟨rfl,rfl⟩
end Go.Proofs.YtcpjfilcilcekaaGreatDoor
end
