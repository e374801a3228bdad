/- Layer pake, the specification walked: names, strings with their lengths, the points; the program's Points. -/
import Derived.Test.YtcpjfilcilcekaaGreatDoorYJ35
import Derived.Test.YtcpjfilcilcekaaGreatDoorYJ41
import Derived.Test.YtcpjfilcilcekaaGreatDoorYJ25
import Derived.Test.YtcpjfilcilcekaaGreatDoorYJ07
import Derived.Test.YtcpjfilcilcekaaGreatDoorYJ28
import Derived.Test.YtcpjfilcilcekaaGreatDoorYJ31
import Derived.Test.YtcpjfilcilcekaaGreatDoorYJ05
import Derived.Test.YtcpjfilcilcekaaGreatDoorYJ32
import Derived.Test.YtcpjfilcilcekaaGreatDoorYJ03
set_option linter.all false
section
namespace Go.Sy
open Go
section
variable {P:Program}{ro:Option Nat}{N:Nat}{w0:World}{M:Nat->Prop}{ds:List Deferred}{g:Nat->Option Value}{L:List Res}{o:Oper}{t t':TypeId}{x:Operand}{y ye:Ty}
theorem zfH {E n e:Nat}{v:Value}{Nw:List Res}{l:List UInt8}(h:RowOf E n (l.map v8) v Nw) (hn:l.length=n) (hN: ∀r,Has Nw r->Has L r) (ho:o.op= .convert t t' x:=by exact rfl) (hx:ev g x=some v:=by exact rfl) (ht:tyOf P t=some y:=by exact ty rfl) (hy:y.desc= .slice e:=by exact rfl) (he:tyOf P e=some ye:=by exact ty rfl) (hye:ye.desc= .int .u8:=by exact rfl) {y':Ty}(ht':tyOf P t'=some y':=by exact ty rfl) (hy':y'.desc= .string:=by exact rfl):OpT P ro N w0 M ds o g L (Det (.string (str l)) L):=by
 obtain ⟨a,c,rfl,rfl⟩:=h
 exact zb4 (hx:=hx) (ho:=ho) (ht:=ht) (hy:=hy) (he:=he) (hye:=hye) (ht':=ht') (hy':=hy') (hr:=Rd.row (hN _ Has.here)) (hn:=hn)
end
end Go.Sy
namespace Go.Proofs.YtcpjfilcilcekaaGreatDoor
open Go Go.Sy Go.Sh Go.Nt Go.RowKit
attribute [local irreducible] Sy SyL SyX Sy.Fn callFunc natC rowN refC iC gP gQ gL memB safeC fixB Sh.sum HashIs pkPt pkH pkQ
set_option maxRecDepth 10000
theorem zb3 {x:Nat}(h:x < 18446744073709551616 ^ 16):nd 65536 x < 20000:=Nat.lt_of_le_of_lt (ndW h) (by decide)
theorem zgJ (s:Bool) (w:World):Sy.Fn Tryz.prog 19 [.int .i64 (sideI s)] w No (Gives (.string (str (pkName s)))):=by
 refine zk Tryz.func19 rfl Tryz.ntmps19 (by simp) Holds.nil ?_
 cases s
 ·repeat' (first|refine s_0 ?_|(refine za (id:=0) ?_;refine zd ?_)|(refine za (id:=1) ?_;refine zb ?_;refine zX ?_)|(refine za (id:=3) ?_;refine zd ?_)|fail)
  exact ret1 rfl (resTmp rfl) SubR.nil ⟨rfl,rfl⟩
 ·repeat' (first|refine s_0 ?_|(refine za (id:=0) ?_;refine zd ?_)|(refine za (id:=1) ?_;refine zb ?_;refine zX ?_)|(refine za (id:=2) ?_;refine zd ?_)|fail)
  exact ret1 rfl (resTmp rfl) SubR.nil ⟨rfl,rfl⟩
theorem zlY (a:Option Addr) (n c:Nat) (l:List UInt8) (w:World) (hl:l.length=n) (hn:n<=100000) (hs:SlA w a (l.map v8)) (hz:a=none->c=0):
  Sy.Fn Tryz.prog 52 [.slice a n c] w No (RowOf 5 (4+n) ((pkFr l).map v8)):=by
 refine zk Tryz.func52 rfl Tryz.ntmps52 (by simp) Holds.nil ?_
 have hy: [Value.int .u8 (Wd.n8 (UInt8.ofNat (n / 2 ^ 24))),.int .u8 (Wd.n8 (UInt8.ofNat (n / 2 ^ 16))),.int .u8 (Wd.n8 (UInt8.ofNat (n / 2 ^ 8))),.int .u8 (Wd.n8 (UInt8.ofNat n))] ++ l.map v8=(pkFr l).map v8:=by
  unfold pkFr four
  rw [hl,List.map_append];rfl
 repeat' (first|refine s_0 ?_|(refine za (id:=0) ?_;refine zd ?_)|(refine za (id:=1) ?_;refine zb ?_;refine zq ?_;refine zd ?_)|(refine za (id:=2) ?_;refine zb ?_;refine yv (zat (hr:=shrI n 24 _ (by decide))) (k:=?_);refine yv (zZ (hr:=zbN _)) (k:=?_);refine zb ?_;refine yv (zat (hr:=shrI n 16 _ (by decide))) (k:=?_);refine yv (zZ (hr:=zbN _)) (k:=?_);refine zb ?_;refine yv (zat (hr:=shrI n 8 _ (by decide))) (k:=?_);refine yv (zZ (hr:=zbN _)) (k:=?_);refine zb ?_;refine yv (zZ (hr:=zbN _)) (k:=?_);(refine ys zt (k:=?_);rintro _ _ ⟨_,rfl,rfl⟩);refine zb ?_;(refine ys (zba (k:=4) (m:=n) (hxn:=rfl) (hn:=by rw [List.length_map,hl,Nat.mul_one]) (hkm:=rfl) (hys:=hy)) (k:=?_);rintro _ _ ⟨rfl,aN,cN,rfl⟩);refine zd ?_)|fail)
 exact ret1 rfl (resTmp rfl) (by exact SubR.go2) ⟨_,_,rfl,rfl⟩
set_option maxHeartbeats 1000000 in
theorem zif (i:Nat) (s:Bool) (kb ko kc:Nat) (w:World) (h0:1<=i) (h5:i<=4) (hR:RTab w No kb ko kc):
  Sy.Fn Tryz.prog 23 [.int .i64 (i:Int),.string (str (pkLab s))] w No (RefG (pkPt i s)):=by
 refine zk Tryz.func23 rfl Tryz.ntmps23 (by simp) Holds.nil ?_
 have hui:=u8w i (by omega)
 have hl:=zh0 s
 have hp1:=zav i h0 h5
 have kp:=ndW (zaW i h0 h5)
 have hone:=(zdN i s h0 h5).1
 have kr:=ndW (Nat.lt_trans (zdN i s h0 h5).2.2.1 (zaW i h0 h5))
 have hpr:=λw'=>zb5 i w' h0 h5
 have h32:=zfp (pkLab s ++ [UInt8.ofNat i,0])
 have hsum:=λw' (hk:Keep No w w') b J (h:w'.rangeAt b 0 ((pkLab s ++ [UInt8.ofNat i,0]).map v8))=>zd2 (some ⟨b,0,none⟩) ((pkLab s).length+2) ((pkLab s).length+2+J) kb ko kc (pkLab s ++ [UInt8.ofNat i,0]) w' (by simp) (by omega) (.inr ⟨b,0,rfl,h⟩) (λh=>by cases h) (hR.no hk).cell (hR.no hk).row
 have hB:(pkLab s ++ [UInt8.ofNat i,0]).map v8=(pkLab s).map v8 ++ [.int .u8 (Wd.n8 (UInt8.ofNat i)),.int .u8 0]:=by rw [List.map_append];rfl
 rw [hB] at hsum
 have hpt:pkPt i s=(bev 256 (bn (Sh.sum (pkLab s ++ [UInt8.ofNat i,0]))) % gP i)*(bev 256 (bn (Sh.sum (pkLab s ++ [UInt8.ofNat i,0]))) % gP i) % gP i:=by
  unfold pkPt pkH;exact Nat.mul_mod _ _ _
 generalize Sh.sum (pkLab s ++ [UInt8.ofNat i,0])=H at *
 have hVW:bev 256 (bn H) < 18446744073709551616 ^ 16:=bevW' (by omega)
 have kV:=ndW hVW
 have hfrom:=λw' b (h:w'.rangeAt b 0 (H.map v8))=>zge (some ⟨b,0,none⟩) 32 32 H w' h32 (.inr ⟨b,0,rfl,h⟩) (by decide)
 generalize bev 256 (bn H)=V at *
 have hdiv:=λw' a c a' c' (h:SlA w' a (refC V)) (h':SlA w' a' (refC (gP i)))=>zcN a a' c c' V (gP i) w' h h' (by omega) (by omega) (by omega)
 have kx:=ndW (Nat.lt_trans (Nat.mod_lt V (by omega)) (zaW i h0 h5))
 have hmul:=λw' a c (h:SlA w' a (refC (V % gP i)))=>zhW i a a c c (V % gP i) (V % gP i) w' h0 h5 h h (by omega) (by omega)
 rw [<-hpt] at hmul
 have hof:=λw'=>zdl 1 w' (by decide)
 have hcmp:=λw' a c a' c' (h:SlA w' a (refC (pkPt i s))) (h':SlA w' a' (refC 1))=>zbq a a' c c' (pkPt i s) 1 w' h h' (by omega) (by have:=zak 65536 1 1 (by decide) (by decide);omega)
 rw [zdL hone] at hcmp
 unfold RefG at *
 clear hpt kV kx kr
 generalize pkPt i s=r at *
 generalize V % gP i=x at *
 generalize V / gP i=q at *
 generalize gP i=p at *
 generalize pkLab s=lab at *
 repeat' (first|refine s_t ?_|(refine za (id:=0) ?_;refine zd ?_)|(refine za (id:=1) ?_;refine zb ?_;(refine ys (zn (f:=64) (hc:=λw' X hk hh=>hpr w')) (k:=?_);rintro _ _ ⟨R,rfl,aP,cP,rfl,rfl⟩);refine zd ?_)|(refine za (id:=2) ?_;refine zd ?_)|fail)
 refine zE (γ:=Unit) (λ_=>[(0,.int .i64 (i:Int)),(1,.string (str lab)),(5,.slice aP (nd 65536 p) cP),(6,.int .i64 0)]) (λ_=>[.row (.slice aP (nd 65536 p) cP) 3 1 (nd 65536 p) (refC p)]) (λ_=>True) (λ_=>0) () trivial ?_ ?_ ?_
 ·exact Sub.go
 ·exact SubR.go2
 rintro ⟨⟩ -
 repeat' (first|refine za6 ?_|refine zbL ?_|(refine za (id:=4) ?_;refine zb ?_)|(refine ys (zgr (l:=lab)) (k:=?_);rintro _ _ ⟨bB,J,rfl,rfl⟩)|(refine zC ?_;first|refine yv (zZ (hr:=hui)) (k:=?_)|refine zaV ?_|refine zb ?_|(refine ys zt (k:=?_);rintro _ _ ⟨_,rfl,rfl⟩)|fail)|fail)
 refine ys (zlN (b:=bB) (k:=lab.length) (m:=2) (xs:=lab.map v8) (J:=J) (hL:=Rem.there Rem.here) (hrx:=Rd.of (Reads.blk Has.here Seg.all)) (hk:=List.length_map _) (hm:=rfl) (hmp:=by decide) (h1:=rfl) (b1':=by omega) (hcs:=rfl)) (k:=?_)
 rintro _ _ ⟨bS,J',fz,rfl,rfl⟩
 repeat' (first|refine s_0 ?_|(refine za (id:=5) ?_;refine zap ?_;(refine ys (zn (f:=47) (hc:=λw' X hk hh=>hfrom w' _ (zz (hh.has (Has.append Has.here)) Seg.all))) (k:=?_);rintro _ _ ⟨R,rfl,aV,cV,rfl,rfl⟩);refine zb ?_;(refine ys (zn (f:=65) (hc:=λw' X hk hh=>hdiv w' _ _ _ _ (zu hh (by exact Has.append Has.go)) (zu hh (by exact Has.append Has.go)))) (k:=?_);rintro _ _ ⟨R,rfl,aQ,cQ,aX,cX,rfl,rfl⟩);refine zb ?_;refine zh ?_;refine zh ?_;refine zd ?_;refine zd ?_)|(refine za (id:=6) ?_;refine zb ?_;refine zb ?_;refine zb ?_;(refine ys (zn (f:=43) (hc:=λw' X hk hh=>hmul w' _ _ (zu hh (by exact Has.append Has.go)))) (k:=?_);rintro _ _ ⟨R,rfl,aY,cY,rfl,rfl⟩);refine zd ?_)|(refine za (id:=7) ?_;refine zb ?_;(refine ys (zn (f:=41) (hc:=λw' X hk hh=>hof w')) (k:=?_);rintro _ _ ⟨R,rfl,aO,cO,rfl,rfl⟩);refine yv (zf (f:=50) (hc:=λw' X hk hh=>hcmp w' _ _ _ _ (zu hh (by exact Has.append Has.go)) (zu hh (by exact Has.append Has.go)))) (k:=?_);refine zaa ?_)|(refine za (id:=8) ?_;refine zb ?_;refine zd ?_)|(refine zC ?_;first|refine yv (zf (f:=53) (hc:=λw' X hk hh=>hsum w' hk bS _ ((Reads.obj Has.here segH) w' X hk hh))) (k:=?_)|refine zB ?_|(refine zi ?_;intro _)|fail)|fail)
 exact ret1 rfl (resTmp rfl) (by exact SubR.go2) ⟨_,_,rfl,rfl⟩
def RefG2 (x y:Nat) (v:Value) (R:List Res):Prop:=∃a c b d,v= .tuple #[.slice a (nd 65536 x) c,.slice b (nd 65536 y) d]/\R= [.row (.slice a (nd 65536 x) c) 3 1 (nd 65536 x) (refC x),.row (.slice b (nd 65536 y) d) 3 1 (nd 65536 y) (refC y)]
theorem zkF (i:Nat) (s:Bool) (kb ko kc:Nat) (w:World) (h0:1<=i) (h5:i<=4) (hR:RTab w No kb ko kc):
  Sy.Fn Tryz.prog 42 [.int .i64 (sideI s),.int .i64 (i:Int)] w No (RefG2 (pkPt i s) (pkPt i (!s))):=by
 refine zk Tryz.func42 rfl Tryz.ntmps42 (by simp) Holds.nil ?_
 have h1:=λw' (hk:Keep No w w')=>zif i true kb ko kc w' h0 h5 (hR.no hk)
 have h2:=λw' (hk:Keep No w w')=>zif i false kb ko kc w' h0 h5 (hR.no hk)
 unfold RefG at h1 h2
 rw [show (str (pkLab true))=str [119,97,116,99,104,119,111,114,100,32,112,97,107,101,32,99,108,105,101,110,116] from rfl] at h1
 rw [show (str (pkLab false))=str [119,97,116,99,104,119,111,114,100,32,112,97,107,101,32,115,101,114,118,101,114] from rfl] at h2
 cases s
 ·rw [show (!false)=true from rfl]
  generalize pkPt i true=p at *
  generalize pkPt i false=q at *
  repeat' (first|refine s_0 ?_|(refine za (id:=0) ?_;refine zd ?_;refine zd ?_)|(refine za (id:=1) ?_;refine zb ?_;(refine ys (zn (f:=23) (hc:=λw' X hk hh=>h1 w' hk)) (k:=?_);rintro _ _ ⟨R,rfl,a1,c1,rfl,rfl⟩);refine zb ?_;(refine ys (zn (f:=23) (hc:=λw' X hk hh=>h2 w' hk)) (k:=?_);rintro _ _ ⟨R,rfl,a2,c2,rfl,rfl⟩);refine zd ?_;refine zd ?_)|(refine za (id:=2) ?_;refine zb ?_;refine zX ?_)|(refine za (id:=4) ?_;refine zb ?_;refine zb ?_;refine zd ?_;refine zd ?_)|fail)
  exact ret2 rfl (resTmp rfl) (resTmp rfl) (by exact SubR.go2) ⟨_,_,_,_,rfl,rfl⟩
 ·rw [show (!true)=false from rfl]
  generalize pkPt i true=p at *
  generalize pkPt i false=q at *
  repeat' (first|refine s_0 ?_|(refine za (id:=0) ?_;refine zd ?_;refine zd ?_)|(refine za (id:=1) ?_;refine zb ?_;(refine ys (zn (f:=23) (hc:=λw' X hk hh=>h1 w' hk)) (k:=?_);rintro _ _ ⟨R,rfl,a1,c1,rfl,rfl⟩);refine zb ?_;(refine ys (zn (f:=23) (hc:=λw' X hk hh=>h2 w' hk)) (k:=?_);rintro _ _ ⟨R,rfl,a2,c2,rfl,rfl⟩);refine zd ?_;refine zd ?_)|(refine za (id:=2) ?_;refine zb ?_;refine zX ?_)|(refine za (id:=3) ?_;refine zb ?_;refine zb ?_;refine zd ?_;refine zd ?_)|fail)
  exact ret2 rfl (resTmp rfl) (resTmp rfl) (by exact SubR.go2) ⟨_,_,_,_,rfl,rfl⟩
end Go.Proofs.YtcpjfilcilcekaaGreatDoor
end
section
namespace Go.Proofs.YtcpjfilcilcekaaGreatDoor
open Go Go.Sy Go.Sh Go.RowKit
attribute [local irreducible] Sy SyL SyX Sy.Fn callFunc Sh.sum
set_option maxRecDepth 10000
theorem zoA (key:List UInt8) (by':UInt8) (i:Nat) (h:(kbase key).length<=64) (hi:i < 64):(kxor (kpad key) by')[i]?=some ((if hl:i < (kbase key).length then (kbase key)[i] else 0) ^^^ by'):=by
 unfold kxor kpad
 rw [List.getElem?_map]
 split
 ·rw [List.getElem?_append_left (by omega),List.getElem?_eq_getElem (by omega)];rfl
 ·rw [List.getElem?_append_right (by omega),List.getElem?_replicate,if_pos (by omega)];rfl
theorem zhX (a0:Option Addr) (n c kb ko kc:Nat) (key:List UInt8) (by':UInt8) (w:World) (hn:key.length=n) (hb:n < 1000000000000) (hc:n<=c) (hsl:SlA w a0 (key.map Sy.v8)) (hnil:a0=none->c=0) (hR:RTab w No kb ko kc):
  Sy.Fn Tryz.prog 82 [.slice a0 n c,Sy.v8 by'] w No (λv R=>∃b,v= .slice (some ⟨b,0,none⟩) 64 64/\R= [.row v 5 1 64 ((kxor (kpad key) by').map Sy.v8)]):=by
 refine zk Tryz.func82 rfl Tryz.ntmps82 (by simp) Holds.nil ?_
 have hs32:=zaZ key
 have hkb:=zjF key hs32
 have hget:=zoA key by'
 repeat' (first|refine s_0 ?_|(refine za (id:=0) ?_;refine zd ?_)|(refine za (id:=1) ?_)|(refine za (id:=2) ?_;refine zb ?_;refine zq ?_;refine zaa ?_)|(refine ys (zcd (n:=64)) (k:=?_);rintro _ _ ⟨bm,rfl,rfl⟩)|(refine zC ?_;first|refine zd ?_|fail)|fail)
 refine zaJ (γ:=Option Addr×Nat×Res) (λg=>[(0,.slice g.1 (kbase key).length g.2.1),(1,Sy.v8 by'),(5,.slice (some ⟨bm,0,none⟩) 64 64)]) (λg=>[.blk bm 5 (List.replicate 64 (.int .u8 0)),g.2.2])
  (λg=>0 < (kbase key).length-> ∃b1 o1,g.1=some ⟨b1,o1,none⟩/\ ∀C,Reads w No [.blk bm 5 C,g.2.2] b1 o1 ((kbase key).map Sy.v8)) ?_ ?_
 ·refine zbe rfl (λh=>?_) (λh=>?_)
  ·have h:=of_decide_eq_true h
   have hkk:kbase key=Sh.sum key:=by unfold kbase;rw [if_pos (by omega)]
   repeat' (first|refine s_0 ?_|(refine za (id:=3) ?_;refine zb ?_;refine yv (zf (hc:=λw' X hk hh=>zd2 a0 n c kb ko kc key w' hn (by omega) (hsl.keep hk (λ_ _ h=>h)) hnil (hR.no hk).cell (hR.no hk).row)) (k:=?_);(refine zi ?_;intro _);refine zB ?_)|(refine za (id:=4) ?_;refine zap ?_;refine zd ?_)|fail)
   rename_i b6
   have hlen:(kbase key).length=32:=by rw [hkk];exact hs32
   refine zO (some ⟨b6,0,none⟩,32,.blk b6 66 ((Sh.sum key).map Sy.v8)) (λ_=>⟨b6,0,rfl,λC=>by rw [hkk];exact Reads.blk (Has.there Has.here) Seg.all⟩) ?_ ?_
   ·dsimp only;rw [hlen];exact Sub.go
   ·exact SubR.go
  ·have h:=of_decide_eq_false h
   have hkk:kbase key=key:=by unfold kbase;rw [if_neg (by omega)]
   refine zbh (zaU 5 1) ?_
   repeat' (first|refine zbt ?_|refine zR ?_|fail)
   have hlen:(kbase key).length=n:=by rw [hkk,hn]
   refine zO (a0,c,.row (.slice none 0 0) 5 1 0 []) (λhpos=>?_) ?_ ?_
   ·rcases hsl with h|⟨b1,o1,rfl,hr⟩
    ·exfalso;have:=congrArg List.length h;rw [List.length_map,List.length_nil] at this;omega
    ·exact ⟨b1,o1,rfl,λC=>by rw [hkk];exact Reads.old hr (λh=>h)⟩
   ·dsimp only;rw [hlen];exact Sub.go
   ·exact SubR.go
 rintro ⟨a1,c1,r⟩ hI
 dsimp only at *
 repeat' (first|refine s_t ?_|(refine za (id:=5) ?_;refine zd ?_)|fail)
 have h64:=zd8 key hs32
 have hx64:(kxor (kpad key) by').length=64:=by rw [zd1,h64]
 refine zE (γ:=Nat) (λi=>[(0,.slice a1 (kbase key).length c1),(1,Sy.v8 by'),(5,.slice (some ⟨bm,0,none⟩) 64 64),(7,.int .i64 i)]) (λi=>[.blk bm 5 (((kxor (kpad key) by').take i).map Sy.v8 ++ List.replicate (64 - i) (.int .u8 0)),r]) (λi=>i<=64) (λi=>64 - i) 0 (by decide) ?_ ?_ ?_
 ·exact Sub.go
 ·exact SubR.go
 intro i hi
 by_cases hlt:i < 64
 ·have hgi:=hget i hkb hlt
  have hset: ∀v,((((kxor (kpad key) by').take i).map Sy.v8 ++ List.replicate (64 - i) (Value.int .u8 0)).set i v)=((kxor (kpad key) by').take i).map Sy.v8 ++ v::List.replicate (64 - (i+1)) (Value.int .u8 0):=λv=>by
   rw [show 64 - i=64 - (i+1)+1 from by omega,List.replicate_succ,List.set_append_right _ _ (by simp;omega)]
   simp [hx64,Nat.min_eq_left (Nat.le_of_lt hlt)]
  obtain ⟨C,hC⟩: ∃C,C=((kxor (kpad key) by').take i).map Sy.v8 ++ List.replicate (64 - i) (Value.int .u8 0):=⟨_,rfl⟩
  have hCl:C.length=64:=by rw [hC];simp [hx64];omega
  have hend: ∀x:UInt8,(kxor (kpad key) by')[i]?=some (x ^^^ by')-> ∀v,(C.set i v).set i (Sy.v8 (x ^^^ by'))=((kxor (kpad key) by').take (i+1)).map Sy.v8 ++ List.replicate (64 - (i+1)) (Value.int .u8 0):=λx hx v=>by
   rw [List.set_set,hC,hset,List.take_add_one,hx];simp
  have hend0: ∀x:UInt8,(kxor (kpad key) by')[i]?=some (x ^^^ by')->C.set i (Sy.v8 (x ^^^ by'))=((kxor (kpad key) by').take (i+1)).map Sy.v8 ++ List.replicate (64 - (i+1)) (Value.int .u8 0):=λx hx=>by
   rw [hC,hset,List.take_add_one,hx];simp
  rw [<-hC]
  by_cases hki:i < (kbase key).length
  ·obtain ⟨b1,o1,rfl,hrd⟩:=hI (by omega)
   rw [dif_pos hki] at hgi
   have hxi:((kbase key).map Sy.v8)[i]?=some (.int .u8 (Wd.n8 (kbase key)[i])):=by rw [List.getElem?_map,List.getElem?_eq_getElem hki];rfl
   have he:=hend _ hgi
   generalize (kbase key)[i]=x at *
   have hg2:(C.set i (.int .u8 (Wd.n8 x)))[i]?=some (.int .u8 (Wd.n8 x)):=by rw [List.getElem?_set_self (by omega)]
   repeat' (first|refine s_t ?_|(refine za (id:=6) ?_;refine zb ?_;refine zN ?_)|(refine za (id:=8) ?_;refine zb ?_;refine zb ?_;refine zq ?_;refine zN ?_)|(refine za (id:=9) ?_;refine zb ?_;refine zb ?_;refine zb ?_;refine zb ?_;refine zr ?_;refine yv (zol (h:=hrd _) (hv:=hxi)) (k:=?_);refine zr ?_;refine zB ?_)|(refine za (id:=10) ?_;refine zb ?_;refine zb ?_;refine zb ?_;refine zb ?_;refine zr ?_;refine yv (zw (hv:=hg2)) (k:=?_);refine zb ?_;refine yv (zbw (hr:=Wd.xor8 x by')) (k:=?_);refine zr ?_;refine zB ?_)|(refine za (id:=7) ?_;refine zb ?_;refine zY ?_;refine zd ?_)|fail)
   refine zy (i+1) ?_ ?_ ?_ ?_
   ·show i+1<=64;omega
   ·show 64 - (i+1) < 64 - i;omega
   ·exact Sub.go
   ·(repeat' (first|exact SubR.nil|(apply SubR.same;with_reducible (focus ((repeat (first|exact Rem.here|apply Rem.there));done)))|(apply SubR.blk;(focus ((repeat (first|exact Rem.here|apply Rem.there));done)))|(apply SubR.pick;(focus ((repeat (first|exact Rem.here|apply Rem.there));done)))|rfl))
    exact he _
  ·rw [dif_neg hki] at hgi
   have he:=hend0 _ hgi
   have hg2:C[i]?=some (.int .u8 (Wd.n8 0)):=by rw [hC,List.getElem?_append_right (by simp;omega),List.getElem?_replicate,if_pos (by simp [hx64];omega)];rfl
   repeat' (first|refine s_t ?_|(refine za (id:=6) ?_;refine zb ?_;refine zN ?_)|(refine za (id:=8) ?_;refine zb ?_;refine zb ?_;refine zq ?_;refine zN ?_)|(refine za (id:=10) ?_;refine zb ?_;refine zb ?_;refine zb ?_;refine zb ?_;refine zr ?_;refine yv (zw (hv:=hg2)) (k:=?_);refine zb ?_;refine yv (zbw (hr:=Wd.xor8 0 by')) (k:=?_);refine zr ?_;refine zB ?_)|(refine za (id:=7) ?_;refine zb ?_;refine zY ?_;refine zd ?_)|fail)
   refine zy (i+1) ?_ ?_ ?_ ?_
   ·show i+1<=64;omega
   ·show 64 - (i+1) < 64 - i;omega
   ·exact Sub.go
   ·(repeat' (first|exact SubR.nil|(apply SubR.same;with_reducible (focus ((repeat (first|exact Rem.here|apply Rem.there));done)))|(apply SubR.blk;(focus ((repeat (first|exact Rem.here|apply Rem.there));done)))|(apply SubR.pick;(focus ((repeat (first|exact Rem.here|apply Rem.there));done)))|rfl))
    exact he
 obtain rfl:i=64:=by omega
 repeat' (first|refine s_0 ?_|(refine za (id:=6) ?_;refine zb ?_;refine zN ?_)|(refine za (id:=11) ?_;refine zb ?_;refine zd ?_)|fail)
 have hcells:((kxor (kpad key) by').take 64).map Sy.v8 ++ List.replicate (64 - 64) (Value.int .u8 0)=(kxor (kpad key) by').map Sy.v8:=by rw [List.take_of_length_le (by omega)];simp
 rw [hcells]
 exact zbv (zb6 (n:=64) (s:=1) .here (by simp [hx64]) (by decide)) (ret1 rfl (resTmp rfl) (by exact SubR.go) ⟨_,rfl,rfl⟩)
end Go.Proofs.YtcpjfilcilcekaaGreatDoor
namespace Go.Proofs.YtcpjfilcilcekaaGreatDoor
open Go Go.Sy Go.Sh Go.RowKit
attribute [local irreducible] Sy SyL SyX Sy.Fn callFunc Sh.sum kxor kpad
set_option maxRecDepth 10000
theorem zi3 (a0 a1:Option Addr) (n c m d kb ko kc:Nat) (key l:List UInt8) (w:World) (hn:key.length=n) (hb:n < 1000000000) (hc:n<=c) (hsl:SlA w a0 (key.map Sy.v8)) (hnil:a0=none->c=0)
  (hm:l.length=m) (hmb:m < 1000000000) (hsl1:SlA w a1 (l.map Sy.v8)) (hnil1:a1=none->d=0) (hR:RTab w No kb ko kc):
  Sy.Fn Tryz.prog 38 [.slice a0 n c,.slice a1 m d] w No (λv R=>∃b,v= .slice (some ⟨b,0,none⟩) 32 32/\R= [.blk b 66 ((hmac key l).map Sy.v8)]):=by
 refine zk Tryz.func38 rfl Tryz.ntmps38 (by simp) Holds.nil ?_
 have h64:(kxor (kpad key) 54).length=64:=by rw [zd1,zd8 key (zaZ key)]
 have h64':(kxor (kpad key) 92).length=64:=by rw [zd1,zd8 key (zaZ key)]
 obtain ⟨x,hx⟩: ∃x,Sh.sum (kxor (kpad key) 54 ++ l)=x:=⟨_,rfl⟩
 have hx32:x.length=32:=by rw [<-hx];exact zaZ _
 obtain ⟨y,hy⟩: ∃y,Sh.sum (kxor (kpad key) 92 ++ x)=y:=⟨_,rfl⟩
 have hy32:y.length=32:=by rw [<-hy];exact zaZ _
 have hmac':hmac key l=y:=by rw [<-hy,<-hx];rfl
 rw [hmac']
 have hcat:(kxor (kpad key) 54).map Sy.v8 ++ l.map Sy.v8=(kxor (kpad key) 54 ++ l).map Sy.v8:=List.map_append.symm
 have hlen:(kxor (kpad key) 54 ++ l).length=64+m:=by rw [List.length_append,h64,hm]
 have hcat':(kxor (kpad key) 92).map Sy.v8 ++ x.map Sy.v8=(kxor (kpad key) 92 ++ x).map Sy.v8:=List.map_append.symm
 have hlen':(kxor (kpad key) 92 ++ x).length=96:=by rw [List.length_append,h64',hx32]
 repeat' (first|refine s_0 ?_|(refine za (id:=0) ?_;refine zd ?_)|(refine za (id:=1) ?_;refine zb ?_;(refine ys (zn (hc:=λw' X hk hh=>zhX a0 n c kb ko kc key 54 w' hn (by omega) hc (hsl.keep hk (λ_ _ h=>h)) hnil (hR.no hk))) (k:=?_);rintro _ _ ⟨R,rfl,bk,rfl,rfl⟩);refine zb ?_;(refine ys (zaj (k:=64) (m:=m) (hn:=by rw [List.length_map,Nat.mul_one,hm]) (hkm:=rfl) (hys:=hcat)) (k:=?_);rintro _ _ ⟨rfl,aN,cN,rfl⟩);refine yv (zf (hc:=λw' X hk hh=>hx ▸ zd2 _ (64+m) _ kb ko kc (kxor (kpad key) 54 ++ l) w' hlen (by omega) (Rd.row Has.here w' X hk hh) (λh=>(Row.nil hh Has.here h).1) (hR.no hk).cell (hR.no hk).row)) (k:=?_);(refine zi ?_;intro _);refine zB ?_)|fail)
 rename_i b5
 refine zah (id:=2) mixed ?_
 (refine zab 6 6 [[],[0],[],[0,1,2],[0,1,2,3],[],[0,1,2,3,4,5]] [[],[],[],[1],[],[],[]] none rfl ?_ ?_ ?_;kernel_rfl;kernel_rfl;refine zS ?_;try refine z5 (h:=?_))
 refine z7 (R:=λ_ v Nw=>∃b,v= .slice (some ⟨b,0,none⟩) 64 64/\Nw= [.row v 5 1 64 ((kxor (kpad key) 92).map Sy.v8)]) (λ_ _ _=>rfl) (λρ hρ=>?_) (h:=?_)
 ·refine OpT.mono (zn (hc:=λw' X hk hh=>zhX a0 n c kb ko kc key 92 w' hn (by omega) hc (hsl.keep hk (λ_ _ h=>h)) hnil (hR.no hk))) λv L' h=>?_
  obtain ⟨R,rfl,h⟩:=h
  exact ⟨R,rfl,h⟩
 (skip;refine zkG ?_;try refine z5 (h:=?_))
 refine z7 (R:=λ_=>RowOf 5 96 ((kxor (kpad key) 92 ++ x).map Sy.v8)) (λ_ _ _=>rfl) (λρ hρ=>?_) (h:=?_)
 ·obtain ⟨⟨b,e1,e2⟩,-⟩:=hρ
  rw [e1] at e2
  refine OpT.mono (zaj (k:=64) (m:=32) (v:=.slice (some ⟨b,0,none⟩) 64 64) (hs:=by show some (ρ 1).1=_;rw [e1]) (hL:=by show Rem ((ρ 1).2 ++ _) _ _;rw [e2];exact Rem.here) (hr:=by show Rd w No ((ρ 1).2 ++ _) _ _;rw [e2];exact Rd.of (Reads.blk (Has.there Has.here) Seg.all)) (hn:=by rw [List.length_map,Nat.mul_one,hx32]) (hkm:=rfl) (hys:=hcat')) λv L' h=>?_
  obtain ⟨rfl,a,c,rfl⟩:=h
  exact ⟨_,rfl,a,c,rfl,rfl⟩
 refine dcE (u:=.agg (y.map Sy.v8).toArray) (λρ hρ=>?_) (k:=?_)
 ·obtain ⟨⟨a,c,e1,e2⟩,-⟩:=hρ
  rw [e1] at e2
  exact zf (vs:=[.slice a 96 c]) (ha:=by show (some [(ρ 3).1]:Option (List Value))=_;rw [e1]) (hc:=λw' X hk hh=>hy ▸ zd2 a 96 c kb ko kc (kxor (kpad key) 92 ++ x) w' hlen' (by omega) (Rd.row (by show Has ((ρ 3).2 ++ _) _;rw [e2];exact Has.here) w' X hk hh) (λh=>(Row.nil hh (by show Has ((ρ 3).2 ++ _ ++ _) _;rw [e2];exact Has.here) h).1) (hR.no hk).cell (hR.no hk).row)
 refine z7 (R:=λ_ v Nw=>∃b,v= .pointer (some ⟨b,0,none⟩)/\Nw= [.blk b 66 (List.replicate 32 (.int .u8 0))]) (λ_ _ _=>rfl) (λρ hρ=>OpT.mono zaX λv L' h=>?_) (h:=?_)
 ·obtain ⟨b,rfl,rfl⟩:=h
  exact ⟨[_],rfl,b,rfl,rfl⟩
 refine zaE (h:=?_)
 rintro ρ ⟨⟨b6,f1,f2⟩,-⟩
 (refine zag [[],[0],[],[0,1,2],[0,1,2,3],[],[0,1,2,3,4,5]] ?_ ?_;kernel_rfl)
 refine SyL.weaken (fr':=[(16,.agg (y.map Sy.v8).toArray),(6,.pointer (some ⟨b6,0,none⟩))]) (L':=[.blk b6 66 (List.replicate 32 (.int .u8 0))]) ?_ ?_ ?_
 ·repeat' (first|refine s_0 ?_|(refine za (id:=3) ?_;refine zap ?_;refine zd ?_)|(refine zC ?_;first|refine zB ?_|fail)|fail)
  exact ret1 rfl (resTmp rfl) (by exact SubR.go) ⟨_,rfl,rfl⟩
 ·(repeat' (first|exact Sub.nil|refine Sub.cons rfl ?_ ?_|rfl))
  exact f1
 ·show SubR _ ((ρ 5).2 ++ _)
  rw [f2]
  exact SubR.go
end Go.Proofs.YtcpjfilcilcekaaGreatDoor
end
section
namespace Go.Sy
open Go
theorem zlV {N:Nat}{w0:World}{M:Nat->Prop}{ds:List Deferred}{L L1:List Res}{a:Option Addr}{E s n n' c:Nat}{xs:List Value}(hr:Rem L (.row (.slice a n c) E s n xs) L1) (hn:n'<=n):Conv N w0 M ds L (.row (.slice a n' c) E s n' (xs.take (n'*s))::L1):=by
 intro g w0' w X hs
 have hp:=hs.perm (hr.perm.append_right X)
 have hb:w.ownsRow 0 E s (.slice a n c) n xs:=hp.hold.all _ List.mem_cons_self
 have hown: ∀b,(Value.slice a n' c).ownBlock=some b->(Value.slice a n c).ownBlock=some b:=λb hb=>by
  cases a with
  |none=>cases hb
  |some a=>exact hb
 refine ⟨hp.size,hp.agr,hp.keep,hp.hold.tail.cons ?_ (λr hr' b' hb'=>?_) (λb' hb'=>hp.hold.mine _ List.mem_cons_self b' (hown b' hb'))⟩
 ·obtain ⟨h1,⟨h2,h3⟩|⟨g',cap,cur,h2,h3,h4,h5,h6,h7,h8⟩⟩:=hb
  ·subst h3
   obtain rfl:n'=0:=by omega
   cases h2
   exact ⟨by simp,.inl ⟨rfl,rfl⟩⟩
  ·cases h2
   have hm:n'*s<=n*s:=Nat.mul_le_mul_right s hn
   exact ⟨by rw [List.length_take];omega,.inr ⟨g',c,cur,rfl,h3,h4,by omega,h6,h7,by rw [<-h8,List.take_take,Nat.min_eq_left hm]⟩⟩
 ·exact (List.pairwise_cons.1 hp.hold.apart).1 r hr' b' (hown b' hb')
end Go.Sy
namespace Go.Proofs.YtcpjfilcilcekaaGreatDoor
open Go Go.Sy Go.Sh Go.RowKit
attribute [local irreducible] Sy SyL SyX Sy.Fn callFunc Sh.sum kxor kpad kbase macA HashIs MacIs hmac
set_option maxRecDepth 10000
theorem zku (v:Nat) (w:World) (hv:v < 4294967296):Sy.Fn Tryz.prog 124 [.int .i64 v] w No (λr R=>∃b,r= .slice (some ⟨b,0,none⟩) 4 4/\R= [.blk b 5 ((four v).map Sy.v8)]):=by
 refine zk Tryz.func124 rfl Tryz.ntmps124 (by simp) Holds.nil ?_
 repeat' (first|refine s_0 ?_|(refine za (id:=0) ?_;refine zd ?_)|(refine za (id:=1) ?_;refine zb ?_;refine yv (zat (hr:=shrI v 24 _ (by decide))) (k:=?_);refine yv (zZ (hr:=zbN _)) (k:=?_);refine zb ?_;refine yv (zat (hr:=shrI v 16 _ (by decide))) (k:=?_);refine yv (zZ (hr:=zbN _)) (k:=?_);refine zb ?_;refine yv (zat (hr:=shrI v 8 _ (by decide))) (k:=?_);refine yv (zZ (hr:=zbN _)) (k:=?_);refine zb ?_;refine yv (zZ (hr:=zbN _)) (k:=?_);(refine ys zt (k:=?_);rintro _ _ ⟨_,rfl,rfl⟩);refine zd ?_)|fail)
 exact ret1 rfl (resTmp rfl) (by exact SubR.go) ⟨_,rfl,rfl⟩
theorem zmb (a0 a1 a2:Option Addr) (n0 c0 n1 c1 n2 c2 n i kb ko kc:Nat) (key label ctx:List UInt8) (w:World) (hl0:key.length=n0) (hc0:n0<=c0) (hs0:SlA w a0 (key.map Sy.v8)) (hz0:a0=none->c0=0) (hl1:label.length=n1) (hs1:SlA w a1 (label.map Sy.v8)) (hz1:a1=none->c1=0)
  (hl2:ctx.length=n2) (hs2:SlA w a2 (ctx.map Sy.v8)) (hz2:a2=none->c2=0) (hb0:n0<=4096) (hb1:n1<=4096) (hb2:n2<=4096) (hn:n<=100000) (hi:i<=100000) (hR:RTab w No kb ko kc):
  Sy.Fn Tryz.prog 85 [.slice a0 n0 c0,.slice a1 n1 c1,.slice a2 n2 c2,.int .i64 n,.int .i64 i] w No (λv R=>∃b,v= .slice (some ⟨b,0,none⟩) 32 32/\R= [.blk b 66 ((dblock key label ctx n i).map Sy.v8)]):=by
 refine zk Tryz.func85 rfl Tryz.ntmps85 (by simp) Holds.nil ?_
 have hmul:IntKind.i64.wrap (8*(n:Int))=((8*n:Nat):Int):=by rw [IntWalk.i64_in _ (by omega)];omega
 obtain ⟨t1,ht1⟩: ∃t,four i ++ label=t:=⟨_,rfl⟩
 have hy1:(four i).map Sy.v8 ++ label.map Sy.v8=t1.map Sy.v8:=by rw [<-ht1,List.map_append]
 have hl1':t1.length=4+n1:=by rw [<-ht1,List.length_append,zcr,hl1]
 obtain ⟨t2,ht2⟩: ∃t,t1 ++ [0]=t:=⟨_,rfl⟩
 have hy2:t1.map Sy.v8 ++ [Value.int .u8 0]=t2.map Sy.v8:=by rw [<-ht2,List.map_append];rfl
 have hl2':t2.length=4+n1+1:=by rw [<-ht2,List.length_append,hl1'];rfl
 obtain ⟨t3,ht3⟩: ∃t,t2 ++ ctx=t:=⟨_,rfl⟩
 have hy3:t2.map Sy.v8 ++ ctx.map Sy.v8=t3.map Sy.v8:=by rw [<-ht3,List.map_append]
 have hl3':t3.length=4+n1+1+n2:=by rw [<-ht3,List.length_append,hl2',hl2]
 obtain ⟨t4,ht4⟩: ∃t,t3 ++ four (8*n)=t:=⟨_,rfl⟩
 have hy4:t3.map Sy.v8 ++ (four (8*n)).map Sy.v8=t4.map Sy.v8:=by rw [<-ht4,List.map_append]
 have hl4':t4.length=4+n1+1+n2+4:=by rw [<-ht4,List.length_append,hl3',zcr]
 have hd:dblock key label ctx n i=hmac key t4:=by rw [<-ht4,<-ht3,<-ht2,<-ht1];rfl
 rw [hd]
 repeat' (first|refine s_0 ?_|(refine za (id:=0) ?_;refine zd ?_)|(refine za (id:=1) ?_;refine zb ?_;(refine ys (zn (hc:=λw' X hk hh=>zku i w' (by omega))) (k:=?_);rintro _ _ ⟨R,rfl,b1,rfl,rfl⟩);refine zb ?_;(refine ys (zba (b:=b1) (k:=4) (m:=n1) (xs:=(four i).map Sy.v8) (hxn:=rfl) (hn:=by rw [List.length_map,Nat.mul_one,hl1]) (hnil:=hz1) (hkm:=rfl) (hys:=hy1)) (k:=?_);rintro _ _ ⟨rfl,aA,cA,rfl⟩);refine zd ?_)|(refine zC ?_;first|refine zb ?_|fail)|refine za ?_|fail)
 repeat' (first|refine s_0 ?_|(refine zC ?_;first|(refine ys (zaj (k:=4+n1) (m:=1) (hkm:=rfl) (hys:=hy2)) (k:=?_);rintro _ _ ⟨rfl,aB,cB,rfl⟩)|(refine ys (zaj (k:=4+n1+1) (m:=n2) (hn:=by rw [List.length_map,Nat.mul_one,hl2]) (hnil:=hz2) (hkm:=rfl) (hys:=hy3)) (k:=?_);rintro _ _ ⟨rfl,aC,cC,rfl⟩)|refine zd ?_|refine zb ?_|(refine ys zt (k:=?_);rintro _ _ ⟨_,rfl,rfl⟩)|fail)|refine za ?_|fail)
 repeat' (first|refine s_0 ?_|(refine zC ?_;first|refine yv (zan (hr:=hmul)) (k:=?_)|(refine ys (zn (hc:=λw' X hk hh=>zku (8*n) w' (by omega))) (k:=?_);rintro _ _ ⟨R,rfl,b2,rfl,rfl⟩)|(refine ys (zaj (k:=4+n1+1+n2) (m:=4) (hn:=rfl) (hkm:=rfl) (hys:=hy4)) (k:=?_);rintro _ _ ⟨rfl,aD,cD,rfl⟩)|(refine ys (zn (hc:=λw' X hk hh=>zi3 a0 _ n0 c0 (4+n1+1+n2+4) _ kb ko kc key t4 w' hl0 (by omega) hc0 (hs0.keep hk (λ_ _ h=>h)) hz0 hl4' (by omega) (Rd.row Has.here w' X hk hh) (λh=>(Row.nil hh Has.here h).1) (hR.no hk))) (k:=?_);rintro _ _ ⟨R,rfl,b3,rfl,rfl⟩)|refine zd ?_|fail)|fail)
 exact ret1 rfl (resTmp rfl) (by exact SubR.go) ⟨_,rfl,rfl⟩
theorem zli (a0 a1 a2:Option Addr) (n0 c0 n1 c1 n2 c2 n kb ko kc:Nat) (key label ctx:List UInt8) (w:World) (h0:InOk w a0 n0 c0 key) (h1:InOk w a1 n1 c1 label) (h2:InOk w a2 n2 c2 ctx) (hb0:n0<=4096) (hb1:n1<=4096) (hb2:n2<=4096) (hn:n<=1024) (hR:RTab w No kb ko kc):
  Sy.Fn Tryz.prog 40 [.slice a0 n0 c0,.slice a1 n1 c1,.slice a2 n2 c2,.int .i64 n] w No (λv R=>∃a k,v= .slice a n k/\R= [.row (.slice a n k) 5 1 n ((firstN (dblock key label ctx n) n).map Sy.v8)]):=by
 refine zk Tryz.func40 rfl Tryz.ntmps40 (by simp) Holds.nil ?_
 have h32: ∀i,(dblock key label ctx n i).length=32:=λi=>zbJ _ _
 have hbl: ∀(w':World) (i:Nat),Keep No w w'->i<=100000->Sy.Fn Tryz.prog 85 [.slice a0 n0 c0,.slice a1 n1 c1,.slice a2 n2 c2,.int .i64 n,.int .i64 i] w' No (λv R=>∃b,v= .slice (some ⟨b,0,none⟩) 32 32/\R= [.blk b 66 ((dblock key label ctx n i).map Sy.v8)]):=λw' i hk hi=>
  zmb a0 a1 a2 n0 c0 n1 c1 n2 c2 n i kb ko kc key label ctx w' h0.len h0.cap (h0.keep hk).sla h0.nil h1.len (h1.keep hk).sla h1.nil h2.len (h2.keep hk).sla h2.nil hb0 hb1 hb2 (by omega) hi (hR.no hk)
 generalize dblock key label ctx n=f at *
 have hrl:=zc1 f h32
 repeat' (first|refine s_t ?_|(refine za (id:=0) ?_;refine zd ?_)|(refine za (id:=1) ?_;refine zd ?_)|(refine za (id:=2) ?_;refine zd ?_)|fail)
 refine zbh (zaU 5 1) ?_
 refine zE (γ:=Nat×Option Addr×Nat) (λg=>[(0,.slice a0 n0 c0),(1,.slice a1 n1 c1),(2,.slice a2 n2 c2),(3,.int .i64 n),(9,.slice g.2.1 (32*g.1) g.2.2),(10,.int .i64 ((g.1+1:Nat):Int))]) (λg=>[.row (.slice g.2.1 (32*g.1) g.2.2) 5 1 (32*g.1) ((rows f g.1).map Sy.v8)])
  (λg=>g.1<=1024) (λg=>1024 - g.1) (0,none,0) (Nat.zero_le _) ?_ ?_ ?_
 ·exact Sub.go
 ·exact SubR.go
 rintro ⟨i,a,c⟩ hi
 dsimp only at hi ⊢
 by_cases hlt:32*i < n
 ·have hf:=h32 (i+1)
  have hys:(rows f i).map Sy.v8 ++ (f (i+1)).map Sy.v8=(rows f (i+1)).map Sy.v8:=by rw [zed,List.map_append]
  have hkm:32*i+32=32*(i+1):=by omega
  have hbl:=λw' hk=>hbl w' (i+1) hk (by omega)
  generalize f (i+1)=x at *
  repeat' (first|refine s_t ?_|(refine za (id:=3) ?_;refine zb ?_;refine zq ?_;refine zb ?_;refine zN ?_)|(refine za (id:=5) ?_;refine zb ?_;refine zb ?_;refine zb ?_;refine zb ?_;refine zb ?_;refine zb ?_;(refine ys (zn (hc:=λw' X hk hh=>hbl w' hk)) (k:=?_);rintro _ _ ⟨R,rfl,bB,rfl,rfl⟩);(refine ys (zaj (k:=32*i) (m:=32) (hn:=by rw [List.length_map,hf]) (hkm:=hkm) (hys:=hys)) (k:=?_);rintro _ _ ⟨rfl,aN,cN,rfl⟩);refine zd ?_)|(refine za (id:=4) ?_;refine zb ?_;refine zY ?_;refine zd ?_)|fail)
  refine zy (i+1,aN,cN) (by show i+1<=1024;omega) ?_ ?_ ?_
  ·show 1024 - (i+1) < 1024 - i;omega
  ·exact Sub.go
  ·exact SubR.go
 have hge:n<=32*i:=by omega
 have hfn:=ziC f h32 n i hge
 have hrl':=hrl i
 have htk:((rows f i).map Sy.v8).take (n*1)=(firstN f n).map Sy.v8:=by rw [Nat.mul_one,<-List.map_take,hfn]
 refine zci (λw' hh=>(Row.cap hh Has.here:32*i<=c)) λhcap=>?_
 refine zbh (zlV (n':=n) Rem.here hge) ?_
 rw [htk]
 repeat' (first|refine s_0 ?_|(refine za (id:=3) ?_;refine zb ?_;refine zq ?_;refine zb ?_;refine zN ?_)|(refine za (id:=6) ?_;refine zb ?_;refine zb ?_;refine yv (zbp (l:=0) (h:=n) (n':=n)) (k:=?_);refine zd ?_)|fail)
 exact ret1 rfl (resTmp rfl) (by exact SubR.go) ⟨_,_,rfl,rfl⟩
end Go.Proofs.YtcpjfilcilcekaaGreatDoor
end
section
namespace Go.Sy
open Go
section
variable {P:Program}{ro:Option Nat}{N:Nat}{w0:World}{M:Nat->Prop}{ds:List Deferred}{fr:Fr}{L:List Res}
theorem zhP {γ:Type}{Q:Exit->Act->World->Prop}(f:γ->Fr) (R:γ->List Res) (I:γ->Prop) {x y z:Code}(h:Sy P ro N w0 M ds x (Exit.then (CK P ro y (Exit.then (CutK N w0 M ds f R I) Q)) (Exit.then (CutK N w0 M ds f R I) Q)) fr L)
  (h2: ∀g,I g->Sy P ro N w0 M ds z Q (f g) (R g)):Sy P ro N w0 M ds x (Exit.then (CK P ro y (Exit.then (CK P ro z Q) Q)) (Exit.then (CK P ro z Q) Q)) fr L:=by
 have key: ∀(e:Exit) (a:Act) (w:World),Exit.then (CutK N w0 M ds f R I) Q e a w->Exit.then (CK P ro z Q) Q e a w:=λe a' w' hq=>by
  cases e with
  |normal=>obtain ⟨g,hI,hst⟩:=hq;exact h2 g hI a' w' hst
  |exit id=>exact hq
  |goto l=>exact hq
  |ret=>exact hq
  |panic c=>exact hq
  |outgrown=>exact hq
 exact λa w hs=>wpIn_mono (h a w hs) (λe a' w' hq=>by
  cases e with
  |normal=>exact wpIn_mono hq (key)
  |exit id=>exact hq
  |goto l=>exact hq
  |ret=>exact hq
  |panic c=>exact hq
  |outgrown=>exact hq)
end
end Go.Sy
end
