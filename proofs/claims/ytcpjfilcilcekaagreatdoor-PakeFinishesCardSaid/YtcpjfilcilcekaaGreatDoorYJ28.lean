/- The keyed hash, in plain lists. -/
import Derived.Test.YtcpjfilcilcekaaGreatDoorYJ21
import Derived.Test.YtcpjfilcilcekaaGreatDoorYJ27
import Derived.Test.YtcpjfilcilcekaaGreatDoorYJ25
import Derived.Test.YtcpjfilcilcekaaGreatDoorYJ03
import Derived.Lib.ConvBytes
set_option linter.all false
section
namespace Go.Sh
open Go
def kbase (key:List UInt8):List UInt8:=if 64 < key.length then sum key else key
def kpad (key:List UInt8):List UInt8:=kbase key ++ List.replicate (64 - (kbase key).length) 0
def kxor (k:List UInt8) (m:UInt8):List UInt8:=k.map (· ^^^ m)
def hmac (key text:List UInt8):List UInt8:=sum (kxor (kpad key) 92 ++ sum (kxor (kpad key) 54 ++ text))
theorem zjF (key:List UInt8) (h:(sum key).length=32):(kbase key).length<=64:=by unfold kbase;split <;> omega
theorem zd8 (key:List UInt8) (h:(sum key).length=32):(kpad key).length=64:=by
 have:=zjF key h
 unfold kpad;rw [List.length_append,List.length_replicate];omega
theorem zd1 (k:List UInt8) (m:UInt8):(kxor k m).length=k.length:=List.length_map _
end Go.Sh
namespace Go.Sh
open Go
def four (v:Nat):List UInt8:=[UInt8.ofNat (v / 16777216),UInt8.ofNat (v / 65536),UInt8.ofNat (v / 256),UInt8.ofNat v]
theorem zcr (v:Nat):(four v).length=4:=rfl
def dblock (key label ctx:List UInt8) (n i:Nat):List UInt8:=hmac key (four i ++ label ++ [0] ++ ctx ++ four (8*n))
def rows (f:Nat->List UInt8) (k:Nat):List UInt8:=(List.range k).flatMap λi=>f (i+1)
theorem zed (f:Nat->List UInt8) (k:Nat):rows f (k+1)=rows f k ++ f (k+1):=by
 unfold rows;rw [List.range_succ,List.flatMap_append];simp
theorem zc1 (f:Nat->List UInt8) (h: ∀i,(f i).length=32): ∀k,(rows f k).length=32*k
 |0=>rfl
 |k+1=>by rw [zed,List.length_append,zc1 f h k,h];omega
def firstN (f:Nat->List UInt8) (n:Nat):List UInt8:=(rows f ((n+31) / 32)).take n
theorem zdJ (f:Nat->List UInt8) (h: ∀i,(f i).length=32) (n:Nat):(firstN f n).length=n:=by
 unfold firstN;rw [List.length_take,zc1 f h];omega
theorem zgx (f:Nat->List UInt8) (h: ∀i,(f i).length=32) (k:Nat): ∀j,(rows f (k+j)).take (32*k)=rows f k
 |0=>by rw [Nat.add_zero,List.take_of_length_le];rw [zc1 f h];exact Nat.le_refl _
 |j+1=>by
  rw [<-Nat.add_assoc,zed,List.take_append_of_le_length (by rw [zc1 f h];omega)]
  exact zgx f h k j
theorem ziC (f:Nat->List UInt8) (h: ∀i,(f i).length=32) (n k:Nat) (hk:n<=32*k):(rows f k).take n=firstN f n:=by
 obtain ⟨j,rfl⟩: ∃j,k=(n+31) / 32+j:=⟨k - (n+31) / 32,by omega⟩
 unfold firstN
 rw [<-zgx f h ((n+31) / 32) j,List.take_take,Nat.min_eq_left (by omega)]
end Go.Sh
end
section
namespace Go.Nt
open Go Go.Sh
def pkLab:Bool->List UInt8
 |true=>[119,97,116,99,104,119,111,114,100,32,112,97,107,101,32,99,108,105,101,110,116]
 |false=>[119,97,116,99,104,119,111,114,100,32,112,97,107,101,32,115,101,114,118,101,114]
def pkH (i:Nat) (s:Bool):Nat:=bev 256 (bn (Sh.sum (pkLab s ++ [UInt8.ofNat i,0])))
def pkPt (i:Nat) (s:Bool):Nat:=pkH i s*pkH i s % gP i
def pkLabS:List UInt8:=[119,97,116,99,104,119,111,114,100,32,112,97,107,101,32,115,101,99,114,101,116]
def pkLabW:List UInt8:=[115,99,97,108,97,114]
def pkW (i:Nat) (secret:List UInt8):Nat:=bev 256 (bn (firstN (dblock (hmac pkLabS secret) (pkLabW ++ [UInt8.ofNat i]) [] 32) 32)) % gQ i
def pkX (i:Nat) (priv:List UInt8):Nat:=if bev 256 (bn priv) % gQ i=0 then 1 else bev 256 (bn priv) % gQ i
def pkOwn (s:Bool) (i w x:Nat):Nat:=(4 ^ x % gP i)*(pkPt i s ^ w % gP i) % gP i
def pkSh (s:Bool) (i w x y:Nat):Nat:=(y*(inv (gP i) (pkPt i (!s) ^ w % gP i)).2 % gP i) ^ x % gP i
def pkFr (l:List UInt8):List UInt8:=four l.length ++ l
def pkDig (i:Nat) (ctx client server shared scalar:List UInt8):List UInt8:=Sh.sum (pkFr ctx ++ (pkFr [UInt8.ofNat i] ++ (pkFr client ++ (pkFr server ++ (pkFr shared ++ pkFr scalar)))))
def pkDer (dig label:List UInt8):List UInt8:=firstN (dblock dig label [] 32) 32
def pkKey:List UInt8:=[107,101,121]
def pkName:Bool->List UInt8
 |true=>[99,108,105,101,110,116]
 |false=>[115,101,114,118,101,114]
theorem zq2 (s:Bool):1 < pkPt 1 s/\pmod (gP 1) (gE 1) (pkPt 1 s) (gQ 1)=1:=by cases s <;> decide +kernel
theorem zqK (s:Bool):1 < pkPt 2 s/\pmod (gP 2) (gE 2) (pkPt 2 s) (gQ 2)=1:=by cases s <;> decide +kernel
theorem zqy (s:Bool):1 < pkPt 3 s/\pmod (gP 3) (gE 3) (pkPt 3 s) (gQ 3)=1:=by cases s <;> decide +kernel
theorem zqB (s:Bool):1 < pkPt 4 s/\pmod (gP 4) (gE 4) (pkPt 4 s) (gQ 4)=1:=by cases s <;> decide +kernel
theorem zdN (i:Nat) (s:Bool) (h0:1<=i) (h5:i<=4):1 < pkPt i s/\mem i (pkPt i s):=by
 have h:=zbx (p:=λi=>1 < pkPt i s/\pmod (gP i) (gE i) (pkPt i s) (gQ i)=1) (zq2 s) (zqK s) (zqy s) (zqB s) i h0 h5
 rw [zf3 (gP i) (gE i) _ (gQ i) (zlB i h0 h5)] at h
 exact ⟨h.1,by omega,Nat.mod_lt _ (Nat.lt_trans Nat.zero_lt_one (zav i h0 h5)),h.2⟩
theorem zeP {i:Nat}(s:Bool) (h0:1<=i) (h5:i<=4) (w x x':Nat):pkSh s i w x (pkOwn (!s) i w x')=4 ^ (x'*x) % gP i:=by
 unfold pkSh pkOwn
 have hm:=(zdN i (!s) h0 h5).2
 generalize pkPt i (!s)=n at *
 have h1:Cg (gP i) ((n ^ w % gP i) ^ gQ i) 1:=by
  refine ((zbG _ _).pow _).trans ?_
  have:=(zd4 h0 h5 hm.2.2).pow w
  rwa [Nat.one_pow,<-Nat.pow_mul,Nat.mul_comm,Nat.pow_mul] at this
 have hg:=zi9 (Nat.lt_of_lt_of_le (by decide) (zaF i h0 h5)) h1
 obtain ⟨i1,i2⟩:=zgY (gP i) (n ^ w % gP i) (Nat.lt_trans Nat.zero_lt_one (zav i h0 h5))
 rw [i1,hg] at i2
 generalize (inv (gP i) (n ^ w % gP i)).2=v at *
 generalize n ^ w % gP i=u at *
 have h2:Cg (gP i) (4 ^ x' % gP i*u % gP i*v % gP i) (4 ^ x'):=by
  refine (zbG _ _).trans (((zbG _ _).mul (Cg.refl _ v)).trans ?_)
  rw [Nat.mul_assoc,Nat.mul_comm u v]
  have:=(zbG (gP i) (4 ^ x')).mul i2
  rwa [Nat.mul_one] at this
 rw [Nat.pow_mul]
 exact (h2.pow x).mod
theorem zqu {i:Nat}(h0:1<=i) (h5:i<=4) (w x x':Nat):pkSh true i w x (pkOwn false i w x')=pkSh false i w x' (pkOwn true i w x):=by
 have h1:=zeP true h0 h5 w x x'
 have h2:=zeP false h0 h5 w x' x
 rw [show (!true)=false from rfl] at h1
 rw [show (!false)=true from rfl] at h2
 rw [h1,h2,Nat.mul_comm]
def pkSec:List UInt8:=[115,101,99,114,101,116]
def pkFill (b:UInt8):List UInt8:=List.replicate 32 b
def pw (i b e:Nat):Nat:=pmod (gP i) (gE i) b e
theorem ziU {i b e:Nat}(h:e < 2 ^ gE i):pw i b e=b ^ e % gP i:=zf3 _ _ _ _ h
def fx (l x:Nat):List UInt8:=((dg 256 l x).reverse).map UInt8.ofNat
def exW:Nat:=pkW 3 pkSec
def exC:Nat:=(pw 3 4 (pkX 3 (pkFill 3)))*(pw 3 (pkPt 3 true) exW) % gP 3
def exS:Nat:=(pw 3 4 (pkX 3 (pkFill 5)))*(pw 3 (pkPt 3 false) exW) % gP 3
def exSh:Nat:=pw 3 (pw 3 4 (pkX 3 (pkFill 5))) (pkX 3 (pkFill 3))
def exD:List UInt8:=pkDig 3 [] (fx 4 exC) (fx 4 exS) (fx 4 exSh) (fx 4 exW)
theorem zpb:exC≠1/\exS≠1:=by decide +kernel
theorem zpy:pkDer exD (pkName true)≠pkDer exD (pkName false):=by decide +kernel
end Go.Nt
namespace Go.Proofs.YtcpjfilcilcekaaGreatDoor
open Go Go.Nt
theorem zgX {l x:Nat}(h:nd 256 x<=l):fixB l x=fx l x:=by
 unfold fixB byt be cd fx
 obtain ⟨k,rfl⟩: ∃k,l=nd 256 x+k:=⟨l - nd 256 x,by omega⟩
 rw [zeh,Nat.div_eq_of_lt (zae 256 x (by decide)),zc4,List.reverse_append,List.reverse_replicate,List.map_append,List.map_replicate,Nat.add_sub_cancel_left]
 rfl
end Go.Proofs.YtcpjfilcilcekaaGreatDoor
end
section
namespace Go.Sh
open Go Go.Wd Go.RowKit Go.Sy
def hcells (s:List UInt32) (r:List UInt8) (N:Nat):List Value:=s.map Sy.v32 ++ (r.map Sy.v8 ++ [.int .i64 N])
def HashIs (l:List UInt8) (C:List Value):Prop:=∃(s:List UInt32) (r:List UInt8),C=hcells s r l.length/\s.length=8/\r.length=64/\(l≠[]->s=fold h0 (whole (l.length / 64) l))/\r.take (l.length % 64)=l.drop (64*(l.length / 64))
section
variable {s s':List UInt32}{r b:List UInt8}{N N':Nat}
theorem zbl (hs:s.length=8) (hr:r.length=64):(hcells s r N).length=73:=by simp [hcells,hs,hr]
theorem ze5 (hs:s.length=8) (hr:r.length=64):(hcells s r N)[72]?=some (.int .i64 N):=by
 unfold hcells;rw [List.getElem?_append_right (by simp [hs]),List.getElem?_append_right (by simp [hs,hr])];simp [hs,hr]
theorem zgt (hs:s.length=8) (hr:r.length=64):SetAt (hcells s r N) 72 (.int .i64 N') (hcells s r N'):=by
 refine ⟨by rw [zbl hs hr];omega,?_⟩
 unfold hcells;rw [List.set_append_right _ _ (by simp [hs]),List.set_append_right _ _ (by simp [hs,hr])];simp [hs,hr]
theorem zeS:Seg (hcells s r N) 0 (s.map Sy.v32):=λj v h=>by
 have hj:j < (s.map Sy.v32).length:=(List.getElem?_eq_some_iff.1 h).1
 unfold hcells;rw [Nat.zero_add,List.getElem?_append_left hj];exact h
theorem zev (hs:s.length=8):Seg (hcells s r N) 8 (r.map Sy.v8):=λj v h=>by
 have hj:j < (r.map Sy.v8).length:=(List.getElem?_eq_some_iff.1 h).1
 unfold hcells;rw [List.getElem?_append_right (by simp [hs]),List.length_map,hs,Nat.add_sub_cancel_left,List.getElem?_append_left hj];exact h
theorem zer (hs:s.length=8) (hs':s'.length=8):setSeg (hcells s r N) 0 (s'.map Sy.v32)=hcells s' r N:=by
 rw [setSeg0];unfold hcells;rw [List.length_map,hs',List.drop_left' (by simp [hs])]
theorem zdp {u:Nat}(hs:s.length=8) (hr:r.length=64) (hb:u+b.length<=64):setSeg (hcells s r N) (8+u) (b.map Sy.v8)=hcells s (r.take u ++ b ++ r.drop (u+b.length)) N:=by
 unfold setSeg hcells
 rw [List.length_map]
 have e1:List.take (8+u) (s.map Sy.v32 ++ (r.map Sy.v8 ++ [.int .i64 N]))=s.map Sy.v32 ++ (r.take u).map Sy.v8:=by
  rw [List.take_append,List.take_of_length_le (by simp [hs]),List.length_map,hs,Nat.add_sub_cancel_left,List.take_append_of_le_length (by simp [hr];omega),List.map_take]
 have e2:List.drop (8+u+b.length) (s.map Sy.v32 ++ (r.map Sy.v8 ++ [.int .i64 N]))=(r.drop (u+b.length)).map Sy.v8 ++ [.int .i64 N]:=by
  rw [List.drop_append,List.drop_eq_nil_of_le (by simp [hs];omega),List.length_map,hs,List.nil_append,show 8+u+b.length - 8=u+b.length from by omega,List.drop_append_of_le_length (by simp [hr];omega),List.map_drop]
 rw [e1,e2];simp
end
theorem HashIs.zero:HashIs [] (List.replicate 8 (.int .u32 0) ++ (List.replicate 64 (.int .u8 0) ++ [.int .i64 0])):=
 ⟨List.replicate 8 0,List.replicate 64 0,rfl,rfl,rfl,λh=>(h rfl).elim,rfl⟩
theorem HashIs.len {l:List UInt8}{C:List Value}(h:HashIs l C):C.length=73:=by
 obtain ⟨s,r,rfl,hs,hr,_⟩:=h;exact zbl hs hr
theorem zfE (j:Nat) (l b:List UInt8) (h:64*j<=l.length):whole j (l ++ b)=whole j l:=zdF j l b h
theorem zdI (j:Nat) (L:List UInt8):whole (j+1) L=whole j L ++ [(L.drop (64*j)).take 64]:=by
 rw [zf2];rfl
end Go.Sh
namespace Go.Proofs.YtcpjfilcilcekaaGreatDoor
open Go Go.Sy Go.Sh Go.RowKit
attribute [local irreducible] Sy SyL SyX Sy.Fn callFunc
set_option maxRecDepth 10000
set_option maxHeartbeats 1000000 in
theorem zky (S:Nat) (l:List UInt8) (C:List Value) (w:World) (hC:(Res.blk S 172 C).holds w) (hI:HashIs l C) (hb:l.length < 1000000000000) (hT:Tab w No):
  Sy.Fn Tryz.prog 133 [.pointer (some ⟨S,0,none⟩)] w No (Gives (.agg ((sum l).map Sy.v8).toArray)):=by
 obtain ⟨s,r,rfl,hs,hr,hS,hR⟩:=hI
 have h72:w.cell? ⟨S,0+72,none⟩=some (.int .i64 l.length):=by rw [Sy.blk_cell hC];exact ze5 hs hr
 have hst:w.rangeAt S (0+0) (s.map Sy.v32):=zz hC zeS
 have hre:w.rangeAt S (0+8) (r.map Sy.v8):=zz hC (zev hs)
 refine zk Tryz.func133 rfl Tryz.ntmps133 (by simp) Holds.nil ?_
 by_cases hl0:l= []
 ·subst hl0
  repeat' (first|refine s_0 ?_|(refine za (id:=0) ?_;(refine zi ?_;intro _))|(refine za (id:=1) ?_;refine zb ?_;refine zX ?_;refine zb ?_;refine zb ?_;refine zA ?_;refine zm ?_;refine zD ?_;refine zX ?_;refine zo ?_)|(refine za (id:=2) ?_;refine yv (zf (hc:=λw' _ hk _=>zgF none 0 0 [] w' rfl (Nat.le_refl _) (by decide) SlA.nil (hT.no hk))) (k:=?_);refine zB ?_)|fail)
  exact ret1 rfl (resCells rfl (ty rfl) rfl Has.go Seg.all (by first|rfl|(simp only [List.length_map,List.length_set,List.length_replicate,List.length_append];omega)|(simp only [List.length_map];first|assumption|omega)|(simp;omega)|fail)) SubR.nil ⟨rfl,rfl⟩
 ·have hpos:0 < l.length:=List.length_pos_iff.2 hl0
  have hrem:((l.length:Int)).tmod 64=((l.length % 64:Nat):Int):=rfl
  have hu:l.length % 64 < 64:=by omega
  generalize hud:l.length % 64=u at *
  repeat' (first|refine s_0 ?_|(refine za (id:=0) ?_;(refine zi ?_;intro _))|(refine za (id:=1) ?_;refine zb ?_;refine zX ?_;refine zb ?_;refine zb ?_;refine zA ?_;refine zm ?_;refine zD ?_;refine zX ?_;refine zo ?_)|(refine za (id:=3) ?_;refine zb ?_;refine zA ?_;refine zm ?_;refine zD ?_;(refine zi ?_;intro _);refine zB ?_)|(refine za (id:=4) ?_;refine zb ?_;refine zA ?_;refine zm ?_;refine zD ?_;refine yv (zau (hr:=hrem)) (k:=?_);refine zd ?_)|(refine zK (id:=5) 10 [[],[0],[0,1],[],[],[0,1,2,3,4],[],[6],[6,7],[6,7,8],[0,1,2,3,4,5,6,7,8,9]] mixed ?_ ?_;kernel_rfl;refine zp ?_;refine zas ?_;refine z3 ?_;refine zp ?_;refine zp ?_;refine zc0 ?_;refine zp ?_;refine zas ?_;refine z3 ?_;refine zaD ?_;refine zU ?_)|fail)
  rename_i bo bs
  have hlast:(l.drop (64*(l.length / 64))).length=u:=by rw [List.length_drop];omega
  have hsl:SlA w (some ⟨S,0+8,none⟩) ((l.drop (64*(l.length / 64))).map Sy.v8):=by
   refine .inr ⟨S,0+8,rfl,λj v hj=>hre j v ?_⟩
   rw [<-hR,List.map_take,List.getElem?_take] at hj
   split at hj
   ·exact hj
   ·cases hj
  generalize hlst:l.drop (64*(l.length / 64))=last at *
  refine ys (zn (hc:=λw' X hk hh=>zfX _ _ w' rfl)) (k:=?_)
  rintro _ _ ⟨R,rfl,b1,b2,rfl,rfl⟩
  repeat' (first|refine s_t ?_|fail)
  refine zea (γ:=Nat) (xs:=blocks last l.length) (Arg:=ArgB) zbA rfl (en rfl) rfl (λk s=>s=k) (λ_ _ _=>False) (λk=>[.blk bs 169 ((fold s ((blocks last l.length).take k)).map Sy.v32)])
   [.blk b1 22 [.slice (some ⟨S,0+8,none⟩) u u],.blk b2 3 [.int .i64 l.length]] [.blk bo 66 (List.replicate 32 (.int .u8 0))] 0 rfl ?_ ?_ ?_ ?_ ?_ ?_
  ·exact (List.perm_append_comm (l₁:=[_,_]) (l₂:=[_])).append_right _
  ·exact λw' Mi X hk hm _ _=>ze4 b1 b2 _ u u l.length last w' Mi hlast (Nat.le_refl _) (by omega) (hsl.to hk hm)
  ·rintro O x vs RA w' ⟨b,o,rfl,_⟩;rfl
  ·rintro lp k hk q vs RA W rec hrec rfl ⟨b,o,rfl,rfl,hrd,hno⟩ hkW hmine
   have hT':=hT.to hkW hmine
   have hl8:(fold s ((blocks last l.length).take q)).length=8:=zbK _ _ hs
   have hl64:(blocks last l.length)[q].length=64:=zeY _ _ _ (List.getElem_mem hk)
   have hfs:=zda s (blocks last l.length) q hk
   generalize fold s ((blocks last l.length).take q)=st at *
   generalize (blocks last l.length)[q]=x at *
   have hcl:=zar st x hl8
   repeat' (first|refine s_t ?_|(apply zbr;(focus ((repeat (first|exact Rem.here|apply Rem.there));done));assumption)|(refine za (id:=6) ?_;refine zd ?_)|(refine za (id:=7) ?_;refine zb ?_;refine yv (zbj (hc:=λw' X hk hh=>zhB bs 169 b o st x w' hl8 hl64 (hh.has (Has.append (Has.there Has.here))) (zaC hrd hk hno) (hT'.no hk).konst)) (k:=?_))|fail)
   refine zdQ (q+1) rfl ?_
   (repeat' (first|exact SubR.nil|(apply SubR.same;with_reducible (focus ((repeat (first|exact Rem.here|apply Rem.there));done)))|(apply SubR.blk;(focus ((repeat (first|exact Rem.here|apply Rem.there));done)))|(apply SubR.pick;(focus ((repeat (first|exact Rem.here|apply Rem.there));done)))|rfl))
   rw [hfs]
  ·rintro q rfl
   rw [List.take_length]
   have hf8:(fold s (blocks last l.length)).length=8:=zbK _ _ hs
   have hsum:ser (fold s (blocks last l.length))=sum l:=by
    have hq0:last.length / 64=0:=by omega
    unfold sum fold
    rw [hS hl0]
    unfold blocks fold
    simp only [hq0,hlst,whole,List.nil_append,Nat.mul_zero,List.drop_zero,List.foldl_append]
   generalize fold s (blocks last l.length)=st at *
   have hs32:(ser st).length=32:=by rw [zdT,hf8]
   repeat' (first|refine s_0 ?_|(refine za (id:=8) ?_;refine zD ?_;refine yv (zf (hc:=λw' _ _ _=>zfu st w' hf8)) (k:=?_);refine zB ?_)|fail)
   exact ret1 rfl (resCells rfl (ty rfl) rfl Has.go Seg.all (by first|rfl|(simp only [List.length_map,List.length_set,List.length_replicate,List.length_append];omega)|(simp only [List.length_map];first|assumption|omega)|(simp;omega)|fail)) SubR.nil ⟨by rw [hsum],rfl⟩
  ·exact λ_ _ _ _ h=>h.elim
end Go.Proofs.YtcpjfilcilcekaaGreatDoor
end
section
namespace Go.Proofs.YtcpjfilcilcekaaGreatDoor
open Go Go.Sy Go.Sh Go.RowKit
attribute [local irreducible] Sy SyL SyX Sy.Fn callFunc hcells
set_option maxRecDepth 10000
theorem zkN (S b bo N:Nat) (s:List UInt32) (r blk:List UInt8) (w:World) (hs:s.length=8) (hr:r.length=64) (hb:blk.length=64) (hC:(Res.blk S 172 (hcells s r N)).holds w)
  (hB:w.rangeAt b bo (blk.map Sy.v8)) (hK:w.rangeAt 3 0 (kC.map Sy.v32)):
  Sy.Fn Tryz.prog 161 [.pointer (some ⟨S,0,none⟩),.slice (some ⟨b,bo,none⟩) 64 64] w (λx=>x=S) (λv R=>v= .tuple #[]/\R= [.blk S 172 (hcells (compress s blk) r N)]):=by
 have h:=zgB S 172 0 b bo _ s blk w hs hb hC zeS (by rw [zbl hs hr];omega) hB hK
 rw [zer hs (zar s blk hs)] at h
 exact h
set_option maxHeartbeats 1000000 in
theorem zeN (S:Nat) (l b:List UInt8) (C:List Value) (a0:Option Addr) (n c:Nat) (w:World) (hC:(Res.blk S 172 C).holds w) (hI:HashIs l C) (hn:b.length=n) (hc:n<=c)
  (hb:l.length+n < 1000000000000) (hsl:SlF w (λx=>x=S) a0 (b.map Sy.v8)) (hT:Tab w (λx=>x=S)):
  Sy.Fn Tryz.prog 132 [.pointer (some ⟨S,0,none⟩),.slice a0 n c] w (λx=>x=S) (λv R=>v= .int .i64 0/\ ∃C',HashIs (l ++ b) C'/\R= [.blk S 172 C']):=by
 obtain ⟨s,r,rfl,hs,hr,hS,hR⟩:=hI
 have hst:w.rangeAt 2 0 (h0.map Sy.v32):=hT.start
 have hns:=hT.ns
 have hL0:Holds w.heap.size (λx=>x=S) [.blk S 172 (hcells s r l.length)] w:=⟨λx hx=>by obtain rfl:=List.mem_singleton.1 hx;exact hC,List.pairwise_singleton _ _,λx hx y hy=>by obtain rfl:=List.mem_singleton.1 hx;exact .inr (Eq.symm hy)⟩
 refine zk Tryz.func132 rfl Tryz.ntmps132 (by simp) hL0 ?_
 generalize hN:l.length=N at *
 have g72:=ze5 (N:=N) hs hr
 repeat' (first|refine s_0 ?_|(refine za (id:=0) ?_;refine zd ?_)|(refine za (id:=1) ?_;refine zb ?_;refine zX ?_)|(refine za (id:=3) ?_;refine zb ?_;refine zA ?_;refine zm ?_;refine yv (zw (hv:=g72)) (k:=?_);refine zX ?_)|fail)
 refine zaJ (γ:=List UInt32) (λ_=>[(0,.pointer (some ⟨S,0,none⟩)),(1,.slice a0 n c),(4,.int .i64 0)]) (λs'=>[.blk S 172 (hcells s' r N)]) (λs'=>s'.length=8/\s'=fold h0 (whole (N / 64) l)) ?_ ?_
 ·refine zbe rfl (λh=>?_) (λh=>?_)
  ·have h:=of_decide_eq_true h
   have hN0:N=0:=by omega
   repeat' (first|refine z6 ?_|refine zR ?_|(refine za (id:=4) ?_;refine zb ?_;refine yv (zaL (hn:=hns)) (k:=?_);refine zA ?_;refine zm ?_;refine yn (zbC (hL:=by rw [zer hs rfl];exact Upd.here) (hC:=by rw [zbl hs hr];decide)) (k:=?_))|fail)
   refine zO h0 ⟨rfl,by rw [hN0];rfl⟩ ?_ ?_
   ·exact Sub.go
   ·exact SubR.go
  ·have h:=of_decide_eq_false h
   have hne:l≠[]:=λe=>by subst e;simp at hN;omega
   repeat' (first|refine zbt ?_|refine zR ?_|fail)
   refine zO s ⟨hs,hS hne⟩ ?_ ?_
   ·exact Sub.go
   ·exact SubR.go
 clear hs hS g72 hst hL0
 rintro s ⟨hs,hS⟩
 have g72:=ze5 (N:=N) hs hr
 obtain ⟨L,hL⟩: ∃L,L=l ++ b:=⟨_,rfl⟩
 have hLl:L.length=N+n:=by rw [hL,List.length_append,hN,hn]
 have hLl':(l ++ b).length=N+n:=by rw [<-hL];exact hLl
 obtain ⟨j,hj⟩: ∃j,j=N / 64:=⟨_,rfl⟩
 have hrem:((N:Int)).tmod 64=((N % 64:Nat):Int):=rfl
 obtain ⟨u,hu⟩: ∃u,u=N % 64:=⟨_,rfl⟩
 have hNj:N=64*j+u:=by omega
 have hu64:u < 64:=by omega
 rw [<-hu] at hrem hR
 rw [<-hj] at hR hS
 have hwl:whole j L=whole j l:=by rw [hL];exact zfE j l b (by omega)
 have hLd:L.drop (64*j)=l.drop (64*j) ++ b:=by rw [hL,List.drop_append_of_le_length (by omega)]
 repeat' (first|refine s_0 ?_|(refine za (id:=5) ?_;refine zb ?_;refine zA ?_;refine zm ?_;refine yv (zw (hv:=g72)) (k:=?_);refine yv (zau (hr:=hrem)) (k:=?_);refine zd ?_)|(refine za (id:=6) ?_;refine zb ?_;refine zA ?_;refine zm ?_;refine yv (zw (hv:=g72)) (k:=?_);refine zb ?_;refine zq ?_;refine zY ?_;refine zA ?_;refine zm ?_;refine yn (za5 (hC:=zgt (N':=N+n) hs hr)) (k:=?_))|(refine za (id:=7) ?_;refine zb ?_;refine zaa ?_)|fail)
 refine zaJ (γ:=Nat×List UInt32×List UInt8×Option Addr×Nat×Nat) (λg=>[(0,.pointer (some ⟨S,0,none⟩)),(1,.slice g.2.2.2.1 g.2.2.2.2.1 g.2.2.2.2.2),(4,.int .i64 0)]) (λg=>[.blk S 172 (hcells g.2.1 g.2.2.1 (N+n))])
  (λg=>64*g.1+g.2.2.2.2.1=N+n/\g.2.1.length=8/\g.2.2.1.length=64/\g.2.1=fold h0 (whole g.1 L)/\SlF w (λx=>x=S) g.2.2.2.1 ((L.drop (64*g.1)).map Sy.v8)/\g.2.2.2.2.1<=g.2.2.2.2.2/\g.2.2.2.2.2<=c) ?_ ?_
 ·refine zbe rfl (λh=>?_) (λh=>?_)
  ·have h:=of_decide_eq_true h
   have hrl:(l.drop (64*j)).length=u:=by rw [List.length_drop];omega
   by_cases hsm:u+n < 64
   · -- the block is not full
    have hmin:Nat.min n (64 - u)=n:=Nat.min_eq_left (by omega)
    have hset:=zdp (s:=s) (r:=r) (b:=b) (N:=N+n) (u:=u) hs hr (by omega)
    repeat' (first|refine s_0 ?_|(refine za (id:=8) ?_;refine zb ?_;refine zA ?_;refine zm ?_;refine zb ?_;refine yv (zax (ha:=zbV (by omega))) (k:=?_);refine zb ?_;refine yv (zbT (Rd.oldF hsl) (by rw [List.length_map,hn]) hset (hC:=by rw [zbl hs hr];omega)) (k:=?_);refine zd ?_)|(refine za (id:=9) ?_;refine zb ?_;refine zb ?_;refine zY ?_;refine zN ?_)|(refine za (id:=10) ?_;refine zd ?_)|fail)
    refine ret1 rfl (resTmp rfl) (R:=[.blk S 172 (hcells s (r.take u ++ b ++ r.drop (u+b.length)) (N+n))]) (by exact SubR.go) ⟨rfl,_,⟨s,_,by rw [hLl'],hs,?_,λ_=>?_,?_⟩,rfl⟩
    ·simp [hr];omega
    ·rw [hLl',show (N+n) / 64=j from by omega,<-hL,hwl];exact hS
    ·rw [hLl',show (N+n) / 64=j from by omega,show (N+n) % 64=u+n from by omega,<-hL,hLd,hR]
     exact List.take_left' (by rw [List.length_append,hrl,hn])
   · -- the block is full
    have hbl:(b.take (64 - u)).length=64 - u:=by rw [List.length_take];omega
    have hset:=zdp (s:=s) (r:=r) (b:=b.take (64 - u)) (N:=N+n) (u:=u) hs hr (by omega)
    have hrr:r.take u ++ b.take (64 - u) ++ r.drop (u+(b.take (64 - u)).length)=(L.drop (64*j)).take 64:=by
     rw [hbl,List.drop_eq_nil_of_le (by omega),List.append_nil,hR,hLd,List.take_append,hrl,List.take_of_length_le (l:=l.drop (64*j)) (by omega)]
    rw [hrr] at hset
    obtain ⟨r2,hr2⟩: ∃r2,r2=(L.drop (64*j)).take 64:=⟨_,rfl⟩
    rw [<-hr2] at hset
    have hr2l:r2.length=64:=by rw [hr2,List.length_take,List.length_drop];omega
    have hcl:=zar s r2 hs
    have hst2:compress s r2=fold h0 (whole (j+1) L):=by rw [zdI,Sh.fold_snoc,<-hr2,hwl,<-hS]
    have hsl2:SlF w (λx=>x=S) a0 ((b.take (64 - u)).map Sy.v8):=by rw [List.map_take];exact hsl.take _
    repeat' (first|refine s_0 ?_|(refine za (id:=8) ?_;refine zb ?_;refine zA ?_;refine zm ?_;refine zb ?_;refine yv (zax (ha:=zbV (by omega))) (k:=?_);refine zb ?_;refine yv (zbT (Rd.oldF hsl2) ((List.length_map _).trans hbl) hset (hC:=by rw [zbl hs hr];omega)) (k:=?_);refine zd ?_)|(refine za (id:=9) ?_;refine zb ?_;refine zb ?_;refine zY ?_;refine zN ?_)|(refine zK (id:=11) 7 [[],[0],[0,1],[],[3],[3,4],[3,4,5],[0,1,2,3,4,5,6]] mixed ?_ ?_;kernel_rfl;refine zp ?_;refine zas ?_;refine z3 ?_;refine zp ?_;refine zas ?_;refine z3 ?_;refine dc (λ_ _=>zax (ha:=zbV (by omega))) (k:=?_);refine zU ?_;refine yv (zbj (hc:=λw' X hk hh=>zkN S S 8 (N+n) s r2 r2 w' hs hr2l hr2l (hh.has (Has.append Has.here)) (zz (hh.has (Has.append Has.here)) (zev hs)) (hT.no hk).konst)) (k:=?_))|(refine za (id:=12) ?_;refine zb ?_;refine zb ?_;refine zap ?_;refine zd ?_)|fail)
    refine zO (j+1,compress s r2,r2,movA a0 (64 - u) c 1,n - (64 - u),c - (64 - u)) ⟨by dsimp only;omega,hcl,hr2l,hst2,?_,by dsimp only;omega,by dsimp only;omega⟩ ?_ ?_
    ·have:=hsl.mov (l:=64 - u) (m:=c) (by rw [List.length_map];omega)
     show SlF w _ (movA a0 (64 - u) c 1) ((L.drop (64*(j+1))).map Sy.v8)
     rw [show 64*(j+1)=64*j+64 from by omega,<-List.drop_drop,hLd,List.drop_append,List.drop_eq_nil_of_le (by omega),hrl,List.nil_append,List.map_drop]
     exact this
    ·exact Sub.go
    ·exact SubR.go
  ·have h:=of_decide_eq_false h
   have hu0:u=0:=by omega
   repeat' (first|refine zbt ?_|refine zR ?_|fail)
   refine zO (j,s,r,a0,n,c) ⟨by show 64*j+n=N+n;omega,hs,hr,by show s=_;rw [hS,hwl],?_,hc,Nat.le_refl _⟩ ?_ ?_
   ·show SlF w _ a0 ((L.drop (64*j)).map Sy.v8)
    rw [hLd,List.drop_eq_nil_of_le (by omega),List.nil_append];exact hsl
   ·exact Sub.go
   ·exact SubR.go
 clear hrem hu hwl hLd hR hr g72 hS hs hNj hj
 rintro ⟨j,s,r,a1,m,c1⟩ ⟨hj,hs,hr,hS,hs1,hmc,hcc⟩
 dsimp only at *
 repeat' (first|refine za6 ?_|refine zbL ?_|fail)
 refine zE (γ:=Nat×List UInt32×List UInt8×Option Addr×Nat×Nat) (λg=>[(0,.pointer (some ⟨S,0,none⟩)),(1,.slice g.2.2.2.1 g.2.2.2.2.1 g.2.2.2.2.2),(4,.int .i64 0)]) (λg=>[.blk S 172 (hcells g.2.1 g.2.2.1 (N+n))])
  (λg=>64*g.1+g.2.2.2.2.1=N+n/\g.2.1.length=8/\g.2.2.1.length=64/\g.2.1=fold h0 (whole g.1 L)/\SlF w (λx=>x=S) g.2.2.2.1 ((L.drop (64*g.1)).map Sy.v8)/\g.2.2.2.2.1<=g.2.2.2.2.2/\g.2.2.2.2.2<=c) (λg=>g.2.2.2.2.1) (j,s,r,a1,m,c1) ⟨hj,hs,hr,hS,hs1,hmc,hcc⟩ ?_ ?_ ?_
 ·exact Sub.go
 ·exact SubR.go
 clear hj hs hr hS hs1 hmc hcc
 rintro ⟨j,s,r,a1,m,c1⟩ ⟨hj,hs,hr,hS,hs1,hmc,hcc⟩
 dsimp only at *
 have hdl:(L.drop (64*j)).length=m:=by rw [List.length_drop];omega
 by_cases hge:64<=m
 ·obtain ⟨x,hx⟩: ∃x,x=(L.drop (64*j)).take 64:=⟨_,rfl⟩
  have hxl:x.length=64:=by rw [hx,List.length_take];omega
  obtain ⟨b1,o1,rfl,hrd,hno⟩: ∃b1 o1,a1=some ⟨b1,o1,none⟩/\w.rangeAt b1 o1 (x.map Sy.v8)/\ ¬b1=S:=by
   rcases hs1.take 64 with h|⟨b1,o1,h1,h2,h3⟩
   ·exfalso;have:=congrArg List.length h;simp [hdl] at this;omega
   ·exact ⟨b1,o1,h1,by rw [hx,List.map_take];exact h2,h3⟩
  have hcl:=zar s x hs
  have hst2:compress s x=fold h0 (whole (j+1) L):=by rw [zdI,Sh.fold_snoc,<-hx,<-hS]
  repeat' (first|refine s_t ?_|(refine za (id:=13) ?_;refine zb ?_;refine zq ?_;refine zac ?_)|(refine zK (id:=14) 5 [[],[0],[0,1],[],[3],[0,1,2,3,4]] mixed ?_ ?_;kernel_rfl;refine zp ?_;refine zas ?_;refine z3 ?_;refine zp ?_;refine zc0 ?_;refine zU ?_;refine yv (zbj (hc:=λw' X hk hh=>zkN S b1 o1 (N+n) s r x w' hs hr hxl (hh.has (Has.append Has.here)) (zaC hrd hk hno) (hT.no hk).konst)) (k:=?_))|(refine za (id:=15) ?_;refine zb ?_;refine zap ?_;refine zd ?_)|fail)
  refine zy (j+1,compress s x,r,movA (some ⟨b1,o1,none⟩) 64 c1 1,m - 64,c1 - 64) ⟨by dsimp only;omega,hcl,hr,hst2,?_,by dsimp only;omega,by dsimp only;omega⟩ ?_ ?_ ?_
  ·have:=hs1.mov (l:=64) (m:=c1) (by rw [List.length_map,hdl];exact hmc)
   rw [<-List.map_drop,List.drop_drop,show 64*j+64=64*(j+1) from by omega] at this
   exact this
  ·show m - 64 < m;omega
  ·exact Sub.go
  ·exact SubR.go
 have hset:=zdp (s:=s) (r:=r) (b:=L.drop (64*j)) (N:=N+n) (u:=0) hs hr (by omega)
 repeat' (first|refine s_0 ?_|(refine za (id:=13) ?_;refine zb ?_;refine zq ?_;refine zac ?_)|(refine za (id:=16) ?_;refine zb ?_;refine zA ?_;refine zm ?_;refine zap ?_;refine zb ?_;refine yv (zbT (Rd.oldF hs1) ((List.length_map _).trans hdl) hset (hC:=by rw [zbl hs hr];omega)) (k:=?_))|(refine za (id:=17) ?_;refine zd ?_)|fail)
 refine ret1 rfl (resTmp rfl) (R:=[.blk S 172 (hcells s (r.take 0 ++ L.drop (64*j) ++ r.drop (0+(L.drop (64*j)).length)) (N+n))]) (by exact SubR.go) ⟨rfl,_,⟨s,_,by rw [hLl'],hs,?_,λ_=>?_,?_⟩,rfl⟩
 ·simp [hr,hdl];omega
 ·rw [hLl',show (N+n) / 64=j from by omega,<-hL];exact hS
 ·rw [hLl',show (N+n) / 64=j from by omega,show (N+n) % 64=m from by omega,<-hL,List.take_zero,List.nil_append,List.take_left' hdl]
end Go.Proofs.YtcpjfilcilcekaaGreatDoor
end
section
namespace Go.Sy
open Go
section
variable {P:Program}{ro:Option Nat}{N:Nat}{w0:World}{M:Nat->Prop}{ds:List Deferred}{g:Nat->Option Value}{L:List Res}{o:Oper}
variable {t t':TypeId}{x z:Operand}{y ye:Ty}
theorem Holds.fresh {B:Nat}{w w':World}{r:Res}(h:Holds B M L w) (hk:Keep No w w') (hr:r.holds w') (ho: ∀b,r.own b->b=w.heap.size) (hB:B<=w.heap.size):Holds B M (r::L) w':=
 (h.keep hk (λ_ _ _ _ h=>h)).cons hr (λx hx b hb hb'=>by
  have h1:=ho b hb
  have h2:=Res.own_lt (h.all x hx) hb'
  omega) (λb hb=> .inl (by have:=ho b hb;omega))
theorem zhi {e:Nat}{l:List UInt8}(ho:o.op= .convert t t' x:=by exact rfl) (hx:ev g x=some (.string (str l)):=by exact rfl) (ht:tyOf P t=some y:=by exact ty rfl) {y':Ty}(ht':tyOf P t'=some y':=by exact ty rfl) (hy':y'.desc= .slice e:=by exact rfl) (he:tyOf P e=some ye:=by exact ty rfl) (hye:ye.desc= .int .u8:=by exact rfl):
  OpT P ro N w0 M ds o g L (λv L'=>∃b c J fz,l.length<=c/\v= .slice (some ⟨b,0,none⟩) l.length c/\L'= .obj b (.cells (l.map v8 ++ J).toArray e fz)::L):=
 OpT.run (by rw [ho];rfl) λa w X hst=>by
  obtain ⟨d,i,hd,hi,hs,_⟩:=zF ht
  obtain ⟨d',i',hd',hi',hs',_⟩:=zF ht'
  rw [hy'] at hs'
  have:=zam hs';subst this
  obtain ⟨d2,i2,hd2,hi2,hs2,_⟩:=zF he
  rw [hye] at hs2
  have hd2':d2= .int .u8:=by
   cases d2 <;> simp [slim] at hs2
   exact congrArg _ hs2
  subst hd2'
  have hrun:=Lib.run_convert_string_bytes w t t' e (str l) hd hd' hd2
  have hk:Keep No w (Lib.bytesWorld w e (str l)):=⟨rfl,rfl,rfl,by rw [Lib.bytesWorld_size];omega,λk hk _=>Lib.bytesWorld_at_old w e (str l) k hk⟩
  have hB:w0.heap.size<=w.heap.size:=hst.keep.size
  have hcells:Lib.bytesCells w e (str l)=(l.map v8 ++ List.replicate (grownCap w (str l).size 0 e - (str l).size) (Value.int .u8 0)).toArray:=by
   apply Array.toList_inj.1
   simp [Lib.bytesCells,str,v8,Wd.n8]
  refine ⟨_,_,Lib.bytesWorld w e (str l),_,?_,.inl rfl,⟨w.heap.size,grownCap w (str l).size 0 e,List.replicate (grownCap w (str l).size 0 e - (str l).size) (Value.int .u8 0),((Lib.bytesCells w e (str l)).size,(Lib.bytesCells w e (str l)).size+1),by have:=grownCap_ge w (str l).size 0 e;rw [zeV] at this ⊢;exact this,rfl,rfl⟩,hst.keep.trans hk (λ_ h=>h.elim),?_⟩
  ·simp only [execOp,ho,hst.agr.eval hx,Sem.run_bind,hrun,Result.andThen_ok]
   rw [zeV]
   rfl
  ·refine Holds.fresh hst.hold hk ?_ (λb hb=>hb.symm) hB
   show (Lib.bytesWorld w e (str l)).heap[w.heap.size]?=_
   rw [Lib.bytesWorld_at_new,hcells]
end
end Go.Sy
end
