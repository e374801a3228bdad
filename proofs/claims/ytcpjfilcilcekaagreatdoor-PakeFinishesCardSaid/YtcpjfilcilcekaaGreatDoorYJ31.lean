/- Layer sha, walked: what its users need. -/
import Derived.Test.YtcpjfilcilcekaaGreatDoorYJ28
import Derived.Test.YtcpjfilcilcekaaGreatDoorYJ03
import Derived.Test.YtcpjfilcilcekaaGreatDoorYJ30
import Derived.Test.YtcpjfilcilcekaaGreatDoorYJ07
import Derived.Test.YtcpjfilcilcekaaGreatDoorYJ05
set_option linter.all false
section
namespace Go.Proofs.YtcpjfilcilcekaaGreatDoor
open Go Go.Sy Go.Sh Go.RowKit
attribute [local irreducible] Sy SyL SyX Sy.Fn callFunc Sh.sum hcells HashIs
set_option maxRecDepth 10000
section
variable {w0 w:World}{M:Nat->Prop}{L X:List Res}{S:Nat}{l b:List UInt8}{C:List Value}
theorem zqc (hk:Keep M w0 w) (hh:Holds w0.heap.size M (L ++ X) w) (hL:Has L (.blk S 172 C)) (hI:HashIs l C) (hb:l.length < 1000000000000) (hT:Tab w0 M):
  Sy.Fn Tryz.prog 133 [.pointer (some ⟨S,0,none⟩)] w No (Gives (.agg ((Sh.sum l).map Sy.v8).toArray)):=
 zky S l C w (hh.has (Has.append hL)) hI hb (hT.no hk)
end
end Go.Proofs.YtcpjfilcilcekaaGreatDoor
end
section
namespace Go.Sh
open Go Go.Wd Go.RowKit Go.Sy
def macA (key:List UInt8):List Value:=(kxor (kpad key) 92).map Sy.v8 ++ (kxor (kpad key) 54).map Sy.v8
def MacIs (key l:List UInt8) (C:List Value):Prop:=∃H,HashIs (kxor (kpad key) 54 ++ l) H/\C=macA key ++ (H ++ [.bool true])
end Go.Sh
namespace Go.Proofs.YtcpjfilcilcekaaGreatDoor
open Go Go.Sy Go.Sh Go.RowKit
attribute [local irreducible] Sy SyL SyX Sy.Fn callFunc Sh.sum kxor kpad
set_option maxRecDepth 10000
theorem zjz {l:List UInt8}{C:List Value}(h:HashIs l C):C.all (·.oneCell')=true:=by
 obtain ⟨s,r,rfl,-,-,-,-⟩:=h
 unfold hcells
 rw [List.all_append,List.all_append,one32,one8];rfl
theorem zbJ (key l:List UInt8):(hmac key l).length=32:=zaZ _
theorem kx64 (key:List UInt8) (m:UInt8):(kxor (kpad key) m).length=64:=by rw [zd1,zd8 key (zaZ key)]
theorem zca (key:List UInt8):(macA key).length=128:=by unfold macA;rw [List.length_append,List.length_map,List.length_map,kx64,kx64]
theorem zpS (k:List UInt8) (m:UInt8) (i:Nat) (x:UInt8) (h:k[i]?=some x):(kxor k m)[i]?=some (x ^^^ m):=by
 unfold kxor;rw [List.getElem?_map,h];rfl
theorem zkx (S T:Nat) (k:List UInt8) (m:UInt8) (w:World) (hC:(Res.blk S T (k.map Sy.v8)).holds w) (hk:k.length=64):
  Sy.Fn Tryz.prog 144 [Sy.v8 m,.pointer (some ⟨S,0,none⟩)] w No (Gives (.agg ((kxor k m).map Sy.v8).toArray)):=by
 have hrg:w.rangeAt S 0 (k.map Sy.v8):=zz hC Seg.all
 have hx64:(kxor k m).length=64:=by rw [zd1,hk]
 have hat:=zpS k m
 refine zk Tryz.func144 rfl Tryz.ntmps144 (by simp) Holds.nil ?_
 repeat' (first|refine s_t ?_|(refine za (id:=0) ?_;(refine zi ?_;intro _))|(refine za (id:=1) ?_;refine zD ?_;refine zb ?_)|fail)
 rename_i b3
 refine zE (γ:=Nat) (λi=>[(0,Sy.v8 m),(3,.pointer (some ⟨b3,0,none⟩)),(6,.agg (k.map Sy.v8).toArray),(7,.int .i64 i)]) (λi=>[.blk b3 170 (((kxor k m).take i).map Sy.v8 ++ List.replicate (64 - i) (.int .u8 0))]) (λi=>i<=64) (λi=>64 - i) 0 (by decide) ?_ ?_ ?_
 ·exact Sub.go
 ·exact SubR.go
 intro i hi
 by_cases hlt:i < 64
 ·obtain ⟨x,hx⟩: ∃x,k[i]?=some x:=⟨k[i]'(by omega),List.getElem?_eq_getElem _⟩
  have hxv:(k.map Sy.v8)[i]?=some (.int .u8 (Wd.n8 x)):=by rw [List.getElem?_map,hx];rfl
  have he:(((kxor k m).take i).map Sy.v8 ++ List.replicate (64 - i) (Value.int .u8 0)).set i (Sy.v8 (x ^^^ m))=((kxor k m).take (i+1)).map Sy.v8 ++ List.replicate (64 - (i+1)) (Value.int .u8 0):=by
   rw [show 64 - i=64 - (i+1)+1 from by omega,List.replicate_succ,List.set_append_right _ _ (by simp;omega),List.take_add_one,hat i x hx]
   simp [hx64,Nat.min_eq_left (Nat.le_of_lt hlt)]
  have hl0:(((kxor k m).take i).map Sy.v8 ++ List.replicate (64 - i) (Value.int .u8 0)).length=64:=by simp [hx64];omega
  generalize (((kxor k m).take i).map Sy.v8 ++ List.replicate (64 - i) (Value.int .u8 0))=C at *
  repeat' (first|refine s_t ?_|(refine za (id:=2) ?_;refine zN ?_)|(refine za (id:=3) ?_;refine zb ?_;refine yv (zgN (hv:=hxv)) (k:=?_);refine zd ?_;refine zd ?_)|(refine za (id:=4) ?_;refine zb ?_;refine zb ?_;refine zb ?_;refine yv (zbw (hr:=Wd.xor8 x m)) (k:=?_);refine zr ?_;refine zB ?_)|(refine za (id:=5) ?_;refine zY ?_;refine zb ?_)|fail)
  refine zy (i+1) ?_ ?_ ?_ ?_
  ·show i+1<=64;omega
  ·show 64 - (i+1) < 64 - i;omega
  ·exact Sub.go
  ·(repeat' (first|exact SubR.nil|(apply SubR.same;with_reducible (focus ((repeat (first|exact Rem.here|apply Rem.there));done)))|(apply SubR.blk;(focus ((repeat (first|exact Rem.here|apply Rem.there));done)))|(apply SubR.pick;(focus ((repeat (first|exact Rem.here|apply Rem.there));done)))|rfl))
   exact he
 obtain rfl:i=64:=by omega
 have hcells:((kxor k m).take 64).map Sy.v8 ++ List.replicate (64 - 64) (Value.int .u8 0)=(kxor k m).map Sy.v8:=by rw [List.take_of_length_le (by omega)];simp
 rw [hcells]
 have h1:=one8 (kxor k m)
 repeat' (first|refine s_0 ?_|(refine za (id:=2) ?_;refine zN ?_)|(refine za (id:=6) ?_;refine zD ?_;refine zB ?_)|fail)
 exact ret1 rfl (resCells rfl (ty rfl) rfl Has.go Seg.all (by first|rfl|(simp only [List.length_map,List.length_set,List.length_replicate,List.length_append];omega)|(simp only [List.length_map];first|assumption|omega)|(simp;omega)|fail)) SubR.nil ⟨rfl,rfl⟩
theorem zo2 (S:Nat) (x:List UInt8) (w:World) (hx:x.length=64) (hr:w.rangeAt S 64 (x.map Sy.v8)) (hT:Tab w No):
  Sy.Fn Tryz.prog 145 [.pointer (some ⟨S,0,none⟩)] w No (λv R=>R= []/\ ∃H,HashIs x H/\v= .agg H.toArray):=by
 have hsl:SlA w (some ⟨S,64,none⟩) (x.map Sy.v8):=.inr ⟨S,64,rfl,hr⟩
 have hI0:=HashIs.zero
 refine zk Tryz.func145 rfl Tryz.ntmps145 (by simp) Holds.nil ?_
 repeat' (first|refine s_0 ?_|(refine za (id:=0) ?_;(refine zi ?_;intro _))|(refine za (id:=1) ?_;refine zb ?_;refine zA ?_;refine zm ?_;refine zap ?_)|fail)
 rename_i b2
 refine ys (zc5 (b:=b2) (Rel:=HashIs ([] ++ x)) (hc:=λw' X hk hh=>zeN b2 [] x _ _ 64 64 w' (hh.has (Has.append Has.here)) hI0 hx (Nat.le_refl _) (by simp) (SlF.oldB hsl hk hh Has.here) (hT.to hk (hh.one Has.here)))) (k:=?_);rintro _ _ ⟨rfl,C,hC,rfl⟩
 have hl:=hC.len
 have h1:=zjz hC
 repeat' (first|refine s_0 ?_|(refine za (id:=2) ?_;refine yv (zg (hz:=hl.symm)) (k:=?_);refine yn (zM (h1:=hl.symm) (hv:=h1) (hC:=rfl)) (k:=?_))|fail)
 exact ret1 rfl (resCells rfl (ty rfl) rfl Has.go Seg.all hl.symm) SubR.nil ⟨rfl,C,hC,rfl⟩
theorem zmq (S:Nat) (x z:List UInt8) (w:World) (hx:x.length=64) (hz:z.length=32) (hr:w.rangeAt S 0 (x.map Sy.v8)) (hT:Tab w No):
  Sy.Fn Tryz.prog 146 [.pointer (some ⟨S,0,none⟩),.agg (z.map Sy.v8).toArray] w No (Gives (.agg ((Sh.sum (x ++ z)).map Sy.v8).toArray)):=by
 have hsl:SlA w (some ⟨S,0,none⟩) (x.map Sy.v8):=.inr ⟨S,0,rfl,hr⟩
 have hI0:=HashIs.zero
 have hs32:=zaZ (x ++ z)
 obtain ⟨s,hs⟩: ∃s,Sh.sum (x ++ z)=s:=⟨_,rfl⟩
 rw [hs] at hs32 ⊢
 refine zk Tryz.func146 rfl Tryz.ntmps146 (by simp) Holds.nil ?_
 repeat' (first|refine s_0 ?_|(refine za (id:=0) ?_;(refine zi ?_;intro _);(refine zi ?_;intro _))|(refine za (id:=1) ?_;(refine zi ?_;intro _))|(refine za (id:=2) ?_;refine zb ?_;refine zA ?_;refine zm ?_;refine zap ?_)|fail)
 rename_i b3 b4 b5
 refine ys (zc5 (b:=b5) (Rel:=HashIs ([] ++ x)) (hc:=λw' X hk hh=>zeN b5 [] x _ _ 64 64 w' (hh.has (Has.append Has.here)) hI0 hx (Nat.le_refl _) (by simp) (SlF.oldB hsl hk hh Has.here) (hT.to hk (hh.one Has.here)))) (k:=?_);rintro _ _ ⟨rfl,C,hC,rfl⟩
 have hC:HashIs x C:=hC
 repeat' (first|refine s_0 ?_|(refine za (id:=3) ?_;refine zap ?_)|fail)
 refine ys (zc5 (b:=b5) (Rel:=HashIs (x ++ z)) (hc:=λw' X hk hh=>zeN b5 x z _ _ 32 32 w' (hh.has (Has.append Has.here)) hC hz (Nat.le_refl _) (by omega) (SlF.blkB hh Has.here (Has.there (Has.there Has.here)) (by intro h;cases h) Seg.all) (hT.to hk (hh.one Has.here)))) (k:=?_);rintro _ _ ⟨rfl,C2,hC2,rfl⟩
 repeat' (first|refine s_0 ?_|(refine za (id:=4) ?_;refine yv (zf (hc:=λw' X hk hh=>hs ▸ zqc (S:=b5) hk hh Has.here hC2 (by simp [hx,hz]) hT)) (k:=?_);refine zB ?_)|fail)
 exact ret1 rfl (resCells rfl (ty rfl) rfl Has.go Seg.all (by first|rfl|(simp only [List.length_map,List.length_set,List.length_replicate,List.length_append];omega)|(simp only [List.length_map];first|assumption|omega)|(simp;omega)|fail)) SubR.nil ⟨rfl,rfl⟩
end Go.Proofs.YtcpjfilcilcekaaGreatDoor
namespace Go.Proofs.YtcpjfilcilcekaaGreatDoor
open Go Go.Sy Go.Sh Go.RowKit
attribute [local irreducible] Sy SyL SyX Sy.Fn callFunc Sh.sum kxor kpad kbase
set_option maxRecDepth 10000
theorem zly (key:List UInt8) (h:key.length<=64):(key.map Sy.v8) ++ (List.replicate 64 (Value.int .u8 0)).drop key.length=(kpad key).map Sy.v8:=by
 unfold kpad kbase
 rw [if_neg (by omega),List.map_append,List.map_replicate,List.drop_replicate];rfl
theorem zoh (key:List UInt8) (h:64 < key.length):((Sh.sum key).map Sy.v8) ++ (List.replicate 64 (Value.int .u8 0)).drop 32=(kpad key).map Sy.v8:=by
 unfold kpad kbase
 rw [if_pos h,List.map_append,List.map_replicate,List.drop_replicate,zaZ];rfl
def macZ:List Value:=List.replicate 128 (.int .u8 0:Value) ++ List.replicate 8 (.int .u32 0:Value) ++ List.replicate 64 (.int .u8 0:Value) ++ [.int .i64 0] ++ [.bool false]
def hashZ:List Value:=List.replicate 8 (.int .u32 0) ++ (List.replicate 64 (.int .u8 0) ++ [.int .i64 0])
theorem zoo (key:List UInt8):FillTo (nth [(0,128),(128,73),(201,1)]) [(0,.agg (macA key).toArray),(2,.bool true)] macZ (macA key ++ (hashZ ++ [.bool true])):=by
 have h:=zca key
 have hz:hashZ.length=73:=rfl
 have hZ:macZ.length=202:=rfl
 have e1:setSeg macZ 0 (macA key)=macA key ++ (hashZ ++ [.bool false]):=by
  rw [setSeg0,h];rfl
 have e2:setSeg (macA key ++ (hashZ ++ [.bool false])) 201 [.bool true]=macA key ++ (hashZ ++ [.bool true]):=by
  unfold setSeg
  rw [<-List.append_assoc,List.take_left' (by rw [List.length_append,h,hz]),List.drop_of_length_le (by simp [h,hz]),List.append_nil,List.append_assoc]
 refine FillTo.cons (cs:=macA key) rfl rfl h (by rw [hZ];decide) ?_
 rw [e1]
 refine FillTo.cons (cs:=[.bool true]) rfl rfl rfl (by simp [h,hz]) ?_
 rw [e2]
 exact FillTo.nil
set_option maxHeartbeats 1000000 in
theorem zrb (a0:Option Addr) (n c:Nat) (key:List UInt8) (w:World) (hn:key.length=n) (hb:n<=4096) (hc:n<=c) (hsl:SlA w a0 (key.map Sy.v8)) (hT:Tab w No):
  Sy.Fn Tryz.prog 110 [.slice a0 n c] w No (λv R=>∃b C,v= .tuple #[.pointer (some ⟨b,0,none⟩),.int .i64 0]/\R= [.blk b 184 C]/\MacIs key [] C):=by
 refine zk Tryz.func110 rfl Tryz.ntmps110 (by simp) Holds.nil ?_
 have hs32:=zaZ key
 have hshort:=zly key
 have hlong:=zoh key
 have hp64:=zd8 key hs32
 have hl64:(kpad key).length=64:=hp64
 obtain ⟨s,hs⟩: ∃s,Sh.sum key=s:=⟨_,rfl⟩
 rw [hs] at hs32 hlong
 have hset1:64 < key.length->setSeg (List.replicate 64 (Value.int .u8 0)) 0 (s.map Sy.v8)=(kpad key).map Sy.v8:=λh=>by rw [setSeg0,List.length_map,hs32];exact hlong h
 have hset2:key.length<=64->setSeg (List.replicate 64 (Value.int .u8 0)) 0 (key.map Sy.v8)=(kpad key).map Sy.v8:=λh=>by rw [setSeg0,List.length_map];exact hshort h
 repeat' (first|refine s_0 ?_|(refine za (id:=0) ?_;refine zd ?_;refine zd ?_)|(refine za (id:=1) ?_;refine zb ?_;refine zq ?_;refine zaa ?_)|(refine za (id:=3) ?_;(refine zi ?_;intro _))|(refine za (id:=4) ?_;refine zb ?_;refine zq ?_;refine zaa ?_)|fail)
 rename_i b4
 refine zaJ (γ:=Unit) (λ_=>[(4,.pointer (some ⟨b4,0,none⟩))]) (λ_=>[.blk b4 170 ((kpad key).map Sy.v8)]) (λ_=>True) ?_ ?_
 ·refine zbe rfl (λh=>?_) (λh=>?_)
  ·have h:=of_decide_eq_true h
   repeat' (first|refine s_0 ?_|(refine za (id:=5) ?_;refine zb ?_;refine yv (zf (hc:=λw' X hk hh=>hs ▸ zgF a0 n c key w' hn hc (by omega) (hsl.keep hk (λ_ _ h=>h)) (hT.no hk))) (k:=?_);(refine zi ?_;intro _);refine zB ?_)|(refine zK (id:=6) 2 [[],[],[0,1]] mixed ?_ ?_;kernel_rfl;refine zc0 ?_;refine zc0 ?_;refine zU ?_;refine yv (zbT (B:=s.map Sy.v8) (k:=32) (hr:=Rd.of (Reads.blk Has.here Seg.all)) (hk:=by rw [List.length_map,hs32]) (hset:=hset1 (by omega))) (k:=?_))|fail)
   refine zO () ?_ ?_ ?_
   ·exact trivial
   ·exact Sub.go
   ·exact SubR.go
  ·have h:=of_decide_eq_false h
   repeat' (first|refine z6 ?_|refine zR ?_|(refine za (id:=7) ?_;refine zap ?_;refine zb ?_;refine yv (zbT (B:=key.map Sy.v8) (k:=n) (hr:=Rd.old hsl (λ_ _ h=>h)) (hk:=by rw [List.length_map,hn]) (hset:=hset2 (by omega))) (k:=?_))|fail)
   refine zO () ?_ ?_ ?_
   ·exact trivial
   ·exact Sub.go
   ·exact SubR.go
 rintro - -
 have hx1:=kx64 key 92
 have hx2:=kx64 key 54
 have hA:=zca key
 have hfill:=zoo key
 repeat' (first|refine s_0 ?_|(refine za (id:=8) ?_;refine zW ?_;refine zd ?_)|(refine za (id:=9) ?_;refine zb ?_;refine yv (zf (hc:=λw' X hk hh=>zkx b4 170 (kpad key) 92 w' (hh.has (Has.append Has.here)) hp64)) (k:=?_);refine zb ?_;refine yv (zf (hc:=λw' X hk hh=>zkx b4 170 (kpad key) 54 w' (hh.has (Has.append Has.here)) hp64)) (k:=?_);refine za0 ?_)|fail)
 refine yv (zce hfill) (k:=?_)
 have h1:(macA key ++ (hashZ ++ [Value.bool true])).all (·.oneCell')=true:=by
  unfold macA;rw [List.all_append,List.all_append,List.all_append,one8,one8];rfl
 repeat' (first|refine s_0 ?_|(refine zC ?_;first|refine zd ?_|refine zb ?_|(refine zi ?_;intro _)|fail)|refine za ?_|fail)
 rename_i bm
 have hin:Seg (macA key ++ (hashZ ++ [.bool true])) 64 ((kxor (kpad key) 54).map Sy.v8):=by
  unfold macA
  rw [List.append_assoc]
  have:=Seg.in (A:=(kxor (kpad key) 92).map Sy.v8) (B:=hashZ ++ [.bool true]) (Seg.all (C:=(kxor (kpad key) 54).map Sy.v8))
  rw [List.length_map,hx1] at this
  exact this
 repeat' (first|(refine zC ?_;first|(refine ys (zn (hc:=λw' X hk hh=>zo2 bm (kxor (kpad key) 54) w' hx2 (zz (hh.has (Has.append Has.here)) hin) (hT.no hk))) (k:=?_);rintro _ _ ⟨R,rfl,rfl,H,hH,rfl⟩)|refine zm ?_|refine zA ?_|fail)|fail)
 have hHl:=hH.len
 have hH1:=zjz hH
 have hst:setSeg (macA key ++ (hashZ ++ [.bool true])) (0+128) H=macA key ++ (H ++ [.bool true]):=by
  have:=zfJ (A:=macA key) (C:=hashZ) (B:=[.bool true]) (k:=0) (D:=H) (by rw [hHl];decide)
  rw [hA,zeQ (by rw [hHl];rfl)] at this
  exact this
 repeat' (first|refine s_0 ?_|(refine za (id:=11) ?_;refine zb ?_;refine zd ?_;refine zd ?_)|(refine zC ?_;first|refine yn (zbC (h1:=hHl.symm) (hv:=hH1) (hC:=by simp [hA,hHl,hashZ])) (k:=?_)|fail)|fail)
 rw [hst]
 exact ret2 rfl (resTmp rfl) (resTmp rfl) (by exact SubR.go) ⟨bm,_,rfl,rfl,H,by rw [List.append_nil];exact hH,rfl⟩
end Go.Proofs.YtcpjfilcilcekaaGreatDoor
end
section
namespace Go.Sh
open Go Go.Wd Go.RowKit Go.Sy
end Go.Sh
namespace Go.Proofs.YtcpjfilcilcekaaGreatDoor
open Go Go.Sy Go.Sh Go.RowKit
attribute [local irreducible] Sy SyL SyX Sy.Fn callFunc
set_option maxRecDepth 10000
theorem zoF (a0:Option Addr) (n c:Nat) (l:List UInt8) (w:World) (hn:l.length=n) (hb:n < 1000000000000) (hsl:SlA w a0 (l.map Sy.v8)) (hnil:a0=none->c=0/\n=0):
  Sy.Fn Tryz.prog 147 [.slice a0 n c] w No (λv R=>∃a k,v= .slice a n k/\R= [.row (.slice a n k) 5 1 n (l.map Sy.v8)]):=by
 have hc0:a0=none->c=0:=λh=>(hnil h).1
 refine zk Tryz.func147 rfl Tryz.ntmps147 (by simp) Holds.nil ?_
 cases a0 with
 |none=>
  obtain ⟨rfl,rfl⟩:=hnil rfl
  obtain rfl:l= []:=List.length_eq_zero_iff.1 hn
  repeat' (first|refine s_0 ?_|(refine za (id:=0) ?_;refine zd ?_)|(refine za (id:=1) ?_;refine zb ?_;refine zX ?_)|(refine za (id:=2) ?_;refine zd ?_)|fail)
  exact zbv (zaU 5 1) (ret1 rfl (resTmp rfl) (by exact SubR.go) ⟨_,_,rfl,rfl⟩)
 |some ad=>
  repeat' (first|refine s_0 ?_|(refine za (id:=0) ?_;refine zd ?_)|(refine za (id:=1) ?_;refine zb ?_;refine zX ?_)|(refine za (id:=3) ?_;(refine ys zbu (k:=?_);rintro _ _ ⟨_,rfl,rfl⟩);refine zb ?_;(refine ys zba (k:=?_);rintro _ _ ⟨rfl,_,_,rfl⟩);refine zd ?_)|fail)
  exact ret1 rfl (resTmp rfl) (by exact SubR.go) ⟨_,_,rfl,rfl⟩
end Go.Proofs.YtcpjfilcilcekaaGreatDoor
end
section
namespace Go.Proofs.YtcpjfilcilcekaaGreatDoor
open Go Go.Sy Go.Sh Go.RowKit
attribute [local irreducible] Sy SyL SyX Sy.Fn callFunc Sh.sum kxor kpad kbase macA HashIs
set_option maxRecDepth 10000
theorem zoC {B D:List Value} :Sy.Seg (B ++ D) 0 B:=λj v hj=>by
 have:=(List.getElem?_eq_some_iff.1 hj).1
 rw [Nat.zero_add,List.getElem?_append_left this];exact hj
theorem zmN {S:Nat}{key l:List UInt8}{C:List Value}{w:World}(hC:(Res.blk S 184 C).holds w) (hI:MacIs key l C):w.cell? ⟨S,201,none⟩=some (.bool true):=by
 obtain ⟨H,hH,rfl⟩:=hI
 rw [Sy.blk_cell hC,List.getElem?_append_right (by rw [zca];omega),List.getElem?_append_right (by rw [zca,hH.len];omega),zca,hH.len];rfl
theorem zrt (S:Nat) (key l b:List UInt8) (C:List Value) (a0:Option Addr) (n c:Nat) (w:World) (hC:(Res.blk S 184 C).holds w) (hI:MacIs key l C) (hn:b.length=n) (hc:n<=c)
  (hb:l.length+n < 100000000000) (hsl:SlF w (λx=>x=S) a0 (b.map Sy.v8)) (hT:Tab w (λx=>x=S)):
  Sy.Fn Tryz.prog 111 [.pointer (some ⟨S,0,none⟩),.slice a0 n c] w (λx=>x=S) (λv R=>v= .int .i64 0/\ ∃C',MacIs key (l ++ b) C'/\R= [.blk S 184 C']):=by
 obtain ⟨H,hH,rfl⟩:=hI
 have h128:=zca key
 have h201:(macA key ++ (H ++ [.bool true]))[201]?=some (.bool true):=by
  rw [List.getElem?_append_right (by omega),List.getElem?_append_right (by rw [hH.len];omega),h128,hH.len];rfl
 have hlen:(kxor (kpad key) 54 ++ l).length=64+l.length:=by rw [List.length_append,kx64]
 have hL0:Holds w.heap.size (λx=>x=S) [.blk S 184 (macA key ++ (H ++ [.bool true]))] w:=⟨λx hx=>by obtain rfl:=List.mem_singleton.1 hx;exact hC,List.pairwise_singleton _ _,λx hx y hy=>by obtain rfl:=List.mem_singleton.1 hx;exact .inr (Eq.symm hy)⟩
 refine zk Tryz.func111 rfl Tryz.ntmps111 (by simp) hL0 ?_
 repeat' (first|refine s_0 ?_|(refine za (id:=0) ?_;refine zd ?_)|(refine za (id:=1) ?_;refine zb ?_;refine zX ?_;refine zb ?_;refine zb ?_;refine zA ?_;refine zm ?_;refine yv (zw (hv:=h201)) (k:=?_);refine zal ?_;refine zo ?_)|(refine za (id:=3) ?_;refine zb ?_;refine zA ?_;refine zm ?_;refine zb ?_)|fail)
 refine ys (zc5 (b:=S) (Rel:=λC'=>MacIs key (l ++ b) C') (v:=.int .i64 0) (hc:=λw' X hk hh=>?_)) (k:=?_)
 ·have:=zme S 184 (macA key) [.bool true] (kxor (kpad key) 54 ++ l) b H a0 n c w' (hh.has (Has.append Has.here)) hH hn hc (by omega) (hsl.to hk (λx hx=> .inr hx)) (hT.to hk (λx hx=> .inr hx))
  rw [h128] at this
  exact this.mono λv R ⟨h1,C',h2,h3⟩=>⟨h1,_,⟨C',by rw [<-List.append_assoc];exact h2,rfl⟩,h3⟩
 rintro _ _ ⟨rfl,C',hC',rfl⟩
 repeat' (first|refine s_0 ?_|(refine zC ?_;first|refine zd ?_|fail)|fail)
 exact ret1 rfl (resTmp rfl) (by exact SubR.go) ⟨rfl,C',hC',rfl⟩
theorem zp8 (S:Nat) (key l:List UInt8) (H:List Value) (w:World) (hC:(Res.blk S 184 (macA key ++ (H ++ [.bool true]))).holds w) (hH:HashIs (kxor (kpad key) 54 ++ l) H) (hb:l.length < 100000000000) (hT:Tab w No):
  Sy.Fn Tryz.prog 133 [.pointer (some ⟨S,0+128,none⟩)] w No (Gives (.agg ((Sh.sum (kxor (kpad key) 54 ++ l)).map Sy.v8).toArray)):=by
 have:=zpn S 184 (macA key) [.bool true] (kxor (kpad key) 54 ++ l) H w hC hH (by rw [List.length_append,kx64];omega) hT
 rw [zca] at this
 rw [Nat.zero_add]
 exact this
theorem zrm (S:Nat) (key l:List UInt8) (C:List Value) (w:World) (hC:(Res.blk S 184 C).holds w) (hI:MacIs key l C) (hb:l.length < 100000000000) (hT:Tab w No):
  Sy.Fn Tryz.prog 112 [.pointer (some ⟨S,0,none⟩)] w No (Gives (.tuple #[.agg ((hmac key l).map Sy.v8).toArray,.int .i64 0])):=by
 have h201:w.cell? ⟨S,0+201,none⟩=some (.bool true):=zmN hC hI
 obtain ⟨H,hH,rfl⟩:=hI
 have h128:=zca key
 have hlen:(kxor (kpad key) 54 ++ l).length=64+l.length:=by rw [List.length_append,kx64]
 have hs32:=zaZ (kxor (kpad key) 54 ++ l)
 have hm:hmac key l=Sh.sum (kxor (kpad key) 92 ++ Sh.sum (kxor (kpad key) 54 ++ l)):=rfl
 have hm32:(hmac key l).length=32:=zaZ _
 obtain ⟨s,hs⟩: ∃s,Sh.sum (kxor (kpad key) 54 ++ l)=s:=⟨_,rfl⟩
 rw [hs] at hs32 hm
 have hout:w.rangeAt S 0 ((kxor (kpad key) 92).map Sy.v8):=zz hC (by unfold macA;rw [List.append_assoc];exact zoC)
 generalize hmac key l=y at *
 refine zk Tryz.func112 rfl Tryz.ntmps112 (by simp) Holds.nil ?_
 have hold: ∀w',Keep No w w'->(Res.blk S 184 (macA key ++ (H ++ [.bool true]))).holds w':=λw' hk=>Res.holds_congr hC (λb hb=>hk.block b (Res.own_lt hC hb) (λh=>h))
 repeat' (first|refine s_0 ?_|(refine za (id:=0) ?_;(refine zi ?_;intro _);refine zd ?_)|(refine za (id:=1) ?_;refine zb ?_;refine zX ?_;refine zb ?_;refine zb ?_;refine zA ?_;refine zm ?_;refine zD ?_;refine zal ?_;refine zo ?_)|(refine zK (id:=3) 7 [[],[0],[0,1],[],[3],[3,4],[3,4,5],[0,1,2,3,4,5,6],[0,1,2,3,4,5,6,7],[0,1,2,3,4,5,6,7,8]] mixed ?_ ?_;kernel_rfl;refine zp ?_;refine zas ?_;refine z3 ?_;refine zp ?_;refine zas ?_;refine z3 ?_;refine dc (λ_ _=>zf (hc:=λw' X hk hh=>hs ▸ zp8 S key l H w' (hold w' hk) hH hb (hT.no hk))) (k:=?_);refine zU ?_;refine yv (zf (hc:=λw' X hk hh=>hm.symm ▸ zmq S (kxor (kpad key) 92) s w' (kx64 key 92) hs32 (zaC hout hk (λh=>h)) (hT.no hk))) (k:=?_);refine zB ?_;refine zd ?_)|fail)
 exact ret2 rfl (resCells rfl (ty rfl) rfl Has.go Seg.all (by first|rfl|(simp only [List.length_map,List.length_set,List.length_replicate,List.length_append];omega)|(simp only [List.length_map];first|assumption|omega)|(simp;omega)|fail)) (resTmp rfl) SubR.nil ⟨rfl,rfl⟩
end Go.Proofs.YtcpjfilcilcekaaGreatDoor
namespace Go.Proofs.YtcpjfilcilcekaaGreatDoor
open Go Go.Sy Go.Sh Go.RowKit
attribute [local irreducible] Sy SyL SyX Sy.Fn callFunc Sh.sum kxor kpad kbase macA HashIs MacIs hmac
set_option maxRecDepth 10000
abbrev zero32:List Value:=List.replicate 32 (Value.int .u8 0)
theorem zph (a0 a1:Option Addr) (n c m d:Nat) (key:List UInt8) (xs:List Bs) (w:World) (hn:key.length=n) (hb:n<=4096) (hc:n<=c) (hsl:SlA w a0 (key.map Sy.v8)) (hm:xs.length=m) (hmb:m < 1000000) (hsx:SlA w a1 (xs.map Bs.val))
  (hxs: ∀s∈xs,s.l.length=s.n/\s.n<=s.c/\SlA w s.a (s.l.map Sy.v8)/\s.n<=10000) (hT:Tab w No):
  Sy.Fn Tryz.prog 74 [.slice a0 n c,.slice a1 m d] w No (Gives (.tuple #[.agg ((hmac key (Bs.cat xs)).map Sy.v8).toArray,.int .i64 0])):=by
 refine zk Tryz.func74 rfl Tryz.ntmps74 (by simp) Holds.nil ?_
 have hy32:=zbJ key (Bs.cat xs)
 obtain ⟨y,hy⟩: ∃y,hmac key (Bs.cat xs)=y:=⟨_,rfl⟩
 rw [hy] at hy32 ⊢
 repeat' (first|refine s_t ?_|(refine za (id:=0) ?_;(refine zi ?_;intro _);refine zd ?_)|(refine za (id:=1) ?_;refine zb ?_;(refine ys (zn (hc:=λw' X hk hh=>zrb a0 n c key w' hn hb hc (hsl.keep hk (λ_ _ h=>h)) (hT.no hk))) (k:=?_);rintro _ _ ⟨R,rfl,bm,C0,rfl,rfl,hC0⟩);refine zb ?_;refine zh ?_;refine zh ?_;refine zd ?_;refine zd ?_)|(refine za (id:=2) ?_;refine zb ?_;refine zV ?_)|(refine za (id:=4) ?_;refine zb ?_;refine zq ?_;refine zb ?_)|fail)
 rename_i b4
 refine zE (γ:=Nat×List Value) (λg=>[(4,.pointer (some ⟨b4,0,none⟩)),(5,.int .i64 0),(6,.pointer (some ⟨bm,0,none⟩)),(19,.slice a1 m d),(20,.int .i64 m),(21,.int .i64 g.1)]) (λg=>[.blk bm 184 g.2,.blk b4 66 zero32])
  (λg=>g.1<=m/\MacIs key (Bs.cat (xs.take g.1)) g.2) (λg=>m - g.1) (0,C0) ⟨Nat.zero_le _,hC0⟩ ?_ ?_ ?_
 ·exact Sub.go
 ·exact SubR.go
 rintro ⟨i,C⟩ ⟨hi,hC⟩
 dsimp only at *
 have hcl:(Bs.cat (xs.take i)).length<=10000*i:=by
  have:=Bs.cat_le (k:=10000) (xs.take i) (λs hs=>by have:=hxs s (List.mem_of_mem_take hs);omega)
  rw [List.length_take,Nat.min_eq_left (by omega)] at this;exact this
 by_cases hlt:i < m
 ·obtain ⟨bl,ol,rfl,hcell⟩:=Bs.get hsx (hm ▸ hlt)
  have hci:=hcell i (hm ▸ hlt)
  have hcat:=Bs.cat_succ xs i (hm ▸ hlt)
  obtain ⟨h1,h2,h3,h4⟩:=hxs xs[i] (List.getElem_mem _)
  generalize xs[i]=s at *
  obtain ⟨sa,sn,sc,sl⟩:=s
  dsimp only at *
  repeat' (first|refine s_t ?_|(refine za (id:=5) ?_;refine zN ?_)|(refine za (id:=6) ?_;refine zr ?_;refine yv (zx (hv:=hci)) (k:=?_);refine zd ?_)|(refine za (id:=7) ?_;refine zb ?_;refine zb ?_)|fail)
  refine ys (zc5 (b:=bm) (Rel:=MacIs key (Bs.cat (xs.take i) ++ sl)) (hc:=λw' X hk hh=>zrt bm key (Bs.cat (xs.take i)) sl C sa sn sc w' (hh.has (Has.append Has.here)) hC h1 h2 (by omega) (SlF.oldB h3 hk hh Has.here) (hT.to hk (hh.one Has.here)))) (k:=?_);rintro _ _ ⟨rfl,C',hC',rfl⟩
  repeat' (first|refine s_0 ?_|(refine za (id:=8) ?_;refine zY ?_;refine zb ?_)|fail)
  refine zy (i+1,C') ⟨hlt,by show MacIs key (Bs.cat (xs.take (i+1))) C';rw [hcat];exact hC'⟩ ?_ ?_ ?_
  ·show m - (i+1) < m - i;omega
  ·exact Sub.go
  ·exact SubR.go
 obtain rfl:i=m:=by omega
 rw [List.take_of_length_le (by omega)] at hC hcl
 repeat' (first|refine s_0 ?_|(refine za (id:=5) ?_;refine zN ?_)|(refine za (id:=9) ?_;refine zb ?_;refine yv (zf (hc:=λw' X hk hh=>hy ▸ zrm bm key (Bs.cat xs) C w' (hh.has (Has.append Has.here)) hC (by omega) (hT.no hk))) (k:=?_);refine zh ?_;refine zh ?_;refine zB ?_;refine zd ?_)|fail)
 exact ret2 rfl (resCells rfl (ty rfl) rfl Has.go Seg.all (by first|rfl|(simp only [List.length_map,List.length_set,List.length_replicate,List.length_append];omega)|(simp only [List.length_map];first|assumption|omega)|(simp;omega)|fail)) (resTmp rfl) SubR.nil ⟨rfl,rfl⟩
theorem zpv (d z:UInt8):d ||| z=0↔d=0/\z=0:=by
 rw [<-UInt8.toBitVec_inj,<-UInt8.toBitVec_inj (a:=d),<-UInt8.toBitVec_inj (a:=z)]
 exact BitVec.or_eq_zero_iff
theorem zoR (x y:UInt8):x ^^^ y=0↔x=y:=by
 rw [<-UInt8.toBitVec_inj,<-UInt8.toBitVec_inj (a:=x)]
 exact BitVec.xor_eq_zero_iff
theorem SlA.get {w:World}{a:Option Addr}{l:List UInt8}(h:SlA w a (l.map Sy.v8)) (hl:l≠[]): ∃b off,a=some ⟨b,off,none⟩/\ ∀i x,l[i]?=some x->w.cell? ⟨b,off+i,none⟩=some (.int .u8 (Wd.n8 x)):=by
 rcases h with h|⟨b,off,rfl,h⟩
 ·exact absurd (List.map_eq_nil_iff.1 h) hl
 ·exact ⟨b,off,rfl,λi x hx=>h i _ (by rw [List.getElem?_map,hx];rfl)⟩
theorem zpL (a0 a1:Option Addr) (n c m d:Nat) (l k:List UInt8) (w:World) (hn:l.length=n) (hb:n < 1000000000000) (hsl:SlA w a0 (l.map Sy.v8)) (hm:k.length=m) (hmb:m < 1000000000000) (hsk:SlA w a1 (k.map Sy.v8)):
  Sy.Fn Tryz.prog 106 [.slice a0 n c,.slice a1 m d] w No (Gives (.bool (decide (l=k)))):=by
 refine zk Tryz.func106 rfl Tryz.ntmps106 (by simp) Holds.nil ?_
 by_cases hne:n=m
 ·subst hne
  repeat' (first|refine s_t ?_|(refine za (id:=0) ?_;refine zd ?_)|(refine za (id:=1) ?_;refine zb ?_;refine zq ?_;refine zb ?_;refine zq ?_;refine zV ?_)|(refine za (id:=3) ?_;refine zd ?_)|(refine za (id:=4) ?_;refine zb ?_;refine zq ?_;refine zb ?_)|fail)
  refine zE (γ:=Nat×UInt8) (λg=>[(0,.slice a0 n c),(1,.slice a1 n d),(5,Sy.v8 g.2),(13,.int .i64 n),(14,.int .i64 g.1)]) (λ_=>[]) (λg=>g.1<=n/\(g.2=0↔l.take g.1=k.take g.1)) (λg=>n - g.1) (0,0) ⟨Nat.zero_le _,by simp⟩ ?_ ?_ ?_
  ·exact Sub.go
  ·exact SubR.go
  rintro ⟨i,df⟩ ⟨hi,hd⟩
  dsimp only at *
  by_cases hlt:i < n
  ·obtain ⟨b1,o1,rfl,hg1⟩:=SlA.get hsl (λh=>by subst h;simp at hn;omega)
   obtain ⟨b2,o2,rfl,hg2⟩:=SlA.get hsk (λh=>by subst h;simp at hm;omega)
   obtain ⟨x,hx⟩: ∃x,l[i]?=some x:=⟨l[i]'(by omega),List.getElem?_eq_getElem _⟩
   obtain ⟨y,hy⟩: ∃y,k[i]?=some y:=⟨k[i]'(by omega),List.getElem?_eq_getElem _⟩
   have hx1:=hg1 i x hx
   have hy1:=hg2 i y hy
   repeat' (first|refine s_t ?_|(refine za (id:=5) ?_;refine zN ?_)|(refine za (id:=6) ?_;refine zb ?_;refine zd ?_)|(refine zK (id:=7) 10 [[],[],[],[1,2],[1,2,3],[],[],[5,6],[5,6,7],[1,2,3,4,5,6,7,8],[0,1,2,3,4,5,6,7,8,9],[0,1,2,3,4,5,6,7,8,9,10]] mixed ?_ ?_;kernel_rfl;refine zp ?_;refine zp ?_;refine zp ?_;refine zH ?_;refine dc (λ_ _=>zx (hv:=hx1)) (k:=?_);refine zp ?_;refine zp ?_;refine zH ?_;refine dc (λ_ _=>zx (hv:=hy1)) (k:=?_);refine dc (λ_ _=>zbw (hr:=Wd.xor8 x y)) (k:=?_);refine zU ?_;refine yv (zlz (hr:=Wd.or8 df (x ^^^ y))) (k:=?_);refine zd ?_)|(refine za (id:=8) ?_;refine zY ?_;refine zb ?_)|fail)
   refine zy (i+1,df ||| (x ^^^ y)) ⟨hlt,?_⟩ ?_ ?_ ?_
   ·rw [zpv,zoR,hd,List.take_add_one,List.take_add_one,hx,hy]
    simp only [Option.toList_some]
    constructor
    ·rintro ⟨h1,rfl⟩;rw [h1]
    ·intro h
     have:=List.append_inj h (by simp;omega)
     exact ⟨this.1,by simpa using this.2⟩
   ·show n - (i+1) < n - i;omega
   ·exact Sub.go
   ·exact SubR.go
  obtain rfl:i=n:=by omega
  rw [List.take_of_length_le (by omega),List.take_of_length_le (by omega)] at hd
  have hr:decide (Wd.n8 df=0)=decide (l=k):=by
   rw [decide_eq_decide,<-hd]
   exact ⟨λh=>Wd.n8_inj (y:=0) h,λh=>by subst h;rfl⟩
  repeat' (first|refine s_0 ?_|(refine za (id:=5) ?_;refine zN ?_)|(refine za (id:=9) ?_;refine zb ?_;refine yv (z8 (hr:=hr)) (k:=?_);refine zd ?_)|fail)
  exact ret1 rfl (resTmp rfl) SubR.nil ⟨rfl,rfl⟩
 ·have hlk:decide (l=k)=false:=decide_eq_false (λh=>hne (by rw [<-hn,<-hm,h]))
  rw [hlk]
  repeat' (first|refine s_0 ?_|(refine za (id:=0) ?_;refine zd ?_)|(refine za (id:=1) ?_;refine zb ?_;refine zq ?_;refine zb ?_;refine zq ?_;refine zV ?_)|(refine za (id:=2) ?_;refine zd ?_)|fail)
  exact ret1 rfl (resTmp rfl) SubR.nil ⟨rfl,rfl⟩
theorem znW (a0 a1:Option Addr) (n c m d:Nat) (l k:List UInt8) (w:World) (hn:l.length=n) (hb:n < 1000000000000) (hsl:SlA w a0 (l.map Sy.v8)) (hm:k.length=m) (hmb:m < 1000000000000) (hsk:SlA w a1 (k.map Sy.v8)):
  Sy.Fn Tryz.prog 68 [.slice a0 n c,.slice a1 m d] w No (Gives (.bool (decide (l=k)))):=by
 refine zk Tryz.func68 rfl Tryz.ntmps68 (by simp) Holds.nil ?_
 repeat' (first|refine s_0 ?_|(refine za (id:=0) ?_;refine zd ?_)|(refine za (id:=1) ?_;refine zb ?_;refine zb ?_;refine yv (zf (hc:=λw' X hk hh=>zpL a0 a1 n c m d l k w' hn hb (hsl.keep hk (λ_ _ h=>h)) hm hmb (hsk.keep hk (λ_ _ h=>h)))) (k:=?_);refine zd ?_)|fail)
 exact ret1 rfl (resTmp rfl) SubR.nil ⟨rfl,rfl⟩
end Go.Proofs.YtcpjfilcilcekaaGreatDoor
namespace Go.Proofs.YtcpjfilcilcekaaGreatDoor
open Go Go.Sy Go.Sh Go.RowKit
attribute [local irreducible] Sy SyL SyX Sy.Fn callFunc Sh.sum kxor kpad kbase macA HashIs MacIs hmac
set_option maxRecDepth 10000
def PartsOk (w:World) (a1:Option Addr) (m:Nat) (xs:List Bs):Prop:=xs.length=m/\m < 1000000/\SlA w a1 (xs.map Bs.val)/\ ∀s∈xs,s.l.length=s.n/\s.n<=s.c/\SlA w s.a (s.l.map Sy.v8)/\s.n<=10000
theorem znA {w:World}{M:Nat->Prop}{L X:List Res}{B0 bp E m:Nat}{xs:List Bs}(hh:Holds B0 M (L ++ X) w) (hL:Has L (.blk bp E (xs.map Bs.val))) (hm:xs.length=m) (hmb:m < 1000000)
  (hxs: ∀s∈xs,s.l.length=s.n/\s.n<=s.c/\SlA w s.a (s.l.map Sy.v8)/\s.n<=10000):PartsOk w (some ⟨bp,0,none⟩) m xs:=
 ⟨hm,hmb,.inr ⟨bp,0,rfl,zz (hh.has (Has.append hL)) Seg.all⟩,hxs⟩
theorem part1 {w:World}{s:Bs}(h:s.l.length=s.n/\s.n<=s.c/\SlA w s.a (s.l.map Sy.v8)/\s.n<=10000): ∀x∈[s],x.l.length=x.n/\x.n<=x.c/\SlA w x.a (x.l.map Sy.v8)/\x.n<=10000:=λx hx=>by
 obtain rfl:=List.mem_singleton.1 hx;exact h
theorem cat1 (s:Bs):Bs.cat [s]=s.l:=by simp [Bs.cat]
end Go.Proofs.YtcpjfilcilcekaaGreatDoor
end
