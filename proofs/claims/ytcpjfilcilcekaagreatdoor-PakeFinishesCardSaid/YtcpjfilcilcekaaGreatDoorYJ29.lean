/- Layer pake, walked: the hash of parts, small numbers, the points. -/
import Derived.Test.YtcpjfilcilcekaaGreatDoorYJ28
import Derived.Test.YtcpjfilcilcekaaGreatDoorYJ05
import Derived.Test.YtcpjfilcilcekaaGreatDoorYJ26
import Derived.Test.YtcpjfilcilcekaaGreatDoorYJ13
import Derived.Test.YtcpjfilcilcekaaGreatDoorYJ27
set_option linter.all false
section
namespace Go.Proofs.YtcpjfilcilcekaaGreatDoor
open Go Go.Sy Go.Sh Go.Nt Go.RowKit
attribute [local irreducible] Sy SyL SyX Sy.Fn callFunc natC rowN refC iC gP gQ gL memB safeC fixB gel Sh.sum glen HashIs pkPt pkH
set_option maxRecDepth 10000
theorem zfp (l:List UInt8):(Sh.sum l).length=32:=zaZ l
theorem zjs (a1:Option Addr) (m d:Nat) (xs:List Bs) (w:World) (hm:xs.length=m) (hmb:m < 1000) (hsx:SlA w a1 (xs.map Bs.val)) (hxs: ∀s∈xs,s.ok w/\s.n<=10000) (hT:Tab w No):
  Sy.Fn Tryz.prog 99 [.slice a1 m d] w No (Gives (.agg ((Sh.sum (Bs.cat xs)).map v8).toArray)):=by
 refine zk Tryz.func99 rfl Tryz.ntmps99 (by simp) Holds.nil ?_
 have hz:=HashIs.zero
 have hy32:=zfp (Bs.cat xs)
 repeat' (first|refine s_t ?_|(refine za (id:=0) ?_;(refine zi ?_;intro _))|(refine za (id:=1) ?_;(refine zi ?_;intro _))|(refine za (id:=2) ?_;refine zb ?_;refine zq ?_;refine zb ?_)|fail)
 rename_i b2 b3
 refine zE (γ:=Nat×List Value) (λg=>[(2,.pointer (some ⟨b2,0,none⟩)),(3,.pointer (some ⟨b3,0,none⟩)),(6,.slice a1 m d),(7,.int .i64 m),(8,.int .i64 g.1)]) (λg=>[.blk b3 172 g.2,.blk b2 66 (List.replicate 32 (.int .u8 0))])
  (λg=>g.1<=m/\HashIs (Bs.cat (xs.take g.1)) g.2) (λg=>m - g.1) (0,List.replicate 8 (.int .u32 0) ++ (List.replicate 64 (.int .u8 0) ++ [.int .i64 0])) ⟨Nat.zero_le _,by exact hz⟩ ?_ ?_ ?_
 ·exact Sub.go
 ·exact SubR.go2
 rintro ⟨i,C⟩ ⟨hi,hC⟩
 dsimp only at *
 have hcl:(Bs.cat (xs.take i)).length<=10000*i:=by
  have:=Bs.cat_le (k:=10000) (xs.take i) (λs hs=>by have:=hxs s (List.mem_of_mem_take hs);have h1:=this.1.len;omega)
  rw [List.length_take,Nat.min_eq_left (by omega)] at this;exact this
 by_cases hlt:i < m
 ·obtain ⟨bl,ol,rfl,hcell⟩:=Bs.get hsx (hm ▸ hlt)
  have hci:=hcell i (hm ▸ hlt)
  have hcat:=Bs.cat_succ xs i (hm ▸ hlt)
  obtain ⟨h1,h4⟩:=hxs xs[i] (List.getElem_mem _)
  generalize xs[i]=s at *
  obtain ⟨sa,sn,sc,sl⟩:=s
  dsimp only at *
  have g1:decide ((i:Int) < (m:Int))=true:=decide_eq_true (by omega)
  have g5:IntKind.i64.wrap ((i:Int)+1)=((i+1:Nat):Int):=by rw [IntWalk.i64_in _ (by omega)];omega
  repeat' (first|refine s_t ?_|(refine za (id:=3) ?_;refine yv (zP (hr:=g1)) (k:=?_))|(refine za (id:=4) ?_;refine yv (z9 (j:=i)) (k:=?_);refine yv (zx (hv:=hci)) (k:=?_);refine zd ?_)|(refine za (id:=5) ?_;refine zb ?_)|fail)
  refine ys (zc5 (b:=b3) (Rel:=HashIs (Bs.cat (xs.take i) ++ sl)) (hc:=λw' X hk hh=>zeN b3 (Bs.cat (xs.take i)) sl C sa sn sc w' (hh.has (Has.append Has.here)) hC h1.len h1.cap (by omega) (SlF.oldB h1.sla hk hh Has.here) (hT.to hk (hh.one Has.here)))) (k:=?_);rintro _ _ ⟨rfl,C',hC',rfl⟩
  repeat' (first|refine s_0 ?_|(refine za (id:=6) ?_;refine yv (zL (hr:=g5)) (k:=?_);refine zb ?_)|fail)
  refine zy (i+1,C') ⟨hlt,by show HashIs (Bs.cat (xs.take (i+1))) C';rw [hcat];exact hC'⟩ ?_ ?_ ?_
  ·show m - (i+1) < m - i;omega
  ·exact Sub.go
  ·exact SubR.go2
 obtain rfl:i=m:=by omega
 rw [List.take_of_length_le (by omega)] at hC hcl
 have g1:decide ((i:Int) < (i:Int))=false:=decide_eq_false (by omega)
 generalize hH:Sh.sum (Bs.cat xs)=H at *
 repeat' (first|refine s_0 ?_|(refine za (id:=3) ?_;refine yv (zP (hr:=g1)) (k:=?_))|(refine za (id:=7) ?_;refine yv (zf (hc:=λw' X hk hh=>hH ▸ zky b3 (Bs.cat xs) C w' (hh.has (Has.append Has.here)) hC (by omega) (hT.no hk))) (k:=?_);refine zB ?_)|fail)
 exact ret1 rfl (resCells rfl (ty rfl) rfl Has.go Seg.all (by first|rfl|(simp only [List.length_map,List.length_set,List.length_replicate,List.length_append];omega)|(simp only [List.length_map];first|assumption|omega)|(simp;omega)|fail)) SubR.nil ⟨rfl,rfl⟩
theorem zgf (n:Nat) (w:World) (hn:n < 9223372036854775808):Sy.Fn Tryz.prog 57 [.int .i64 (n:Int)] w No (Gives (natV n)):=by
 refine zk Tryz.func57 rfl Tryz.ntmps57 (by simp) Holds.nil ?_
 have hln:=ze n
 have h1:=λw'=>zcL n w' hn
 repeat' (first|refine s_0 ?_|(refine za (id:=0) ?_;(refine zi ?_;intro _))|(refine za (id:=1) ?_;refine zb ?_;refine yv (zf (hc:=λ_ _ _ _=>(h1 _))) (k:=?_);refine zb ?_;refine zh ?_;refine zh ?_;(refine zi ?_;intro _);refine yn (zl (n:=n)) (k:=?_);refine zd ?_)|(refine za (id:=2) ?_;refine yv (zg (B:=natC n)) (k:=?_);refine yn (zl (n:=n)) (k:=?_))|fail)
 exact ret1 rfl (resCells (B:=natC n) rfl (ty rfl) rfl Has.go Seg.all (ze _).symm) SubR.nil ⟨rfl,rfl⟩
theorem u8w (n:Nat) (h:n < 256):IntKind.u8.wrap (n:Int)=Wd.n8 (UInt8.ofNat n):=by
 rw [IntWalk.u8_in _ (by omega),Wd.n8_of_nat,Nat.mod_eq_of_lt h]
theorem segH {A J:List Value} :Seg (A ++ J) 0 A:=λj v hj=>by
 rw [Nat.zero_add,List.getElem?_append_left (List.getElem?_eq_some_iff.1 hj).1];exact hj
theorem zqz {B0:Nat}{w:World}{M:Nat->Prop}{E b n:Nat}{l:List UInt8}{L:List Res}(hh:Holds B0 M L w) (hl:l.length=n) (hL:Has L (.blk b E (l.map v8))):(⟨some ⟨b,0,none⟩,n,n,l⟩:Bs).ok w:=
 ⟨hl,Nat.le_refl _,.inr ⟨b,0,rfl,zz (hh.has hL) Seg.all⟩,λh=>by cases h⟩
theorem zns {w w':World}{L X:List Res}{E b c:Nat}{l:List UInt8}{J:List Value}{fz:Nat×Nat}(hk:Keep No w w') (hh:Holds w.heap.size No (L ++ X) w') (hc:l.length<=c) (hL:Has L (.obj b (.cells (l.map v8 ++ J).toArray E fz))):(⟨some ⟨b,0,none⟩,l.length,c,l⟩:Bs).ok w':=
 ⟨rfl,hc,(Rd.of (Reads.obj hL segH)) w' X hk hh,λh=>by cases h⟩
def pkQ (i k:Nat) (lab:List UInt8):Nat:=bev 256 (bn (Sh.sum (lab ++ [UInt8.ofNat i,UInt8.ofNat k])))*bev 256 (bn (Sh.sum (lab ++ [UInt8.ofNat i,UInt8.ofNat k]))) % gP i
theorem zq7 (i:Nat) (s:Bool):pkQ i 0 (pkLab s)=pkPt i s:=by unfold pkQ pkPt pkH;rfl
set_option maxHeartbeats 1000000 in
theorem zq4 (i k bl bi bp:Nat) (lab:List UInt8) (w:World) (h0:1<=i) (h5:i<=4) (hk:k < 256) (hlab:lab.length<=1000) (hT:Tab w No) (hcl:w.cell? ⟨bl,0,none⟩=some (.string (str lab))) (hci:w.cell? ⟨bi,0,none⟩=some (.int .i64 (i:Int))) (hcp:w.rangeAt bp 0 (natC (gP i))):
  Sy.Fn Tryz.prog 135 [.int .i64 (k:Int),.pointer (some ⟨bl,0,none⟩),.pointer (some ⟨bi,0,none⟩),.pointer (some ⟨bp,0,none⟩)] w No (Gives (.tuple #[natV (pkQ i k lab),.int .i64 0])):=by
 refine zk Tryz.func135 rfl Tryz.ntmps135 (by simp) Holds.nil ?_
 have hui:=u8w i (by omega)
 have huk:=u8w k hk
 have hP0:0 < gP i:=Nat.lt_trans Nat.zero_lt_one (zav i h0 h5)
 have hPW:=zaW i h0 h5
 have hq:pkQ i k lab=bev 256 (bn (Sh.sum (lab ++ [UInt8.ofNat i,UInt8.ofNat k])))*bev 256 (bn (Sh.sum (lab ++ [UInt8.ofNat i,UInt8.ofNat k]))) % gP i:=rfl
 have h32:=zfp (lab ++ [UInt8.ofNat i,UInt8.ofNat k])
 have hph:=λw' (hk':Keep No w w') b17 b16 bB cB (s1:(⟨some ⟨bB,0,none⟩,lab.length,cB,lab⟩:Bs).ok w') (s2:(⟨some ⟨b16,0,none⟩,2,2,[UInt8.ofNat i,UInt8.ofNat k]⟩:Bs).ok w') (h:w'.rangeAt b17 0 [Value.slice (some ⟨bB,0,none⟩) lab.length cB,.slice (some ⟨b16,0,none⟩) 2 2])=>
  zjs (some ⟨b17,0,none⟩) 2 2 [⟨some ⟨bB,0,none⟩,lab.length,cB,lab⟩,⟨some ⟨b16,0,none⟩,2,2,[UInt8.ofNat i,UInt8.ofNat k]⟩] w' rfl (by decide) (.inr ⟨b17,0,rfl,h⟩) (λs hs=>by
   simp only [List.mem_cons,List.not_mem_nil,or_false] at hs
   rcases hs with rfl|rfl
   ·exact ⟨s1,by show lab.length<=10000;omega⟩
   ·exact ⟨s2,by show 2<=10000;decide⟩) (hT.no hk')
 simp only [show ∀(x y:Bs),Bs.cat [x,y]=x.l ++ y.l from λx y=>by simp [Bs.cat]] at hph
 generalize Sh.sum (lab ++ [UInt8.ofNat i,UInt8.ofNat k])=D at *
 have hVW:bev 256 (bn D) < 18446744073709551616 ^ 16:=bevW' (by omega)
 have hfb:=λw' b (h:w'.rangeAt b 0 (D.map v8))=>zbb (some ⟨b,0,none⟩) 32 32 D w' h32 (Nat.le_refl _) (.inr ⟨b,0,rfl,h⟩) (by decide)
 rw [if_pos hVW] at hfb
 have hmul:=λw'=>zhN (bev 256 (bn D)) (bev 256 (bn D)) (gP i) w' hVW hVW hPW
 unfold modR at hmul
 rw [if_neg (by omega),<-hq] at hmul
 generalize bev 256 (bn D)=V at *
 generalize pkQ i k lab=r at *
 have lV:=ze V
 have lr:=ze r
 have lp:=ze (gP i)
 repeat' (first|refine s_0 ?_|(refine za (id:=0) ?_;(refine zi ?_;intro _);refine zd ?_)|(refine za (id:=1) ?_;refine yv (zx (hv:=hcl)) (k:=?_))|(refine ys (zhi (l:=lab)) (k:=?_);rintro _ _ ⟨bB,cB,J,fz,hcB,rfl,rfl⟩)|(refine zC ?_;first|refine yv (zx (hv:=hci)) (k:=?_)|refine yv (zZ (hr:=hui)) (k:=?_)|refine yv (zZ (hr:=huk)) (k:=?_)|refine zb ?_|(refine ys zt (k:=?_);rintro _ _ ⟨_,rfl,rfl⟩)|fail)|fail)
 rename_i b16 b17
 refine yv (zf (f:=99) (hc:=λw' X hk hh=>hph w' hk b17 b16 bB cB (zns hk hh hcB (Has.there (Has.there Has.here))) (zqz hh rfl (Has.append (Has.there Has.here))) (zz (hh.has (Has.append Has.here)) Seg.all))) (k:=?_)
 repeat' (first|refine s_0 ?_|(refine za (id:=2) ?_;refine zap ?_;refine yv (zf (f:=117) (hc:=λw' X hk hh=>hfb w' _ (zz (hh.has (Has.append Has.here)) Seg.all))) (k:=?_);refine zb ?_;refine zh ?_;refine zh ?_;(refine zi ?_;intro _);refine yn (zl (n:=V)) (k:=?_);refine zd ?_)|(refine za (id:=3) ?_;refine zb ?_;refine zV ?_)|(refine za (id:=5) ?_;refine yv (zg (B:=natC V)) (k:=?_);refine yv (zg (B:=natC V)) (k:=?_);refine zD ?_;refine yv (zf (hc:=λ_ _ _ _=>(hmul _))) (k:=?_);refine zh ?_;refine zh ?_;refine yn (zl (n:=r)) (k:=?_);refine zd ?_)|(refine zC ?_;first|refine zB ?_|(refine zi ?_;intro _)|fail)|fail)
 exact ret2 rfl (resCells (B:=natC r) rfl (ty rfl) rfl Has.go Seg.all (ze _).symm) (resTmp rfl) SubR.nil ⟨rfl,rfl⟩
end Go.Proofs.YtcpjfilcilcekaaGreatDoor
end
section
namespace Go.Proofs.YtcpjfilcilcekaaGreatDoor
open Go Go.Sy Go.Sh Go.Nt Go.RowKit
attribute [local irreducible] Sy SyL SyX Sy.Fn callFunc natC rowN refC iC gP gQ gL memB safeC fixB gel Sh.sum glen HashIs pkPt pkH pkQ
set_option maxRecDepth 10000
theorem zh0 (s:Bool):(pkLab s).length<=1000:=by cases s <;> decide
section
attribute [local irreducible] pkLab
set_option maxHeartbeats 1000000 in
theorem ziW (i:Nat) (s:Bool) (w:World) (h0:1<=i) (h5:i<=4) (hT:Tab w No) (hG:GT w):
  Sy.Fn Tryz.prog 100 [.int .i64 (i:Int),.string (str (pkLab s))] w No (Gives (.tuple #[natV (pkPt i s),.int .i64 0])):=by
 refine zk Tryz.func100 rfl Tryz.ntmps100 (by simp) Holds.nil ?_
 have hpr:=λw' (hk:Keep No w w')=>znv i w' h0 h5 (hG.to hk)
 have hl:(pkLab s).length<=1000:=zh0 s
 have hone:=(zdN i s h0 h5).1
 have hW:=Nat.lt_trans (zdN i s h0 h5).2.2.1 (zaW i h0 h5)
 have hps:=λw' (hk:Keep No w w') bl bi bp h1 h2 h3=>zq4 i 0 bl bi bp (pkLab s) w' h0 h5 (by decide) hl (hT.no hk) h1 h2 h3
 rw [zq7] at hps
 have hnu:=λw'=>zgf 1 w' (by decide)
 have hcm:=λw'=>zcK (pkPt i s) 1 w' hW (by decide)
 rw [zdL hone] at hcm
 generalize pkPt i s=r at *
 generalize gP i=p at *
 generalize pkLab s=lab at *
 have lp:=ze p
 have lr:=ze r
 repeat' (first|refine s_t ?_|refine zgO ?_|(refine za (id:=0) ?_;(refine zi ?_;intro _);(refine zi ?_;intro _);(refine zi ?_;intro _);refine zd ?_)|(refine za (id:=1) ?_;refine zD ?_;refine yv (zf (f:=134) (hc:=λw' X hk hh=>hpr w' hk)) (k:=?_);refine zb ?_;refine zh ?_;refine zh ?_;(refine zi ?_;intro _);refine yn (zl (n:=p)) (k:=?_);refine zd ?_)|(refine za (id:=2) ?_;refine zb ?_;refine zV ?_)|(refine za (id:=4) ?_;refine zW ?_;refine zd ?_)|(refine za (id:=5) ?_;(refine zi ?_;intro _))|(refine za (id:=6) ?_;refine zd ?_)|(refine za (id:=7) ?_;refine zb ?_)|fail)
 rename_i b2 b3 b4 b6 b9
 refine zE (γ:=Unit) (λ_=>[(23,.int .i64 0),(9,.pointer (some ⟨b9,0,none⟩)),(8,.func (.func 135) #[] #[.pointer (some ⟨b3,0,none⟩),.pointer (some ⟨b2,0,none⟩),.pointer (some ⟨b6,0,none⟩)]),(4,.pointer (some ⟨b4,0,none⟩))])
  (λ_=>[.blk b9 73 (List.replicate 16 (.int .u64 0)),.blk b6 73 (natC p),.blk b4 73 (List.replicate 16 (.int .u64 0)),.blk b3 9 [.string (str lab)],.blk b2 3 [.int .i64 (i:Int)]])
  (λ_=>True) (λ_=>0) () trivial ?_ ?_ ?_
 ·exact Sub.go
 ·exact SubR.go2
 rintro ⟨⟩ -
 repeat' (first|refine s_t ?_|refine zeb ?_|(refine za (id:=8) ?_;refine zN ?_)|(refine za (id:=9) ?_;refine zb ?_;refine zd ?_)|(refine za (id:=10) ?_;refine zb ?_;refine zb ?_;refine yv (zaI (fst:=[]) (cap:=[.pointer (some ⟨b3,0,none⟩),.pointer (some ⟨b2,0,none⟩),.pointer (some ⟨b6,0,none⟩)]) (hc:=λw' X hk hh=>hps w' hk b3 b2 b6 (zz (hh.has (r:=.blk b3 9 [.string (str lab)]) (by exact Has.append Has.go)) Seg.all 0 _ rfl) (zz (hh.has (r:=.blk b2 3 [.int .i64 (i:Int)]) (by exact Has.append Has.go)) Seg.all 0 _ rfl) (zz (hh.has (r:=.blk b6 73 (natC p)) (by exact Has.append Has.go)) Seg.all))) (k:=?_);refine zb ?_;refine zh ?_;refine zh ?_;(refine zi ?_;intro _);refine yn (zl (n:=r)) (k:=?_);refine zd ?_)|(refine za (id:=11) ?_;refine zb ?_;refine zV ?_;refine zd ?_)|(refine zK (id:=13) 2 [[],[],[0,1],[0,1,2],[0,1,2,3]] mixed ?_ ?_;kernel_rfl;refine dc (λ_ _=>zg (B:=natC r)) (k:=?_);refine dc (λ_ _=>zf (hc:=λ_ _ _ _=>(hnu _))) (k:=?_);refine zU ?_;refine yv (zf (hc:=λ_ _ _ _=>(hcm _))) (k:=?_);refine zaa ?_;refine zd ?_)|(refine za (id:=14) ?_;refine yv (zg (B:=natC r)) (k:=?_);refine yn (zl (n:=r)) (k:=?_);refine zd ?_)|(refine za (id:=16) ?_;refine yv (zg (B:=natC r)) (k:=?_);refine zb ?_;refine yn (zl (n:=r)) (k:=?_);refine zd ?_)|fail)
 exact ret2 rfl (resCells (B:=natC r) rfl (ty rfl) rfl Has.go Seg.all (ze _).symm) (resTmp rfl) SubR.nil ⟨rfl,rfl⟩
end
theorem zm8 (i:Nat) (w:World) (h0:1<=i) (h5:i<=4) (hT:Tab w No) (hG:GT w):
  Sy.Fn Tryz.prog 61 [.int .i64 (i:Int)] w No (Gives (.tuple #[natV (pkPt i true),natV (pkPt i false),.int .i64 0])):=by
 refine zk Tryz.func61 rfl Tryz.ntmps61 (by simp) Holds.nil ?_
 have h1:=λw' (hk:Keep No w w')=>ziW i true w' h0 h5 (hT.no hk) (hG.to hk)
 have h2:=λw' (hk:Keep No w w')=>ziW i false w' h0 h5 (hT.no hk) (hG.to hk)
 generalize pkPt i true=p at *
 generalize pkPt i false=q at *
 have lp:=ze p
 have lq:=ze q
 rw [show (str (pkLab true))=str [119,97,116,99,104,119,111,114,100,32,112,97,107,101,32,99,108,105,101,110,116] from rfl] at h1
 rw [show (str (pkLab false))=str [119,97,116,99,104,119,111,114,100,32,112,97,107,101,32,115,101,114,118,101,114] from rfl] at h2
 repeat' (first|refine s_0 ?_|(refine za (id:=0) ?_;(refine zi ?_;intro _);(refine zi ?_;intro _);refine zd ?_)|(refine za (id:=1) ?_;refine zb ?_;refine yv (zf (f:=100) (hc:=λw' X hk hh=>h1 w' hk)) (k:=?_);refine zb ?_;refine zh ?_;refine zh ?_;refine yn (zl (n:=p)) (k:=?_);refine zd ?_)|(refine za (id:=2) ?_;refine zb ?_;refine zV ?_)|(refine za (id:=4) ?_;refine zb ?_;refine yv (zf (f:=100) (hc:=λw' X hk hh=>h2 w' hk)) (k:=?_);refine zb ?_;refine zh ?_;refine zh ?_;refine yn (zl (n:=q)) (k:=?_);refine zd ?_)|(refine za (id:=5) ?_;refine zb ?_;refine zV ?_)|(refine zK (id:=7) 3 [[],[],[0],[0,1,2],[0,1,2,3]] mixed ?_ ?_;kernel_rfl;refine dc (λ_ _=>zg (B:=natC p)) (k:=?_);refine dc (λ_ _=>zg (B:=natC q)) (k:=?_))|fail)
 refine dcn (λ_ _=>zl (n:=p)) (k:=?_)
 repeat' (first|refine s_0 ?_|(refine zC ?_;first|refine yn (zl (n:=q)) (k:=?_)|refine zd ?_|fail)|refine zU ?_|fail)
 exact ret3 rfl (resCells (B:=natC p) rfl (ty rfl) rfl Has.go Seg.all (ze _).symm) (resCells (B:=natC q) rfl (ty rfl) rfl Has.go Seg.all (ze _).symm) (resTmp rfl) SubR.nil ⟨rfl,rfl⟩
end Go.Proofs.YtcpjfilcilcekaaGreatDoor
end
section
namespace Go.Sy
open Go
section
variable {P:Program}{f:FuncId}{args:List Value}{w:World}{b T:Nat}{C:List Value}{post post':Value->List Res->Prop}
theorem zfV (hC:(Res.blk b T C).holds w):Holds w.heap.size (λx=>x=b) [.blk b T C] w:=
 Holds.cons Holds.nil hC (λ_ h=>absurd h List.not_mem_nil) (λx hx=> .inr (show x=b from Eq.symm hx))
theorem Fn.still (hC:(Res.blk b T C).holds w) (h:Fn P f args w (λx=>x=b) post) (hp: ∀v R,post v R-> ∃R',R= .blk b T C::R'/\post' v R'):Fn P f args w No post':=
 Calls.mono h λ_ _ ⟨v,R,e,hv,hk,hh⟩=>by
  obtain ⟨R',rfl,hp'⟩:=hp v R hv
  have hb:=hh.all _ List.mem_cons_self
  refine ⟨v,R',e,hp',⟨hk.os,hk.tape,hk.output,hk.size,λk hlt _=>?_⟩,hh.tail.all,hh.tail.apart,λr hr x hx=>?_⟩
  ·by_cases hkb:k=b
   ·subst hkb
    have h1:w.heap[k]?=some (.cells C.toArray T (0,0)):=hC
    have h2:=hb
    rw [h1];exact h2
   ·exact hk.block k hlt hkb
  ·rcases hh.tail.mine r hr x hx with h1|h1
   ·exact .inl h1
   ·exact absurd hx ((List.pairwise_cons.1 hh.apart).1 r hr x (show (Res.blk b T C).own x from Eq.symm h1))
end
end Go.Sy
end
section
namespace Go.Proofs.YtcpjfilcilcekaaGreatDoor
open Go Go.Sy Go.Sh Go.Nt Go.RowKit
attribute [local irreducible] Sy SyL SyX Sy.Fn callFunc natC rowN refC iC gP gQ gL memB safeC fixB gel Sh.sum glen HashIs pkPt pkH pkQ pkLab
set_option maxRecDepth 10000
abbrev CalcIs (i b:Nat) (w:World):Prop:=(Res.blk b 64 [.int .i64 (i:Int),.int .i64 0]).holds w
def tup (v:Value) (k:Nat):Value:=match v with| .tuple vs=>(vs[k]?).getD v|v=>v
theorem zb2 (i b x:Nat) (w:World) (hC:CalcIs i b w):
  Sy.Fn Tryz.prog 75 [.pointer (some ⟨b,0,none⟩),natV x,.int .i64 0] w No (Gives (natV x)):=by
 refine Fn.still (post:=λv R=>R= [.blk b 64 [.int .i64 (i:Int),.int .i64 0]]/\v=natV x) hC ?_ (λv R h=>⟨[],h.1,h.2,rfl⟩)
 refine zk Tryz.func75 rfl Tryz.ntmps75 (by simp) (zfV hC) ?_
 have lx:=ze x
 repeat' (first|refine s_0 ?_|(refine za (id:=0) ?_;(refine zi ?_;intro _);(refine zi ?_;intro _))|(refine za (id:=1) ?_;refine zb ?_;refine zA ?_;refine zm ?_;refine zD ?_;refine zX ?_)|(refine za (id:=2) ?_;refine zb ?_;refine zb ?_;refine zA ?_;refine zm ?_;refine yn (za5 (v:=.int .i64 0) (C:=[.int .i64 (i:Int),.int .i64 0]) (C':=[.int .i64 (i:Int),.int .i64 0]) (hC:=⟨Nat.lt_succ_self 1,rfl⟩)) (k:=?_))|(refine za (id:=3) ?_;refine yv (zg (B:=natC x)) (k:=?_);refine yn (zl (n:=x)) (k:=?_))|fail)
 exact ret1 rfl (resCells (B:=natC x) rfl (ty rfl) rfl Has.go Seg.all (ze _).symm) (by exact SubR.go) ⟨rfl,rfl⟩
theorem CalcIs.to {i b:Nat}{w w':World}(h:CalcIs i b w) (hk:Keep No w w'):CalcIs i b w':=
 (hk.block b (Array.getElem?_eq_some_iff.1 h).1 (λh=>h)).trans h
theorem CalcIs.cell {i b:Nat}{w:World}(h:CalcIs i b w):w.cell? ⟨b,0+0,none⟩=some (.int .i64 (i:Int)):=by
 rw [Sy.blk_cell h];rfl
theorem zk1 (i b x y:Nat) (w:World) (h0:1<=i) (h5:i<=4) (hG:GT w) (hC:CalcIs i b w) (hx:x < 18446744073709551616 ^ 16) (hy:y < 18446744073709551616 ^ 16) (hc:(memB (gP i) (gQ i) x && memB (gP i) (gQ i) y)=true):
  Sy.Fn Tryz.prog 35 [.pointer (some ⟨b,0,none⟩),natV x,natV y] w No (Gives (natV (x*y % gP i))):=by
 refine zk Tryz.func35 rfl Tryz.ntmps35 (by simp) Holds.nil ?_
 have hci:=hC.cell
 have hm:=λw' (hk:Keep No w w')=>zpz i x y w' h0 h5 (hG.to hk) hx hy hc
 have hn:=λw' (hk:Keep No w w')=>zb2 i b (x*y % gP i) w' (hC.to hk)
 generalize x*y % gP i=r at *
 have lx:=ze x
 have ly:=ze y
 have lr:=ze r
 repeat' (first|refine s_0 ?_|(refine za (id:=0) ?_;(refine zi ?_;intro _);(refine zi ?_;intro _);(refine zi ?_;intro _))|(refine zK (id:=1) 10 [[],[],[1],[1,2],[1,2,3],[],[],[1,2,3,4,5,6],[1,2,3,4,5,6,7],[1,2,3,4,5,6,7],[0,1,2,3,4,5,6,7,8,9],[0,1,2,3,4,5,6,7,8,9,10]] mixed ?_ ?_;kernel_rfl;refine zp ?_;refine zp ?_;refine zas ?_;refine z3 ?_;refine dc (λ_ _=>zx (hv:=hci)) (k:=?_);refine dc (λ_ _=>zg (B:=natC x)) (k:=?_);refine dc (λ_ _=>zg (B:=natC y)) (k:=?_);refine dc (λ_ _=>zf (f:=79) (hc:=λw' X hk hh=>hm w' hk)) (k:=?_);refine za1 ?_;refine za1 ?_;refine zU ?_;refine yv (zf (f:=75) (hc:=λw' X hk hh=>hn w' hk)) (k:=?_);refine yn (zl (n:=r)) (k:=?_))|fail)
 exact ret1 rfl (resCells (B:=natC r) rfl (ty rfl) rfl Has.go Seg.all (ze _).symm) SubR.nil ⟨rfl,rfl⟩
theorem zhL (i b x e:Nat) (w:World) (h0:1<=i) (h5:i<=4) (hG:GT w) (hC:CalcIs i b w) (hx:x < 18446744073709551616 ^ 16) (he:e < 18446744073709551616 ^ 16) (hc:memB (gP i) (gQ i) x=true) (hd:e < gQ i):
  Sy.Fn Tryz.prog 37 [.pointer (some ⟨b,0,none⟩),natV x,natV e] w No (Gives (natV (x ^ e % gP i))):=by
 refine zk Tryz.func37 rfl Tryz.ntmps37 (by simp) Holds.nil ?_
 have hci:=hC.cell
 have hm:=λw' (hk:Keep No w w')=>zp0 i x e w' h0 h5 (hG.to hk) hx he hc hd
 have hn:=λw' (hk:Keep No w w')=>zb2 i b (x ^ e % gP i) w' (hC.to hk)
 generalize x ^ e % gP i=r at *
 have lx:=ze x
 have le:=ze e
 have lr:=ze r
 repeat' (first|refine s_0 ?_|(refine za (id:=0) ?_;(refine zi ?_;intro _);(refine zi ?_;intro _);(refine zi ?_;intro _))|(refine zK (id:=1) 10 [[],[],[1],[1,2],[1,2,3],[],[],[1,2,3,4,5,6],[1,2,3,4,5,6,7],[1,2,3,4,5,6,7],[0,1,2,3,4,5,6,7,8,9],[0,1,2,3,4,5,6,7,8,9,10]] mixed ?_ ?_;kernel_rfl;refine zp ?_;refine zp ?_;refine zas ?_;refine z3 ?_;refine dc (λ_ _=>zx (hv:=hci)) (k:=?_);refine dc (λ_ _=>zg (B:=natC x)) (k:=?_);refine dc (λ_ _=>zg (B:=natC e)) (k:=?_);refine dc (λ_ _=>zf (f:=81) (hc:=λw' X hk hh=>hm w' hk)) (k:=?_);refine za1 ?_;refine za1 ?_;refine zU ?_;refine yv (zf (f:=75) (hc:=λw' X hk hh=>hn w' hk)) (k:=?_);refine yn (zl (n:=r)) (k:=?_))|fail)
 exact ret1 rfl (resCells (B:=natC r) rfl (ty rfl) rfl Has.go Seg.all (ze _).symm) SubR.nil ⟨rfl,rfl⟩
theorem zmF (i b e:Nat) (w:World) (h0:1<=i) (h5:i<=4) (hG:GT w) (hC:CalcIs i b w) (he:e < 18446744073709551616 ^ 16) (hd:e < gQ i):
  Sy.Fn Tryz.prog 36 [.pointer (some ⟨b,0,none⟩),natV e] w No (Gives (natV (4 ^ e % gP i))):=by
 refine zk Tryz.func36 rfl Tryz.ntmps36 (by simp) Holds.nil ?_
 have hci:=hC.cell
 have hm:=λw' (hk:Keep No w w')=>zmx i e w' h0 h5 (hG.to hk) he hd
 have hn:=λw' (hk:Keep No w w')=>zb2 i b (4 ^ e % gP i) w' (hC.to hk)
 generalize 4 ^ e % gP i=r at *
 have le:=ze e
 have lr:=ze r
 repeat' (first|refine s_0 ?_|(refine za (id:=0) ?_;(refine zi ?_;intro _);(refine zi ?_;intro _))|(refine zK (id:=1) 9 [[],[],[1],[1,2],[1,2,3],[],[1,2,3,4,5],[1,2,3,4,5,6],[1,2,3,4,5,6],[0,1,2,3,4,5,6,7,8],[0,1,2,3,4,5,6,7,8,9]] mixed ?_ ?_;kernel_rfl;refine zp ?_;refine zp ?_;refine zas ?_;refine z3 ?_;refine dc (λ_ _=>zx (hv:=hci)) (k:=?_);refine dc (λ_ _=>zg (B:=natC e)) (k:=?_);refine dc (λ_ _=>zf (f:=80) (hc:=λw' X hk hh=>hm w' hk)) (k:=?_);refine za1 ?_;refine za1 ?_;refine zU ?_;refine yv (zf (f:=75) (hc:=λw' X hk hh=>hn w' hk)) (k:=?_);refine yn (zl (n:=r)) (k:=?_))|fail)
 exact ret1 rfl (resCells (B:=natC r) rfl (ty rfl) rfl Has.go Seg.all (ze _).symm) SubR.nil ⟨rfl,rfl⟩
theorem zp5 (i b x:Nat) (w:World) (h0:1<=i) (h5:i<=4) (hG:GT w) (hC:CalcIs i b w) (hx:x < 18446744073709551616 ^ 16) (hc:memB (gP i) (gQ i) x=true):
  Sy.Fn Tryz.prog 58 [.pointer (some ⟨b,0,none⟩),natV x] w No (Gives (natV (inv (gP i) x).2)):=by
 refine zk Tryz.func58 rfl Tryz.ntmps58 (by simp) Holds.nil ?_
 have hci:=hC.cell
 have hm:=λw' (hk:Keep No w w')=>zqf i x w' h0 h5 (hG.to hk) hx hc
 have hn:=λw' (hk:Keep No w w')=>zb2 i b (inv (gP i) x).2 w' (hC.to hk)
 generalize (inv (gP i) x).2=r at *
 have lx:=ze x
 have lr:=ze r
 repeat' (first|refine s_0 ?_|(refine za (id:=0) ?_;(refine zi ?_;intro _);(refine zi ?_;intro _))|(refine zK (id:=1) 9 [[],[],[1],[1,2],[1,2,3],[],[1,2,3,4,5],[1,2,3,4,5,6],[1,2,3,4,5,6],[0,1,2,3,4,5,6,7,8],[0,1,2,3,4,5,6,7,8,9]] mixed ?_ ?_;kernel_rfl;refine zp ?_;refine zp ?_;refine zas ?_;refine z3 ?_;refine dc (λ_ _=>zx (hv:=hci)) (k:=?_);refine dc (λ_ _=>zg (B:=natC x)) (k:=?_);refine dc (λ_ _=>zf (f:=97) (hc:=λw' X hk hh=>hm w' hk)) (k:=?_);refine za1 ?_;refine za1 ?_;refine zU ?_;refine yv (zf (f:=75) (hc:=λw' X hk hh=>hn w' hk)) (k:=?_);refine yn (zl (n:=r)) (k:=?_))|fail)
 exact ret1 rfl (resCells (B:=natC r) rfl (ty rfl) rfl Has.go Seg.all (ze _).symm) SubR.nil ⟨rfl,rfl⟩
theorem zhd (i b:Nat) (w:World) (h0:1<=i) (h5:i<=4) (hT:Tab w No) (hG:GT w) (hC:CalcIs i b w):
  Sy.Fn Tryz.prog 33 [.pointer (some ⟨b,0,none⟩)] w No (Gives (.tuple #[natV (pkPt i true),natV (pkPt i false)])):=by
 refine zk Tryz.func33 rfl Tryz.ntmps33 (by simp) Holds.nil ?_
 have hci:=hC.cell
 have hm:=λw' (hk:Keep No w w')=>zm8 i w' h0 h5 (hT.no hk) (hG.to hk)
 have hn:=λw' (hk:Keep No w w')=>zb2 i b (pkPt i true) w' (hC.to hk)
 generalize pkPt i true=p at *
 generalize pkPt i false=q at *
 have lp:=ze p
 have lq:=ze q
 repeat' (first|refine s_0 ?_|(refine za (id:=0) ?_;(refine zi ?_;intro _);(refine zi ?_;intro _))|(refine za (id:=1) ?_;refine zb ?_;refine zA ?_;refine zm ?_;refine yv (zx (hv:=hci)) (k:=?_);refine yv (zf (f:=61) (hc:=λw' X hk hh=>hm w' hk)) (k:=?_);refine zb ?_;refine zh ?_;refine zh ?_;refine zh ?_;refine yn (zl (n:=p)) (k:=?_);refine yn (zl (n:=q)) (k:=?_);refine zd ?_)|(refine zK (id:=2) 6 [[],[],[],[0,1,2],[],[0,1,2,3],[0,1,2,3,4,5]] mixed ?_ ?_;kernel_rfl;refine zp ?_;refine dc (λ_ _=>zg (B:=natC p)) (k:=?_);refine zp ?_;refine dc (λ_ _=>zf (f:=75) (hc:=λw' X hk hh=>hn w' hk)) (k:=?_);refine dc (λ_ _=>zg (B:=natC q)) (k:=?_))|fail)
 refine dcn (λ_ _=>zl (n:=p)) (k:=?_)
 repeat' (first|refine s_0 ?_|(refine zC ?_;first|refine yn (zl (n:=q)) (k:=?_)|fail)|refine zU ?_|fail)
 exact ret2 rfl (resCells (B:=natC p) rfl (ty rfl) rfl Has.go Seg.all (ze _).symm) (resCells (B:=natC q) rfl (ty rfl) rfl Has.go Seg.all (ze _).symm) SubR.nil ⟨rfl,rfl⟩
theorem zkc (i b:Nat) (a:Option Addr) (n c:Nat) (bl:List UInt8) (w:World) (h0:1<=i) (h5:i<=4) (hG:GT w) (hC:CalcIs i b w) (hl:bl.length=n) (hcap:n<=c) (hc2:n < 1000000) (hb:SlA w a (bl.map v8)):
  Sy.Fn Tryz.prog 32 [.pointer (some ⟨b,0,none⟩),.slice a n c] w No (Gives (natV (pkX i bl))):=by
 refine zk Tryz.func32 rfl Tryz.ntmps32 (by simp) Holds.nil ?_
 have hci:=hC.cell
 have hm:=λw' (hk:Keep No w w')=>zhq i a n c bl w' h0 h5 (hG.to hk) hl hcap hc2 ((SlF.of hb).to (Mi:=No) hk (λ_ h=> .inr h)).sla
 have hn:=λw' (hk:Keep No w w')=>zb2 i b (bev 256 (bn bl) % gQ i) w' (hC.to hk)
 have hW:bev 256 (bn bl) % gQ i < 18446744073709551616 ^ 16:=Nat.lt_trans (Nat.mod_lt _ (Nat.lt_of_lt_of_le (by decide) (zaF i h0 h5))) (za3 i h0 h5)
 have hz:=λw'=>zbm (bev 256 (bn bl) % gQ i) w' hW
 have hx:pkX i bl=if bev 256 (bn bl) % gQ i=0 then 1 else bev 256 (bn bl) % gQ i:=rfl
 have h1:=λw'=>zgf 1 w' (by decide)
 rw [hx]
 generalize bev 256 (bn bl) % gQ i=r at *
 have lr:=ze r
 have l1:=ze 1
 by_cases h:r=0
 ·rw [if_pos h]
  simp only [h,decide_true] at hz
  subst h
  repeat' (first|refine s_0 ?_|(refine za (id:=0) ?_;(refine zi ?_;intro _))|(refine za (id:=1) ?_;refine zb ?_;refine zb ?_;refine zA ?_;refine zm ?_;refine yv (zx (hv:=hci)) (k:=?_);refine zb ?_;refine yv (zf (f:=77) (hc:=λw' X hk hh=>hm w' hk)) (k:=?_);refine zh ?_;refine zh ?_;refine yv (zf (f:=75) (hc:=λw' X hk hh=>hn w' hk)) (k:=?_);(refine zi ?_;intro _);refine yn (zl (n:=0)) (k:=?_))|(refine za (id:=2) ?_;refine yv (zg (B:=natC 0)) (k:=?_);refine yv (zf (hc:=λ_ _ _ _=>(hz _))) (k:=?_))|(refine za (id:=3) ?_;refine yv (zf (hc:=λ_ _ _ _=>(h1 _))) (k:=?_);refine yn (zl (n:=1)) (k:=?_))|fail)
  exact ret1 rfl (resCells (B:=natC 1) rfl (ty rfl) rfl Has.go Seg.all (ze _).symm) SubR.nil ⟨rfl,rfl⟩
 ·rw [if_neg h]
  simp only [h,decide_false] at hz
  repeat' (first|refine s_0 ?_|(refine za (id:=0) ?_;(refine zi ?_;intro _))|(refine za (id:=1) ?_;refine zb ?_;refine zb ?_;refine zA ?_;refine zm ?_;refine yv (zx (hv:=hci)) (k:=?_);refine zb ?_;refine yv (zf (f:=77) (hc:=λw' X hk hh=>hm w' hk)) (k:=?_);refine zh ?_;refine zh ?_;refine yv (zf (f:=75) (hc:=λw' X hk hh=>hn w' hk)) (k:=?_);(refine zi ?_;intro _);refine yn (zl (n:=r)) (k:=?_))|(refine za (id:=2) ?_;refine yv (zg (B:=natC r)) (k:=?_);refine yv (zf (hc:=λ_ _ _ _=>(hz _))) (k:=?_))|(refine za (id:=4) ?_;refine yv (zg (B:=natC r)) (k:=?_);refine yn (zl (n:=r)) (k:=?_))|fail)
  exact ret1 rfl (resCells (B:=natC r) rfl (ty rfl) rfl Has.go Seg.all (ze _).symm) SubR.nil ⟨rfl,rfl⟩
theorem zhY (i b x:Nat) (w:World) (h0:1<=i) (h5:i<=4) (hG:GT w) (hC:CalcIs i b w) (hx:x < 18446744073709551616 ^ 16) (hc:memB (gP i) (gQ i) x=true):
  Sy.Fn Tryz.prog 34 [.pointer (some ⟨b,0,none⟩),natV x] w No (λv R=>∃a c,v= .slice a (gL i) c/\R= [.row (.slice a (gL i) c) 5 1 (gL i) ((fixB (gL i) x).map v8)]):=by
 refine zk Tryz.func34 rfl Tryz.ntmps34 (by simp) Holds.nil ?_
 have hci:=hC.cell
 have hm:=λw' (hk:Keep No w w')=>zmi i x w' h0 h5 (hG.to hk) hx hc
 have hn:=λw' (hk:Keep No w w')=>zb2 i b x w' (hC.to hk)
 have lx:=ze x
 repeat' (first|refine s_0 ?_|(refine za (id:=0) ?_;(refine zi ?_;intro _);refine zd ?_)|fail)
 rename_i b3
 unfold FixG at hm
 refine zah (id:=1) mixed ?_
 (refine zab 10 10 [[],[0],[0,1],[0,1,2],[],[0,1,2,3,4],[0,1,2,3,4,5],[0,1,2,3,4,5,6],[0,1,2,3,4,5,6],[0,1,2,3,4,5,6,7],[0,1,2,3,4,5,6,7,8,9]] [[],[],[],[],[],[],[],[],[],[],[]] none rfl ?_ ?_ ?_;kernel_rfl;kernel_rfl;refine zS ?_;refine zaN ?_;refine zT ?_;refine dcE (λ_ _=>zx (hv:=hci)) (k:=?_);refine dcE (λ_ _=>zg (B:=natC x)) (k:=?_);try refine z5 (h:=?_))
 refine z7 (R:=λ_=>FixG i x) (λ_ _ _=>rfl) (λρ hρ=>zn (f:=62) (hc:=λw' X hk hh=>hm w' hk)) (h:=?_)
 refine zbf (u:=λρ=>(ρ 5).1) (λρ hρ=>zcw) (λ_=>rfl) rfl (λρ ρ' h=>by rw [h 5 (by decide)]) (h:=?_)
 refine zbf (u:=λρ=>tup (ρ 5).1 0) (λρ hρ=>?_) (λ_=>rfl) rfl (λρ ρ' h=>by rw [h 5 (by decide)]) (h:=?_)
 ·obtain ⟨⟨a,c,e1,e2⟩,-⟩:=hρ
  refine OpT.mono (zaA (vs:=#[.slice a (gL i) c,.int .i64 0]) (hx:=by show some (ρ 5).1=_;rw [e1])) λv L' h=>?_
  obtain ⟨rfl,rfl⟩:=h
  exact ⟨by rw [e1];rfl,rfl⟩
 refine dcE (u:=.int .i64 0) (λρ hρ=>?_) (k:=?_)
 ·obtain ⟨⟨a,c,e1,e2⟩,-⟩:=hρ
  exact zaA (vs:=#[.slice a (gL i) c,.int .i64 0]) (hx:=by show some (ρ 5).1=_;rw [e1])
 refine zbf (u:=λρ=>tup (ρ 5).1 0) (λρ hρ=>zbR) (λ_=>rfl) rfl (λρ ρ' h=>by rw [h 5 (by decide)]) (h:=?_)
 refine zaE (h:=?_)
 rintro ρ ⟨⟨aF,cF,e1,e2⟩,-⟩
 (refine zag [[],[0],[0,1],[0,1,2],[],[0,1,2,3,4],[0,1,2,3,4,5],[0,1,2,3,4,5,6],[0,1,2,3,4,5,6],[0,1,2,3,4,5,6,7],[0,1,2,3,4,5,6,7,8,9]] ?_ ?_;kernel_rfl)
 have e3:tup (ρ 5).1 0= .slice aF (gL i) cF:=by rw [e1];rfl
 refine SyL.weaken (fr':=[(15,.int .i64 0),(5,.slice aF (gL i) cF),(0,.pointer (some ⟨b,0,none⟩)),(3,.pointer (some ⟨b3,0,none⟩)),(4,.slice none 0 0)]) (L':=[.row (.slice aF (gL i) cF) 5 1 (gL i) ((fixB (gL i) x).map v8),.blk b3 73 (natC x)]) ?_ (by simp only [e3];exact Sub.go) ?_
 rotate_left
 ·show SubR _ ((ρ 5).2 ++ _)
  rw [e2]
  exact SubR.go2
 repeat' (first|refine s_0 ?_|(refine za (id:=2) ?_;refine zb ?_;refine yv (zg (B:=natC x)) (k:=?_);refine zb ?_;refine yv (zf (f:=75) (hc:=λw' X hk hh=>hn w' hk)) (k:=?_))|(refine za (id:=3) ?_;refine zb ?_;refine zd ?_)|(refine zC ?_;first|refine zd ?_|fail)|fail)
 exact ret1 rfl (resTmp rfl) (by exact SubR.go2) ⟨_,_,rfl,rfl⟩
theorem zlj (i b x:Nat) (w:World) (h0:1<=i) (h5:i<=4) (hG:GT w) (hC:CalcIs i b w) (hx:x < 18446744073709551616 ^ 16) (hc:decide (x < gQ i)=true):
  Sy.Fn Tryz.prog 59 [.pointer (some ⟨b,0,none⟩),natV x] w No (λv R=>∃a c,v= .slice a (gL i) c/\R= [.row (.slice a (gL i) c) 5 1 (gL i) ((fixB (gL i) x).map v8)]):=by
 refine zk Tryz.func59 rfl Tryz.ntmps59 (by simp) Holds.nil ?_
 have hci:=hC.cell
 have hm:=λw' (hk:Keep No w w')=>zlQ i x w' h0 h5 (hG.to hk) hx hc
 have hn:=λw' (hk:Keep No w w')=>zb2 i b x w' (hC.to hk)
 have lx:=ze x
 repeat' (first|refine s_0 ?_|(refine za (id:=0) ?_;(refine zi ?_;intro _);refine zd ?_)|fail)
 rename_i b3
 unfold FixG at hm
 refine zah (id:=1) mixed ?_
 (refine zab 10 10 [[],[0],[0,1],[0,1,2],[],[0,1,2,3,4],[0,1,2,3,4,5],[0,1,2,3,4,5,6],[0,1,2,3,4,5,6],[0,1,2,3,4,5,6,7],[0,1,2,3,4,5,6,7,8,9]] [[],[],[],[],[],[],[],[],[],[],[]] none rfl ?_ ?_ ?_;kernel_rfl;kernel_rfl;refine zS ?_;refine zaN ?_;refine zT ?_;refine dcE (λ_ _=>zx (hv:=hci)) (k:=?_);refine dcE (λ_ _=>zg (B:=natC x)) (k:=?_);try refine z5 (h:=?_))
 refine z7 (R:=λ_=>FixG i x) (λ_ _ _=>rfl) (λρ hρ=>zn (f:=98) (hc:=λw' X hk hh=>hm w' hk)) (h:=?_)
 refine zbf (u:=λρ=>(ρ 5).1) (λρ hρ=>zcw) (λ_=>rfl) rfl (λρ ρ' h=>by rw [h 5 (by decide)]) (h:=?_)
 refine zbf (u:=λρ=>tup (ρ 5).1 0) (λρ hρ=>?_) (λ_=>rfl) rfl (λρ ρ' h=>by rw [h 5 (by decide)]) (h:=?_)
 ·obtain ⟨⟨a,c,e1,e2⟩,-⟩:=hρ
  refine OpT.mono (zaA (vs:=#[.slice a (gL i) c,.int .i64 0]) (hx:=by show some (ρ 5).1=_;rw [e1])) λv L' h=>?_
  obtain ⟨rfl,rfl⟩:=h
  exact ⟨by rw [e1];rfl,rfl⟩
 refine dcE (u:=.int .i64 0) (λρ hρ=>?_) (k:=?_)
 ·obtain ⟨⟨a,c,e1,e2⟩,-⟩:=hρ
  exact zaA (vs:=#[.slice a (gL i) c,.int .i64 0]) (hx:=by show some (ρ 5).1=_;rw [e1])
 refine zbf (u:=λρ=>tup (ρ 5).1 0) (λρ hρ=>zbR) (λ_=>rfl) rfl (λρ ρ' h=>by rw [h 5 (by decide)]) (h:=?_)
 refine zaE (h:=?_)
 rintro ρ ⟨⟨aF,cF,e1,e2⟩,-⟩
 (refine zag [[],[0],[0,1],[0,1,2],[],[0,1,2,3,4],[0,1,2,3,4,5],[0,1,2,3,4,5,6],[0,1,2,3,4,5,6],[0,1,2,3,4,5,6,7],[0,1,2,3,4,5,6,7,8,9]] ?_ ?_;kernel_rfl)
 have e3:tup (ρ 5).1 0= .slice aF (gL i) cF:=by rw [e1];rfl
 refine SyL.weaken (fr':=[(15,.int .i64 0),(5,.slice aF (gL i) cF),(0,.pointer (some ⟨b,0,none⟩)),(3,.pointer (some ⟨b3,0,none⟩)),(4,.slice none 0 0)]) (L':=[.row (.slice aF (gL i) cF) 5 1 (gL i) ((fixB (gL i) x).map v8),.blk b3 73 (natC x)]) ?_ (by simp only [e3];exact Sub.go) ?_
 rotate_left
 ·show SubR _ ((ρ 5).2 ++ _)
  rw [e2]
  exact SubR.go2
 repeat' (first|refine s_0 ?_|(refine za (id:=2) ?_;refine zb ?_;refine yv (zg (B:=natC x)) (k:=?_);refine zb ?_;refine yv (zf (f:=75) (hc:=λw' X hk hh=>hn w' hk)) (k:=?_))|(refine za (id:=3) ?_;refine zb ?_;refine zd ?_)|(refine zC ?_;first|refine zd ?_|fail)|fail)
 exact ret1 rfl (resTmp rfl) (by exact SubR.go2) ⟨_,_,rfl,rfl⟩
end Go.Proofs.YtcpjfilcilcekaaGreatDoor
end
