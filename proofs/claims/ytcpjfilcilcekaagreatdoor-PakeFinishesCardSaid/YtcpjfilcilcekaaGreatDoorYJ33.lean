/- Layer pake, walked: the scalar of a secret. -/
import Derived.Test.YtcpjfilcilcekaaGreatDoorYJ32
set_option linter.all false
section
namespace Go.Proofs.YtcpjfilcilcekaaGreatDoor
open Go Go.Sy Go.Sh Go.Nt Go.RowKit
attribute [local irreducible] Sy SyL SyX Sy.Fn callFunc natC gP gQ gL Sh.sum HashIs firstN dblock hmac pkW
set_option maxRecDepth 10000
theorem zoK {B0:Nat}{w:World}{M:Nat->Prop}{E m c:Nat}{a:Option Addr}{xs:List Value}{L:List Res}(hh:Holds B0 M L w) (hL:Has L (.row (.slice a m c) E 1 m xs)):m<=c:=by
 have hrow:w.ownsRow 0 E 1 (.slice a m c) m xs:=hh.all _ hL
 obtain ⟨h1,⟨_,h2⟩|⟨b,c',cur,hv,_,_,h3,_⟩⟩:=hrow
 ·omega
 ·cases hv;omega
set_option maxHeartbeats 1000000 in
theorem zlx (i b:Nat) (a:Option Addr) (n c:Nat) (s:List UInt8) (w:World) (h0:1<=i) (h5:i<=4) (hT:Tab w No) (hG:GT w) (hC:CalcIs i b w) (hl:s.length=n) (hcap:n<=c) (hc2:n<=10000) (hb:SlA w a (s.map v8)):
  Sy.Fn Tryz.prog 31 [.pointer (some ⟨b,0,none⟩),.slice a n c] w No (Gives (natV (pkW i s))):=by
 refine zk Tryz.func31 rfl Tryz.ntmps31 (by simp) Holds.nil ?_
 have hci:=hC.cell
 have hui:=u8w i (by omega)
 have hmm:=λw' (hk:Keep No w w') b9 b12 (r9:SlA w' (some ⟨b9,0,none⟩) (pkLabS.map v8)) (h12:w'.rangeAt b12 0 [Value.slice a n c])=>
  zph (some ⟨b9,0,none⟩) (some ⟨b12,0,none⟩) 21 21 1 1 pkLabS [⟨a,n,c,s⟩] w' rfl (by decide) (Nat.le_refl _) r9 rfl (by decide) (.inr ⟨b12,0,rfl,h12⟩) (part1 (s:=⟨a,n,c,s⟩) ⟨hl,hcap,((SlF.of hb).to (Mi:=No) hk (λ_ h=> .inr h)).sla,hc2⟩) (hT.no hk)
 simp only [cat1] at hmm
 have hH:(hmac pkLabS s).length=32:=zbJ _ _
 have hW:pkW i s=bev 256 (bn (firstN (dblock (hmac pkLabS s) (pkLabW ++ [UInt8.ofNat i]) [] 32) 32)) % gQ i:=by unfold pkW;rfl
 generalize hmac pkLabS s=H at *
 have hkd:=λw' (hk:Keep No w w') bH bL cL (s0:SlA w' (some ⟨bH,0,none⟩) (H.map v8)) (hcL:7<=cL) (s1:SlA w' (some ⟨bL,0,none⟩) ((pkLabW ++ [UInt8.ofNat i]).map v8))=>
  zmo (some ⟨bH,0,none⟩) (some ⟨bL,0,none⟩) none 32 32 7 cL 0 0 32 H (pkLabW ++ [UInt8.ofNat i]) [] w' ⟨hH,Nat.le_refl _,s0,λh=>by cases h⟩ ⟨rfl,hcL,s1,λh=>by cases h⟩ ⟨rfl,Nat.le_refl _,.inl rfl,λ_=>rfl⟩ (by decide) (by decide) (by decide) (by decide) (by decide) (hT.no hk)
 have hDl:(firstN (dblock H (pkLabW ++ [UInt8.ofNat i]) [] 32) 32).length=32:=zdJ _ (λ_=>by unfold dblock;exact zbJ _ _) 32
 generalize firstN (dblock H (pkLabW ++ [UInt8.ofNat i]) [] 32) 32=D at *
 have hsc:=λw' (hk:Keep No w w') aD cD (h1:32<=cD) (h2:SlA w' aD (D.map v8))=>zhq i aD 32 cD D w' h0 h5 (hG.to hk) hDl h1 (by decide) h2
 rw [<-hW] at hsc
 generalize pkW i s=r at *
 have hn0:=λw' (hk:Keep No w w')=>zb2 i b 0 w' (hC.to hk)
 have lr:=ze r
 have hnr:=λw' (hk:Keep No w w')=>zb2 i b r w' (hC.to hk)
 repeat' (first|refine s_0 ?_|(refine za (id:=0) ?_;(refine zi ?_;intro _))|(refine za (id:=1) ?_;(refine ys zt (k:=?_);rintro _ _ ⟨_,rfl,rfl⟩);refine zaV ?_;refine zb ?_;(refine ys zt (k:=?_);rintro _ _ ⟨_,rfl,rfl⟩))|fail)
 rename_i b4 b9 b12
 refine yv (zf (f:=74) (hc:=λw' X hk hh=>hmm w' hk b9 b12 ((Rd.of (Reads.obj (Has.there Has.here) Seg.all)) w' X hk hh) (zz (hh.has (Has.append Has.here)) Seg.all))) (k:=?_)
 repeat' (first|refine s_0 ?_|(refine za (id:=2) ?_;refine zb ?_;refine yv za8 (k:=?_);refine zb ?_;refine yv (zf (f:=75) (hc:=λw' X hk hh=>hn0 w' hk)) (k:=?_))|(refine zC ?_;first|refine zd ?_|refine zh ?_|refine zb ?_|refine zB ?_|(refine zi ?_;intro _)|fail)|fail)
 rename_i b5
 refine Sy.weaken (fr':=[(6,.int .i64 0),(5,.pointer (some ⟨b5,0,none⟩)),(4,.pointer (some ⟨b4,0,none⟩)),(0,.pointer (some ⟨b,0,none⟩))]) (L':=[.blk b5 66 (H.map v8),.blk b4 73 (List.replicate 16 (.int .u64 0))]) ?_ (by exact Sub.go) (by exact SubR.go)
 refine zah (id:=3) mixed ?_
 (refine zab 15 15 [[],[],[1],[],[3],[3,4],[3,4,5],[3,4,5,6],[3,4,5,6,7],[1,2,3,4,5,6,7,8],[0,1,2,3,4,5,6,7,8,9],[0,1,2,3,4,5,6,7,8,9,10],[0,1,2,3,4,5,6,7,8,9,10,11],[0,1,2,3,4,5,6,7,8,9,10,11],[0,1,2,3,4,5,6,7,8,9,10,11,12],[0,1,2,3,4,5,6,7,8,9,10,11,12,13,14]] [[],[],[1],[],[],[],[],[],[],[],[],[],[],[],[],[]] none rfl ?_ ?_ ?_;kernel_rfl;kernel_rfl;refine zkG ?_;try refine z5 (h:=?_))
 refine z7 (R:=λ_=>LitOf 5 (pkLabW.map v8)) (λ_ _ _=>rfl) (λρ hρ=>OpT.mono zt λv L' h=>?_) (h:=?_)
 ·obtain ⟨b,rfl,rfl⟩:=h
  exact ⟨[_],rfl,b,rfl,rfl⟩
 refine z7 (R:=λ_ v Nw=>∃b,v= .slice (some ⟨b,0,none⟩) 6 6/\Nw= [.obj b (.cells (pkLabW.map v8).toArray 5 (6,7))]) (λ_ _ _=>rfl) (λρ hρ=>?_) (h:=?_)
 ·obtain ⟨⟨b1,e1,f1⟩,-⟩:=hρ
  refine OpT.mono (zgn (b:=b1) (C:=pkLabW.map v8) (hx:=by show some (ρ 1).1=_;rw [e1]) (hL:=by show Upd ((ρ 1).2 ++ _) _ _ _;rw [f1];exact Upd.here)) λv L' h=>?_
  obtain ⟨rfl,rfl⟩:=h
  exact ⟨[_],rfl,b1,rfl,rfl⟩
 (skip;refine zS ?_;refine zaN ?_;refine zT ?_;refine dcE (λ_ _=>zx (hv:=hci)) (k:=?_);refine dcE (λ_ _=>zZ (hr:=hui)) (k:=?_);try refine z5 (h:=?_))
 refine z7 (R:=λ_=>LitOf 5 [v8 (UInt8.ofNat i)]) (λ_ _ _=>rfl) (λρ hρ=>OpT.mono zt λv L' h=>?_) (h:=?_)
 ·obtain ⟨b,rfl,rfl⟩:=h
  exact ⟨[_],rfl,b,rfl,rfl⟩
 refine z7 (R:=λ_ v Nw=>∃b J,v= .slice (some ⟨b,0,none⟩) 7 (7+J.length)/\Nw= [.blk b 5 ((pkLabW ++ [UInt8.ofNat i]).map v8 ++ J)]) (λ_ _ _=>rfl) (λρ hρ=>?_) (h:=?_)
 ·obtain ⟨⟨b8,e8,f8⟩,⟨b2,e2,f2⟩,-⟩:=hρ
  refine OpT.mono (zg1 (k:=6) (cs:=6) (m:=1) (cx:=1) (xs:=pkLabW.map v8) (news:=[v8 (UInt8.ofNat i)]) (hs:=by show some (ρ 2).1=_;rw [e2]) (hx:=by show some (ρ 8).1=_;rw [e8];rfl)
   (hrs:=by
    show Rd _ _ ((ρ 8).2 ++ ((ρ 2).2 ++ _)) _ _
    rw [f8,f2]
    exact Rd.of (Reads.obj (Has.there Has.here) Seg.all))
   (hrx:=by
    show Rd _ _ ((ρ 8).2 ++ ((ρ 2).2 ++ _)) _ _
    rw [f8,f2]
    exact Rd.of (Reads.blk Has.here Seg.all)) (hk:=rfl) (hm:=rfl) (hkp:=by decide) (hmp:=by decide) (hg:=by decide) (b1':=by decide)) λv L' h=>?_
  obtain ⟨b9,J,rfl,rfl⟩:=h
  exact ⟨[_],rfl,b9,J,rfl,by rw [List.map_append];rfl⟩
 refine z7 (R:=λ_ v Nw=>∃a c,v= .tuple #[.slice a 32 c,.int .i64 0]/\Nw= [.row (.slice a 32 c) 5 1 32 (D.map v8)]) (λ_ _ _=>rfl) (λρ hρ=>?_) (h:=?_)
 ·obtain ⟨⟨b9,J,e9,f9⟩,⟨b8,e8,f8⟩,⟨b2,e2,f2⟩,-⟩:=hρ
  refine zn (f:=76) (vs:=[.slice (some ⟨b5,0,none⟩) 32 32,.slice (some ⟨b9,0,none⟩) 7 (7+J.length),.slice none 0 0,.int .i64 ((32:Nat):Int)]) (ha:=by show (some [_,(ρ 9).1,_,_]:Option (List Value))=_;rw [e9];rfl) (hc:=λw' X hk hh=>?_)
  ·have h2:Holds w.heap.size No ((ρ 9).2 ++ ((ρ 8).2 ++ ((ρ 2).2 ++ [.blk b5 66 (H.map v8),.blk b4 73 (List.replicate 16 (.int .u64 0))])) ++ X) w':=hh
   rw [f9,f8,f2] at h2
   exact hkd w' hk b5 b9 (7+J.length) ((Rd.of (Reads.blk (Has.there (Has.there (Has.there Has.here))) Seg.all)) w' X hk h2) (by omega) ((Rd.of (Reads.blk Has.here segH)) w' X hk h2)
 (skip;try refine z5 (h:=?_))
 refine zbf (u:=λρ=>(ρ 10).1) (λρ hρ=>zcw) (λ_=>rfl) rfl (λρ ρ' h=>by rw [h 10 (by decide)]) (h:=?_)
 refine zbf (u:=λρ=>tup (ρ 10).1 0) (λρ hρ=>?_) (λ_=>rfl) rfl (λρ ρ' h=>by rw [h 10 (by decide)]) (h:=?_)
 ·obtain ⟨⟨a,c,e1,e2⟩,-⟩:=hρ
  refine OpT.mono (zaA (vs:=#[.slice a 32 c,.int .i64 0]) (hx:=by show some (ρ 10).1=_;rw [e1])) λv L' h=>?_
  obtain ⟨rfl,rfl⟩:=h
  exact ⟨by rw [e1];rfl,rfl⟩
 refine dcE (u:=.int .i64 0) (λρ hρ=>?_) (k:=?_)
 ·obtain ⟨⟨a,c,e1,e2⟩,-⟩:=hρ
  exact zaA (vs:=#[.slice a 32 c,.int .i64 0]) (hx:=by show some (ρ 10).1=_;rw [e1])
 refine zbf (u:=λρ=>tup (ρ 10).1 0) (λρ hρ=>zbR) (λ_=>rfl) rfl (λρ ρ' h=>by rw [h 10 (by decide)]) (h:=?_)
 refine zaE (h:=?_)
 rintro ρ ⟨⟨aF,cF,e1,e2⟩,⟨b9',J,-,f9⟩,⟨b8,-,f8⟩,⟨b2,-,f2⟩,-⟩
 (refine zag [[],[],[1],[],[3],[3,4],[3,4,5],[3,4,5,6],[3,4,5,6,7],[1,2,3,4,5,6,7,8],[0,1,2,3,4,5,6,7,8,9],[0,1,2,3,4,5,6,7,8,9,10],[0,1,2,3,4,5,6,7,8,9,10,11],[0,1,2,3,4,5,6,7,8,9,10,11],[0,1,2,3,4,5,6,7,8,9,10,11,12],[0,1,2,3,4,5,6,7,8,9,10,11,12,13,14]] ?_ ?_;kernel_rfl)
 have e3:tup (ρ 10).1 0= .slice aF 32 cF:=by rw [e1];rfl
 refine SyL.weaken (fr':=[(33,.int .i64 0),(7,.slice aF 32 cF),(4,.pointer (some ⟨b4,0,none⟩)),(0,.pointer (some ⟨b,0,none⟩))]) (L':=[.row (.slice aF 32 cF) 5 1 32 (D.map v8),.blk b4 73 (List.replicate 16 (.int .u64 0))]) ?_ (by simp only [e3];exact Sub.go) ?_
 rotate_left
 ·show SubR _ ((ρ 10).2 ++ ((ρ 9).2 ++ ((ρ 8).2 ++ ((ρ 2).2 ++ _))))
  rw [e2,f9,f8,f2]
  exact SubR.go2
 repeat' (first|refine s_0 ?_|(refine za (id:=4) ?_;refine zb ?_;refine yv za8 (k:=?_);refine zb ?_;refine yv (zf (f:=75) (hc:=λw' X hk hh=>hn0 w' hk)) (k:=?_))|(refine za (id:=5) ?_;refine zb ?_;refine zb ?_;refine zA ?_;refine zm ?_;refine yv (zx (hv:=hci)) (k:=?_);refine zb ?_;refine yv (zf (f:=77) (hc:=λw' X hk hh=>hsc w' hk aF cF (zoK hh (by exact Has.append Has.go)) (zu hh (by exact Has.append Has.go)))) (k:=?_);refine zh ?_;refine zh ?_;refine yv (zf (f:=75) (hc:=λw' X hk hh=>hnr w' hk)) (k:=?_);refine yn (zl (n:=r)) (k:=?_))|(refine zC ?_;first|refine zd ?_|fail)|fail)
 exact ret1 rfl (resCells (B:=natC r) rfl (ty rfl) rfl Has.go Seg.all (ze _).symm) (by exact SubR.go2) ⟨rfl,rfl⟩
end Go.Proofs.YtcpjfilcilcekaaGreatDoor
end
section
namespace Go.Proofs.YtcpjfilcilcekaaGreatDoor
open Go Go.Sy Go.Sh Go.Nt Go.RowKit
attribute [local irreducible] Sy SyL SyX Sy.Fn callFunc natC Sh.sum HashIs firstN dblock hmac pkDer
set_option maxRecDepth 10000
def sideI:Bool->Int
 |true=>1
 |false=>2
def aggB:Bool->Value
 |true=>aggC
 |false=>aggS
def pkMap:List MapEntry:=[⟨.int .i64 1,aggC,0⟩,⟨.int .i64 2,aggS,1⟩]
theorem zh9 (s:Bool):Instr.findNow (.int .i64) (.int .i64 (sideI s)) pkMap 0=some (some (if s then 0 else 1,aggB s)):=by cases s <;> rfl
theorem zcG (s:Bool):sideI s≠0:=by cases s <;> decide
section
variable {ro:Option Nat}{N:Nat}{w0:World}{M:Nat->Prop}{ds:List Deferred}{g:Nat->Option Value}{L:List Res}{o:Oper}{m x:Operand}
theorem zhO {b:Nat}(s:Bool) (ho:o.op= .lookup 60 m x false:=by exact rfl) (hm:ev g m=some (.map (some b)):=by exact rfl) (hx:ev g x=some (.int .i64 (sideI s)):=by exact rfl) (hL:Has L (mapR b pkMap 2):=by repeat (first|exact Has.here|apply Has.there)):
  OpT Tryz.prog ro N w0 M ds o g L (Det (aggB s) L):=
 zmH (k:=29) (e:=58) (d:=.int .i64) (key:=.int .i64 (sideI s)) rfl rfl rfl (zh9 s) ho hm hx hL
theorem zjD (s:Bool) (ho:o.op= .field 58 x 0:=by exact rfl) (hx:ev g x=some (aggB s):=by exact rfl):OpT Tryz.prog ro N w0 M ds o g L (Det (.string (str (pkName s))) L):=
 OpT.still (by rw [ho];rfl) λa w X hs=>by
  have h:(Instr.field 58 (aggB s) 0).run Tryz.prog w= .ok (.string (str (pkName s))) w:=by cases s <;> rfl
  simp [execOp,ho,hs.agr.eval hx,h]
end
theorem zlh (b b9:Nat) (s:Bool) (w:World) (hc:w.cell? ⟨b,35,none⟩=some (.int .i64 (sideI s))) (hd:w.cell? ⟨b,2,none⟩=some (.bool true)) (h:w.rangeAt b9 0 [Value.func (.func 46) #[.pointer (some ⟨b,0,none⟩)] #[],.func (.func 66) #[.pointer (some ⟨b,0,none⟩)] #[]]):
  Sy.Fn Tryz.prog 54 [.slice (some ⟨b9,0,none⟩) 2 2] w No (Gives (.int .i64 0)):=
 zfM b b9 2 2 [46,66] w rfl (by decide) (λf hf=>by
   simp only [List.mem_cons,List.not_mem_nil,or_false] at hf
   rcases hf with rfl|rfl
   ·exact en rfl
   ·exact en rfl) (λf hf w'' hk2=>by
   simp only [List.mem_cons,List.not_mem_nil,or_false] at hf
   rcases hf with rfl|rfl
   ·exact zcg b (sideI s) w'' (zcG s) (zaq hc hk2)
   ·exact zgv b w'' (zaq hd hk2)) h
theorem zkT (b b9:Nat) (s:Bool) (w:World) (hc:w.cell? ⟨b,35,none⟩=some (.int .i64 (sideI s))) (hd:w.cell? ⟨b,2,none⟩=some (.bool false)) (h:w.rangeAt b9 0 [Value.func (.func 46) #[.pointer (some ⟨b,0,none⟩)] #[],.func (.func 55) #[.pointer (some ⟨b,0,none⟩)] #[]]):
  Sy.Fn Tryz.prog 54 [.slice (some ⟨b9,0,none⟩) 2 2] w No (Gives (.int .i64 0)):=
 zfM b b9 2 2 [46,55] w rfl (by decide) (λf hf=>by
   simp only [List.mem_cons,List.not_mem_nil,or_false] at hf
   rcases hf with rfl|rfl
   ·exact en rfl
   ·exact en rfl) (λf hf w'' hk2=>by
   simp only [List.mem_cons,List.not_mem_nil,or_false] at hf
   rcases hf with rfl|rfl
   ·exact zcg b (sideI s) w'' (zcG s) (zaq hc hk2)
   ·exact zqn b w'' (zaq hd hk2)) h
theorem zcH (s:Bool):(pkName s).length<=4096:=by cases s <;> decide
set_option maxHeartbeats 1000000 in
theorem zgk (b:Nat) (s:Bool) (dig:List UInt8) (w:World) (hc:w.cell? ⟨b,35,none⟩=some (.int .i64 (sideI s))) (hd:w.cell? ⟨b,2,none⟩=some (.bool true)) (hg:w.rangeAt b 3 (dig.map v8)) (hl:dig.length=32) (hT:Tab w No):
  Sy.Fn Tryz.prog 26 [.pointer (some ⟨b,0,none⟩)] w No (λv R=>∃a k,v= .tuple #[.slice a 32 k,.int .i64 0]/\R= [.row (.slice a 32 k) 5 1 32 ((pkDer dig (pkName s)).map v8)]):=by
 refine zk Tryz.func26 rfl Tryz.ntmps26 (by simp) Holds.nil ?_
 have hch:=λw' (hk:Keep No w w') b9 h=>zlh b b9 s w' (zaq hc hk) (zaq hd hk) h
 have hde:=λw' (hk:Keep No w w')=>zfb b dig (pkName s) w' (zaC hg hk (λh=>h)) hl (zcH s) (hT.no hk)
 generalize pkDer dig (pkName s)=D at *
 repeat' (first|refine s_0 ?_|(refine za (id:=0) ?_;refine zd ?_;refine zd ?_)|(refine za (id:=1) ?_;refine zb ?_;refine zW ?_;refine zb ?_;refine zW ?_;(refine ys zt (k:=?_);rintro _ _ ⟨_,rfl,rfl⟩);refine yv (zf (f:=54) (hc:=λw' X hk hh=>hch w' hk _ (zz (hh.has (Has.append Has.here)) Seg.all))) (k:=?_);refine zd ?_)|(refine za (id:=2) ?_;refine zb ?_;refine zV ?_)|fail)
 refine Sy.weaken (fr':=[(0,.pointer (some ⟨b,0,none⟩))]) (L':=[]) ?_ (by exact Sub.go) (by exact SubR.go)
 refine zah (id:=4) mixed ?_
 (refine zab 14 14 [[],[0],[0,1],[],[],[4],[4,5],[4,5,6],[3,4,5,6,7],[3,4,5,6,7,8],[0,1,2,3,4,5,6,7,8,9],[0,1,2,3,4,5,6,7,8,9,10],[0,1,2,3,4,5,6,7,8,9,10],[0,1,2,3,4,5,6,7,8,9,10,11,12],[0,1,2,3,4,5,6,7,8,9,10,11,12,13]] [[],[],[],[],[],[],[],[],[],[],[],[],[],[],[]] none rfl ?_ ?_ ?_;kernel_rfl;kernel_rfl;refine zS ?_;refine zaN ?_;refine zT ?_;try refine z5 (h:=?_))
 refine z7 (R:=λ_ v Nw=>∃b,v= .map (some b)/\Nw= [mapR b pkMap 2]) (λ_ _ _=>rfl) (λρ hρ=>zn (f:=28) (hc:=λw' X hk hh=>zcW w')) (h:=?_)
 (skip;refine zS ?_;refine zaN ?_;refine zT ?_;refine dcE (λ_ _=>zx (hv:=hc)) (k:=?_);try refine z5 (h:=?_))
 refine dcE (u:=aggB s) (λρ hρ=>?_) (k:=?_)
 ·obtain ⟨⟨bm,e1,e2⟩,-⟩:=hρ
  exact zhO (b:=bm) s (hm:=by show some (ρ 3).1=_;rw [e1]) (hL:=by show Has ((ρ 3).2 ++ _) _;rw [e2];exact Has.here)
 refine dcE (u:=.string (str (pkName s))) (λρ hρ=>zjD s) (k:=?_)
 refine z7 (R:=λ_ v Nw=>∃a c,v= .tuple #[.slice a 32 c,.int .i64 0]/\Nw= [.row (.slice a 32 c) 5 1 32 (D.map v8)]) (λ_ _ _=>rfl) (λρ hρ=>zn (f:=67) (hc:=λw' X hk hh=>hde w' hk)) (h:=?_)
 refine zbf (u:=λρ=>tup (ρ 10).1 0) (λρ hρ=>?_) (λ_=>rfl) rfl (λρ ρ' h=>by rw [h 10 (by decide)]) (h:=?_)
 ·obtain ⟨⟨a,c,e1,e2⟩,-⟩:=hρ
  refine OpT.mono (zaA (vs:=#[.slice a 32 c,.int .i64 0]) (hx:=by show some (ρ 10).1=_;rw [e1])) λv L' h=>?_
  obtain ⟨rfl,rfl⟩:=h
  exact ⟨by rw [e1];rfl,rfl⟩
 refine dcE (u:=.int .i64 0) (λρ hρ=>?_) (k:=?_)
 ·obtain ⟨⟨a,c,e1,e2⟩,-⟩:=hρ
  exact zaA (vs:=#[.slice a 32 c,.int .i64 0]) (hx:=by show some (ρ 10).1=_;rw [e1])
 refine zbf (u:=λρ=>tup (ρ 10).1 0) (λρ hρ=>zbR) (λ_=>rfl) rfl (λρ ρ' h=>by rw [h 10 (by decide)]) (h:=?_)
 refine zaE (h:=?_)
 rintro ρ ⟨⟨aF,cF,e1,e2⟩,⟨bm,-,f3⟩,-⟩
 (refine zag [[],[0],[0,1],[],[],[4],[4,5],[4,5,6],[3,4,5,6,7],[3,4,5,6,7,8],[0,1,2,3,4,5,6,7,8,9],[0,1,2,3,4,5,6,7,8,9,10],[0,1,2,3,4,5,6,7,8,9,10],[0,1,2,3,4,5,6,7,8,9,10,11,12],[0,1,2,3,4,5,6,7,8,9,10,11,12,13]] ?_ ?_;kernel_rfl)
 have e3:tup (ρ 10).1 0= .slice aF 32 cF:=by rw [e1];rfl
 refine SyL.weaken (fr':=[(26,.int .i64 0),(2,.slice aF 32 cF)]) (L':=[.row (.slice aF 32 cF) 5 1 32 (D.map v8)]) ?_ (by simp only [e3];exact Sub.go) ?_
 rotate_left
 ·show SubR _ ((ρ 10).2 ++ ((ρ 3).2 ++ _))
  rw [e2,f3]
  exact SubR.go2
 repeat' (first|refine s_0 ?_|(refine zC ?_;first|refine zd ?_|fail)|fail)
 exact ret2 rfl (resTmp rfl) (resTmp rfl) (by exact SubR.go2) ⟨_,_,rfl,rfl⟩
end Go.Proofs.YtcpjfilcilcekaaGreatDoor
end
section
namespace Go.Proofs.YtcpjfilcilcekaaGreatDoor
open Go Go.Sy Go.Sh Go.Nt Go.RowKit
attribute [local irreducible] Sy SyL SyX Sy.Fn callFunc natC Sh.sum HashIs firstN dblock hmac pkDer
set_option maxRecDepth 10000
set_option maxHeartbeats 1000000 in
theorem zhe (b:Nat) (s:Bool) (dig:List UInt8) (ak:Option Addr) (m c:Nat) (kb:List UInt8) (w:World) (hc:w.cell? ⟨b,35,none⟩=some (.int .i64 (sideI s))) (hd:w.cell? ⟨b,2,none⟩=some (.bool true)) (hg:w.rangeAt b 3 (dig.map v8)) (hl:dig.length=32) (hT:Tab w No)
  (hm:kb.length=m) (hmb:m < 1000000) (hsk:SlA w ak (kb.map v8)):
  Sy.Fn Tryz.prog 27 [.pointer (some ⟨b,0,none⟩),.slice ak m c] w No (Gives (.int .i64 (if pkDer dig (pkName (!s))=kb then 0 else 10))):=by
 refine zk Tryz.func27 rfl Tryz.ntmps27 (by simp) Holds.nil ?_
 have hch:=λw' (hk:Keep No w w') b9 h=>zlh b b9 s w' (zaq hc hk) (zaq hd hk) h
 have hde:=λw' (hk:Keep No w w')=>zfb b dig (pkName (!s)) w' (zaC hg hk (λh=>h)) hl (zcH (!s)) (hT.no hk)
 have hDl:(pkDer dig (pkName (!s))).length=32:=by unfold pkDer;exact zdJ _ (λ_=>by unfold dblock;exact zbJ _ _) 32
 generalize pkDer dig (pkName (!s))=D at *
 have heq:=λw' (hk:Keep No w w') aD cD (h2:SlA w' aD (D.map v8))=>znW aD ak 32 cD m c D kb w' hDl (by decide) h2 hm (by omega) ((SlF.of hsk).to (Mi:=No) hk (λ_ h=> .inr h)).sla
 have g1:decide (sideI s=(1:Int))=s:=by cases s <;> rfl
 repeat' (first|refine s_0 ?_|(refine za (id:=0) ?_;refine zd ?_)|(refine za (id:=1) ?_;refine zb ?_;refine zW ?_;refine zb ?_;refine zW ?_;(refine ys zt (k:=?_);rintro _ _ ⟨_,rfl,rfl⟩);refine yv (zf (f:=54) (hc:=λw' X hk hh=>hch w' hk _ (zz (hh.has (Has.append Has.here)) Seg.all))) (k:=?_);refine zd ?_)|(refine za (id:=2) ?_;refine zb ?_;refine zV ?_)|(refine za (id:=4) ?_;refine zd ?_)|fail)
 refine Sy.weaken (fr':=[(6,.int .i64 1),(1,.slice ak m c),(0,.pointer (some ⟨b,0,none⟩))]) (L':=[]) ?_ (by exact Sub.go) (by exact SubR.go)
 repeat' (first|refine s_0 ?_|(refine za (id:=5) ?_;refine zb ?_;refine zA ?_;refine zm ?_;refine yv (zx (hv:=hc)) (k:=?_);refine yv (z8 (hr:=g1)) (k:=?_))|fail)
 refine zaJ (γ:=Unit) (λ_=>[(6,.int .i64 (sideI (!s))),(1,.slice ak m c),(0,.pointer (some ⟨b,0,none⟩))]) (λ_=>[]) (λ_=>True) ?_ ?_
 ·clear hch hde heq
  cases s
  ·repeat' (first|refine s_0 ?_|fail)
   exact zO () trivial (by exact Sub.go) SubR.nil
  ·repeat' (first|refine s_0 ?_|(refine za (id:=6) ?_;refine zd ?_)|fail)
   exact zO () trivial (by exact Sub.go) SubR.nil
 rintro ⟨⟩ -
 refine za6 ?_
 refine zah (id:=7) mixed ?_
 (refine zab 12 12 [[],[0],[0,1],[],[],[3,4],[3,4,5],[0,1,2,3,4,5,6],[0,1,2,3,4,5,6,7],[0,1,2,3,4,5,6,7,8],[0,1,2,3,4,5,6,7,8],[0,1,2,3,4,5,6,7,8,9],[0,1,2,3,4,5,6,7,8,9,10,11]] [[],[],[],[],[],[],[],[],[],[],[],[],[]] none rfl ?_ ?_ ?_;kernel_rfl;kernel_rfl;refine zS ?_;refine zaN ?_;refine zT ?_;try refine z5 (h:=?_))
 refine z7 (R:=λ_ v Nw=>∃b,v= .map (some b)/\Nw= [mapR b pkMap 2]) (λ_ _ _=>rfl) (λρ hρ=>zn (f:=28) (hc:=λw' X hk hh=>zcW w')) (h:=?_)
 (skip;refine zS ?_;try refine z5 (h:=?_))
 refine dcE (u:=aggB (!s)) (λρ hρ=>?_) (k:=?_)
 ·obtain ⟨⟨bm,e1,e2⟩,-⟩:=hρ
  exact zhO (b:=bm) (!s) (hm:=by show some (ρ 3).1=_;rw [e1]) (hL:=by show Has ((ρ 3).2 ++ _) _;rw [e2];exact Has.here)
 refine dcE (u:=.string (str (pkName (!s)))) (λρ hρ=>zjD (!s)) (k:=?_)
 refine z7 (R:=λ_ v Nw=>∃a c,v= .tuple #[.slice a 32 c,.int .i64 0]/\Nw= [.row (.slice a 32 c) 5 1 32 (D.map v8)]) (λ_ _ _=>rfl) (λρ hρ=>zn (f:=67) (hc:=λw' X hk hh=>hde w' hk)) (h:=?_)
 refine zbf (u:=λρ=>(ρ 7).1) (λρ hρ=>zcw) (λ_=>rfl) rfl (λρ ρ' h=>by rw [h 7 (by decide)]) (h:=?_)
 refine zbf (u:=λρ=>tup (ρ 7).1 0) (λρ hρ=>?_) (λ_=>rfl) rfl (λρ ρ' h=>by rw [h 7 (by decide)]) (h:=?_)
 ·obtain ⟨⟨a,c,e1,e2⟩,-⟩:=hρ
  refine OpT.mono (zaA (vs:=#[.slice a 32 c,.int .i64 0]) (hx:=by show some (ρ 7).1=_;rw [e1])) λv L' h=>?_
  obtain ⟨rfl,rfl⟩:=h
  exact ⟨by rw [e1];rfl,rfl⟩
 refine dcE (u:=.int .i64 0) (λρ hρ=>?_) (k:=?_)
 ·obtain ⟨⟨a,c,e1,e2⟩,-⟩:=hρ
  exact zaA (vs:=#[.slice a 32 c,.int .i64 0]) (hx:=by show some (ρ 7).1=_;rw [e1])
 refine zbf (u:=λρ=>tup (ρ 7).1 0) (λρ hρ=>zbR) (λ_=>rfl) rfl (λρ ρ' h=>by rw [h 7 (by decide)]) (h:=?_)
 refine zaE (h:=?_)
 rintro ρ ⟨⟨aF,cF,e1,e2⟩,⟨bm,-,f3⟩,-⟩
 (refine zag [[],[0],[0,1],[],[],[3,4],[3,4,5],[0,1,2,3,4,5,6],[0,1,2,3,4,5,6,7],[0,1,2,3,4,5,6,7,8],[0,1,2,3,4,5,6,7,8],[0,1,2,3,4,5,6,7,8,9],[0,1,2,3,4,5,6,7,8,9,10,11]] ?_ ?_;kernel_rfl)
 have e3:tup (ρ 7).1 0= .slice aF 32 cF:=by rw [e1];rfl
 refine SyL.weaken (fr':=[(33,.int .i64 0),(7,.slice aF 32 cF),(1,.slice ak m c)]) (L':=[.row (.slice aF 32 cF) 5 1 32 (D.map v8)]) ?_ (by simp only [e3];exact Sub.go) ?_
 rotate_left
 ·show SubR _ ((ρ 7).2 ++ ((ρ 3).2 ++ _))
  rw [e2,f3]
  exact SubR.go2
 by_cases hq:D=kb
 ·rw [if_pos hq]
  simp only [hq,decide_true] at heq
  rw [hq]
  repeat' (first|refine s_0 ?_|(refine za (id:=8) ?_;refine zb ?_;refine zV ?_)|(refine za (id:=10) ?_;refine zb ?_;refine zb ?_;refine yv (zf (f:=68) (hc:=λw' X hk hh=>heq w' hk aF cF (zu hh (by exact Has.append Has.go)))) (k:=?_);refine zal ?_)|(refine za (id:=12) ?_;refine zd ?_)|(refine zC ?_;first|refine zd ?_|fail)|fail)
  exact ret1 rfl (resTmp rfl) (by exact SubR.go2) ⟨rfl,rfl⟩
 ·rw [if_neg hq]
  simp only [hq,decide_false] at heq
  repeat' (first|refine s_0 ?_|(refine za (id:=8) ?_;refine zb ?_;refine zV ?_)|(refine za (id:=10) ?_;refine zb ?_;refine zb ?_;refine yv (zf (f:=68) (hc:=λw' X hk hh=>heq w' hk aF cF (zu hh (by exact Has.append Has.go)))) (k:=?_);refine zal ?_)|(refine za (id:=11) ?_;refine zd ?_)|(refine zC ?_;first|refine zd ?_|fail)|fail)
  exact ret1 rfl (resTmp rfl) (by exact SubR.go2) ⟨rfl,rfl⟩
end Go.Proofs.YtcpjfilcilcekaaGreatDoor
end
section
namespace Go.Proofs.YtcpjfilcilcekaaGreatDoor
open Go Go.Sy Go.Sh Go.Nt Go.RowKit
theorem zlZ {A B R:List Res}(h:SubR A B):SubR (A ++ R) (B ++ R):=by
 obtain ⟨X,hx⟩:=h
 refine ⟨X,(hx.append_right R).trans ?_⟩
 rw [List.append_assoc,List.append_assoc]
 exact List.perm_append_comm.append_left A
def pgs (ps:List Bs):List Nat->List Res
 | []=>[]
 |b::bs=> .blk b 5 ((four (ps[bs.length]!).n).map v8)::pgs ps bs
def pys (ps:List Bs):List Nat->List Bs
 | []=>[]
 |b::bs=>pys ps bs ++ [⟨some ⟨b,0,none⟩,4,4,four (ps[bs.length]!).n⟩,ps[bs.length]!]
theorem zhH (ps:List Bs): ∀bs,(pys ps bs).length=2*bs.length
 | []=>rfl
 |b::bs=>by
  show (pys ps bs ++ [_,_]).length=_
  rw [List.length_append,zhH ps bs];rfl
theorem zmv {w:World}{ps:List Bs}(hp: ∀s∈ps,s.ok w/\s.n<=10000): ∀bs,bs.length<=ps.length->(∀r∈pgs ps bs,r.holds w)-> ∀s∈pys ps bs,s.ok w/\s.n<=10000
 | [],_,_,s,hs=>by cases hs
 |b::bs,hl,hh,s,hs=>by
  have hlt:bs.length < ps.length:=hl
  rcases List.mem_append.1 hs with h|h
  ·exact zmv hp bs (Nat.le_of_lt hlt) (λr hr=>hh r (List.mem_cons_of_mem _ hr)) s h
  ·simp only [List.mem_cons,List.not_mem_nil,or_false] at h
   rcases h with rfl|rfl
   ·exact ⟨⟨rfl,Nat.le_refl _,.inr ⟨b,0,rfl,zz (hh _ List.mem_cons_self) Seg.all⟩,λh=>by cases h⟩,by show 4<=10000;decide⟩
   ·exact hp _ (by rw [getElem!_pos ps bs.length hlt];exact List.getElem_mem _)
theorem zkE (ps:List Bs) (hp: ∀s∈ps,s.l.length=s.n): ∀bs:List Nat,bs.length<=ps.length->Bs.cat (pys ps bs)=(ps.take bs.length).flatMap λs=>pkFr s.l
 | [],_=>rfl
 |b::bs,hl=>by
  have hlt:bs.length < ps.length:=hl
  have hx:ps[bs.length]! =ps[bs.length]:=getElem!_pos ps bs.length hlt
  have h1:=hp ps[bs.length] (List.getElem_mem _)
  show Bs.cat (pys ps bs ++ [_,_])=(ps.take (bs.length+1)).flatMap _
  rw [List.take_succ,List.getElem?_eq_getElem hlt,List.flatMap_append,<-zkE ps hp bs (Nat.le_of_lt hlt),hx]
  simp [Bs.cat,pkFr,h1]
theorem zqd {x y z:Value}{G H Rs:List Value}(h:G.length=H.length):setSeg (x::y::z::(G ++ Rs)) 3 H=x::y::z::(H ++ Rs):=by
 have e:x::y::z::(G ++ Rs)=([x,y,z] ++ G) ++ Rs:=by simp
 unfold setSeg
 rw [List.drop_left' (l₁:=[x,y,z] ++ G) (by simp [h];omega) |> λh=>(show List.drop (3+H.length) (x::y::z::(G ++ Rs))=Rs by rw [e];exact h)]
 simp
attribute [local irreducible] Sy SyL SyX Sy.Fn callFunc natC Sh.sum HashIs four
set_option maxRecDepth 10000
set_option maxHeartbeats 2000000 in
theorem zlw (b T i:Nat) (d:Bool) (G Rs:List Value) (hG32:G.length=32) (sx sc ss sh sl:Bs) (w:World) (hi:i < 256)
  (hC:(Res.blk b T (.int .i64 (i:Int)::sx.val:: .bool d::(G ++ Rs))).holds w) (hps: ∀s∈[sx,sc,ss,sh,sl],SlF w (λx=>x=b) s.a (s.l.map v8)/\s.l.length=s.n/\s.n<=s.c/\(s.a=none->s.c=0)/\s.n<=10000) (hT:Tab w (λx=>x=b)):
  Sy.Fn Tryz.prog 60 [.pointer (some ⟨b,0,none⟩),sc.val,ss.val,sh.val,sl.val] w (λx=>x=b)
   (λv R=>v= .tuple #[]/\R= [.blk b T (.int .i64 (i:Int)::sx.val:: .bool true::((pkDig i sx.l sc.l ss.l sh.l sl.l).map v8 ++ Rs))]):=by
 refine zk Tryz.func60 rfl Tryz.ntmps60 (by simp) (zfV hC) ?_
 have hui:=u8w i hi
 repeat' (first|refine s_0 ?_|(refine za (id:=0) ?_;refine zd ?_)|fail)
 refine zah (id:=1) mixed ?_
 (refine zab 17 17 [[],[0],[0,1],[0,1,2],[],[4],[4,5],[4,5,6],[4,5,6,7],[4,5,6,7,8],[],[],[],[],[0,1,2,3,4,5,6,7,8,9,10,11,12,13],[0,1,2,3,4,5,6,7,8,9,10,11,12,13,14],[]] [[],[],[],[],[],[],[],[],[],[],[],[],[],[],[],[],[]] none rfl ?_ ?_ ?_;kernel_rfl;kernel_rfl;refine zS ?_;refine zaN ?_;refine zT ?_;refine zeH ?_;refine zS ?_;refine zaN ?_;refine zT ?_;refine zeH ?_;refine dcE (λ_ _=>zZ (hr:=hui)) (k:=?_);try refine z5 (h:=?_))
 refine z7 (R:=λ_=>LitOf 5 [v8 (UInt8.ofNat i)]) (λ_ _ _=>rfl) (λρ hρ=>OpT.mono zt λv L' h=>?_) (h:=?_)
 ·obtain ⟨b,rfl,rfl⟩:=h
  exact ⟨[_],rfl,b,rfl,rfl⟩
 (skip;refine zS ?_;refine zS ?_;refine zS ?_;refine zS ?_;try refine z5 (h:=?_))
 refine z7 (R:=λρ=>LitOf 22 [sx.val,(ρ 9).1,sc.val,ss.val,sh.val,sl.val]) (λρ ρ' h=>by rw [h 9 (by decide)]) (λρ hρ=>?_) (h:=?_)
 ·obtain ⟨⟨b9,e9,f9⟩,-⟩:=hρ
  refine OpT.mono (zt (hc:=by show [_,(ρ 9).1,_,_,_,_].all _=true;rw [e9];rfl)) λv L' h=>?_
  obtain ⟨b,rfl,rfl⟩:=h
  exact ⟨[_],rfl,b,rfl,rfl⟩
 refine dcE (u:=.int .i64 ((6:Nat):Int)) (λρ hρ=>?_) (k:=?_)
 ·obtain ⟨⟨b14,e14,f14⟩,-⟩:=hρ
  exact znq (hx:=by show some (ρ 14).1=_;rw [e14];rfl)
 (skip;refine zS ?_;try refine z5 (h:=?_))
 refine zaE (h:=?_)
 rintro ρ ⟨⟨b28,e14,f14⟩,⟨b9,e9,f9⟩,-⟩
 rw [e9] at f14
 obtain ⟨ps,hps'⟩: ∃ps:List Bs,ps= [sx,⟨some ⟨b9,0,none⟩,1,1,[UInt8.ofNat i]⟩,sc,ss,sh,sl]:=⟨_,rfl⟩
 (refine zag [[],[0],[0,1],[0,1,2],[],[4],[4,5],[4,5,6],[4,5,6,7],[4,5,6,7,8],[],[],[],[],[0,1,2,3,4,5,6,7,8,9,10,11,12,13],[0,1,2,3,4,5,6,7,8,9,10,11,12,13,14],[]] ?_ ?_;kernel_rfl)
 refine SyL.weaken (fr':=[(30,.int .i64 0),(29,.int .i64 ((6:Nat):Int)),(28,.slice (some ⟨b28,0,none⟩) 6 6),(10,.slice none 0 0),(0,.pointer (some ⟨b,0,none⟩))]) (L':=[.blk b28 22 (ps.map Bs.val),.blk b9 5 [v8 (UInt8.ofNat i)],.blk b T (.int .i64 (i:Int)::sx.val:: .bool d::(G ++ Rs))]) ?_ ?_ ?_
 rotate_left
 ·(repeat' (first|exact Sub.nil|refine Sub.cons rfl ?_ ?_|rfl))
  exact e14
 ·show SubR _ ((ρ 14).2 ++ ((ρ 9).2 ++ _))
  rw [f14,f9,hps']
  exact SubR.go2
 have hpok: ∀w',Keep (λx=>x=b) w w'->(Res.blk b9 5 [v8 (UInt8.ofNat i)]).holds w'-> ∀s∈ps,s.ok w'/\s.n<=10000:=λw' hk h9 s hs=>by
  rw [hps'] at hs
  have old: ∀s∈[sx,sc,ss,sh,sl],s.ok w'/\s.n<=10000:=λs hs=>by
   obtain ⟨h1,h2,h3,h4,h5⟩:=hps s hs
   exact ⟨⟨h2,h3,(h1.to (Mi:=No) hk (λ_ h=>h.elim)).sla,h4⟩,h5⟩
  simp only [List.mem_cons,List.not_mem_nil,or_false] at hs
  rcases hs with rfl|rfl|rfl|rfl|rfl|rfl
  ·exact old _ (by simp)
  ·exact ⟨⟨rfl,Nat.le_refl _,.inr ⟨b9,0,rfl,zz h9 Seg.all⟩,λh=>by cases h⟩,by show 1<=10000;decide⟩
  ·exact old _ (by simp)
  ·exact old _ (by simp)
  ·exact old _ (by simp)
  ·exact old _ (by simp)
 have hpl: ∀s∈ps,s.l.length=s.n/\s.n<=10000:=λs hs=>by
  rw [hps'] at hs
  have old: ∀s∈[sx,sc,ss,sh,sl],s.l.length=s.n/\s.n<=10000:=λs hs=>by
   obtain ⟨h1,h2,h3,h4,h5⟩:=hps s hs
   exact ⟨h2,h5⟩
  simp only [List.mem_cons,List.not_mem_nil,or_false] at hs
  rcases hs with rfl|rfl|rfl|rfl|rfl|rfl
  ·exact old _ (by simp)
  ·exact ⟨rfl,by show 1<=10000;decide⟩
  ·exact old _ (by simp)
  ·exact old _ (by simp)
  ·exact old _ (by simp)
  ·exact old _ (by simp)
 have hcat:Sh.sum ((ps.take 6).flatMap λs=>pkFr s.l)=pkDig i sx.l sc.l ss.l sh.l sl.l:=by
  rw [hps'];unfold pkDig
  simp [List.flatMap_cons]
 have hlen:ps.length=6:=by rw [hps'];rfl
 clear hps' hps e14 f14 e9 f9
 refine zjC (zaU 22 1) ?_
 repeat' (first|refine s_t ?_|fail)
 refine zE (γ:=Option Addr×Nat×List Nat) (λg=>[(30,.int .i64 (g.2.2.length:Int)),(29,.int .i64 ((6:Nat):Int)),(28,.slice (some ⟨b28,0,none⟩) 6 6),(10,.slice g.1 (2*g.2.2.length) g.2.1),(0,.pointer (some ⟨b,0,none⟩))])
  (λg=> .row (.slice g.1 (2*g.2.2.length) g.2.1) 22 1 (2*g.2.2.length) ((pys ps g.2.2).map Bs.val):: .blk b28 22 (ps.map Bs.val):: .blk b9 5 [v8 (UInt8.ofNat i)]:: .blk b T (.int .i64 (i:Int)::sx.val:: .bool d::(G ++ Rs))::pgs ps g.2.2)
  (λg=>g.2.2.length<=6) (λg=>6 - g.2.2.length) (none,0,[]) (Nat.zero_le _) ?_ ?_ ?_
 ·exact Sub.go
 ·show SubR [_,_,_,_] _
  exact SubR.go2
 rintro ⟨ar,cr,bs⟩ hk
 dsimp only at hk ⊢
 rcases Nat.lt_or_ge bs.length 6 with h|h
 ·have hx:ps[bs.length]! =ps[bs.length]:=getElem!_pos ps bs.length (by omega)
  obtain ⟨h1,h2⟩:=hpl _ (List.getElem_mem (h:=(by omega:bs.length < ps.length)))
  have hcell:(ps.map Bs.val)[0+bs.length]?=some ps[bs.length].val:=by rw [Nat.zero_add,List.getElem?_map,List.getElem?_eq_getElem (by omega)];rfl
  have hys: ∀bn:Nat,(pys ps bs).map Bs.val ++ [.slice (some ⟨bn,0,none⟩) 4 4,ps[bs.length].val]=(pys ps (bn::bs)).map Bs.val:=λbn=>by
   show _=(pys ps bs ++ [_,_]).map Bs.val
   rw [hx,List.map_append];rfl
  have hgs: ∀bn:Nat,pgs ps (bn::bs)= .blk bn 5 ((four ps[bs.length].n).map v8)::pgs ps bs:=λbn=>by
   show Res.blk bn _ ((four (ps[bs.length]!).n).map v8)::_=_
   rw [hx]
  have hkm:2*bs.length+2=2*(bs.length+1):=by omega
  have hpl':=zhH ps bs
  generalize ps[bs.length]=p at *
  obtain ⟨pa,pn,pc,pl⟩:=p
  simp only [Bs.val] at hcell hys
  dsimp only at h1 h2 hgs
  have hlt:decide ((bs.length:Int) < ((6:Nat):Int))=true:=decide_eq_true (by omega)
  have g5:IntKind.i64.wrap ((bs.length:Int)+1)=((bs.length+1:Nat):Int):=by rw [IntWalk.i64_in _ (by omega)];omega
  repeat' (first|refine s_t ?_|(refine za (id:=2) ?_;refine yv (zP (hr:=hlt)) (k:=?_))|(refine za (id:=3) ?_;refine yv (z9 (j:=bs.length)) (k:=?_);refine yv (zw (hv:=hcell)) (k:=?_);refine zd ?_)|(refine za (id:=4) ?_;refine zb ?_;refine zq ?_;refine zd ?_)|(refine za (id:=5) ?_;refine zb ?_;refine zb ?_;refine yv (zat (hr:=shrI pn 24 _ (by decide))) (k:=?_);refine yv (zZ (hr:=zbN _)) (k:=?_);refine zb ?_;refine yv (zat (hr:=shrI pn 16 _ (by decide))) (k:=?_);refine yv (zZ (hr:=zbN _)) (k:=?_);refine zb ?_;refine yv (zat (hr:=shrI pn 8 _ (by decide))) (k:=?_);refine yv (zZ (hr:=zbN _)) (k:=?_);refine zb ?_;refine yv (zZ (hr:=zbN _)) (k:=?_);(refine ys zt (k:=?_);rintro _ _ ⟨_,rfl,rfl⟩);refine zb ?_;(refine ys zt (k:=?_);rintro _ _ ⟨_,rfl,rfl⟩);(refine ys (zaj (k:=2*bs.length) (m:=2) (hn:=rfl) (hkm:=hkm) (hys:=hys _)) (k:=?_);rintro _ _ ⟨rfl,aN,cN,rfl⟩);refine zd ?_)|(refine za (id:=6) ?_;refine yv (zL (hr:=g5)) (k:=?_);refine zb ?_)|fail)
  rename_i bn bp
  have h4:(four pn).map v8= [.int .u8 (Wd.n8 (UInt8.ofNat (pn / 2 ^ 24))),.int .u8 (Wd.n8 (UInt8.ofNat (pn / 2 ^ 16))),.int .u8 (Wd.n8 (UInt8.ofNat (pn / 2 ^ 8))),.int .u8 (Wd.n8 (UInt8.ofNat pn))]:=by unfold four;rfl
  refine zy (aN,cN,bn::bs) h ?_ ?_ ?_
  ·show 6 - (bs.length+1) < 6 - bs.length;omega
  ·exact Sub.go
  ·rw [hgs,h4]
   exact zlZ (A:=[_,_,_,_,_]) (B:=[_,_,_,_,_,_]) (by exact SubR.go2)
 obtain hk6:bs.length=6:=by omega
 have hlt:decide ((bs.length:Int) < ((6:Nat):Int))=false:=decide_eq_false (by omega)
 have hG3:=zqd (x:=.int .i64 (i:Int)) (y:=sx.val) (z:=.bool d) (G:=G) (H:=(pkDig i sx.l sc.l ss.l sh.l sl.l).map v8) (Rs:=Rs) (by rw [List.length_map,hG32];unfold pkDig;exact (zaZ _).symm)
 have hph:=λw' (hk':Keep (λx=>x=b) w w') (hh: ∀r∈pgs ps bs,r.holds w') (h9:(Res.blk b9 5 [v8 (UInt8.ofNat i)]).holds w') (hsx:SlA w' ar ((pys ps bs).map Bs.val))=>
  zjs ar (2*bs.length) cr (pys ps bs) w' (zhH ps bs) (by omega) hsx (zmv (hpok w' hk' h9) bs (by omega) hh) (hT.no hk')
 rw [<-hk6] at hcat
 rw [zkE ps (λs hs=>(hpl s hs).1) bs (by omega),hcat] at hph
 generalize hD:pkDig i sx.l sc.l ss.l sh.l sl.l=D at *
 have hDl:D.length=32:=by rw [<-hD];unfold pkDig;exact zaZ _
 repeat' (first|refine s_0 ?_|(refine za (id:=2) ?_;refine yv (zP (hr:=hlt)) (k:=?_))|(refine za (id:=7) ?_;refine zb ?_;refine zb ?_;refine zb ?_;refine yv (zf (f:=99) (hc:=λw' X hk hh=>hph w' hk (λr hr=>hh.all r (by simp [hr])) (hh.all _ (by simp)) (zu hh (by exact Has.append Has.here)))) (k:=?_);refine zA ?_;refine zm ?_;refine yn (zbC (hL:=by rw [hG3];exact (by repeat (first|exact Upd.here|apply Upd.there)))) (k:=?_);refine zA ?_;refine zm ?_;refine yn (za5 (v:=.bool true) (C:=.int .i64 (i:Int)::sx.val:: .bool d::(D.map v8 ++ Rs)) (C':=.int .i64 (i:Int)::sx.val:: .bool true::(D.map v8 ++ Rs)) (hC:=SetAt.there (SetAt.there SetAt.here))) (k:=?_))|fail)
 exact end0 rfl (SubR.same (Rem.there (Rem.there (Rem.there Rem.here))) SubR.nil) ⟨rfl,rfl⟩
end Go.Proofs.YtcpjfilcilcekaaGreatDoor
end
