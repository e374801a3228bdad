/- The laws of layer pake: the methods of exchanges that lie in a caller's memory. -/
import Derived.Test.YtcpjfilcilcekaaGreatDoorYJ35
set_option linter.all false
section
namespace Go.Proofs.YtcpjfilcilcekaaGreatDoor
open Go Go.Sy Go.Sh Go.Nt Go.RowKit
attribute [local irreducible] Sy SyL SyX Sy.Fn callFunc natC rowN refC iC gP gQ gL memB safeC fixB Sh.sum HashIs pkPt pkH firstN dblock hmac pkDer pkDig pkC selA ordF pkW pkX pkOwn pkSh gCells
set_option maxRecDepth 10000
def pkD (i:Nat) (ctx:List UInt8) (s:Bool) (own peer shared scalar:List UInt8):List UInt8:=pkDig i ctx (if s then own else peer) (if s then peer else own) shared scalar
theorem zhF (i:Nat) (ctx:List UInt8) (s:Bool) (own peer shared scalar:List UInt8):(pkD i ctx s own peer shared scalar).length=32:=by unfold pkD pkDig;exact zaZ _
section
variable {L X:List Res}{w0 w:World}{bx i:Nat}{ac ao ap:Option Addr}{n kc ko kp x wv y:Nat}{ctx l:List UInt8}{s d:Bool}{G:List Value}
theorem zlP {T:Nat}{C:List Value}(h:GT w0) (hk:Keep No w0 w) (hh:Holds w0.heap.size No (L ++ X) w) (hL:Has L (.blk bx T C)) {w2:World}(hk2:Keep (λz=>z=bx) w w2):GT w2:=by
 have hne:gCells≠[]:=by unfold gCells;exact List.cons_ne_nil _ _
 obtain ⟨a1,a2⟩:=zcY (Mi:=λz=>z=bx) h hne (λh=>h) hk (hh.one hL)
 exact (zcY (Mi:=No) a1 hne a2 hk2 (λ_ h=>h.elim)).1
theorem zfz (s:Bool) (i w x:Nat) (h0:1<=i) (h5:i<=4):nd 256 (pkOwn s i w x)<=gL i:=zej h0 h5 (zaK.1 (zfF s i w x h0 h5)).2.1
theorem zrl {T:Nat}{C:List Value}(hk:Keep No w0 w) (hh:Holds w0.heap.size No (L ++ X) w) (hG:GT w0) (h0:1<=i) (h5:i<=4) (hX:Has L (.blk bx T C)) (hrp:Has L (.row (.slice ap (gL i) kp) 5 1 (gL i) ((fixB (gL i) y).map v8))) (hy:memB (gP i) (gQ i) y=true):
  ∀w2,Keep (λz=>z=bx) w w2->Sy.Fn Tryz.prog 56 [.int .i64 (i:Int),.slice ap (gL i) kp] w2 No (Gives (.tuple #[natV y,.int .i64 0])):=λw2 hk2=>by
 have hnd:nd 256 y<=gL i:=zej h0 h5 (zaK.1 hy).2.1
 have:=zey i ap (gL i) kp (fixB (gL i) y) w2 h0 h5 (zlP hG hk hh hX hk2) rfl (zbM _ _ hnd) (Row.cap hh (Has.append hrp)) ((SlF.rowB hh hX hrp).to (Mi:=No) hk2 (λ_ h=>h.elim)).sla (by rw [zjP];exact hy)
 rwa [zjP] at this
theorem zkR (hk:Keep No w0 w) (hh:Holds w0.heap.size No (L ++ X) w) (hG:GT w0) (hT:Tab w0 No) (h0:1<=i) (h5:i<=4) (hx:x < gQ i) (hw:wv < gQ i) (hn:ctx.length=n) (hn2:n<=4096)
  (hX:Has L (.blk bx 75 (pkC i ⟨ac,n,kc,ctx⟩ false zG s x wv ⟨ao,gL i,ko,fixB (gL i) (pkOwn s i wv x)⟩))) (hrc:Has L (.row (.slice ac n kc) 5 1 n (ctx.map v8))) (hro:Has L (.row (.slice ao (gL i) ko) 5 1 (gL i) ((fixB (gL i) (pkOwn s i wv x)).map v8)))
  (hrp:Has L (.row (.slice ap (gL i) kp) 5 1 (gL i) ((fixB (gL i) y).map v8))) (hy:memB (gP i) (gQ i) y=true) (hy1:y≠1):
  Sy.Fn Tryz.prog 15 [.pointer (some ⟨bx,0,none⟩),.slice ap (gL i) kp] w (λz=>z=bx) (λv R=>v= .int .i64 0/\
   R= [.blk bx 75 (pkC i ⟨ac,n,kc,ctx⟩ true ((pkD i ctx s (fixB (gL i) (pkOwn s i wv x)) (fixB (gL i) y) (fixB (gL i) (pkSh s i wv x y)) (fixB (gL i) wv)).map v8) s x wv ⟨ao,gL i,ko,fixB (gL i) (pkOwn s i wv x)⟩)]):=by
 have hnd:nd 256 y<=gL i:=zej h0 h5 (zaK.1 hy).2.1
 have hgl:=(zdq i h0 h5).2
 have:=zkz bx i ⟨ac,n,kc,ctx⟩ zG s x wv y ⟨ao,gL i,ko,fixB (gL i) (pkOwn s i wv x)⟩ ⟨ap,gL i,kp,fixB (gL i) y⟩ w h0 h5 (by unfold zG;rfl) (hh.has (Has.append hX)) hy1 hy hx hw (zrl hk hh hG h0 h5 hX hrp hy) (λt ht=>?_) (hT.to hk (hh.one hX)) (λw2 hk2=>zlP hG hk hh hX hk2)
 ·unfold pkD
  cases s
  ·exact this
  ·exact this
 ·simp only [List.mem_cons,List.not_mem_nil,or_false] at ht
  rcases ht with rfl|rfl|rfl
  ·exact ⟨SlF.rowB hh hX hrc,hn,Row.cap hh (Has.append hrc),λh=>(Row.nil hh (Has.append hrc) h).1,by show n<=10000;omega⟩
  ·exact ⟨SlF.rowB hh hX hro,zbM _ _ (zfz s i wv x h0 h5),Row.cap hh (Has.append hro),λh=>(Row.nil hh (Has.append hro) h).1,by show gL i<=10000;omega⟩
  ·exact ⟨SlF.rowB hh hX hrp,zbM _ _ hnd,Row.cap hh (Has.append hrp),λh=>(Row.nil hh (Has.append hrp) h).1,by show gL i<=10000;omega⟩
theorem zjO {sx:Bs}(hh:Holds w0.heap.size No (L ++ X) w) (hGl:G.length=32) (hX:Has L (.blk bx 75 (pkC i sx d G s x wv ⟨ao,n,ko,l⟩))) (hro:Has L (.row (.slice ao n ko) 5 1 n (l.map v8))) (hl:l.length=n) (hb:n < 1000000):
  Sy.Fn Tryz.prog 12 [.pointer (some ⟨bx,0,none⟩)] w No (λv R=>∃a k,v= .slice a n k/\R= [.row (.slice a n k) 5 1 n (l.map v8)]):=by
 have hx:XIs bx i sx d G s x wv ⟨ao,n,ko,l⟩ w:=hh.has (Has.append hX)
 exact zkm bx (sideI s) ao n ko l w (zcG s) (hx.c35 hGl) (hx.c68 hGl) hl (by omega) (zu hh (Has.append hro)) (λh=>(Row.nil hh (Has.append hro) h))
theorem zld {sx so:Bs}{D:List UInt8}(hk:Keep No w0 w) (hh:Holds w0.heap.size No (L ++ X) w) (hT:Tab w0 No) (hD:D.length=32) (hX:Has L (.blk bx 75 (pkC i sx true (D.map v8) s x wv so))):
  Sy.Fn Tryz.prog 25 [.pointer (some ⟨bx,0,none⟩)] w No (λv R=>∃a k,v= .tuple #[.slice a 32 k,.int .i64 0]/\R= [.row (.slice a 32 k) 5 1 32 ((pkDer D pkKey).map v8)]):=by
 have hx:XIs bx i sx true (D.map v8) s x wv so w:=hh.has (Has.append hX)
 exact zk2 bx (sideI s) D w (zcG s) (hx.c35 (by rw [List.length_map,hD])) hx.c2 hx.r3 hD (hT.no hk)
theorem zja {sx so:Bs}{D:List UInt8}(hk:Keep No w0 w) (hh:Holds w0.heap.size No (L ++ X) w) (hT:Tab w0 No) (hD:D.length=32) (hX:Has L (.blk bx 75 (pkC i sx true (D.map v8) s x wv so))):
  Sy.Fn Tryz.prog 26 [.pointer (some ⟨bx,0,none⟩)] w No (λv R=>∃a k,v= .tuple #[.slice a 32 k,.int .i64 0]/\R= [.row (.slice a 32 k) 5 1 32 ((pkDer D (pkName s)).map v8)]):=by
 have hx:XIs bx i sx true (D.map v8) s x wv so w:=hh.has (Has.append hX)
 exact zgk bx s D w (hx.c35 (by rw [List.length_map,hD])) hx.c2 hx.r3 hD (hT.no hk)
theorem zdO (D lab:List UInt8):(pkDer D lab).length=32:=by unfold pkDer;exact zdJ _ (λ_=>by unfold dblock;exact zbJ _ _) 32
theorem zkL {sx so:Bs}{D:List UInt8}{s2:Bool}(hk:Keep No w0 w) (hh:Holds w0.heap.size No (L ++ X) w) (hT:Tab w0 No) (hD:D.length=32) (hX:Has L (.blk bx 75 (pkC i sx true (D.map v8) s x wv so)))
  (hrp:Has L (.row (.slice ap 32 kp) 5 1 32 ((pkDer D (pkName s2)).map v8))):
  Sy.Fn Tryz.prog 27 [.pointer (some ⟨bx,0,none⟩),.slice ap 32 kp] w No (Gives (.int .i64 (if pkDer D (pkName (!s))=pkDer D (pkName s2) then 0 else 10))):=by
 have hx:XIs bx i sx true (D.map v8) s x wv so w:=hh.has (Has.append hX)
 exact zhe bx s D ap 32 kp (pkDer D (pkName s2)) w (hx.c35 (by rw [List.length_map,hD])) hx.c2 hx.r3 hD (hT.no hk) (zdO _ _) (by decide) (zu hh (Has.append hrp))
end
end Go.Proofs.YtcpjfilcilcekaaGreatDoor
end
section
namespace Go.Proofs.YtcpjfilcilcekaaGreatDoor
open Go Go.Sy Go.Sh Go.Nt Go.RowKit
attribute [local irreducible] Sy SyL SyX Sy.Fn callFunc natC rowN refC iC gP gQ gL memB safeC fixB Sh.sum HashIs pkPt pkH firstN dblock hmac pkDer pkDig pkC selA ordF pkW pkX pkOwn pkSh gCells zG pkD pkKey pkName
set_option maxRecDepth 10000
theorem zjw (i:Nat) (ctx own peer shared scalar:List UInt8):pkD i ctx true own peer shared scalar=pkDig i ctx own peer shared scalar:=by unfold pkD;rfl
theorem zmB (i:Nat) (ctx own peer shared scalar:List UInt8):pkD i ctx false own peer shared scalar=pkDig i ctx peer own shared scalar:=by unfold pkD;rfl
theorem zdv {i:Nat}(h0:1<=i) (h5:i<=4) (l:List UInt8):pkX i l < gQ i:=by
 have hq:=zaF i h0 h5
 unfold pkX
 by_cases h:bev 256 (bn l) % gQ i=0
 ·rw [if_pos h];omega
 ·rw [if_neg h];exact Nat.mod_lt _ (by omega)
theorem zhl {i:Nat}(h0:1<=i) (h5:i<=4) (l:List UInt8):pkW i l < gQ i:=by unfold pkW;exact Nat.mod_lt _ (Nat.lt_of_lt_of_le (by decide) (zaF i h0 h5))
end Go.Proofs.YtcpjfilcilcekaaGreatDoor
end
section
namespace Go.Proofs.YtcpjfilcilcekaaGreatDoor
open Go Go.Sy Go.Sh Go.Nt Go.RowKit
attribute [local irreducible] Sy SyL SyX Sy.Fn callFunc natC rowN refC iC gP gQ memB safeC fixB Sh.sum HashIs pkPt pkH firstN dblock hmac pkDer pkDig pkC selA ordF pkW pkX pkOwn pkSh gCells zG pkD pkKey pkName fx exD exC exS exSh
set_option maxRecDepth 10000
theorem e3 {x:Nat}(h:x < gQ 3):x < 2 ^ gE 3:=Nat.lt_trans h (zlB 3 (by decide) (by decide))
theorem zmE (s:Bool) (x:Nat) (hx:x < gQ 3):pkOwn s 3 (pkW 3 pkSec) x=pw 3 4 x*pw 3 (pkPt 3 s) exW % gP 3:=by
 have hw:=zhl (i:=3) (by decide) (by decide) pkSec
 unfold exW pkOwn
 rw [ziU (e3 hx),ziU (e3 hw)]
theorem zll:pkOwn true 3 (pkW 3 pkSec) (pkX 3 (pkFill 3))=exC:=by rw [zmE true _ (zdv (by decide) (by decide) _)];unfold exC;rfl
theorem zhy:pkOwn false 3 (pkW 3 pkSec) (pkX 3 (pkFill 5))=exS:=by rw [zmE false _ (zdv (by decide) (by decide) _)];unfold exS;rfl
theorem zpa:pkSh true 3 (pkW 3 pkSec) (pkX 3 (pkFill 3)) exS=exSh:=by
 rw [<-zhy,show pkOwn false=pkOwn (!true) from rfl,zeP true (by decide) (by decide)]
 unfold exSh
 rw [ziU (e3 (zdv (by decide) (by decide) _)),ziU (e3 (zdv (by decide) (by decide) _)),Nat.pow_mul,<-Nat.pow_mod]
theorem zpd:memB (gP 3) (gQ 3) exC=true:=by rw [<-zll];exact zfF _ _ _ _ (by decide) (by decide)
theorem zpg:memB (gP 3) (gQ 3) exS=true:=by rw [<-zhy];exact zfF _ _ _ _ (by decide) (by decide)
theorem zrk:memB (gP 3) (gQ 3) exSh=true:=by
 have h:=zeP (i:=3) true (by decide) (by decide) (pkW 3 pkSec) (pkX 3 (pkFill 3)) (pkX 3 (pkFill 5))
 rw [show pkOwn (!true)=pkOwn false from rfl,zhy,zpa] at h
 rw [h];exact zgh _ _ (by decide) (by decide)
theorem gL3:gL 3=4:=rfl
theorem zrH:pkD 3 [] true (fixB (gL 3) exC) (fixB (gL 3) exS) (fixB (gL 3) exSh) (fixB (gL 3) (pkW 3 pkSec))=exD:=by
 have n3: ∀ {x},memB (gP 3) (gQ 3) x=true->nd 256 x<=gL 3:=λh=>zej (by decide) (by decide) (zaK.1 h).2.1
 rw [zjw,zgX (n3 zpd),zgX (n3 zpg),zgX (n3 zrk),zgX (ziQ (i:=3) (by decide) (by decide) (zhl (by decide) (by decide) pkSec)),gL3]
 unfold exD
 rw [show exW=pkW 3 pkSec from rfl]
end Go.Proofs.YtcpjfilcilcekaaGreatDoor
end
section
namespace Go.Proofs.YtcpjfilcilcekaaGreatDoor
open Go Go.Sy Go.Sh Go.Nt Go.RowKit
attribute [local irreducible] Sy SyL SyX Sy.Fn callFunc natC rowN refC iC gP gQ memB safeC fixB Sh.sum HashIs pkPt pkH firstN dblock hmac pkDer pkDig pkC selA ordF pkW pkX pkOwn pkSh gCells zG pkD pkKey pkName fx exD exC exS exSh exW
set_option maxRecDepth 10000
set_option maxHeartbeats 4000000 in
theorem zlr (w:World) (hG:GT w) (hT:Tab w No):Sy.Fn Tryz.prog 8 [] w No (Gives (.bool true)):=by
 refine zk Tryz.func8 rfl Tryz.ntmps8 (by simp) Holds.nil ?_
 have n33:=λz w'=>zgE z w'
 have f3:=λw'=>zig 3 w'
 have f5:=λw'=>zig 5 w'
 have hz32:zG.length=32:=by unfold zG;rfl
 have nilOk: ∀w',(⟨none,0,0,[]⟩:Bs).ok w':=λw'=>⟨rfl,Nat.le_refl _,.inl rfl,λ_=>rfl⟩
 have fillOk: ∀ {w' b} {x:UInt8},w'.rangeAt b 0 ((pkFill x).map v8)->(⟨some ⟨b,0,none⟩,32,32,pkFill x⟩:Bs).ok w':=λ{w' b x} h=>⟨by unfold pkFill;exact List.length_replicate ..,Nat.le_refl _,.inr ⟨b,0,rfl,h⟩,λh=>by cases h⟩
 have secOk: ∀ {w' b},SlA w' (some ⟨b,0,none⟩) (pkSec.map v8)->(⟨some ⟨b,0,none⟩,6,6,pkSec⟩:Bs).ok w':=λ{w' b} h=>⟨rfl,Nat.le_refl _,h,λh=>by cases h⟩
 have hs1:=λw' b c (hk:Keep No w w') (h1:SlA w' (some ⟨b,0,none⟩) (pkSec.map v8)) (h3:w'.rangeAt c 0 ((pkFill 3).map v8))=>zfU true 3 (some ⟨b,0,none⟩) none (some ⟨c,0,none⟩) 6 0 6 0 32 pkSec [] (pkFill 3) w' (by decide) (by decide) (hT.no hk) (hG.to hk) (secOk h1) (nilOk w') (fillOk h3) (by decide) (by decide) (by decide)
 have hs2:=λw' b c (hk:Keep No w w') (h1:SlA w' (some ⟨b,0,none⟩) (pkSec.map v8)) (h3:w'.rangeAt c 0 ((pkFill 5).map v8))=>zfU false 3 (some ⟨b,0,none⟩) none (some ⟨c,0,none⟩) 6 0 6 0 32 pkSec [] (pkFill 5) w' (by decide) (by decide) (hT.no hk) (hG.to hk) (secOk h1) (nilOk w') (fillOk h3) (by decide) (by decide) (by decide)
 unfold XRes at hs1 hs2
 rw [zll] at hs1
 rw [zhy] at hs2
 have hx:=zdv (i:=3) (by decide) (by decide) (pkFill 3)
 have hy:=zdv (i:=3) (by decide) (by decide) (pkFill 5)
 have hw:=zhl (i:=3) (by decide) (by decide) pkSec
 have hC:=zll
 have hS:=zhy
 have hSh:=zpa
 have hD:=zrH
 have hSS:=zqu (i:=3) (by decide) (by decide) (pkW 3 pkSec) (pkX 3 (pkFill 3)) (pkX 3 (pkFill 5))
 rw [hS,hC,hSh] at hSS
 generalize pkX 3 (pkFill 3)=x at *
 generalize pkX 3 (pkFill 5)=y at *
 generalize pkW 3 pkSec=wv at *
 repeat' (first|refine s_0 ?_|(refine za (id:=0) ?_;refine zd ?_)|(refine za (id:=1) ?_;(refine ys zt (k:=?_);rintro _ _ ⟨_,rfl,rfl⟩);refine zaV ?_;(refine ys (zn (f:=24) (hc:=λw' X hk hh=>f3 w')) (k:=?_);rintro _ _ ⟨R,rfl,b22,rfl,rfl⟩))|fail)
 rename_i b20
 refine ys (zn (f:=9) (hc:=λw' X hk hh=>hs1 w' b20 b22 hk ((Rd.of (Reads.obj (Has.there Has.here) Seg.all)) w' X hk hh) (zz (hh.has (Has.append Has.here)) Seg.all))) (k:=?_)
 rintro _ _ ⟨R,rfl,bc,acc,aoc,kcc,koc,rfl,rfl⟩
 repeat' (first|refine s_0 ?_|(refine zC ?_;first|refine zd ?_|refine zh ?_|refine zb ?_|fail)|fail)
 refine Sy.weaken (fr':=[(2,.int .i64 0),(1,.pointer (some ⟨bc,0,none⟩))]) (L':=[.blk bc 75 (pkC 3 ⟨acc,0,kcc,[]⟩ false zG true x wv ⟨aoc,gL 3,koc,fixB (gL 3) exC⟩),.row (.slice acc 0 kcc) 5 1 0 ([].map v8),.row (.slice aoc (gL 3) koc) 5 1 (gL 3) ((fixB (gL 3) exC).map v8)]) ?_ (by exact Sub.go) (by exact SubR.go2)
 repeat' (first|(refine za (id:=2) ?_;(refine ys zt (k:=?_);rintro _ _ ⟨_,rfl,rfl⟩);refine zaV ?_;(refine ys (zn (f:=24) (hc:=λw' X hk hh=>f5 w')) (k:=?_);rintro _ _ ⟨R,rfl,b29,rfl,rfl⟩))|fail)
 rename_i b27
 refine ys (zn (f:=9) (hc:=λw' X hk hh=>hs2 w' b27 b29 hk ((Rd.of (Reads.obj (Has.there Has.here) Seg.all)) w' X hk hh) (zz (hh.has (Has.append Has.here)) Seg.all))) (k:=?_)
 rintro _ _ ⟨R,rfl,bs,acs,aos,kcs,kos,rfl,rfl⟩
 repeat' (first|refine s_0 ?_|(refine za (id:=3) ?_;refine zb ?_;refine yv (zf (hc:=λ_ _ _ _=>(n33 _ _))) (k:=?_);refine zb ?_;refine yv (zf (hc:=λ_ _ _ _=>(n33 _ _))) (k:=?_);refine zY ?_;refine zV ?_;refine zb ?_;refine zb ?_;refine zX ?_;refine zo ?_;refine zb ?_;refine zb ?_;refine zX ?_;refine zo ?_)|(refine zC ?_;first|refine zd ?_|refine zh ?_|refine zb ?_|fail)|fail)
 refine Sy.weaken (fr':=[(3,.pointer (some ⟨bs,0,none⟩)),(1,.pointer (some ⟨bc,0,none⟩))]) (L':=[.blk bc 75 (pkC 3 ⟨acc,0,kcc,[]⟩ false zG true x wv ⟨aoc,gL 3,koc,fixB (gL 3) exC⟩),.row (.slice acc 0 kcc) 5 1 0 ([].map v8),.row (.slice aoc (gL 3) koc) 5 1 (gL 3) ((fixB (gL 3) exC).map v8),.blk bs 75 (pkC 3 ⟨acs,0,kcs,[]⟩ false zG false y wv ⟨aos,gL 3,kos,fixB (gL 3) exS⟩),.row (.slice acs 0 kcs) 5 1 0 ([].map v8),.row (.slice aos (gL 3) kos) 5 1 (gL 3) ((fixB (gL 3) exS).map v8)]) ?_ (by exact Sub.go) (by exact SubR.go2)
 clear hs1 hs2 f5
 have lc:(fixB (gL 3) exC).length=gL 3:=by rw [<-zll];exact zbM _ _ (zfz true 3 _ _ (by decide) (by decide))
 have ls:(fixB (gL 3) exS).length=gL 3:=by rw [<-zhy];exact zbM _ _ (zfz false 3 _ _ (by decide) (by decide))
 have hDl:exD.length=32:=by rw [<-hD];exact zhF _ _ _ _ _ _ _
 have hDm:(exD.map v8).length=32:=by rw [List.length_map,hDl]
 have heS:=λ{L X w'} (hh:Holds w.heap.size No (L ++ X) w') {d G} (hG:G.length=32) hX hro=>zjO (bx:=bs) (i:=3) (d:=d) (G:=G) (s:=false) (x:=y) (wv:=wv) (ao:=aos) (n:=gL 3) (ko:=kos) (l:=fixB (gL 3) exS) (sx:=⟨acs,0,kcs,[]⟩) (X:=X) (L:=L) hh hG hX hro ls (by decide)
 have heC:=λ{L X w'} (hh:Holds w.heap.size No (L ++ X) w') {d G} (hG:G.length=32) hX hro=>zjO (bx:=bc) (i:=3) (d:=d) (G:=G) (s:=true) (x:=x) (wv:=wv) (ao:=aoc) (n:=gL 3) (ko:=koc) (l:=fixB (gL 3) exC) (sx:=⟨acc,0,kcc,[]⟩) (X:=X) (L:=L) hh hG hX hro lc (by decide)
 have hk8:=λ{L X w'} (hh:Holds w.heap.size No (L ++ X) w') (hX:Has L (.blk bc 75 (pkC 3 ⟨acc,0,kcc,[]⟩ false zG true x wv ⟨aoc,gL 3,koc,fixB (gL 3) exC⟩)))=>
  have hx:XIs bc 3 ⟨acc,0,kcc,[]⟩ false zG true x wv ⟨aoc,gL 3,koc,fixB (gL 3) exC⟩ w':=hh.has (Has.append hX)
  zjV (some ⟨bc,0,none⟩) 8 w' (by decide) (zeq bc true w' (hx.c35 hz32) hx.c2)
 have mem0:memB (gP 3) (gQ 3) (bev 256 (bn [0,0,0,0]))=false:=by
  rw [show bev 256 (bn [0,0,0,0])=0 from rfl];unfold memB
  exact decide_eq_false (λh=>absurd h.1 (Nat.lt_irrefl 0))
 have hz6:=λ{L X w'} b (hk:Keep No w w') (hh:Holds w.heap.size No (L ++ X) w') (hX:Has L (.blk bc 75 (pkC 3 ⟨acc,0,kcc,[]⟩ false zG true x wv ⟨aoc,gL 3,koc,fixB (gL 3) exC⟩))) (hb:Has L (.blk b 5 [.int .u8 0,.int .u8 0,.int .u8 0,.int .u8 0]))=>
  zkS bc 3 ⟨acc,0,kcc,[]⟩ zG true x wv 0 3 ⟨aoc,gL 3,koc,fixB (gL 3) exC⟩ ⟨some ⟨b,0,none⟩,4,4,[0,0,0,0]⟩ w' hz32 (hh.has (Has.append hX)) (Nat.pow_pos (by decide)) (.inl (by decide)) (λw2 hk2=>zgq 3 (some ⟨b,0,none⟩) 4 4 [0,0,0,0] w2 (by decide) (by decide) ((hG.to hk).to hk2) rfl rfl (Nat.le_refl _) (.inr ⟨b,0,rfl,zaC (zz (hh.has (Has.append hb)) Seg.all) hk2 (λh=>h)⟩) mem0)
 have hfc:=λ{L X w' ap kp} (hk:Keep No w w') (hh:Holds w.heap.size No (L ++ X) w') hX hrc hro hrp=>zkR (bx:=bc) (i:=3) (s:=true) (x:=x) (wv:=wv) (y:=exS) (ap:=ap) (kp:=kp) (ac:=acc) (n:=0) (kc:=kcc) (ctx:=[]) (ao:=aoc) (ko:=koc) (X:=X) (L:=L) hk hh hG hT (by decide) (by decide) hx hw rfl (by decide) hX hrc hro hrp zpg zpb.2
 have hfs:=λ{L X w' ap kp} (hk:Keep No w w') (hh:Holds w.heap.size No (L ++ X) w') hX hrc hro hrp=>zkR (bx:=bs) (i:=3) (s:=false) (x:=y) (wv:=wv) (y:=exC) (ap:=ap) (kp:=kp) (ac:=acs) (n:=0) (kc:=kcs) (ctx:=[]) (ao:=aos) (ko:=kos) (X:=X) (L:=L) hk hh hG hT (by decide) (by decide) hy hw rfl (by decide) hX hrc hro hrp zpd zpb.1
 rw [hC,hSh,hD] at hfc
 rw [hS,<-hSS,zmB,<-zjw,hD] at hfs
 repeat' (first|refine s_0 ?_|(refine za (id:=5) ?_;refine zb ?_;refine yv (zf (f:=25) (hc:=λw' X hk hh=>hk8 hh (by exact Has.go))) (k:=?_);refine zb ?_;refine zh ?_;refine zh ?_;refine zd ?_;refine zd ?_)|fail)
 repeat' (first|refine s_0 ?_|(refine za (id:=6) ?_;refine zb ?_;(refine ys zt (k:=?_);rintro _ _ ⟨_,rfl,rfl⟩);refine yv (zf (f:=15) (hc:=λw' X hk hh=>hz6 _ hk hh (by exact Has.go) (by exact Has.go))) (k:=?_);refine zb ?_;refine zb ?_;(refine ys (zn (f:=12) (hc:=λw' X hk hh=>heS hh hz32 (by exact Has.go) (by exact Has.go))) (k:=?_);rintro _ _ ⟨R,rfl,ap,kp,rfl,rfl⟩);refine yv (zbj (b:=bc) (f:=15) (hc:=λw' X hk hh=>hfc hk hh (by exact Has.go) (by exact Has.go) (by exact Has.go) (by exact Has.go))) (k:=?_);refine zd ?_;refine zd ?_)|fail)
 refine Sy.weaken (fr':=[(8,.int .i64 0),(7,.int .i64 6),(6,.int .i64 8),(3,.pointer (some ⟨bs,0,none⟩)),(1,.pointer (some ⟨bc,0,none⟩))]) (L':=[.blk bc 75 (pkC 3 ⟨acc,0,kcc,[]⟩ true (exD.map v8) true x wv ⟨aoc,gL 3,koc,fixB (gL 3) exC⟩),.row (.slice acc 0 kcc) 5 1 0 ([].map v8),.row (.slice aoc (gL 3) koc) 5 1 (gL 3) ((fixB (gL 3) exC).map v8),.blk bs 75 (pkC 3 ⟨acs,0,kcs,[]⟩ false zG false y wv ⟨aos,gL 3,kos,fixB (gL 3) exS⟩),.row (.slice acs 0 kcs) 5 1 0 ([].map v8),.row (.slice aos (gL 3) kos) 5 1 (gL 3) ((fixB (gL 3) exS).map v8)]) ?_ (by exact Sub.go) (by exact SubR.go2)
 have hE8:=λ{L X w'} v (hh:Holds w.heap.size No (L ++ X) w') (hX:Has L (.blk bc 75 (pkC 3 ⟨acc,0,kcc,[]⟩ true (exD.map v8) true x wv ⟨aoc,gL 3,koc,fixB (gL 3) exC⟩)))=>
  have hx:XIs bc 3 ⟨acc,0,kcc,[]⟩ true (exD.map v8) true x wv ⟨aoc,gL 3,koc,fixB (gL 3) exC⟩ w':=hh.has (Has.append hX)
  zj1 (some ⟨bc,0,none⟩) 8 v w' (by decide) (zi0 bc true w' (hx.c35 hDm) hx.c2)
 repeat' (first|refine s_0 ?_|(refine za (id:=7) ?_;refine zb ?_;refine zb ?_;(refine ys (zn (f:=12) (hc:=λw' X hk hh=>heS hh hz32 (by exact Has.go) (by exact Has.go))) (k:=?_);rintro _ _ ⟨R,rfl,ap,kp,rfl,rfl⟩);refine yv (zf (f:=15) (hc:=λw' X hk hh=>hE8 _ hh (by exact Has.go))) (k:=?_);refine zb ?_;refine zb ?_;(refine ys (zn (f:=12) (hc:=λw' X hk hh=>heC hh hDm (by exact Has.go) (by exact Has.go))) (k:=?_);rintro _ _ ⟨R,rfl,ap2,kp2,rfl,rfl⟩);refine yv (zbj (b:=bs) (f:=15) (hc:=λw' X hk hh=>hfs hk hh (by exact Has.go) (by exact Has.go) (by exact Has.go) (by exact Has.go))) (k:=?_);refine zd ?_;refine zd ?_)|fail)
 repeat' (first|refine s_0 ?_|(refine za (id:=8) ?_;refine zb ?_;refine zV ?_;refine zb ?_;refine zb ?_;refine zV ?_;refine zo ?_;refine zb ?_;refine zb ?_;refine yv (zf (hc:=λ_ _ _ _=>(n33 _ _))) (k:=?_);refine zV ?_;refine zo ?_;refine zb ?_;refine zb ?_;refine zV ?_;refine zo ?_;refine zb ?_;refine zb ?_;refine yv (zf (hc:=λ_ _ _ _=>(n33 _ _))) (k:=?_);refine zV ?_;refine zo ?_)|fail)
 refine Sy.weaken (fr':=[(3,.pointer (some ⟨bs,0,none⟩)),(1,.pointer (some ⟨bc,0,none⟩))])
  (L':=[.blk bc 75 (pkC 3 ⟨acc,0,kcc,[]⟩ true (exD.map v8) true x wv ⟨aoc,gL 3,koc,fixB (gL 3) exC⟩),.blk bs 75 (pkC 3 ⟨acs,0,kcs,[]⟩ true (exD.map v8) false y wv ⟨aos,gL 3,kos,fixB (gL 3) exS⟩)]) ?_ (by exact Sub.go) (by exact SubR.go2)
 clear hfc hfs heS heC hz6 hk8 hE8 mem0
 generalize fixB (gL 3) exC=oc at *
 generalize fixB (gL 3) exS=os at *
 have hne:=zpy
 generalize exD=D at *
 have hkc:=λ{L X w'} (hk:Keep No w w') (hh:Holds w.heap.size No (L ++ X) w') hX=>zld (bx:=bc) (i:=3) (s:=true) (x:=x) (wv:=wv) (D:=D) (sx:=⟨acc,0,kcc,[]⟩) (so:=⟨aoc,gL 3,koc,oc⟩) (X:=X) (L:=L) hk hh hT hDl hX
 have hks:=λ{L X w'} (hk:Keep No w w') (hh:Holds w.heap.size No (L ++ X) w') hX=>zld (bx:=bs) (i:=3) (s:=false) (x:=y) (wv:=wv) (D:=D) (sx:=⟨acs,0,kcs,[]⟩) (so:=⟨aos,gL 3,kos,os⟩) (X:=X) (L:=L) hk hh hT hDl hX
 have hcc:=λ{L X w'} (hk:Keep No w w') (hh:Holds w.heap.size No (L ++ X) w') hX=>zja (bx:=bc) (i:=3) (s:=true) (x:=x) (wv:=wv) (D:=D) (sx:=⟨acc,0,kcc,[]⟩) (so:=⟨aoc,gL 3,koc,oc⟩) (X:=X) (L:=L) hk hh hT hDl hX
 have hcs:=λ{L X w'} (hk:Keep No w w') (hh:Holds w.heap.size No (L ++ X) w') hX=>zja (bx:=bs) (i:=3) (s:=false) (x:=y) (wv:=wv) (D:=D) (sx:=⟨acs,0,kcs,[]⟩) (so:=⟨aos,gL 3,kos,os⟩) (X:=X) (L:=L) hk hh hT hDl hX
 have hv0:=λ{L X w' ap kp} (hk:Keep No w w') (hh:Holds w.heap.size No (L ++ X) w') hX hrp=>zkL (bx:=bc) (i:=3) (s:=true) (s2:=false) (x:=x) (wv:=wv) (D:=D) (ap:=ap) (kp:=kp) (sx:=⟨acc,0,kcc,[]⟩) (so:=⟨aoc,gL 3,koc,oc⟩) (X:=X) (L:=L) hk hh hT hDl hX hrp
 have hv1:=λ{L X w' ap kp} (hk:Keep No w w') (hh:Holds w.heap.size No (L ++ X) w') hX hrp=>zkL (bx:=bc) (i:=3) (s:=true) (s2:=true) (x:=x) (wv:=wv) (D:=D) (ap:=ap) (kp:=kp) (sx:=⟨acc,0,kcc,[]⟩) (so:=⟨aoc,gL 3,koc,oc⟩) (X:=X) (L:=L) hk hh hT hDl hX hrp
 simp only [Bool.not_true,if_true] at hv0
 simp only [Bool.not_true,if_neg (Ne.symm hne)] at hv1
 have lk:=zdO D pkKey
 generalize pkDer D pkKey=K at *
 generalize pkDer D (pkName true)=Nc at *
 generalize pkDer D (pkName false)=Ns at *
 repeat' (first|refine s_0 ?_|(refine za (id:=10) ?_;refine zb ?_;(refine ys (zn (f:=25) (hc:=λw' X hk hh=>hkc hk hh (by exact Has.go))) (k:=?_);rintro _ _ ⟨R,rfl,ap,kp,rfl,rfl⟩);refine zb ?_;refine zh ?_;refine zh ?_;refine zd ?_;refine zd ?_)|(refine za (id:=11) ?_;refine zb ?_;(refine ys (zn (f:=25) (hc:=λw' X hk hh=>hks hk hh (by exact Has.go))) (k:=?_);rintro _ _ ⟨R,rfl,ap,kp,rfl,rfl⟩);refine zb ?_;refine zh ?_;refine zh ?_;refine zd ?_;refine zd ?_)|(refine za (id:=12) ?_;refine zb ?_;(refine ys (zn (f:=26) (hc:=λw' X hk hh=>hcs hk hh (by exact Has.go))) (k:=?_);rintro _ _ ⟨R,rfl,ap,kp,rfl,rfl⟩);refine zb ?_;refine zh ?_;refine zh ?_;refine zd ?_;refine zd ?_)|(refine za (id:=13) ?_;refine zb ?_;(refine ys (zn (f:=26) (hc:=λw' X hk hh=>hcc hk hh (by exact Has.go))) (k:=?_);rintro _ _ ⟨R,rfl,ap,kp,rfl,rfl⟩);refine zb ?_;refine zh ?_;refine zh ?_;refine zd ?_;refine zd ?_)|fail)
 rename_i a11 k11 a13 k13 a15 k15
 refine Sy.weaken (fr':=[(18,.int .i64 0),(17,.slice ap 32 kp),(16,.int .i64 0),(15,.slice a15 32 k15),(14,.int .i64 0),(13,.slice a13 32 k13),(12,.int .i64 0),(11,.slice a11 32 k11),(1,.pointer (some ⟨bc,0,none⟩))])
  (L':=[.blk bc 75 (pkC 3 ⟨acc,0,kcc,[]⟩ true (D.map v8) true x wv ⟨aoc,gL 3,koc,oc⟩),.row (.slice ap 32 kp) 5 1 32 (Nc.map v8),.row (.slice a15 32 k15) 5 1 32 (Ns.map v8),.row (.slice a13 32 k13) 5 1 32 (K.map v8),.row (.slice a11 32 k11) 5 1 32 (K.map v8)]) ?_ (by exact Sub.go) (by exact SubR.go2)
 clear hkc hks hcc hcs
 have gf:decide (K≠K)=false:=decide_eq_false (λh=>h rfl)
 repeat' (first|refine s_0 ?_|(refine za (id:=14) ?_;refine zb ?_;refine yv (zf (hc:=λ_ _ _ _=>(n33 _ _))) (k:=?_);refine zb ?_;refine yv (zf (hc:=λ_ _ _ _=>(n33 _ _))) (k:=?_);refine zY ?_;refine zb ?_;refine yv (zf (hc:=λ_ _ _ _=>(n33 _ _))) (k:=?_);refine zY ?_;refine zb ?_;refine yv (zf (hc:=λ_ _ _ _=>(n33 _ _))) (k:=?_);refine zY ?_;refine zV ?_;refine zb ?_;refine zb ?_;refine zq ?_;refine zV ?_;refine zo ?_;refine zb ?_;refine zb ?_;refine yv (zb4 (l:=K) (hr:=Rd.row Has.go) (hn:=lk)) (k:=?_);refine zb ?_;refine yv (zb4 (l:=K) (hr:=Rd.row Has.go) (hn:=lk)) (k:=?_);refine yv (zdd (hr:=gf)) (k:=?_);refine zo ?_;refine zb ?_;refine zb ?_;refine zb ?_;refine yv (zf (f:=27) (hc:=λw' X hk hh=>hv0 hk hh (by exact Has.go) (by exact Has.go))) (k:=?_);refine yv (zf (hc:=λ_ _ _ _=>(n33 _ _))) (k:=?_);refine zV ?_;refine zo ?_;refine zb ?_;refine zb ?_;refine zb ?_;refine yv (zf (f:=27) (hc:=λw' X hk hh=>hv1 hk hh (by exact Has.go) (by exact Has.go))) (k:=?_);refine zV ?_;refine zo ?_)|fail)
 refine Sy.weaken (fr':=[]) (L':=[]) ?_ (by exact Sub.go) (by exact SubR.go2)
 have b1:=λw' (hk:Keep No w w') a1 a2 a3 c1 c2 c3=>zfG true 5 a1 a2 a3 6 0 32 c1 c2 c3 w' (hG.to hk) (.inl (by unfold glen;rfl))
 have b2:=λw' a1 a2 a3 c1 c2 c3=>zkq 3 (by decide) (by decide) (.int .i64 1) a1 a2 a3 6 0 32 c1 c2 c3 w'
 have b3:=λw' (hk:Keep No w w') a1 a2 a3 c1 c2 c3=>zfG true 1 a1 a2 a3 6 0 31 c1 c2 c3 w' (hG.to hk) (.inr (.inr (.inr (.inr (by decide)))))
 have b4:=λw' (hk:Keep No w w') a1 a2 a3 c1 c2 c3=>zfG true 1 a1 a2 a3 0 0 32 c1 c2 c3 w' (hG.to hk) (.inr (.inl rfl))
 repeat' (first|refine s_0 ?_|(refine za (id:=16) ?_;(refine ys zt (k:=?_);rintro _ _ ⟨_,rfl,rfl⟩);refine zaV ?_;(refine ys (zn (f:=24) (hc:=λw' X hk hh=>f3 w')) (k:=?_);rintro _ _ ⟨R,rfl,b22,rfl,rfl⟩);refine yv (zf (f:=9) (hc:=λw' X hk hh=>b1 w' hk _ _ _ _ _ _)) (k:=?_);refine zb ?_;refine zh ?_;refine zh ?_;refine zd ?_)|(refine za (id:=17) ?_;(refine ys zt (k:=?_);rintro _ _ ⟨_,rfl,rfl⟩);refine zaV ?_;(refine ys (zn (f:=24) (hc:=λw' X hk hh=>f3 w')) (k:=?_);rintro _ _ ⟨R,rfl,b22,rfl,rfl⟩);refine yv (zf (f:=9) (hc:=λw' X hk hh=>b2 w' _ _ _ _ _ _)) (k:=?_);refine zb ?_;refine zh ?_;refine zh ?_;refine zd ?_)|(refine za (id:=18) ?_;(refine ys zt (k:=?_);rintro _ _ ⟨_,rfl,rfl⟩);refine zaV ?_;(refine ys (zn (f:=24) (hc:=λw' X hk hh=>f3 w')) (k:=?_);rintro _ _ ⟨R,rfl,b22,rfl,rfl⟩);refine zap ?_;refine yv (zf (f:=9) (hc:=λw' X hk hh=>b3 w' hk _ _ _ _ _ _)) (k:=?_);refine zb ?_;refine zh ?_;refine zh ?_;refine zd ?_)|(refine za (id:=19) ?_;(refine ys (zn (f:=24) (hc:=λw' X hk hh=>f3 w')) (k:=?_);rintro _ _ ⟨R,rfl,b22,rfl,rfl⟩);refine yv (zf (f:=9) (hc:=λw' X hk hh=>b4 w' hk _ _ _ _ _ _)) (k:=?_);refine zb ?_;refine zh ?_;refine zh ?_;refine zd ?_)|(refine za (id:=20) ?_;refine zb ?_;refine zX ?_;refine zb ?_;refine zb ?_;refine zX ?_;refine zo ?_;refine zb ?_;refine zb ?_;refine zX ?_;refine zo ?_;refine zb ?_;refine zb ?_;refine zX ?_;refine zo ?_;refine zd ?_)|fail)
 exact ret1 rfl (resTmp rfl) SubR.nil ⟨rfl,rfl⟩
end Go.Proofs.YtcpjfilcilcekaaGreatDoor
end
