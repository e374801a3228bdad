/- PakeMeets: the keys and the confirmations of a client and a server that exchange their elements. -/
import Derived.Test.YtcpjfilcilcekaaGreatDoorXJ45
set_option linter.all false
section
namespace Go.Proofs.YtcpjfilcilcekaaGreatDoor
open Go Go.Sy Go.Sh Go.Nt Go.RowKit
attribute [local irreducible] Sy SyL SyX Sy.Fn callFunc natC rowN refC iC gP gQ gL memB safeC fixB Sh.sum HashIs pkPt pkH pkQ firstN dblock hmac pkW pkX pkOwn pkDer pkSh pkD pkC pkName pkKey zG stB stG pkFin HS
set_option maxRecDepth 10000
theorem zpm (i:Nat) (sx so:Bs) (s:Bool) (x wv:Nat):pkC i sx false zG s x wv so=pkC i sx (stB []) (stG []) s x wv so:=by rw [zdB.1,zdB.2]
set_option maxHeartbeats 8000000 in
theorem zja (hkn: ∀w,GT w->Tab w No->Sy.Fn Tryz.prog 8 [] w No (Gives (.bool true))) (z:Int) (a1 a2 a3 a4 a5 a6:Option Addr) (n1 n2 n3 n4 n5 n6 c1 c2 c3 c4 c5 c6 kb kt kk:Nat) (sec oth ctx els prv snd:List UInt8) (w:World) (hT:Tab w No) (hG:GT w) (hR:RTab w No kb kt kk)
    (k1:(⟨a1,n1,c1,sec⟩:Bs).ok w) (k2:(⟨a2,n2,c2,oth⟩:Bs).ok w) (k3:(⟨a3,n3,c3,ctx⟩:Bs).ok w) (k4:(⟨a4,n4,c4,els⟩:Bs).ok w) (k5:(⟨a5,n5,c5,prv⟩:Bs).ok w) (k6:(⟨a6,n6,c6,snd⟩:Bs).ok w):
    Sy.Fn Tryz.prog 4 [.int .i64 z,.slice a1 n1 c1,.slice a2 n2 c2,.slice a3 n3 c3,.slice a4 n4 c4,.slice a5 n5 c5,.slice a6 n6 c6] w No (Gives (.bool true)):=by
  refine zk Tryz.func4 rfl Tryz.ntmps4 (by simp) Holds.nil ?_
  have hkn':=λw' (hk:Keep No w w')=>hkn w' (hG.to hk) (hT.no hk)
  have n33:=λz w'=>zgG z w'
  have hl1:=λw'=>zhw (.int .i64 z) a1 a3 a5 n1 n3 n5 c1 c3 c5 w'
  have hl2:=λw'=>zhw (.int .i64 z) a2 a4 a6 n2 n4 n6 c2 c4 c6 w'
  have hv1:=λw'=>zfO 1 z a1 a3 a5 n1 n3 n5 c1 c3 c5 w'
  have hv2:=λw'=>zfO 2 z a2 a4 a6 n2 n4 n6 c2 c4 c6 w'
  obtain ⟨b1,e1⟩: ∃b,b=decide (300 < n1\/40 < n5\/(300 < n3/\n3<=4096)\/5000 < n3):=⟨_,rfl⟩
  obtain ⟨b2,e2⟩: ∃b,b=decide (300 < n2\/40 < n6\/(300 < n4/\n4<=4096)\/5000 < n4):=⟨_,rfl⟩
  obtain ⟨b3,e3⟩: ∃b,b=decide (((1:Int)=1\/(1:Int)=2)/\(1<=z/\z<=4)/\1<=n1/\n1<=256/\n3<=4096/\n5=32):=⟨_,rfl⟩
  obtain ⟨b4,e4⟩: ∃b,b=decide (((2:Int)=1\/(2:Int)=2)/\(1<=z/\z<=4)/\1<=n2/\n2<=256/\n4<=4096/\n6=32):=⟨_,rfl⟩
  rw [<-e1] at hl1
  rw [<-e2] at hl2
  rw [<-e3] at hv1
  rw [<-e4] at hv2
  have hcase:b1=true\/(b1=false/\b2=true)\/(b1=false/\b2=false/\b3=false)\/(b1=false/\b2=false/\b3=true/\b4=false)\/(b1=false/\b2=false/\b3=true/\b4=true):=by
    cases b1 <;> cases b2 <;> cases b3 <;> cases b4 <;> simp
  by_cases hgood:b1=false/\b2=false/\b3=true/\b4=true
  rotate_left
  · have hbad:b1=true\/(b1=false/\b2=true)\/(b1=false/\b2=false/\b3=false)\/(b1=false/\b2=false/\b3=true/\b4=false):=by
      rcases hcase with h|h|h|h|h
      · exact .inl h
      · exact .inr (.inl h)
      · exact .inr (.inr (.inl h))
      · exact .inr (.inr (.inr h))
      · exact absurd h hgood
    rcases hbad with rfl|⟨rfl,rfl⟩|⟨rfl,rfl,rfl⟩|⟨rfl,rfl,rfl,rfl⟩
    all_goals repeat' (first|refine s_0 ?_|(refine za (id:=0) ?_;refine zd ?_)|(refine za (id:=1) ?_;refine zb ?_;refine zb ?_;refine zb ?_;refine zb ?_;refine yv (zf (hc:=λ_ _ _ _=>(hl1 _))) (k:=?_);refine zb ?_;(first|refine zb ?_|refine zi rfl rfl rfl ?_|fail);(first|refine zb ?_|refine zi rfl rfl rfl ?_|fail);(first|refine zb ?_|refine zi rfl rfl rfl ?_|fail);(first|refine zb ?_|refine zi rfl rfl rfl ?_|fail);(first|refine yv (zf (hc:=λ_ _ _ _=>(hl2 _))) (k:=?_)|refine zi rfl rfl rfl ?_|fail);refine zo ?_;refine zb ?_;(first|refine zb ?_|refine zi rfl rfl rfl ?_|fail);(first|refine zb ?_|refine zi rfl rfl rfl ?_|fail);(first|refine zb ?_|refine zi rfl rfl rfl ?_|fail);(first|refine zb ?_|refine zi rfl rfl rfl ?_|fail);(first|refine yv (zf (hc:=λ_ _ _ _=>(hv1 _))) (k:=?_)|refine zi rfl rfl rfl ?_|fail);(first|refine zal ?_|refine zi rfl rfl rfl ?_|fail);refine zo ?_;refine zb ?_;(first|refine zb ?_|refine zi rfl rfl rfl ?_|fail);(first|refine zb ?_|refine zi rfl rfl rfl ?_|fail);(first|refine zb ?_|refine zi rfl rfl rfl ?_|fail);(first|refine zb ?_|refine zi rfl rfl rfl ?_|fail);(first|refine yv (zf (hc:=λ_ _ _ _=>(hv2 _))) (k:=?_)|refine zi rfl rfl rfl ?_|fail);(first|refine zal ?_|refine zi rfl rfl rfl ?_|fail);refine zo ?_)|(refine za (id:=2) ?_;refine yv (zf (f:=8) (hc:=λw' X hk hh=>hkn' w' hk)) (k:=?_);refine zd ?_)|fail)
    all_goals exact ret1 rfl (resTmp rfl) SubR.nil ⟨rfl,rfl⟩
  obtain ⟨rfl,rfl,rfl,rfl⟩:=hgood
  obtain ⟨-,hz,g1,g2,g3,rfl⟩:=of_decide_eq_true e3.symm
  obtain ⟨-,-,u1,u2,u3,rfl⟩:=of_decide_eq_true e4.symm
  obtain ⟨i,rfl⟩: ∃i:Nat,z=(i:Int):=⟨z.toNat,by omega⟩
  have h0:1<=i:=by omega
  have h5:i<=4:=by omega
  have hs1:=λw' (hk:Keep No w w')=>zeh true i a1 a3 a5 n1 n3 c1 c3 c5 sec ctx prv w' h0 h5 (hT.no hk) (hG.to hk) (k1.keep hk) (k3.keep hk) (k5.keep hk) (by omega) g2 g3
  have hs2:=λw' (hk:Keep No w w')=>zeh false i a2 a4 a6 n2 n4 c2 c4 c6 oth els snd w' h0 h5 (hT.no hk) (hG.to hk) (k2.keep hk) (k4.keep hk) (k6.keep hk) (by omega) u2 u3
  have hr1:=λw' (hk:Keep No w w')=>zh1 true i a1 a3 a5 n1 n3 c1 c3 c5 kb kt kk sec ctx prv w' h0 h5 (hR.no hk) (k1.keep hk) (k3.keep hk) (k5.keep hk) (by omega) g2 g3
  have hr2:=λw' (hk:Keep No w w')=>zh1 false i a2 a4 a6 n2 n4 c2 c4 c6 kb kt kk oth els snd w' h0 h5 (hR.no hk) (k2.keep hk) (k4.keep hk) (k6.keep hk) (by omega) u2 u3
  unfold XRes at hs1 hs2
  unfold rxRes rxC at hr1 hr2
  simp only [zpm] at hs1 hs2
  have hgl:=(zds i h0 h5).2
  have lc:=zbs _ _ (zeN true i (pkW i sec) (pkX i prv) h0 h5)
  have ls:=zbs _ _ (zeN false i (pkW i oth) (pkX i snd) h0 h5)
  have hqw:=zfx h0 h5 sec
  have hqx:=zcN h0 h5 prv
  have hqu:=zfx h0 h5 oth
  have hqy:=zcN h0 h5 snd
  have q3:ctx.length=n3:=k3.len
  have q4:els.length=n4:=k4.len
  generalize fixB (gL i) (pkOwn true i (pkW i sec) (pkX i prv))=oc at *
  generalize fixB (gL i) (pkOwn false i (pkW i oth) (pkX i snd))=os at *
  generalize pkW i sec=wv at *
  generalize pkX i prv=x at *
  generalize pkW i oth=wu at *
  generalize pkX i snd=y at *
  repeat' (first|refine s_0 ?_|(refine za (id:=0) ?_;refine zd ?_)|(refine za (id:=1) ?_;refine zb ?_;refine zb ?_;refine zb ?_;refine zb ?_;refine yv (zf (hc:=λ_ _ _ _=>(hl1 _))) (k:=?_);refine zb ?_;refine zb ?_;refine zb ?_;refine zb ?_;refine zb ?_;refine yv (zf (hc:=λ_ _ _ _=>(hl2 _))) (k:=?_);refine zo ?_;refine zb ?_;refine zb ?_;refine zb ?_;refine zb ?_;refine zb ?_;refine yv (zf (hc:=λ_ _ _ _=>(hv1 _))) (k:=?_);refine zal ?_;refine zo ?_;refine zb ?_;refine zb ?_;refine zb ?_;refine zb ?_;refine zb ?_;refine yv (zf (hc:=λ_ _ _ _=>(hv2 _))) (k:=?_);refine zal ?_;refine zo ?_)|fail)
  repeat' (first|refine s_0 ?_|(refine za (id:=3) ?_;refine zb ?_;refine zb ?_;refine zb ?_;refine zb ?_;(refine ys (zn (f:=9) (hc:=λw' X hk hh=>hs1 w' hk)) (k:=?_);rintro _ _ ⟨R,rfl,bc,acc,aoc,kcc,koc,rfl,rfl⟩);refine zb ?_;refine zh ?_;refine zh ?_;refine zd ?_;refine zd ?_)|fail)
  repeat' (first|refine s_0 ?_|(refine za (id:=4) ?_;refine zb ?_;refine zb ?_;refine zb ?_;refine zb ?_;(refine ys (zn (f:=9) (hc:=λw' X hk hh=>hs2 w' hk)) (k:=?_);rintro _ _ ⟨R,rfl,bs,acs,aos,kcs,kos,rfl,rfl⟩);refine zb ?_;refine zh ?_;refine zh ?_;refine zd ?_;refine zd ?_)|fail)
  repeat' (first|refine s_0 ?_|(refine za (id:=5) ?_;refine zb ?_;refine zb ?_;refine zb ?_;refine zb ?_;(refine ys (zn (f:=10) (hc:=λw' X hk hh=>hr1 w' hk)) (k:=?_);rintro _ _ ⟨R,rfl,r1,rfl,rfl⟩);refine zb ?_;refine zh ?_;refine zh ?_;(refine zj ?_;intro _);refine zz ?_;refine zd ?_)|fail)
  rename_i b19
  repeat' (first|refine s_0 ?_|(refine za (id:=6) ?_;refine zb ?_;refine zb ?_;refine zb ?_;refine zb ?_;(refine ys (zn (f:=10) (hc:=λw' X hk hh=>hr2 w' hk)) (k:=?_);rintro _ _ ⟨R,rfl,r2,rfl,rfl⟩);refine zb ?_;refine zh ?_;refine zh ?_;(refine zj ?_;intro _);refine zz ?_;refine zd ?_)|fail)
  rename_i b21
  clear hs1 hs2 hr1 hr2 hl1 hl2 hv1 hv2 e1 e2 e3 e4 hcase
  obtain ⟨B1,hB1⟩: ∃B1,B1=rxV (sideI true) (i:Int) (.slice r1.ac n3 r1.kc) (.slice r1.aw (nd 65536 wv) r1.kw) (.slice r1.ax (nd 65536 x) r1.kx) (.slice r1.ao (gL i) r1.ko) (.slice none 0 0):=⟨_,rfl⟩
  obtain ⟨B2,hB2⟩: ∃B2,B2=rxV (sideI false) (i:Int) (.slice r2.ac n4 r2.kc) (.slice r2.aw (nd 65536 wu) r2.kw) (.slice r2.ax (nd 65536 y) r2.kx) (.slice r2.ao (gL i) r2.ko) (.slice none 0 0):=⟨_,rfl⟩
  refine Sy.weaken (fr':=[(15,.pointer (some ⟨bc,0,none⟩)),(17,.pointer (some ⟨bs,0,none⟩)),(16,.int .i64 0),(18,.int .i64 0),(19,.pointer (some ⟨b19,0,none⟩)),(21,.pointer (some ⟨b21,0,none⟩))])
    (L':=[.blk bc 75 (pkC i ⟨acc,n3,kcc,ctx⟩ (stB []) (stG []) true x wv ⟨aoc,gL i,koc,oc⟩),.row (.slice acc n3 kcc) 5 1 n3 (ctx.map v8),.row (.slice aoc (gL i) koc) 5 1 (gL i) (oc.map v8),
      .blk bs 75 (pkC i ⟨acs,n4,kcs,els⟩ (stB []) (stG []) false y wu ⟨aos,gL i,kos,os⟩),.row (.slice acs n4 kcs) 5 1 n4 (els.map v8),.row (.slice aos (gL i) kos) 5 1 (gL i) (os.map v8),
      .blk b19 32 B1,.blk b21 32 B2,
      .row (.slice r1.ac n3 r1.kc) 5 1 n3 (ctx.map v8),.row (.slice r1.aw (nd 65536 wv) r1.kw) 3 1 (nd 65536 wv) (refC wv),.row (.slice r1.ax (nd 65536 x) r1.kx) 3 1 (nd 65536 x) (refC x),.row (.slice r1.ao (gL i) r1.ko) 5 1 (gL i) (oc.map v8),
      .row (.slice r2.ac n4 r2.kc) 5 1 n4 (els.map v8),.row (.slice r2.aw (nd 65536 wu) r2.kw) 3 1 (nd 65536 wu) (refC wu),.row (.slice r2.ax (nd 65536 y) r2.kx) 3 1 (nd 65536 y) (refC y),.row (.slice r2.ao (gL i) r2.ko) 5 1 (gL i) (os.map v8)]) ?_ (by exact Sub.go) (by rw [hB1,hB2];exact SubR.go2)
  repeat' (first|refine s_0 ?_|(refine za (id:=7) ?_;refine zb ?_;refine yv (zf (hc:=λ_ _ _ _=>(n33 _ _))) (k:=?_);refine zb ?_;refine yv (zf (hc:=λ_ _ _ _=>(n33 _ _))) (k:=?_);refine zY ?_;refine zT ?_;refine zb ?_;refine zb ?_;refine zX ?_;refine zo ?_;refine zb ?_;refine zb ?_;refine zX ?_;refine zo ?_)|fail)
  have m15:B1[5]?=some (.slice r1.ao (gL i) r1.ko):=by rw [hB1];rfl
  have m25:B2[5]?=some (.slice r2.ao (gL i) r2.ko):=by rw [hB2];rfl
  have mz1:B1.length=7:=by rw [hB1];rfl
  have mz2:B2.length=7:=by rw [hB2];rfl
  have rf1:=λ{L X w'} (hk:Keep No w w') (hh:Holds w.heap.size No (L ++ X) w') (p1:Has L (.row (.slice r1.ac n3 r1.kc) 5 1 n3 (ctx.map v8))) (p2:Has L (.row (.slice r1.aw (nd 65536 wv) r1.kw) 3 1 (nd 65536 wv) (refC wv))) (p3:Has L (.row (.slice r1.ax (nd 65536 x) r1.kx) 3 1 (nd 65536 x) (refC x))) (p4:Has L (.row (.slice r1.ao (gL i) r1.ko) 5 1 (gL i) (oc.map v8))) (p5:Has L (.row (.slice r2.ao (gL i) r2.ko) 5 1 (gL i) (os.map v8)))=>
    zj6 true i r1.ac r1.aw r1.ax r1.ao none r2.ao n3 r1.kc r1.kw r1.kx (gL i) r1.ko 0 (gL i) r2.ko wv x kb kt kk ctx oc os w' h0 h5 (hR.no hk) (zeM hh (Has.append p1) q3) (zeM hh (Has.append p4) lc) (zeM hh (Has.append p5) ls) g3 (by omega) (by omega) (zu hh (Has.append p2)) (zu hh (Has.append p3)) hqw hqx
  have rf2:=λ{L X w'} (hk:Keep No w w') (hh:Holds w.heap.size No (L ++ X) w') (p1:Has L (.row (.slice r2.ac n4 r2.kc) 5 1 n4 (els.map v8))) (p2:Has L (.row (.slice r2.aw (nd 65536 wu) r2.kw) 3 1 (nd 65536 wu) (refC wu))) (p3:Has L (.row (.slice r2.ax (nd 65536 y) r2.kx) 3 1 (nd 65536 y) (refC y))) (p4:Has L (.row (.slice r2.ao (gL i) r2.ko) 5 1 (gL i) (os.map v8))) (p5:Has L (.row (.slice r1.ao (gL i) r1.ko) 5 1 (gL i) (oc.map v8)))=>
    zj6 false i r2.ac r2.aw r2.ax r2.ao none r1.ao n4 r2.kc r2.kw r2.kx (gL i) r2.ko 0 (gL i) r1.ko wu y kb kt kk els os oc w' h0 h5 (hR.no hk) (zeM hh (Has.append p1) q4) (zeM hh (Has.append p4) ls) (zeM hh (Has.append p5) lc) u3 (by omega) (by omega) (zu hh (Has.append p2)) (zu hh (Has.append p3)) hqu hqy
  rw [<-hB1] at rf1
  rw [<-hB2] at rf2
  have xf1:=λ{L X w' ap kp} (hk:Keep No w w') (hh:Holds w.heap.size No (L ++ X) w') hX hrc hro (hrp:Has L (.row (.slice ap (gL i) kp) 5 1 (gL i) (os.map v8)))=>
    zlk (bx:=bc) (i:=i) (ac:=acc) (ao:=aoc) (n:=n3) (kc:=kcc) (no:=gL i) (ko:=koc) (x:=x) (wv:=wv) (ctx:=ctx) (own:=oc) (hl:=[]) (s:=true) (sp:=⟨ap,gL i,kp,os⟩) (X:=X) (L:=L) hk hh hG hT h0 h5 hqx hqw q3 g3 lc (by omega) (.inl rfl) hX hrc hro ⟨SlF.rowB hh hX hrp,ls,Row.cap hh (Has.append hrp),Row.none hh (Has.append hrp),by show gL i<=10000;omega⟩
  have xf2:=λ{L X w' ap kp} (hk:Keep No w w') (hh:Holds w.heap.size No (L ++ X) w') hX hrc hro (hrp:Has L (.row (.slice ap (gL i) kp) 5 1 (gL i) (oc.map v8)))=>
    zlk (bx:=bs) (i:=i) (ac:=acs) (ao:=aos) (n:=n4) (kc:=kcs) (no:=gL i) (ko:=kos) (x:=y) (wv:=wu) (ctx:=els) (own:=os) (hl:=[]) (s:=false) (sp:=⟨ap,gL i,kp,oc⟩) (X:=X) (L:=L) hk hh hG hT h0 h5 hqy hqu q4 u3 ls (by omega) (.inl rfl) hX hrc hro ⟨SlF.rowB hh hX hrp,lc,Row.cap hh (Has.append hrp),Row.none hh (Has.append hrp),by show gL i<=10000;omega⟩
  dsimp only at xf1 xf2
  have ok1:=zjA (s:=true) (i:=i) (wv:=wv) (x:=x) (ctx:=ctx) (own:=oc) (hl:=[]) (lp:=os) (.inl rfl)
  have ok2:=zjA (s:=false) (i:=i) (wv:=wu) (x:=y) (ctx:=els) (own:=os) (hl:=[]) (lp:=oc) (.inl rfl)
  have z1:=zha (s:=true) (i:=i) (wv:=wv) (x:=x) (ctx:=ctx) (own:=oc) (lp:=os)
  have z2:=zha (s:=false) (i:=i) (wv:=wu) (x:=y) (ctx:=els) (own:=os) (lp:=oc)
  generalize (pkFin true i wv x ctx oc [] os).1=e1 at *
  generalize (pkFin true i wv x ctx oc [] os).2=D1 at *
  generalize (pkFin false i wu y els os [] oc).1=e2 at *
  generalize (pkFin false i wu y els os [] oc).2=D2 at *
  repeat' (first|refine s_0 ?_|(refine za (id:=9) ?_;refine yv (zg (B:=B1) (hz:=mz1.symm)) (k:=?_);refine zm ?_;refine yv (zw (hv:=m25)) (k:=?_);(refine ys (zn (f:=14) (hc:=λw' X hk hh=>rf1 hk hh (by exact Has.go) (by exact Has.go) (by exact Has.go) (by exact Has.go) (by exact Has.go))) (k:=?_);rintro _ _ ⟨R,rfl,ah1,kh1,ar1,kr1,rfl,rfl,hd1⟩);refine zb ?_;refine zh ?_;refine zh ?_;(refine zj ?_;intro _);refine zz ?_;refine zd ?_)|fail)
  rename_i b23
  repeat' (first|refine s_0 ?_|(refine za (id:=10) ?_;refine yv (zg (B:=B2) (hz:=mz2.symm)) (k:=?_);refine zm ?_;refine yv (zw (hv:=m15)) (k:=?_);(refine ys (zn (f:=14) (hc:=λw' X hk hh=>rf2 hk hh (by exact Has.go) (by exact Has.go) (by exact Has.go) (by exact Has.go) (by exact Has.go))) (k:=?_);rintro _ _ ⟨R,rfl,ah2,kh2,ar2,kr2,rfl,rfl,hd2⟩);refine zb ?_;refine zh ?_;refine zh ?_;(refine zj ?_;intro _);refine zz ?_;refine zd ?_)|fail)
  rename_i b25
  obtain ⟨P1,hP1⟩: ∃P1,P1=rxV (sideI true) (i:Int) (.slice r1.ac n3 r1.kc) (.slice r1.aw (nd 65536 wv) r1.kw) (.slice r1.ax (nd 65536 x) r1.kx) (.slice r1.ao (gL i) r1.ko) (.slice ah1 D1.length kh1):=⟨_,rfl⟩
  obtain ⟨P2,hP2⟩: ∃P2,P2=rxV (sideI false) (i:Int) (.slice r2.ac n4 r2.kc) (.slice r2.aw (nd 65536 wu) r2.kw) (.slice r2.ax (nd 65536 y) r2.kx) (.slice r2.ao (gL i) r2.ko) (.slice ah2 D2.length kh2):=⟨_,rfl⟩
  refine Sy.weaken (fr':=[(15,.pointer (some ⟨bc,0,none⟩)),(17,.pointer (some ⟨bs,0,none⟩)),(23,.pointer (some ⟨b23,0,none⟩)),(24,.int .i64 e1),(25,.pointer (some ⟨b25,0,none⟩)),(26,.int .i64 e2)])
    (L':=[.blk bc 75 (pkC i ⟨acc,n3,kcc,ctx⟩ (stB []) (stG []) true x wv ⟨aoc,gL i,koc,oc⟩),.row (.slice acc n3 kcc) 5 1 n3 (ctx.map v8),.row (.slice aoc (gL i) koc) 5 1 (gL i) (oc.map v8),
      .blk bs 75 (pkC i ⟨acs,n4,kcs,els⟩ (stB []) (stG []) false y wu ⟨aos,gL i,kos,os⟩),.row (.slice acs n4 kcs) 5 1 n4 (els.map v8),.row (.slice aos (gL i) kos) 5 1 (gL i) (os.map v8),
      .blk b23 32 P1,.blk b25 32 P2,.row (.slice ar1 D1.length kr1) 66 1 D1.length (D1.map v8),.row (.slice ar2 D2.length kr2) 66 1 D2.length (D2.map v8)]) ?_ (by exact Sub.go) (by rw [hP1,hP2];exact SubR.go2)
  clear rf1 rf2 m15 m25 mz1 mz2 hB1 hB2
  have heC:=λ{L X w'} (hh:Holds w.heap.size No (L ++ X) w') {d G} (hGl:G.length=32) hX hro=>zfb (bx:=bc) (i:=i) (d:=d) (G:=G) (s:=true) (x:=x) (wv:=wv) (ao:=aoc) (n:=gL i) (ko:=koc) (l:=oc) (sx:=⟨acc,n3,kcc,ctx⟩) (X:=X) (L:=L) hh hGl hX hro lc (by omega)
  have heS:=λ{L X w'} (hh:Holds w.heap.size No (L ++ X) w') {d G} (hGl:G.length=32) hX hro=>zfb (bx:=bs) (i:=i) (d:=d) (G:=G) (s:=false) (x:=y) (wv:=wu) (ao:=aos) (n:=gL i) (ko:=kos) (l:=os) (sx:=⟨acs,n4,kcs,els⟩) (X:=X) (L:=L) hh hGl hX hro ls (by omega)
  have hG0:=zk6 (hl:=[]) (.inl rfl)
  have hG1:=zk6 ok1
  repeat' (first|refine s_0 ?_|(refine za (id:=11) ?_;refine zb ?_;refine zb ?_;(refine ys (zn (f:=12) (hc:=λw' X hk hh=>heS hh hG0 (by exact Has.go) (by exact Has.go))) (k:=?_);rintro _ _ ⟨R,rfl,ap,kp,rfl,rfl⟩);refine yv (za4 (b:=bc) (f:=15) (hc:=λw' X hk hh=>xf1 hk hh (by exact Has.go) (by exact Has.go) (by exact Has.go) (by exact Has.go))) (k:=?_);refine yv (zf (hc:=λ_ _ _ _=>(n33 _ _))) (k:=?_);refine zb ?_;refine zT ?_;refine zb ?_;refine zb ?_;refine zb ?_;(refine ys (zn (f:=12) (hc:=λw' X hk hh=>heC hh hG1 (by exact Has.go) (by exact Has.go))) (k:=?_);rintro _ _ ⟨R,rfl,ap2,kp2,rfl,rfl⟩);refine yv (za4 (b:=bs) (f:=15) (hc:=λw' X hk hh=>xf2 hk hh (by exact Has.go) (by exact Has.go) (by exact Has.go) (by exact Has.go))) (k:=?_);refine yv (zf (hc:=λ_ _ _ _=>(n33 _ _))) (k:=?_);refine zb ?_;refine zT ?_;refine zo ?_)|fail)
  refine Sy.weaken (fr':=[(15,.pointer (some ⟨bc,0,none⟩)),(17,.pointer (some ⟨bs,0,none⟩)),(23,.pointer (some ⟨b23,0,none⟩)),(24,.int .i64 e1),(25,.pointer (some ⟨b25,0,none⟩)),(26,.int .i64 e2)])
    (L':=[.blk bc 75 (pkC i ⟨acc,n3,kcc,ctx⟩ (stB D1) (stG D1) true x wv ⟨aoc,gL i,koc,oc⟩),.blk bs 75 (pkC i ⟨acs,n4,kcs,els⟩ (stB D2) (stG D2) false y wu ⟨aos,gL i,kos,os⟩),
      .blk b23 32 P1,.blk b25 32 P2,.row (.slice ar1 D1.length kr1) 66 1 D1.length (D1.map v8),.row (.slice ar2 D2.length kr2) 66 1 D2.length (D2.map v8)]) ?_ (by exact Sub.go) (by exact SubR.go2)
  clear xf1 xf2 heC heS hG0 hG1
  have ag1:=λ{L X w' ak m ck} {l:List UInt8}(hk:Keep No w w') (hh:Holds w.heap.size No (L ++ X) w') (hX:Has L (.blk bc 75 (pkC i ⟨acc,n3,kcc,ctx⟩ (stB D1) (stG D1) true x wv ⟨aoc,gL i,koc,oc⟩))) (q:Has L (.row (.slice ar1 D1.length kr1) 66 1 D1.length (D1.map v8))) (hm:l.length=m) (hm2:m < 1000000) (hsk:SlA w' ak (l.map v8))=>
    zg5 bc i ⟨acc,n3,kcc,ctx⟩ ⟨aoc,gL i,koc,oc⟩ D1 true x wv (i:Int) (.slice r1.ac n3 r1.kc) (.slice r1.aw (nd 65536 wv) r1.kw) (.slice r1.ax (nd 65536 x) r1.kx) (.slice r1.ao (gL i) r1.ko) ah1 ak kh1 m ck kb kt kk l w' (hT.no hk) (hR.no hk) (hh.has (Has.append hX)) ok1 (zeH hh (Has.append q) hd1) hm hm2 hsk
  have ag2:=λ{L X w' ak m ck} {l:List UInt8}(hk:Keep No w w') (hh:Holds w.heap.size No (L ++ X) w') (hX:Has L (.blk bs 75 (pkC i ⟨acs,n4,kcs,els⟩ (stB D2) (stG D2) false y wu ⟨aos,gL i,kos,os⟩))) (q:Has L (.row (.slice ar2 D2.length kr2) 66 1 D2.length (D2.map v8))) (hm:l.length=m) (hm2:m < 1000000) (hsk:SlA w' ak (l.map v8))=>
    zg5 bs i ⟨acs,n4,kcs,els⟩ ⟨aos,gL i,kos,os⟩ D2 false y wu (i:Int) (.slice r2.ac n4 r2.kc) (.slice r2.aw (nd 65536 wu) r2.kw) (.slice r2.ax (nd 65536 y) r2.kx) (.slice r2.ao (gL i) r2.ko) ah2 ak kh2 m ck kb kt kk l w' (hT.no hk) (hR.no hk) (hh.has (Has.append hX)) ok2 (zeH hh (Has.append q) hd2) hm hm2 hsk
  rw [<-hP1] at ag1
  rw [<-hP2] at ag2
  have mp1:P1.length=7:=by rw [hP1];rfl
  have mp2:P2.length=7:=by rw [hP2];rfl
  by_cases hz1:e1=0/\e2=0
  rotate_left
  · have g:e1≠0\/(e1=0/\e2≠0):=by omega
    rcases g with g|⟨rfl,g⟩
    all_goals repeat' (first|refine s_0 ?_|(refine za (id:=13) ?_;refine zb ?_;refine zT ?_;refine zb ?_;(first|refine zb ?_|refine zi rfl rfl rfl ?_|fail);(first|refine zT ?_|refine zi rfl rfl rfl ?_|fail);refine zo ?_)|(refine za (id:=14) ?_;refine zb ?_;refine yv (zg (B:=P1) (hz:=mp1.symm)) (k:=?_);refine yv (zf (f:=16) (hc:=λw' X hk hh=>ag1 (l:=[]) hk hh (by exact Has.go) (by exact Has.go) rfl (by decide) SlA.nil)) (k:=?_);refine zb ?_;refine zb ?_;refine yv (zg (B:=P2) (hz:=mp2.symm)) (k:=?_);refine yv (zf (f:=16) (hc:=λw' X hk hh=>ag2 (l:=[]) hk hh (by exact Has.go) (by exact Has.go) rfl (by decide) SlA.nil)) (k:=?_);refine zo ?_;refine zb ?_;refine yv (zf (f:=8) (hc:=λw' X hk hh=>hkn' w' hk)) (k:=?_);refine zo ?_;refine zd ?_)|fail)
    all_goals exact ret1 rfl (resTmp rfl) SubR.nil ⟨rfl,rfl⟩
  obtain ⟨rfl,rfl⟩:=hz1
  have t1:=z1 rfl
  have t2:=z2 rfl
  have dv1:=λ{L X w'} (hk:Keep No w w') (hh:Holds w.heap.size No (L ++ X) w') (q:Has L (.row (.slice ar1 D1.length kr1) 66 1 D1.length (D1.map v8)))=>
    zez (sideI true) (i:Int) (.slice r1.ac n3 r1.kc) (.slice r1.aw (nd 65536 wv) r1.kw) (.slice r1.ax (nd 65536 x) r1.kx) (.slice r1.ao (gL i) r1.ko) ah1 kh1 kb kt kk D1 (pkName true) w' t1 (by rw [<-t1];exact ((by have h:=zeH hh (Has.append q) hd1;unfold HS at h;exact h:D1≠[]->D1.length<=kh1/\SlA w' ah1 (D1.map v8)) (zg6 t1)).1) ((by have h:=zeH hh (Has.append q) hd1;unfold HS at h;exact h:D1≠[]->D1.length<=kh1/\SlA w' ah1 (D1.map v8)) (zg6 t1)).2 (zcf true) (hR.no hk)
  have dv2:=λ{L X w'} (hk:Keep No w w') (hh:Holds w.heap.size No (L ++ X) w') (q:Has L (.row (.slice ar2 D2.length kr2) 66 1 D2.length (D2.map v8)))=>
    zez (sideI false) (i:Int) (.slice r2.ac n4 r2.kc) (.slice r2.aw (nd 65536 wu) r2.kw) (.slice r2.ax (nd 65536 y) r2.kx) (.slice r2.ao (gL i) r2.ko) ah2 kh2 kb kt kk D2 (pkName false) w' t2 (by rw [<-t2];exact ((by have h:=zeH hh (Has.append q) hd2;unfold HS at h;exact h:D2≠[]->D2.length<=kh2/\SlA w' ah2 (D2.map v8)) (zg6 t2)).1) ((by have h:=zeH hh (Has.append q) hd2;unfold HS at h;exact h:D2≠[]->D2.length<=kh2/\SlA w' ah2 (D2.map v8)) (zg6 t2)).2 (zcf false) (hR.no hk)
  rw [show (32:Nat)=D1.length from t1.symm] at dv1
  rw [<-hP1] at dv1
  rw [show (32:Nat)=D2.length from t2.symm] at dv2
  rw [<-hP2] at dv2
  rw [show (str (pkName true))=str [99,108,105,101,110,116] by unfold pkName;rfl] at dv1
  rw [show (str (pkName false))=str [115,101,114,118,101,114] by unfold pkName;rfl] at dv2
  have l1:(pkDer D1 (pkName true)).length=D1.length:=by rw [zdb,t1]
  have l2:(pkDer D2 (pkName false)).length=D2.length:=by rw [zdb,t2]
  generalize pkDer D1 (pkName true)=K1 at *
  generalize pkDer D2 (pkName false)=K2 at *
  repeat' (first|refine s_0 ?_|(refine za (id:=13) ?_;refine zb ?_;refine zT ?_;refine zb ?_;refine zb ?_;refine zT ?_;refine zo ?_)|fail)
  refine zag (id:=15) mixed ?_
  (refine zab 5 5 [[],[],[],[2],[0,1,2,3],[0,1,2,3,4],[0,1,2,3,4,5],[0,1,2,3,4,5],[0,1,2,3,4,5],[0,1,2,3,4,5,8],[0,1,2,3,4,5,6,7,8,9],[0,1,2,3,4,5,6,7,8,9,10],[0,1,2,3,4,5,6,7,8,9,10,11],[0,1,2,3,4,5,6,7,8,9,10,11,12],[0,1,2,3,4,5,6,7,8,9,10,11,12,13],[0,1,2,3,4,5,6,7,8,9,10,11,12,13,14]] [[],[],[],[],[],[],[],[],[],[],[],[],[],[],[],[]] none rfl ?_ ?_ ?_;kernel_rfl;kernel_rfl;refine zU ?_;refine dcE (λ_ _=>zg (B:=P1) (hz:=mp1.symm)) (k:=?_);refine dcE (λ_ _=>zg (B:=P2) (hz:=mp2.symm)) (k:=?_);try refine z5 (h:=?_))
  refine z7 (R:=λ_=>RowOf 5 D2.length (K2.map v8)) (λ_ _ _=>rfl) (λρ hρ=>zn (f:=17) (hc:=λw' X hk hh=>dv2 hk hh (by exact Has.go))) (h:=?_)
  refine dcE (u:=.bool true) (λρ hρ=>?_) (k:=?_)
  · obtain ⟨⟨b0,d0,p1,p2⟩,-⟩:=hρ
    refine zf (f:=16) (vs:=[.pointer (some ⟨bc,0,none⟩),.agg P1.toArray,.slice b0 D2.length d0]) (ha:=by show some [_,_,(ρ 3).1]=_;rw [p1]) (hc:=λw' X hk hh=>?_)
    have hh:Holds w.heap.size No (((ρ 3).2 ++ _) ++ X) w':=hh
    rw [p2,p1] at hh
    exact ag1 hk hh (by exact Has.go) (by exact Has.go) l2 (by omega) (zu hh (by exact Has.append Has.go))
  refine zaF (h:=?_)
  rintro ρ1 -
  (refine zab 7 12 [[],[],[],[2],[0,1,2,3],[0,1,2,3,4],[0,1,2,3,4,5],[0,1,2,3,4,5],[0,1,2,3,4,5],[0,1,2,3,4,5,8],[0,1,2,3,4,5,6,7,8,9],[0,1,2,3,4,5,6,7,8,9,10],[0,1,2,3,4,5,6,7,8,9,10,11],[0,1,2,3,4,5,6,7,8,9,10,11,12],[0,1,2,3,4,5,6,7,8,9,10,11,12,13],[0,1,2,3,4,5,6,7,8,9,10,11,12,13,14]] [[],[],[],[],[],[],[],[],[],[],[],[],[],[],[],[]] none rfl ?_ ?_ ?_;kernel_rfl;kernel_rfl;refine zU ?_;refine zU ?_;refine dcE (λ_ _=>zg (B:=P2) (hz:=mp2.symm) (hL:=Has.appR Has.go)) (k:=?_);refine dcE (λ_ _=>zg (B:=P1) (hz:=mp1.symm) (hL:=Has.appR Has.go)) (k:=?_);try refine z5 (h:=?_))
  refine z7 (R:=λ_=>RowOf 5 D1.length (K1.map v8)) (λ_ _ _=>rfl) (λρ hρ=>zn (f:=17) (hc:=λw' X hk hh=>dv1 hk hh (by exact Has.appR Has.go))) (h:=?_)
  refine dcE (u:=.bool true) (λρ hρ=>?_) (k:=?_)
  · obtain ⟨⟨b0,d0,p1,p2⟩,-⟩:=hρ
    refine zf (f:=16) (vs:=[.pointer (some ⟨bs,0,none⟩),.agg P2.toArray,.slice b0 D1.length d0]) (ha:=by show some [_,_,(ρ 9).1]=_;rw [p1]) (hc:=λw' X hk hh=>?_)
    have hh:Holds w.heap.size No (((ρ 9).2 ++ (_ ++ _)) ++ X) w':=hh
    rw [p2,p1] at hh
    exact ag2 hk hh (by exact Has.appR (Has.appR Has.go)) (by exact Has.appR (Has.appR Has.go)) l1 (by omega) (zu hh (by exact Has.append Has.go))
  (skip;refine znj ?_;try refine z5 (h:=?_))
  refine zaF (h:=?_)
  rintro ρ2 -
  (refine zah [[],[],[],[2],[0,1,2,3],[0,1,2,3,4],[0,1,2,3,4,5],[0,1,2,3,4,5],[0,1,2,3,4,5],[0,1,2,3,4,5,8],[0,1,2,3,4,5,6,7,8,9],[0,1,2,3,4,5,6,7,8,9,10],[0,1,2,3,4,5,6,7,8,9,10,11],[0,1,2,3,4,5,6,7,8,9,10,11,12],[0,1,2,3,4,5,6,7,8,9,10,11,12,13],[0,1,2,3,4,5,6,7,8,9,10,11,12,13,14]] ?_ ?_;kernel_rfl)
  refine SyL.weaken (fr':=[(160,.bool true)]) (L':=[]) ?_ (by exact Sub.go) SubR.nil
  repeat' (first|refine s_0 ?_|(refine zC ?_;first|refine yv (zf (f:=8) (hc:=λw' X hk hh=>hkn' w' hk)) (k:=?_)|refine zd ?_|refine zb ?_|refine zo ?_|fail)|fail)
  exact ret1 rfl (resTmp rfl) SubR.nil ⟨rfl,rfl⟩
end Go.Proofs.YtcpjfilcilcekaaGreatDoor
end
