/- Layer pake, walked: Start with valid arguments. -/
import Derived.Test.YtcpjfilcilcekaaGreatDoorYJ34
set_option linter.all false
section
namespace Go.Proofs.YtcpjfilcilcekaaGreatDoor
open Go Go.Sy Go.Sh Go.Nt Go.RowKit
attribute [local irreducible] Sy SyL SyX Sy.Fn callFunc natC rowN refC iC gP gQ gL memB safeC fixB Sh.sum HashIs pkPt pkH firstN dblock hmac pkDer pkDig pkC selA ordF pkW pkX pkZ zG
set_option maxRecDepth 10000
def XRes (bx i:Nat) (ac ao:Option Addr) (n kc ko:Nat) (ctx:List UInt8) (d:Bool) (G:List Value) (s:Bool) (x wv:Nat):List Res:=
 [.blk bx 75 (pkC i ⟨ac,n,kc,ctx⟩ d G s x wv ⟨ao,gL i,ko,fixB (gL i) (pkOwn s i wv x)⟩),.row (.slice ac n kc) 5 1 n (ctx.map v8),.row (.slice ao (gL i) ko) 5 1 (gL i) ((fixB (gL i) (pkOwn s i wv x)).map v8)]
set_option maxHeartbeats 2000000 in
theorem zfU (s:Bool) (i:Nat) (a1 a2 a3:Option Addr) (n1 n2 c1 c2 c3:Nat) (sec ctx prv:List UInt8) (w:World) (h0:1<=i) (h5:i<=4) (hT:Tab w No) (hG:GT w)
  (h1:(⟨a1,n1,c1,sec⟩:Bs).ok w) (h2:(⟨a2,n2,c2,ctx⟩:Bs).ok w) (h3:(⟨a3,32,c3,prv⟩:Bs).ok w) (g1:n1≠0) (g2:n1<=256) (g3:n2<=4096):
  Sy.Fn Tryz.prog 9 [.int .i64 (sideI s),.int .i64 (i:Int),.slice a1 n1 c1,.slice a2 n2 c2,.slice a3 32 c3] w No (λv R=>∃bx ac ao kc ko,v= .tuple #[.pointer (some ⟨bx,0,none⟩),.int .i64 0]/\R=XRes bx i ac ao n2 kc ko ctx false zG s (pkX i prv) (pkW i sec)):=by
 refine zk Tryz.func9 rfl Tryz.ntmps9 (by simp) Holds.nil ?_
 obtain ⟨p1,p2,p3,p4⟩:=h1
 obtain ⟨q1,q2,q3,q4⟩:=h2
 obtain ⟨r1,r2,r3,r4⟩:=h3
 dsimp only at p1 p2 p3 p4 q1 q2 q3 q4 r1 r2 r3 r4
 have hgl:=(zdq i h0 h5)
 have hlen:=λw' (hk:Keep No w w')=>zkA i w' h0 h5 (hG.to hk)
 have e1:decide (((gL i:Nat):Int)=(0:Int))=false:=decide_eq_false (by omega)
 have e2:decide (((n1:Nat):Int)=(0:Int))=false:=decide_eq_false (by omega)
 have e3:decide ((256:Int) < ((n1:Nat):Int))=false:=decide_eq_false (by omega)
 have e4:decide ((4096:Int) < ((n2:Nat):Int))=false:=decide_eq_false (by omega)
 have hcl:=λw' (hk:Keep No w w')=>zem a2 n2 c2 ctx w' q1 (by omega) ((SlF.of q3).to (Mi:=No) hk (λ_ h=> .inr h)).sla (λh=>⟨q4 h,by have:=q4 h;omega⟩)
 repeat' (first|refine s_0 ?_|(refine za (id:=0) ?_;refine zd ?_;refine zd ?_)|(refine za (id:=1) ?_;(refine ys (zn (f:=28) (hc:=λw' X hk hh=>zcW w')) (k:=?_);rintro _ _ ⟨R,rfl,bm,rfl,rfl⟩);refine zb ?_;refine yv (zij s) (k:=?_);refine zb ?_;refine zh ?_;refine zh ?_;(refine zi ?_;intro _);refine zB ?_;refine zd ?_)|(refine za (id:=2) ?_;refine zb ?_;refine zal ?_;refine zb ?_;refine zb ?_;refine yv (zf (f:=29) (hc:=λw' X hk hh=>hlen w' hk)) (k:=?_);refine yv (z8 (hr:=e1)) (k:=?_);refine zo ?_;refine zb ?_;refine zb ?_;refine zq ?_;refine yv (z8 (hr:=e2)) (k:=?_);refine zo ?_;refine zb ?_;refine zb ?_;refine zq ?_;refine yv (zaf (hr:=e3)) (k:=?_);refine zo ?_;refine zb ?_;refine zb ?_;refine zq ?_;refine yv (zaf (hr:=e4)) (k:=?_);refine zo ?_;refine zb ?_;refine zb ?_;refine zq ?_;refine zV ?_;refine zo ?_)|(refine za (id:=4) ?_;refine zb ?_;refine yv zis (k:=?_);(refine zi ?_;intro _);refine zB ?_)|fail)
 rename_i b12 b14
 refine Sy.weaken (fr':=[(14,.pointer (some ⟨b14,0,none⟩)),(12,.pointer (some ⟨b12,0,none⟩)),(4,.slice a3 32 c3),(3,.slice a2 n2 c2),(2,.slice a1 n1 c1),(1,.int .i64 (i:Int)),(0,.int .i64 (sideI s))]) (L':=[.blk b14 64 [.int .i64 (i:Int),.int .i64 0],.blk b12 58 (aggL s)]) ?_ (by exact Sub.go) (by exact SubR.go2)
 clear e1 e2 e3 e4 hlen
 repeat' (first|refine s_0 ?_|(refine za (id:=5) ?_;refine zb ?_;refine zb ?_;(refine ys (zn (f:=30) (hc:=λw' X hk hh=>hcl w' hk)) (k:=?_);rintro _ _ ⟨R,rfl,ac,kc,rfl,rfl⟩);refine yv (zmm rfl) (k:=?_);refine zb ?_;refine yv zmO (k:=?_);(refine zi ?_;intro _);refine zd ?_)|fail)
 rename_i bx
 have hzc:pkZ i (.slice ac n2 kc) (sideI s)=_:=zrA i ⟨ac,n2,kc,ctx⟩ s
 rw [hzc]
 have hz32:zG.length=32:=by unfold zG;rfl
 have hsec:=λw' (hk:Keep No w w') (hC:CalcIs i b14 w')=>zlx i b14 a1 n1 c1 sec w' h0 h5 (hT.no hk) (hG.to hk) hC p1 p2 (by omega) ((SlF.of p3).to (Mi:=No) hk (λ_ h=> .inr h)).sla
 have hprv:=λw' (hk:Keep No w w') (hC:CalcIs i b14 w')=>zkc i b14 a3 32 c3 prv w' h0 h5 (hG.to hk) hC r1 r2 (by decide) ((SlF.of r3).to (Mi:=No) hk (λ_ h=> .inr h)).sla
 have hpts:=λw' (hk:Keep No w w') (hC:CalcIs i b14 w')=>zhd i b14 w' h0 h5 (hT.no hk) (hG.to hk) hC
 have hqw:pkW i sec < gQ i:=by unfold pkW;exact Nat.mod_lt _ (Nat.lt_of_lt_of_le (by decide) (zaF i h0 h5))
 have hqx:pkX i prv < gQ i:=by
  have hq:=zaF i h0 h5
  unfold pkX
  by_cases h:bev 256 (bn prv) % gQ i=0
  ·rw [if_pos h];omega
  ·rw [if_neg h];exact Nat.mod_lt _ (by omega)
 generalize pkW i sec=wv at *
 generalize pkX i prv=x at *
 have hp36:=λwv=>zl3 (i:=i) (sx:=⟨ac,n2,kc,ctx⟩) (d:=false) (s:=s) (x:=0) (wv:=wv) (so:=⟨none,0,0,[]⟩) x hz32
 have hp52:=zm0 (i:=i) (sx:=⟨ac,n2,kc,ctx⟩) (d:=false) (s:=s) (x:=0) (wv:=0) (so:=⟨none,0,0,[]⟩) wv hz32
 have hCl:=λx wv so=>zhD (i:=i) (sx:=⟨ac,n2,kc,ctx⟩) (d:=false) (s:=s) (x:=x) (wv:=wv) (so:=so) hz32
 have lx:=ze x
 have lw:=ze wv
 repeat' (first|refine s_0 ?_|(refine za (id:=6) ?_;refine zb ?_;refine zb ?_;refine yv (zf (f:=31) (hc:=λw' X hk hh=>hsec w' hk (hh.has (Has.append (by exact Has.go))))) (k:=?_);refine zA ?_;refine zm ?_;refine yn (zbC (B:=natC wv) (h1:=lw.symm) (hv:=zbX wv) (hL:=by rw [hp52];exact (by repeat (first|exact Upd.here|apply Upd.there))) (hC:=by rw [hCl,lw];decide)) (k:=?_))|(refine za (id:=7) ?_;refine zb ?_;refine zb ?_;refine yv (zf (f:=32) (hc:=λw' X hk hh=>hprv w' hk (hh.has (Has.append (by exact Has.go))))) (k:=?_);refine zA ?_;refine zm ?_;refine yn (zbC (B:=natC x) (h1:=lx.symm) (hv:=zbX x) (hL:=by rw [hp36];exact (by repeat (first|exact Upd.here|apply Upd.there))) (hC:=by rw [hCl,lx];decide)) (k:=?_))|fail)
 refine Sy.weaken (fr':=[(15,.pointer (some ⟨bx,0,none⟩)),(14,.pointer (some ⟨b14,0,none⟩)),(12,.pointer (some ⟨b12,0,none⟩))]) (L':=[.blk bx 75 (pkC i ⟨ac,n2,kc,ctx⟩ false zG s x wv ⟨none,0,0,[]⟩),.blk b14 64 [.int .i64 (i:Int),.int .i64 0],.blk b12 58 (aggL s),.row (.slice ac n2 kc) 5 1 n2 (ctx.map v8)]) ?_ (by exact Sub.go) (by exact SubR.go2)
 clear hsec hprv hcl hzc hp36 hp52 p3 q3 r3
 have lp1:=ze (pkPt i true)
 have lp2:=ze (pkPt i false)
 repeat' (first|refine s_0 ?_|(refine za (id:=8) ?_;refine yv (zf (f:=33) (hc:=λw' X hk hh=>hpts w' hk (hh.has (Has.append (by exact Has.go))))) (k:=?_);refine zb ?_;refine zh ?_;refine zh ?_;(refine zi ?_;intro _);(refine zi ?_;intro _);refine yn (zl (n:=pkPt i true)) (k:=?_);refine yn (zl (n:=pkPt i false)) (k:=?_))|fail)
 rename_i b16 b17
 refine Sy.weaken (fr':=[(17,.pointer (some ⟨b17,0,none⟩)),(16,.pointer (some ⟨b16,0,none⟩)),(15,.pointer (some ⟨bx,0,none⟩)),(14,.pointer (some ⟨b14,0,none⟩)),(12,.pointer (some ⟨b12,0,none⟩))]) (L':=[.blk bx 75 (pkC i ⟨ac,n2,kc,ctx⟩ false zG s x wv ⟨none,0,0,[]⟩),.blk b14 64 [.int .i64 (i:Int),.int .i64 0],.blk b12 58 (aggL s),.blk b17 73 (natC (pkPt i false)),.blk b16 73 (natC (pkPt i true)),.row (.slice ac n2 kc) 5 1 n2 (ctx.map v8)]) ?_ (by exact Sub.go) (by exact SubR.go2)
 have s36:=zl8 (i:=i) (sx:=⟨ac,n2,kc,ctx⟩) (d:=false) (s:=s) (x:=x) (wv:=wv) (so:=⟨none,0,0,[]⟩) hz32
 have s52:=zmg (i:=i) (sx:=⟨ac,n2,kc,ctx⟩) (d:=false) (s:=s) (x:=x) (wv:=wv) (so:=⟨none,0,0,[]⟩) hz32
 have s68:=λso'=>zir (i:=i) (sx:=⟨ac,n2,kc,ctx⟩) (d:=false) (s:=s) (x:=x) (wv:=wv) (so:=⟨none,0,0,[]⟩) so' hz32
 have mp:=zg2 i s h0 h5
 have mh:=zc7 h0 h5 mp wv
 have m4:=zgh i x h0 h5
 have mo:=zfF s i wv x h0 h5
 have hsel:=λw'=>zkO s (pkPt i) w'
 have hpow:=λw' (hk:Keep No w w') (hC:CalcIs i b14 w')=>zmF i b14 x w' h0 h5 (hG.to hk) hC (Nat.lt_trans hqx (za3 i h0 h5)) hqx
 have hexp:=λw' (hk:Keep No w w') (hC:CalcIs i b14 w')=>zhL i b14 (pkPt i s) wv w' h0 h5 (hG.to hk) hC (zbI h0 h5 mp) (Nat.lt_trans hqw (za3 i h0 h5)) mp hqw
 have hmul:=λw' (hk:Keep No w w') (hC:CalcIs i b14 w')=>zk1 i b14 (4 ^ x % gP i) (pkPt i s ^ wv % gP i) w' h0 h5 (hG.to hk) hC (zbI h0 h5 m4) (zbI h0 h5 mh) (by rw [m4,mh];rfl)
 rw [show 4 ^ x % gP i*(pkPt i s ^ wv % gP i) % gP i=pkOwn s i wv x from rfl] at hmul
 have hbyt:=λw' (hk:Keep No w w') (hC:CalcIs i b14 w')=>zhY i b14 (pkOwn s i wv x) w' h0 h5 (hG.to hk) hC (zbI h0 h5 mo) mo
 generalize hov:pkOwn s i wv x=ov at *
 generalize 4 ^ x % gP i=gx at *
 generalize pkPt i s ^ wv % gP i=hv at *
 generalize pkPt i s=ps at *
 generalize pkPt i true=pt at *
 generalize pkPt i false=pf at *
 have lps:=ze ps
 have lgx:=ze gx
 have lhv:=ze hv
 have lov:=ze ov
 refine zah (id:=9) mixed ?_
 (refine zab 18 18 [[],[],[1],[1,2],[1,2,3],[1,2,3,4],[],[6],[],[],[1,2,3,4,5,6,7,8,9],[],[11],[11,12],[11,12,13],[1,2,3,4,5,6,7,8,9,10,11,12,13,14],[1,2,3,4,5,6,7,8,9,10,11,12,13,14,15],[1,2,3,4,5,6,7,8,9,10,11,12,13,14,15,16],[0,1,2,3,4,5,6,7,8,9,10,11,12,13,14,15,16,17],[0,1,2,3,4,5,6,7,8,9,10,11,12,13,14,15,16,17,18],[0,1,2,3,4,5,6,7,8,9,10,11,12,13,14,15,16,17,18,19]] [[],[],[],[],[],[],[],[],[],[],[],[],[],[],[],[],[],[],[],[],[]] none rfl ?_ ?_ ?_;kernel_rfl;kernel_rfl;refine zS ?_;refine zS ?_;refine zaN ?_;refine zT ?_;refine dcE (λ_ _=>zg (B:=natC x) (hv:=s36)) (k:=?_);refine dcE (λ_ _=>zf (f:=36) (hc:=λw' X hk hh=>hpow w' hk (hh.has (Has.append (by exact Has.go))))) (k:=?_);refine zT ?_;refine dcE (λ_ _=>zw (v:=.func (.func (selA s)) #[] #[]) (hv:=rfl)) (k:=?_);refine dcE (λ_ _=>zg (B:=natC pt)) (k:=?_);refine dcE (λ_ _=>zg (B:=natC pf)) (k:=?_);refine dcE (λ_ _=>zaI (he:=zkY s) (fst:=[]) (cap:=[]) (hc:=λw' X hk hh=>hsel w')) (k:=?_);refine zS ?_;refine zaN ?_;refine zT ?_;refine dcE (λ_ _=>zg (B:=natC wv) (hv:=s52)) (k:=?_);refine dcE (λ_ _=>zf (f:=37) (hc:=λw' X hk hh=>hexp w' hk (hh.has (Has.append (by exact Has.go))))) (k:=?_);refine dcE (λ_ _=>zf (f:=35) (hc:=λw' X hk hh=>hmul w' hk (hh.has (Has.append (by exact Has.go))))) (k:=?_);try refine z5 (h:=?_))
 refine z7 (R:=λ_ v Nw=>∃a c,v= .slice a (gL i) c/\Nw= [.row (.slice a (gL i) c) 5 1 (gL i) ((fixB (gL i) ov).map v8)]) (λ_ _ _=>rfl) (λρ hρ=>zn (f:=34) (hc:=λw' X hk hh=>hbyt w' hk (hh.has (Has.append (by exact Has.go))))) (h:=?_)
 refine zaE (h:=?_)
 rintro ρ ⟨⟨ao,ko,e1,e2⟩,-⟩
 (refine zag [[],[],[1],[1,2],[1,2,3],[1,2,3,4],[],[6],[],[],[1,2,3,4,5,6,7,8,9],[],[11],[11,12],[11,12,13],[1,2,3,4,5,6,7,8,9,10,11,12,13,14],[1,2,3,4,5,6,7,8,9,10,11,12,13,14,15],[1,2,3,4,5,6,7,8,9,10,11,12,13,14,15,16],[0,1,2,3,4,5,6,7,8,9,10,11,12,13,14,15,16,17],[0,1,2,3,4,5,6,7,8,9,10,11,12,13,14,15,16,17,18],[0,1,2,3,4,5,6,7,8,9,10,11,12,13,14,15,16,17,18,19]] ?_ ?_;kernel_rfl)
 refine SyL.weaken (fr':=[(91,.slice ao (gL i) ko),(74,.pointer (some ⟨bx,0,none⟩)),(15,.pointer (some ⟨bx,0,none⟩)),(14,.pointer (some ⟨b14,0,none⟩))])
  (L':=[.blk bx 75 (pkC i ⟨ac,n2,kc,ctx⟩ false zG s x wv ⟨none,0,0,[]⟩),.blk b14 64 [.int .i64 (i:Int),.int .i64 0],.row (.slice ac n2 kc) 5 1 n2 (ctx.map v8),.row (.slice ao (gL i) ko) 5 1 (gL i) ((fixB (gL i) ov).map v8)]) ?_ ?_ ?_
 rotate_left
 ·(repeat' (first|exact Sub.nil|refine Sub.cons rfl ?_ ?_|rfl))
  exact e1
 ·show SubR _ ((ρ 17).2 ++ _)
  rw [e2]
  exact SubR.go2
 repeat' (first|refine s_0 ?_|(refine za (id:=10) ?_;refine zm ?_;refine zD ?_;refine zV ?_)|(refine za (id:=12) ?_;refine zb ?_;refine zd ?_;refine zd ?_)|(refine zC ?_;first|refine yn (za5 (v:=.slice ao (gL i) ko) (hC:=s68 ⟨ao,gL i,ko,fixB (gL i) ov⟩)) (k:=?_)|refine zm ?_|refine zA ?_|fail)|fail)
 exact ret2 rfl (resTmp rfl) (resTmp rfl) (R:=[.blk bx 75 (pkC i ⟨ac,n2,kc,ctx⟩ false zG s x wv ⟨ao,gL i,ko,fixB (gL i) ov⟩),.row (.slice ac n2 kc) 5 1 n2 (ctx.map v8),.row (.slice ao (gL i) ko) 5 1 (gL i) ((fixB (gL i) ov).map v8)]) (by exact SubR.go2) ⟨bx,ac,ao,kc,ko,rfl,by unfold XRes;rw [hov]⟩
end Go.Proofs.YtcpjfilcilcekaaGreatDoor
end
section
namespace Go.Proofs.YtcpjfilcilcekaaGreatDoor
open Go Go.Sy Go.Sh Go.Nt Go.RowKit
attribute [local irreducible] Sy SyL SyX Sy.Fn callFunc natC
set_option maxRecDepth 10000
theorem zi7 (b:Nat) (w:World) (hc:w.cell? ⟨b,2,none⟩=some (.bool false)):Sy.Fn Tryz.prog 66 [.pointer (some ⟨b,0,none⟩)] w No (Gives (.int .i64 8)):=by
 refine zk Tryz.func66 rfl Tryz.ntmps66 (by simp) Holds.nil ?_
 have hf:=λw' (hk:Keep No w w')=>zdi b false w' (zaq hc hk)
 repeat' (first|refine s_0 ?_|(refine za (id:=0) ?_;refine zd ?_)|(refine za (id:=1) ?_;refine zb ?_;refine zA ?_;refine zm ?_;refine yv (zf (f:=93) (hc:=λw' X hk hh=>hf w' hk)) (k:=?_);refine zal ?_)|(refine za (id:=2) ?_;refine zd ?_)|fail)
 exact ret1 rfl (resTmp rfl) SubR.nil ⟨rfl,rfl⟩
theorem znJ (b:Nat) (w:World) (hc:w.cell? ⟨b,2,none⟩=some (.bool true)):Sy.Fn Tryz.prog 55 [.pointer (some ⟨b,0,none⟩)] w No (Gives (.int .i64 8)):=by
 refine zk Tryz.func55 rfl Tryz.ntmps55 (by simp) Holds.nil ?_
 have hf:=λw' (hk:Keep No w w')=>zdi b true w' (zaq hc hk)
 repeat' (first|refine s_0 ?_|(refine za (id:=0) ?_;refine zd ?_)|(refine za (id:=1) ?_;refine zb ?_;refine zA ?_;refine zm ?_;refine yv (zf (f:=93) (hc:=λw' X hk hh=>hf w' hk)) (k:=?_))|(refine za (id:=2) ?_;refine zd ?_)|fail)
 exact ret1 rfl (resTmp rfl) SubR.nil ⟨rfl,rfl⟩
theorem zhm (a:Option Addr) (b1 f0 f1:Nat) (one:Bool) (e:Int) (w:World) (he:e≠0) (en0: ∀args w,(callFunc f0 args).run Tryz.prog w= .ok (.enter f0 args) w) (en1: ∀args w,(callFunc f1 args).run Tryz.prog w= .ok (.enter f1 args) w)
  (h0: ∀w',Keep No w w'->Sy.Fn Tryz.prog f0 [.pointer a] w' No (Gives (.int .i64 (if one then e else 0)))) (h1:one=false-> ∀w',Keep No w w'->Sy.Fn Tryz.prog f1 [.pointer a] w' No (Gives (.int .i64 e)))
  (hs:w.rangeAt b1 0 [.func (.func f0) #[.pointer a] #[],.func (.func f1) #[.pointer a] #[]]):
  Sy.Fn Tryz.prog 54 [.slice (some ⟨b1,0,none⟩) 2 2] w No (Gives (.int .i64 e)):=by
 refine zk Tryz.func54 rfl Tryz.ntmps54 (by simp) Holds.nil ?_
 have c0:w.cell? ⟨b1,0+0,none⟩=some (.func (.func f0) #[.pointer a] #[]):=hs 0 _ rfl
 have c1:w.cell? ⟨b1,0+1,none⟩=some (.func (.func f1) #[.pointer a] #[]):=hs 1 _ rfl
 have ge:decide (e≠(0:Int))=true:=decide_eq_true he
 repeat' (first|refine s_t ?_|(refine za (id:=0) ?_;refine zd ?_)|(refine za (id:=1) ?_;refine zb ?_;refine zq ?_;refine zb ?_)|fail)
 refine zE (γ:=Nat) (λk=>[(6,.slice (some ⟨b1,0,none⟩) 2 2),(7,.int .i64 2),(8,.int .i64 k)]) (λ_=>[]) (λk=>k=0\/(k=1/\one=false)) (λk=>2 - k) 0 (.inl rfl) ?_ ?_ ?_
 ·exact Sub.go
 ·exact SubR.go2
 rintro k hk
 rcases hk with rfl|⟨rfl,ho⟩
 ·have hlt:decide (((0:Nat):Int) < (2:Int))=true:=rfl
  cases one
  ·repeat' (first|refine s_t ?_|(refine za (id:=2) ?_;refine yv (zP (hr:=hlt)) (k:=?_))|(refine za (id:=3) ?_;refine yv (z9 (j:=0)) (k:=?_);refine yv (zx (hv:=c0)) (k:=?_);refine zd ?_)|(refine za (id:=4) ?_;refine zb ?_;refine yv (zaI (he:=en0) (fst:=[.pointer a]) (cap:=[]) (hc:=λw' X hk hh=>h0 w' hk)) (k:=?_);refine zd ?_)|(refine za (id:=5) ?_;refine zb ?_;refine zV ?_)|(refine za (id:=7) ?_;refine zY ?_;refine zb ?_)|fail)
   refine zy 1 (.inr ⟨rfl,rfl⟩) ?_ ?_ ?_
   ·show 2 - 1 < 2 - 0;omega
   ·exact Sub.go
   ·exact SubR.go2
  ·repeat' (first|refine s_t ?_|(refine za (id:=2) ?_;refine yv (zP (hr:=hlt)) (k:=?_))|(refine za (id:=3) ?_;refine yv (z9 (j:=0)) (k:=?_);refine yv (zx (hv:=c0)) (k:=?_);refine zd ?_)|(refine za (id:=4) ?_;refine zb ?_;refine yv (zaI (he:=en0) (fst:=[.pointer a]) (cap:=[]) (hc:=λw' X hk hh=>h0 w' hk)) (k:=?_);refine zd ?_)|(refine za (id:=5) ?_;refine zb ?_;refine yv (zay (hr:=ge)) (k:=?_))|(refine za (id:=6) ?_;refine zb ?_;refine zd ?_)|fail)
   exact ret1 rfl (resTmp rfl) SubR.nil ⟨rfl,rfl⟩
 ·have h1:=h1 ho
  have hlt:decide (((1:Nat):Int) < (2:Int))=true:=rfl
  repeat' (first|refine s_t ?_|(refine za (id:=2) ?_;refine yv (zP (hr:=hlt)) (k:=?_))|(refine za (id:=3) ?_;refine yv (z9 (j:=1)) (k:=?_);refine yv (zx (hv:=c1)) (k:=?_);refine zd ?_)|(refine za (id:=4) ?_;refine zb ?_;refine yv (zaI (he:=en1) (fst:=[.pointer a]) (cap:=[]) (hc:=λw' X hk hh=>h1 w' hk)) (k:=?_);refine zd ?_)|(refine za (id:=5) ?_;refine zb ?_;refine yv (zay (hr:=ge)) (k:=?_))|(refine za (id:=6) ?_;refine zb ?_;refine zd ?_)|fail)
  exact ret1 rfl (resTmp rfl) SubR.nil ⟨rfl,rfl⟩
def ChkE (a:Option Addr) (f0 f1:Nat) (e:Int) (w:World):Prop:=∀w' b1,Keep No w w'->w'.rangeAt b1 0 [.func (.func f0) #[.pointer a] #[],.func (.func f1) #[.pointer a] #[]]->Sy.Fn Tryz.prog 54 [.slice (some ⟨b1,0,none⟩) 2 2] w' No (Gives (.int .i64 e))
theorem zeq (b:Nat) (s:Bool) (w:World) (hc:w.cell? ⟨b,35,none⟩=some (.int .i64 (sideI s))) (hd:w.cell? ⟨b,2,none⟩=some (.bool false)):ChkE (some ⟨b,0,none⟩) 46 66 8 w:=λw' b1 hk hr=>
 zhm _ b1 _ _ false 8 w' (by decide) (en rfl) (en rfl) (λw'' hk2=>zcg b (sideI s) w'' (zcG s) (zaq (zaq hc hk) hk2)) (λ_ w'' hk2=>zi7 b w'' (zaq (zaq hd hk) hk2)) hr
theorem zi0 (b:Nat) (s:Bool) (w:World) (hc:w.cell? ⟨b,35,none⟩=some (.int .i64 (sideI s))) (hd:w.cell? ⟨b,2,none⟩=some (.bool true)):ChkE (some ⟨b,0,none⟩) 46 55 8 w:=λw' b1 hk hr=>
 zhm _ b1 _ _ false 8 w' (by decide) (en rfl) (en rfl) (λw'' hk2=>zcg b (sideI s) w'' (zcG s) (zaq (zaq hc hk) hk2)) (λ_ w'' hk2=>znJ b w'' (zaq (zaq hd hk) hk2)) hr
theorem zjV (a:Option Addr) (e:Int) (w:World) (he:e≠0) (h:ChkE a 46 66 e w):Sy.Fn Tryz.prog 25 [.pointer a] w No (Gives (.tuple #[.slice none 0 0,.int .i64 e])):=by
 refine zk Tryz.func25 rfl Tryz.ntmps25 (by simp) Holds.nil ?_
 have ge:decide (e≠(0:Int))=true:=decide_eq_true he
 repeat' (first|refine s_0 ?_|(refine za (id:=0) ?_;refine zd ?_;refine zd ?_)|(refine za (id:=1) ?_;refine zb ?_;refine zW ?_;refine zb ?_;refine zW ?_;(refine ys zt (k:=?_);rintro _ _ ⟨_,rfl,rfl⟩);refine yv (zf (f:=54) (hc:=λw' X hk hh=>h w' _ hk (zz (hh.has (Has.append Has.here)) Seg.all))) (k:=?_);refine zd ?_)|(refine za (id:=2) ?_;refine zb ?_;refine yv (zay (hr:=ge)) (k:=?_))|(refine za (id:=3) ?_;refine zb ?_;refine zd ?_;refine zd ?_)|fail)
 exact ret2 rfl (resTmp rfl) (resTmp rfl) SubR.nil ⟨rfl,rfl⟩
theorem zjl (a:Option Addr) (e:Int) (w:World) (he:e≠0) (h:ChkE a 46 66 e w):Sy.Fn Tryz.prog 26 [.pointer a] w No (Gives (.tuple #[.slice none 0 0,.int .i64 e])):=by
 refine zk Tryz.func26 rfl Tryz.ntmps26 (by simp) Holds.nil ?_
 have ge:decide (e≠(0:Int))=true:=decide_eq_true he
 repeat' (first|refine s_0 ?_|(refine za (id:=0) ?_;refine zd ?_;refine zd ?_)|(refine za (id:=1) ?_;refine zb ?_;refine zW ?_;refine zb ?_;refine zW ?_;(refine ys zt (k:=?_);rintro _ _ ⟨_,rfl,rfl⟩);refine yv (zf (f:=54) (hc:=λw' X hk hh=>h w' _ hk (zz (hh.has (Has.append Has.here)) Seg.all))) (k:=?_);refine zd ?_)|(refine za (id:=2) ?_;refine zb ?_;refine yv (zay (hr:=ge)) (k:=?_))|(refine za (id:=3) ?_;refine zb ?_;refine zd ?_;refine zd ?_)|fail)
 exact ret2 rfl (resTmp rfl) (resTmp rfl) SubR.nil ⟨rfl,rfl⟩
theorem zkp (a:Option Addr) (e:Int) (v:Value) (w:World) (he:e≠0) (h:ChkE a 46 66 e w):Sy.Fn Tryz.prog 27 [.pointer a,v] w No (Gives (.int .i64 e)):=by
 refine zk Tryz.func27 rfl Tryz.ntmps27 (by simp) Holds.nil ?_
 have ge:decide (e≠(0:Int))=true:=decide_eq_true he
 repeat' (first|refine s_0 ?_|(refine za (id:=0) ?_;refine zd ?_)|(refine za (id:=1) ?_;refine zb ?_;refine zW ?_;refine zb ?_;refine zW ?_;(refine ys zt (k:=?_);rintro _ _ ⟨_,rfl,rfl⟩);refine yv (zf (f:=54) (hc:=λw' X hk hh=>h w' _ hk (zz (hh.has (Has.append Has.here)) Seg.all))) (k:=?_);refine zd ?_)|(refine za (id:=2) ?_;refine zb ?_;refine yv (zay (hr:=ge)) (k:=?_))|(refine za (id:=3) ?_;refine zb ?_;refine zd ?_)|fail)
 exact ret1 rfl (resTmp rfl) SubR.nil ⟨rfl,rfl⟩
theorem zj1 (a:Option Addr) (e:Int) (v:Value) (w:World) (he:e≠0) (h:ChkE a 46 55 e w):Sy.Fn Tryz.prog 15 [.pointer a,v] w No (Gives (.int .i64 e)):=by
 refine zk Tryz.func15 rfl Tryz.ntmps15 (by simp) Holds.nil ?_
 have ge:decide (e≠(0:Int))=true:=decide_eq_true he
 repeat' (first|refine s_0 ?_|(refine za (id:=0) ?_;refine zd ?_)|(refine za (id:=1) ?_;refine zb ?_;refine zW ?_;refine zb ?_;refine zW ?_;(refine ys zt (k:=?_);rintro _ _ ⟨_,rfl,rfl⟩);refine yv (zf (f:=54) (hc:=λw' X hk hh=>h w' _ hk (zz (hh.has (Has.append Has.here)) Seg.all))) (k:=?_);refine zd ?_)|(refine za (id:=2) ?_;refine zb ?_;refine yv (zay (hr:=ge)) (k:=?_))|(refine za (id:=3) ?_;refine zb ?_;refine zd ?_)|fail)
 exact ret1 rfl (resTmp rfl) SubR.nil ⟨rfl,rfl⟩
end Go.Proofs.YtcpjfilcilcekaaGreatDoor
end
section
namespace Go.Proofs.YtcpjfilcilcekaaGreatDoor
open Go Go.Sy Go.Sh Go.Nt Go.RowKit
attribute [local irreducible] Sy SyL SyX Sy.Fn callFunc natC gL glen selA ordF
set_option maxRecDepth 10000
theorem zfG (s:Bool) (z:Int) (a1 a2 a3:Option Addr) (n1 n2 n3 c1 c2 c3:Nat) (w:World) (hG:GT w) (h:glen z=0\/n1=0\/256 < n1\/4096 < n2\/n3≠32):
  Sy.Fn Tryz.prog 9 [.int .i64 (sideI s),.int .i64 z,.slice a1 n1 c1,.slice a2 n2 c2,.slice a3 n3 c3] w No (Gives (.tuple #[.pointer none,.int .i64 2])):=by
 refine zk Tryz.func9 rfl Tryz.ntmps9 (by simp) Holds.nil ?_
 have hlen:=λw' (hk:Keep No w w')=>znH z w' (hG.to hk)
 have h':glen z=0\/(0 < glen z/\n1=0)\/(0 < glen z/\256 < n1)\/(0 < glen z/\0 < n1/\n1<=256/\4096 < n2)\/(0 < glen z/\0 < n1/\n1<=256/\n2<=4096/\n3≠32):=by omega
 rcases h' with hz|hz|hz|hz|hz
 all_goals repeat' (first|refine s_0 ?_|(refine za (id:=0) ?_;refine zd ?_;refine zd ?_)|(refine za (id:=1) ?_;(refine ys (zn (f:=28) (hc:=λw' X hk hh=>zcW w')) (k:=?_);rintro _ _ ⟨R,rfl,bm,rfl,rfl⟩);refine zb ?_;refine yv (zij s) (k:=?_);refine zb ?_;refine zh ?_;refine zh ?_;(refine zi ?_;intro _);refine zB ?_;refine zd ?_)|(refine za (id:=2) ?_;refine zb ?_;refine zal ?_;refine zb ?_;refine zb ?_;refine yv (zf (f:=29) (hc:=λw' X hk hh=>hlen w' hk)) (k:=?_);refine zX ?_;refine zo ?_;refine zb ?_;(first|refine zb ?_|refine zj rfl rfl rfl ?_|fail);(first|refine zq ?_|refine zj rfl rfl rfl ?_|fail);(first|refine zX ?_|refine zj rfl rfl rfl ?_|fail);refine zo ?_;refine zb ?_;(first|refine zb ?_|refine zj rfl rfl rfl ?_|fail);(first|refine zq ?_|refine zj rfl rfl rfl ?_|fail);(first|refine zaa ?_|refine zj rfl rfl rfl ?_|fail);refine zo ?_;refine zb ?_;(first|refine zb ?_|refine zj rfl rfl rfl ?_|fail);(first|refine zq ?_|refine zj rfl rfl rfl ?_|fail);(first|refine zaa ?_|refine zj rfl rfl rfl ?_|fail);refine zo ?_;refine zb ?_;(first|refine zb ?_|refine zj rfl rfl rfl ?_|fail);(first|refine zq ?_|refine zj rfl rfl rfl ?_|fail);(first|refine zV ?_|refine zj rfl rfl rfl ?_|fail);refine zo ?_)|(refine za (id:=3) ?_;refine zd ?_;refine zd ?_)|fail)
 all_goals exact ret2 rfl (resTmp rfl) (resTmp rfl) SubR.nil ⟨rfl,rfl⟩
theorem znx: ∃Z:List Value,Z.length=4/\Z.all (·.oneCell')=true/\ ∀w:World,(zeroValue 58).run Tryz.prog w= .ok (.agg Z.toArray) w:=⟨[_,_,_,_],rfl,rfl,λw=>rfl⟩
theorem zkq (v:Int) (h1:v≠1) (h2:v≠2) (z:Value) (a1 a2 a3:Option Addr) (n1 n2 n3 c1 c2 c3:Nat) (w:World):
  Sy.Fn Tryz.prog 9 [.int .i64 v,z,.slice a1 n1 c1,.slice a2 n2 c2,.slice a3 n3 c3] w No (Gives (.tuple #[.pointer none,.int .i64 2])):=by
 refine zk Tryz.func9 rfl Tryz.ntmps9 (by simp) Holds.nil ?_
 obtain ⟨Z,l4,z1,hz⟩:=znx
 have hf:Instr.findNow (.int .i64) (.int .i64 v) pkMap 0=some none:=by
  have e1:(v == 1)=false:=beq_eq_false_iff_ne.2 h1
  have e2:(v == 2)=false:=beq_eq_false_iff_ne.2 h2
  simp [Instr.findNow,Instr.sameNow,pkMap,e1,e2]
 repeat' (first|refine s_0 ?_|(refine za (id:=0) ?_;refine zd ?_;refine zd ?_)|(refine za (id:=1) ?_;(refine ys (zn (f:=28) (hc:=λw' X hk hh=>zcW w')) (k:=?_);rintro _ _ ⟨R,rfl,bm,rfl,rfl⟩);refine zb ?_;refine yv (ziM (k:=29) (e:=58) (d:=.int .i64) (key:=.int .i64 v) rfl rfl rfl hf hz) (k:=?_);refine zb ?_;refine zh ?_;refine zh ?_;(refine zi ?_;intro _);refine yn (zM (B:=Z) (hv:=z1) (h1:=by rw [l4]) (hC:=by rw [l4];rfl)) (k:=?_);refine zd ?_)|(refine za (id:=2) ?_;refine zb ?_;refine zal ?_;refine zb ?_;refine zj rfl rfl rfl ?_;refine zj rfl rfl rfl ?_;refine zj rfl rfl rfl ?_;refine zo ?_;refine zb ?_;refine zj rfl rfl rfl ?_;refine zj rfl rfl rfl ?_;refine zj rfl rfl rfl ?_;refine zo ?_;refine zb ?_;refine zj rfl rfl rfl ?_;refine zj rfl rfl rfl ?_;refine zj rfl rfl rfl ?_;refine zo ?_;refine zb ?_;refine zj rfl rfl rfl ?_;refine zj rfl rfl rfl ?_;refine zj rfl rfl rfl ?_;refine zo ?_;refine zb ?_;refine zj rfl rfl rfl ?_;refine zj rfl rfl rfl ?_;refine zj rfl rfl rfl ?_;refine zo ?_)|(refine za (id:=3) ?_;refine zd ?_;refine zd ?_)|fail)
 exact ret2 rfl (resTmp rfl) (resTmp rfl) SubR.nil ⟨rfl,rfl⟩
end Go.Proofs.YtcpjfilcilcekaaGreatDoor
end
section
namespace Go.Proofs.YtcpjfilcilcekaaGreatDoor
open Go Go.Sy Go.Sh Go.Nt Go.RowKit
attribute [local irreducible] Sy SyL SyX Sy.Fn callFunc natC
set_option maxRecDepth 10000
theorem zgE (z:Int) (w:World):Sy.Fn Tryz.prog 11 [.int .i64 z] w No (Gives (.int .i64 z)):=by
 refine zk Tryz.func11 rfl Tryz.ntmps11 (by simp) Holds.nil ?_
 repeat' (first|refine s_0 ?_|(refine za (id:=0) ?_;refine zd ?_)|(refine za (id:=1) ?_;refine zb ?_;refine zd ?_)|fail)
 exact ret1 rfl (resTmp rfl) SubR.nil ⟨rfl,rfl⟩
theorem zoU (x:UInt8) (k:Nat) (h:k < 32):SetAt (List.replicate k (v8 x) ++ List.replicate (32 - k) (.int .u8 0)) k (v8 x) (List.replicate (k+1) (v8 x) ++ List.replicate (32 - (k+1)) (.int .u8 0)):=by
 refine ⟨by simp;omega,?_⟩
 rw [List.set_append_right _ _ (by simp),List.length_replicate,Nat.sub_self,show 32 - k=(32 - (k+1))+1 by omega]
 show _=_ ++ v8 x::List.replicate (32 - (k+1)) (.int .u8 0)
 rw [List.replicate_succ' (n:=k),List.append_assoc]
 rfl
theorem zig (x:UInt8) (w:World):Sy.Fn Tryz.prog 24 [v8 x] w No (λv R=>∃b,v= .slice (some ⟨b,0,none⟩) 32 32/\R= [.blk b 5 ((pkFill x).map v8)]):=by
 refine zk Tryz.func24 rfl Tryz.ntmps24 (by simp) Holds.nil ?_
 repeat' (first|refine s_t ?_|(refine za (id:=0) ?_;refine zd ?_)|(refine za (id:=1) ?_)|(refine za (id:=2) ?_;refine zd ?_)|(refine ys (zcd (n:=32)) (k:=?_);rintro _ _ ⟨b5,rfl,rfl⟩)|(refine zC ?_;first|refine zd ?_|fail)|fail)
 refine zE (γ:=Nat) (λk=>[(0,v8 x),(3,.slice (some ⟨b5,0,none⟩) 32 32),(4,.int .i64 k)]) (λk=>[.blk b5 5 (List.replicate k (v8 x) ++ List.replicate (32 - k) (.int .u8 0))]) (λk=>k<=32) (λk=>32 - k) 0 (Nat.zero_le _) ?_ ?_ ?_
 ·exact Sub.go
 ·exact SubR.go2
 rintro k hk
 rcases Nat.lt_or_ge k 32 with h|h
 ·have hlt:decide ((k:Int) < (32:Int))=true:=decide_eq_true (by omega)
  have g5:IntKind.i64.wrap ((k:Int)+1)=((k+1:Nat):Int):=by rw [IntWalk.i64_in _ (by omega)];omega
  have hset:=zoU x k h
  repeat' (first|refine s_t ?_|(refine za (id:=3) ?_;refine zb ?_;refine yv (zP (hr:=hlt)) (k:=?_))|(refine za (id:=5) ?_;refine zb ?_;refine zb ?_;refine zb ?_;refine yv (z9 (j:=k)) (k:=?_);refine yn (za5 (v:=v8 x) (hC:=by rw [Nat.zero_add];exact hset)) (k:=?_))|(refine za (id:=4) ?_;refine zb ?_;refine yv (zL (hr:=g5)) (k:=?_);refine zd ?_)|fail)
  refine zy (k+1) h ?_ ?_ ?_
  ·show 32 - (k+1) < 32 - k;omega
  ·exact Sub.go
  ·exact SubR.go2
 obtain rfl:k=32:=by omega
 have hlt:decide (((32:Nat):Int) < (32:Int))=false:=rfl
 repeat' (first|refine s_0 ?_|(refine za (id:=3) ?_;refine zb ?_;refine yv (zP (hr:=hlt)) (k:=?_))|(refine za (id:=6) ?_;refine zb ?_;refine zd ?_)|fail)
 exact ret1 rfl (resTmp rfl) (R:=[.blk b5 5 (List.replicate 32 (v8 x) ++ List.replicate (32 - 32) (.int .u8 0))]) (by exact SubR.go2) ⟨b5,rfl,by unfold pkFill;rw [List.map_replicate,Nat.sub_self,List.replicate_zero,List.append_nil]⟩
theorem zlL (v:Value) (a1 a2 a3:Option Addr) (n1 n2 n3 c1 c2 c3:Nat) (w:World):
  Sy.Fn Tryz.prog 7 [v,.slice a1 n1 c1,.slice a2 n2 c2,.slice a3 n3 c3] w No (Gives (.bool (decide (300 < n1\/40 < n3\/(300 < n2/\n2<=4096)\/5000 < n2)))):=by
 refine zk Tryz.func7 rfl Tryz.ntmps7 (by simp) Holds.nil ?_
 have h:300 < n1\/(n1<=300/\40 < n3)\/(n1<=300/\n3<=40/\300 < n2/\n2<=4096)\/(n1<=300/\n3<=40/\5000 < n2)\/(n1<=300/\n3<=40/\4096 < n2/\n2<=5000)\/(n1<=300/\n3<=40/\n2<=300):=by omega
 rcases h with h|h|h|h|h|h
 all_goals repeat' (first|refine s_0 ?_|(refine za (id:=0) ?_;refine zd ?_)|(refine za (id:=1) ?_;refine zb ?_;refine zq ?_;refine zaa ?_;refine zb ?_;(first|refine zb ?_|refine zj rfl rfl rfl ?_|fail);(first|refine zq ?_|refine zj rfl rfl rfl ?_|fail);(first|refine zaa ?_|refine zj rfl rfl rfl ?_|fail);refine zo ?_;refine zb ?_;(first|refine zb ?_|refine zj rfl rfl rfl ?_|fail);(first|refine zq ?_|refine zj rfl rfl rfl ?_|fail);(first|refine zaa ?_|refine zj rfl rfl rfl ?_|fail);(first|refine zb ?_|refine zj rfl rfl rfl ?_|fail);(first|refine zb ?_|refine zj rfl rfl rfl ?_|fail);(first|refine zq ?_|refine zj rfl rfl rfl ?_|fail);(first|refine zdr ?_|refine zj rfl rfl rfl ?_|fail);(first|refine zo ?_|refine zj rfl rfl rfl ?_|fail);refine zo ?_;refine zb ?_;(first|refine zb ?_|refine zj rfl rfl rfl ?_|fail);(first|refine zq ?_|refine zj rfl rfl rfl ?_|fail);(first|refine zaa ?_|refine zj rfl rfl rfl ?_|fail);refine zo ?_;refine zd ?_)|fail)
 all_goals exact ret1 rfl (resTmp rfl) SubR.nil ⟨congrArg Value.bool (by first|exact (decide_eq_true (by omega)).symm|exact (decide_eq_false (by omega)).symm),rfl⟩
end Go.Proofs.YtcpjfilcilcekaaGreatDoor
end
