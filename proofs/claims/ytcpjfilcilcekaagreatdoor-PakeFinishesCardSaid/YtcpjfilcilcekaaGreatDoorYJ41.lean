/- The specification of layer group, walked. -/
import Derived.Test.YtcpjfilcilcekaaGreatDoorYJ39
import Derived.Test.YtcpjfilcilcekaaGreatDoorYJ40
import Derived.Test.YtcpjfilcilcekaaGreatDoorYJ26
import Derived.Test.YtcpjfilcilcekaaGreatDoorYJ27
import Derived.Test.YtcpjfilcilcekaaGreatDoorYJ32
import Derived.ArgAppend
set_option linter.all false
section
namespace Go.Sy
open Go
theorem Has.appR {A L:List Res}{r:Res}(h:Has L r):Has (A ++ L) r:=List.mem_append_right _ h
end Go.Sy
namespace Go.Nt
open Go Go.Sy
theorem w64k:18446744073709551616 ^ 16=65536 ^ 64:=zez 65536 16 64 rfl rfl
theorem ndW {x:Nat}(h:x < 18446744073709551616 ^ 16):nd 65536 x<=64:=zak _ _ _ (by decide) (by rw [<-w64k];exact h)
theorem zp1 (i:Nat) (h0:1<=i) (h5:i<=4):(gP i - 1) / 2=gQ i:=by
 have:=zml i h0 h5;omega
end Go.Nt
namespace Go.Proofs.YtcpjfilcilcekaaGreatDoor
open Go Go.Sy Go.Nt Go.RowKit
attribute [local irreducible] Sy SyL SyX Sy.Fn callFunc natC refC iC gP gQ gL memB
set_option maxRecDepth 10000
theorem zhE (z:Int) (w:World):Sy.Fn Tryz.prog 21 [.int .i64 z] w No (Gives (.bool (decide (1<=z/\z<=4)))):=by
 refine zk Tryz.func21 rfl Tryz.ntmps21 (by simp) Holds.nil ?_
 by_cases h1:1<=z
 ·have g1:decide (z>=1)=true:=decide_eq_true h1
  have g2:decide (z<=4)=decide (1<=z/\z<=4):=decide_eq_decide.2 ⟨λh=>⟨h1,h⟩,λh=>h.2⟩
  generalize decide (1<=z/\z<=4)=b at *
  repeat' (first|refine s_0 ?_|(refine za (id:=0) ?_;refine zd ?_)|(refine za (id:=1) ?_;refine zb ?_;refine yv (zaH (hr:=g1)) (k:=?_);refine zb ?_;refine zb ?_;refine yv (zcb (hr:=g2)) (k:=?_);refine zo ?_;refine zd ?_)|fail)
  exact ret1 rfl (resTmp rfl) SubR.nil ⟨rfl,rfl⟩
 ·have g1:decide (z>=1)=false:=decide_eq_false h1
  rw [show decide (1<=z/\z<=4)=false from decide_eq_false (λh=>h1 h.1)]
  repeat' (first|refine s_0 ?_|(refine za (id:=0) ?_;refine zd ?_)|(refine za (id:=1) ?_;refine zb ?_;refine yv (zaH (hr:=g1)) (k:=?_);refine zb ?_;refine zj rfl rfl rfl ?_;refine zj rfl rfl rfl ?_;refine zo ?_;refine zd ?_)|fail)
  exact ret1 rfl (resTmp rfl) SubR.nil ⟨rfl,rfl⟩
theorem zb5 (i:Nat) (w:World) (h0:1<=i) (h5:i<=4):Sy.Fn Tryz.prog 64 [.int .i64 (i:Int)] w No (RefG (gP i)):=by
 refine zk Tryz.func64 rfl Tryz.ntmps64 (by simp) Holds.nil ?_
 have g3:IntKind.i64.wrap ((i:Int) - 1)=((i - 1:Nat):Int):=by rw [IntWalk.i64_in _ (by omega)];omega
 have hcell:=zhx i h0 h5
 have hpa:=λw'=>zmV (gS i) w' (by have:=zm5 i h0 h5;omega)
 rw [zjn i h0 h5] at hpa
 dsimp only at hpa
 unfold RefG
 repeat' (first|refine s_0 ?_|(refine za (id:=0) ?_;refine zd ?_)|fail)
 refine za (id:=1) ?_
 refine ys (zt (vs:=gCells)) (k:=?_)
 rintro _ _ ⟨b6,rfl,rfl⟩
 generalize gCells=GC at *
 generalize gS i=S at *
 repeat' (first|refine s_0 ?_|(refine za (id:=2) ?_;refine zb ?_;(refine ys (zn (f:=103) (hc:=λw' X hk hh=>hpa w')) (k:=?_);rintro _ _ ⟨R,rfl,a1,c1,rfl,rfl⟩);refine zb ?_;refine zh ?_;refine zh ?_;refine zd ?_;refine zd ?_)|(refine za (id:=3) ?_;refine zb ?_;refine zd ?_)|(refine zC ?_;first|refine yv (zJ (hr:=g3)) (k:=?_)|refine yv (zcl (j:=i - 1)) (k:=?_)|refine yv (zw (hv:=hcell)) (k:=?_)|refine zd ?_|refine zb ?_|fail)|fail)
 exact ret1 rfl (resTmp rfl) (by exact SubR.go2) ⟨_,_,rfl,rfl⟩
theorem zh8 (i:Nat) (w:World) (h0:1<=i) (h5:i<=4):Sy.Fn Tryz.prog 84 [.int .i64 (i:Int)] w No (RefG (gQ i)):=by
 refine zk Tryz.func84 rfl Tryz.ntmps84 (by simp) Holds.nil ?_
 have hW:=zaW i h0 h5
 have k0:=ndW hW
 have hp1:=zav i h0 h5
 have hp:=λw'=>zb5 i w' h0 h5
 have h1:=λw'=>zdl 1 w' (by decide)
 have h2:=λw'=>zdl 2 w' (by decide)
 have n1:=zak 65536 1 1 (by decide) (by decide)
 have n2:=zak 65536 2 1 (by decide) (by decide)
 have n3:=zdP 65536 (gP i - 1) (gP i) (by decide) (Nat.sub_le _ _)
 have hs:=λw' a c a' c' (h:SlA w' a (refC (gP i))) (h':SlA w' a' (refC 1))=>zga a a' c c' (gP i) 1 w' h h' (by omega) (by omega)
 have hd:=λw' a c a' c' (h:SlA w' a (refC (gP i - 1))) (h':SlA w' a' (refC 2))=>zcN a a' c c' (gP i - 1) 2 w' h h' (by omega) (by omega) (by decide)
 rw [zp1 i h0 h5] at hd
 unfold RefG at *
 generalize (gP i - 1) % 2=r at *
 generalize gP i - 1=p1 at *
 generalize gP i=p at *
 generalize gQ i=q at *
 repeat' (first|refine s_0 ?_|(refine za (id:=0) ?_;refine zd ?_)|(refine za (id:=1) ?_;refine zb ?_;(refine ys (zn (f:=64) (hc:=λw' X hk hh=>hp w')) (k:=?_);rintro _ _ ⟨R,rfl,a1,c1,rfl,rfl⟩);(refine ys (zn (f:=41) (hc:=λw' X hk hh=>h1 w')) (k:=?_);rintro _ _ ⟨R,rfl,a2,c2,rfl,rfl⟩);(refine ys (zn (f:=105) (hc:=λw' X hk hh=>hs w' _ _ _ _ (zu hh (by exact Has.append Has.go)) (zu hh (by exact Has.append Has.go)))) (k:=?_);rintro _ _ ⟨R,rfl,a3,c3,rfl,rfl⟩);(refine ys (zn (f:=41) (hc:=λw' X hk hh=>h2 w')) (k:=?_);rintro _ _ ⟨R,rfl,a4,c4,rfl,rfl⟩);(refine ys (zn (f:=65) (hc:=λw' X hk hh=>hd w' _ _ _ _ (zu hh (by exact Has.append Has.go)) (zu hh (by exact Has.append Has.go)))) (k:=?_);rintro _ _ ⟨R,rfl,a5,c5,a6,c6,rfl,rfl⟩);refine zb ?_;refine zh ?_;refine zh ?_;refine zd ?_;refine zd ?_)|(refine za (id:=2) ?_;refine zb ?_;refine zd ?_)|fail)
 exact ret1 rfl (resTmp rfl) (by exact SubR.go2) ⟨_,_,rfl,rfl⟩
theorem hasI (i:Nat) (h0:1<=i) (h5:i<=4):decide (1<=(i:Int)/\(i:Int)<=4)=true:=decide_eq_true ⟨by omega,by omega⟩
theorem zhU (i:Nat) (w:World) (h0:1<=i) (h5:i<=4):Sy.Fn Tryz.prog 48 [.int .i64 (i:Int)] w No (Gives (.int .i64 ((gL i:Nat):Int))):=by
 refine zk Tryz.func48 rfl Tryz.ntmps48 (by simp) Holds.nil ?_
 have hh:=λw'=>zhE (i:Int) w'
 rw [hasI i h0 h5] at hh
 have k0:=ndW (zaW i h0 h5)
 have hp:=λw'=>zb5 i w' h0 h5
 have hb:=λw' a c (h:SlA w' a (refC (gP i)))=>ziu a c (gP i) w' h (by omega)
 rw [zhb i h0 h5] at hb
 unfold RefG at hp
 generalize byt (gP i)=D at *
 generalize gP i=p at *
 generalize gL i=l at *
 repeat' (first|refine s_0 ?_|(refine za (id:=0) ?_;refine zd ?_)|(refine za (id:=1) ?_;refine zb ?_;refine yv (zf (hc:=λ_ _ _ _=>(hh _))) (k:=?_);refine zal ?_)|(refine za (id:=3) ?_;refine zb ?_;(refine ys (zn (f:=64) (hc:=λw' X hk hh=>hp w')) (k:=?_);rintro _ _ ⟨R,rfl,a1,c1,rfl,rfl⟩);(refine ys (zn (f:=63) (hc:=λw' X hk hh=>hb w' _ _ (zu hh (by exact Has.append Has.go)))) (k:=?_);rintro _ _ ⟨R,rfl,a2,c2,rfl,rfl⟩);refine zq ?_;refine zd ?_)|fail)
 exact ret1 rfl (resTmp rfl) SubR.nil ⟨rfl,rfl⟩
theorem zf7 (i:Nat) (a b:Option Addr) (ca cb x e:Nat) (w:World) (h0:1<=i) (h5:i<=4) (ha:SlA w a (refC x)) (hb:SlA w b (refC e)) (hx:nd 65536 x < 20000) (he:nd 65536 e < 20000):
  Sy.Fn Tryz.prog 45 [.int .i64 (i:Int),.slice a (nd 65536 x) ca,.slice b (nd 65536 e) cb] w No (RefG (x ^ e % gP i)):=by
 refine zk Tryz.func45 rfl Tryz.ntmps45 (by simp) Holds.nil ?_
 have k0:=ndW (zaW i h0 h5)
 have hp1:=zav i h0 h5
 have hp:=λw'=>zb5 i w' h0 h5
 have hq:=λw' d cd (hk:Keep No w w') (h:SlA w' d (refC (gP i)))=>zkI a b d ca cb cd x e (gP i) w' (ha.to hk (λ_ h=> .inr h)).sla (hb.to hk (λ_ h=> .inr h)).sla h hx he (by omega) (by omega)
 unfold RefG at *
 generalize x ^ e % gP i=r at *
 generalize gP i=p at *
 repeat' (first|refine s_t ?_|(apply zbr;(focus ((repeat (first|exact Rem.here|apply Rem.there));done));assumption)|(refine za (id:=0) ?_;try refine zd ?_)|(refine za (id:=1) ?_;try refine zb ?_;try refine zb ?_;try refine zb ?_;try (first|(refine ys (zn (f:=64) (hc:=λw' X hk hh=>hp w')) (k:=?_);rintro _ _ ⟨R,rfl,a1,c1,rfl,rfl⟩)|(refine ys (zn (f:=87) (hc:=λw' X hk hh=>hq w' _ _ hk (zu hh (by exact Has.append Has.go)))) (k:=?_);rintro _ _ ⟨R,rfl,a2,c2,rfl,rfl⟩)|fail);try (first|(refine ys (zn (f:=64) (hc:=λw' X hk hh=>hp w')) (k:=?_);rintro _ _ ⟨R,rfl,a1,c1,rfl,rfl⟩)|(refine ys (zn (f:=87) (hc:=λw' X hk hh=>hq w' _ _ hk (zu hh (by exact Has.append Has.go)))) (k:=?_);rintro _ _ ⟨R,rfl,a2,c2,rfl,rfl⟩)|fail);try refine zd ?_)|(refine zC ?_;first|(refine ys (zn (f:=64) (hc:=λw' X hk hh=>hp w')) (k:=?_);rintro _ _ ⟨R,rfl,a1,c1,rfl,rfl⟩)|(refine ys (zn (f:=87) (hc:=λw' X hk hh=>hq w' _ _ hk (zu hh (by exact Has.append Has.go)))) (k:=?_);rintro _ _ ⟨R,rfl,a2,c2,rfl,rfl⟩)|refine zd ?_|refine zb ?_|fail)|refine za ?_|fail)
 exact ret1 rfl (resTmp rfl) (by exact SubR.go2) ⟨_,_,rfl,rfl⟩
theorem zno (i:Nat) (b:Option Addr) (cb e:Nat) (w:World) (h0:1<=i) (h5:i<=4) (hb:SlA w b (refC e)) (he:nd 65536 e < 20000):
  Sy.Fn Tryz.prog 44 [.int .i64 (i:Int),.slice b (nd 65536 e) cb] w No (RefG (4 ^ e % gP i)):=by
 refine zk Tryz.func44 rfl Tryz.ntmps44 (by simp) Holds.nil ?_
 have h4:=λw'=>zdl 4 w' (by decide)
 have n4:=zak 65536 4 1 (by decide) (by decide)
 have hq:=λw' a ca (hk:Keep No w w') (h:SlA w' a (refC 4))=>zf7 i a b ca cb 4 e w' h0 h5 h (hb.to hk (λ_ h=> .inr h)).sla (by omega) he
 unfold RefG at *
 generalize 4 ^ e % gP i=r at *
 repeat' (first|refine s_t ?_|(apply zbr;(focus ((repeat (first|exact Rem.here|apply Rem.there));done));assumption)|(refine za (id:=0) ?_;try refine zd ?_)|(refine za (id:=1) ?_;try refine zb ?_;try (first|(refine ys (zn (f:=41) (hc:=λw' X hk hh=>h4 w')) (k:=?_);rintro _ _ ⟨R,rfl,a1,c1,rfl,rfl⟩)|(refine ys (zn (f:=45) (hc:=λw' X hk hh=>hq w' _ _ hk (zu hh (by exact Has.append Has.go)))) (k:=?_);rintro _ _ ⟨R,rfl,a2,c2,rfl,rfl⟩)|fail);try refine zb ?_;try (first|(refine ys (zn (f:=41) (hc:=λw' X hk hh=>h4 w')) (k:=?_);rintro _ _ ⟨R,rfl,a1,c1,rfl,rfl⟩)|(refine ys (zn (f:=45) (hc:=λw' X hk hh=>hq w' _ _ hk (zu hh (by exact Has.append Has.go)))) (k:=?_);rintro _ _ ⟨R,rfl,a2,c2,rfl,rfl⟩)|fail);try refine zd ?_)|(refine zC ?_;first|(refine ys (zn (f:=41) (hc:=λw' X hk hh=>h4 w')) (k:=?_);rintro _ _ ⟨R,rfl,a1,c1,rfl,rfl⟩)|(refine ys (zn (f:=45) (hc:=λw' X hk hh=>hq w' _ _ hk (zu hh (by exact Has.append Has.go)))) (k:=?_);rintro _ _ ⟨R,rfl,a2,c2,rfl,rfl⟩)|refine zd ?_|refine zb ?_|fail)|refine za ?_|fail)
 exact ret1 rfl (resTmp rfl) (by exact SubR.go2) ⟨_,_,rfl,rfl⟩
theorem zhW (i:Nat) (a b:Option Addr) (ca cb x y:Nat) (w:World) (h0:1<=i) (h5:i<=4) (ha:SlA w a (refC x)) (hb:SlA w b (refC y)) (hx:nd 65536 x < 20000) (hy:nd 65536 y < 20000):
  Sy.Fn Tryz.prog 43 [.int .i64 (i:Int),.slice a (nd 65536 x) ca,.slice b (nd 65536 y) cb] w No (RefG (x*y % gP i)):=by
 refine zk Tryz.func43 rfl Tryz.ntmps43 (by simp) Holds.nil ?_
 have k0:=ndW (zaW i h0 h5)
 have hp1:=zav i h0 h5
 have hq0:=zaF i h0 h5
 have hp:=λw'=>zb5 i w' h0 h5
 have hq:=λw' d cd (hk:Keep No w w') (h:SlA w' d (refC (gP i)))=>zgg a b d ca cb cd x y (gP i) w' (ha.to hk (λ_ h=> .inr h)).sla (hb.to hk (λ_ h=> .inr h)).sla h (by omega) (by omega) (by omega) (by omega)
 unfold RefG at *
 generalize x*y % gP i=r at *
 generalize gP i=p at *
 repeat' (first|refine s_0 ?_|(refine za (id:=0) ?_;refine zd ?_)|(refine za (id:=1) ?_;refine zb ?_;refine zb ?_;refine zb ?_;(refine ys (zn (f:=64) (hc:=λw' X hk hh=>hp w')) (k:=?_);rintro _ _ ⟨R,rfl,a1,c1,rfl,rfl⟩);(refine ys (zn (f:=86) (hc:=λw' X hk hh=>hq w' _ _ hk (zu hh (by exact Has.append Has.go)))) (k:=?_);rintro _ _ ⟨R,rfl,a2,c2,rfl,rfl⟩);refine zd ?_)|fail)
 exact ret1 rfl (resTmp rfl) (by exact SubR.go2) ⟨_,_,rfl,rfl⟩
theorem zg4 (i:Nat) (a:Option Addr) (n c:Nat) (bl:List UInt8) (w:World) (h0:1<=i) (h5:i<=4) (hl:bl.length=n) (ha:SlA w a (bl.map v8)) (hn:n < 80000):
  Sy.Fn Tryz.prog 39 [.int .i64 (i:Int),.slice a n c] w No (RefG (bev 256 (bn bl) % gQ i)):=by
 refine zk Tryz.func39 rfl Tryz.ntmps39 (by simp) Holds.nil ?_
 have k0:=ndW (za3 i h0 h5)
 have hq0:=zaF i h0 h5
 have hp:=λw'=>zh8 i w' h0 h5
 have hf:=λw' (hk:Keep No w w')=>zge a n c bl w' hl (ha.to hk (λ_ h=> .inr h)).sla (by omega)
 have kx:nd 65536 (bev 256 (bn bl))<=n:=zak 65536 _ _ (by decide) (Nat.lt_of_lt_of_le (zco 256 (bn bl) (zef bl)) (by rw [show (bn bl).length=n by unfold bn;rw [List.length_map,hl]];exact Nat.pow_le_pow_left (by decide) _))
 have hq:=λw' d cd d' cd' (h:SlA w' d (refC (bev 256 (bn bl)))) (h':SlA w' d' (refC (gQ i)))=>zbE d d' cd cd' (bev 256 (bn bl)) (gQ i) w' h h' (by omega) (by omega) (by omega)
 unfold RefG at *
 generalize bev 256 (bn bl) % gQ i=r at *
 generalize bev 256 (bn bl)=x at *
 generalize gQ i=q at *
 repeat' (first|refine s_0 ?_|(refine za (id:=0) ?_;refine zd ?_)|(refine za (id:=1) ?_;refine zb ?_;(refine ys (zn (f:=47) (hc:=λw' X hk hh=>hf w' hk)) (k:=?_);rintro _ _ ⟨R,rfl,a0,c0,rfl,rfl⟩);refine zb ?_;(refine ys (zn (f:=84) (hc:=λw' X hk hh=>hp w')) (k:=?_);rintro _ _ ⟨R,rfl,a1,c1,rfl,rfl⟩);(refine ys (zn (f:=83) (hc:=λw' X hk hh=>hq w' _ _ _ _ (zu hh (by exact Has.append Has.go)) (zu hh (by exact Has.append Has.go)))) (k:=?_);rintro _ _ ⟨R,rfl,a2,c2,rfl,rfl⟩);refine zd ?_)|fail)
 exact ret1 rfl (resTmp rfl) (by exact SubR.go2) ⟨_,_,rfl,rfl⟩
theorem zhh (i:Nat) (a:Option Addr) (ca x:Nat) (w:World) (h0:1<=i) (h5:i<=4) (ha:SlA w a (refC x)) (hx:nd 65536 x < 20000):
  Sy.Fn Tryz.prog 49 [.int .i64 (i:Int),.slice a (nd 65536 x) ca] w No (Gives (.bool (memB (gP i) (gQ i) x))):=by
 refine zk Tryz.func49 rfl Tryz.ntmps49 (by simp) Holds.nil ?_
 have hh:=λw'=>zhE (i:Int) w'
 rw [hasI i h0 h5] at hh
 have kp:=ndW (zaW i h0 h5)
 have kq:=ndW (za3 i h0 h5)
 have hp1:=zav i h0 h5
 have hnx:=(zdC 65536 x (by decide)).1
 rcases Nat.eq_zero_or_pos x with h|h
 ·subst h
  have hb:memB (gP i) (gQ i) 0=false:=by unfold memB;exact decide_eq_false (λh=>absurd h.1 (by omega))
  rw [hb]
  have g1:decide (((nd 65536 0:Nat):Int)=0)=true:=decide_eq_true (by rw [zaY];rfl)
  repeat' (first|refine s_0 ?_|(refine za (id:=0) ?_;refine zd ?_)|(refine za (id:=1) ?_;refine zb ?_;refine yv (zf (hc:=λ_ _ _ _=>(hh _))) (k:=?_);refine zal ?_;refine zb ?_;refine zb ?_;refine zq ?_;refine yv (z8 (hr:=g1)) (k:=?_);refine zo ?_;refine zb ?_;refine zj rfl rfl rfl ?_;refine zj rfl rfl rfl ?_;refine zj rfl rfl rfl ?_;refine zj rfl rfl rfl ?_;refine zj rfl rfl rfl ?_;refine zo ?_)|(refine za (id:=2) ?_;refine zd ?_)|fail)
  exact ret1 rfl (resTmp rfl) SubR.nil ⟨rfl,rfl⟩
 have g1:decide (((nd 65536 x:Nat):Int)=0)=false:=decide_eq_false (by omega)
 have hp:=λw'=>zb5 i w' h0 h5
 have hc:=λw' d cd (hk:Keep No w w') (h:SlA w' d (refC (gP i)))=>zbq a d ca cd x (gP i) w' (ha.to hk (λ_ h=> .inr h)).sla h (by omega) (by omega)
 by_cases hxp:x < gP i
 ·have g2:decide (cmpI x (gP i)>=0)=false:=by rw [zeI hxp];rfl
  have ho:=λw'=>zh8 i w' h0 h5
  have he:=λw' d cd d' cd' (hk:Keep No w w') (h:SlA w' d (refC (gQ i))) (h':SlA w' d' (refC (gP i)))=>zkI a d d' ca cd cd' x (gQ i) (gP i) w' (ha.to hk (λ_ h=> .inr h)).sla h h' hx (by omega) (by omega) (by omega)
  have h1:=λw'=>zdl 1 w' (by decide)
  have n1:=zak 65536 1 1 (by decide) (by decide)
  have nr:=zeD 65536 (x ^ gQ i) (gP i) (by decide) (by omega)
  have hc2:=λw' d cd d' cd' (h:SlA w' d (refC (x ^ gQ i % gP i))) (h':SlA w' d' (refC 1))=>zbq d d' cd cd' (x ^ gQ i % gP i) 1 w' h h' (by omega) (by omega)
  have g3:decide (cmpI (x ^ gQ i % gP i) 1=0)=memB (gP i) (gQ i) x:=by
   unfold memB
   refine decide_eq_decide.2 ⟨λe=>⟨h,hxp,zdw e⟩,λe=>?_⟩
   rw [e.2.2];exact zcF 1
  unfold RefG at *
  generalize memB (gP i) (gQ i) x=b at *
  generalize x ^ gQ i % gP i=r at *
  generalize cmpI r 1=cz2 at *
  generalize cmpI x (gP i)=cz at *
  generalize gP i=p at *
  generalize gQ i=q at *
  repeat' (first|refine s_0 ?_|(refine za (id:=0) ?_;refine zd ?_)|(refine za (id:=1) ?_;refine zb ?_;refine yv (zf (hc:=λ_ _ _ _=>(hh _))) (k:=?_);refine zal ?_;refine zb ?_;refine zb ?_;refine zq ?_;refine yv (z8 (hr:=g1)) (k:=?_);refine zo ?_;refine zb ?_;refine zb ?_;refine zb ?_;(refine ys (zn (f:=64) (hc:=λw' X hk hh=>hp w')) (k:=?_);rintro _ _ ⟨R,rfl,a1,c1,rfl,rfl⟩);refine yv (zf (f:=50) (hc:=λw' X hk hh=>hc w' _ _ hk (zu hh (by exact Has.append Has.go)))) (k:=?_);refine yv (zaH (hr:=g2)) (k:=?_);refine zo ?_)|(refine za (id:=3) ?_;refine zb ?_;refine zb ?_;(refine ys (zn (f:=84) (hc:=λw' X hk hh=>ho w')) (k:=?_);rintro _ _ ⟨R,rfl,a2,c2,rfl,rfl⟩);refine zb ?_;(refine ys (zn (f:=64) (hc:=λw' X hk hh=>hp w')) (k:=?_);rintro _ _ ⟨R,rfl,a1,c1,rfl,rfl⟩);(refine ys (zn (f:=87) (hc:=λw' X hk hh=>he w' _ _ _ _ hk (zu hh (by exact Has.append Has.go)) (zu hh (by exact Has.append Has.go)))) (k:=?_);rintro _ _ ⟨R,rfl,a3,c3,rfl,rfl⟩);(refine ys (zn (f:=41) (hc:=λw' X hk hh=>h1 w')) (k:=?_);rintro _ _ ⟨R,rfl,a4,c4,rfl,rfl⟩);refine yv (zf (f:=50) (hc:=λw' X hk hh=>hc2 w' _ _ _ _ (zu hh (by exact Has.append Has.go)) (zu hh (by exact Has.append Has.go)))) (k:=?_);refine yv (z8 (hr:=g3)) (k:=?_);refine zd ?_)|fail)
  exact ret1 rfl (resTmp rfl) SubR.nil ⟨rfl,rfl⟩
 ·have g2:decide (cmpI x (gP i)>=0)=true:=decide_eq_true (zhA (by omega))
  have hb:memB (gP i) (gQ i) x=false:=by unfold memB;exact decide_eq_false (λh=>hxp h.2.1)
  rw [hb]
  unfold RefG at *
  generalize cmpI x (gP i)=cz at *
  generalize gP i=p at *
  repeat' (first|refine s_0 ?_|(refine za (id:=0) ?_;refine zd ?_)|(refine za (id:=1) ?_;refine zb ?_;refine yv (zf (hc:=λ_ _ _ _=>(hh _))) (k:=?_);refine zal ?_;refine zb ?_;refine zb ?_;refine zq ?_;refine yv (z8 (hr:=g1)) (k:=?_);refine zo ?_;refine zb ?_;refine zb ?_;refine zb ?_;(refine ys (zn (f:=64) (hc:=λw' X hk hh=>hp w')) (k:=?_);rintro _ _ ⟨R,rfl,a1,c1,rfl,rfl⟩);refine yv (zf (f:=50) (hc:=λw' X hk hh=>hc w' _ _ hk (zu hh (by exact Has.append Has.go)))) (k:=?_);refine yv (zaH (hr:=g2)) (k:=?_);refine zo ?_)|(refine za (id:=2) ?_;refine zd ?_)|fail)
  exact ret1 rfl (resTmp rfl) SubR.nil ⟨rfl,rfl⟩
theorem zfI (i:Nat) (a:Option Addr) (ca x:Nat) (w:World) (h0:1<=i) (h5:i<=4) (ha:SlA w a (refC x)) (hx:nd 65536 x < 20000) (hn:nd 256 x<=gL i):
  Sy.Fn Tryz.prog 22 [.int .i64 (i:Int),.slice a (nd 65536 x) ca] w No (RowOf 5 (gL i) ((fixB (gL i) x).map v8)):=by
 refine zk Tryz.func22 rfl Tryz.ntmps22 (by simp) Holds.nil ?_
 have hl96:=(zdq i h0 h5).2
 have hle:=λw'=>zhU i w' h0 h5
 have hby:=λw' (hk:Keep No w w')=>ziu a ca x w' (ha.to hk (λ_ h=> .inr h)).sla (by omega)
 have hbl:=zdK x
 unfold RowOf fixB
 generalize byt x=D at *
 generalize nd 256 x=n at *
 generalize gL i=l at *
 repeat' (first|refine s_t ?_|(refine za (id:=0) ?_;refine zd ?_)|(refine za (id:=1) ?_;refine zb ?_;(refine ys (zn (f:=63) (hc:=λw' X hk hh=>hby w' hk)) (k:=?_);rintro _ _ ⟨R,rfl,a0,c0,rfl,rfl⟩);refine zd ?_)|fail)
 refine zE (γ:=Nat×Option Addr×Nat) (λg=>[(0,.int .i64 (i:Int)),(5,.slice g.2.1 (g.1+n) g.2.2)]) (λg=>[.row (.slice g.2.1 (g.1+n) g.2.2) 5 1 (g.1+n) ((List.replicate g.1 0 ++ D).map v8)])
  (λg=>g.1+n<=l) (λg=>l - g.1) (0,a0,c0) (by show 0+n<=l;omega) ?_ ?_ ?_
 ·dsimp only
  rw [Nat.zero_add]
  exact Sub.go
 ·dsimp only
  rw [Nat.zero_add,List.replicate_zero,List.nil_append]
  exact SubR.go2
 rintro ⟨j,aj,cj⟩ hj
 dsimp only at hj ⊢
 rcases Nat.lt_or_ge (j+n) l with h|h
 ·have hlt:decide (((j+n:Nat):Int) < (l:Int))=true:=decide_eq_true (by omega)
  have hE:(List.replicate j (0:UInt8) ++ D).length=j+n:=by rw [List.length_append,List.length_replicate,hbl]
  have hY:List.replicate (j+1) (0:UInt8) ++ D=0::(List.replicate j 0 ++ D):=by rw [List.replicate_succ,List.cons_append]
  generalize List.replicate j (0:UInt8) ++ D=E at *
  refine zci (λw' hh=>(Row.none hh (a:=aj) (n:=j+n) (c:=cj) Has.here:aj=none->cj=0)) λhnil=>?_
  repeat' (first|refine s_t ?_|(refine za (id:=2) ?_;refine zb ?_;refine zq ?_;refine zb ?_;refine yv (zf (hc:=λ_ _ _ _=>(hle _))) (k:=?_);refine yv (zP (hr:=hlt)) (k:=?_))|(refine za (id:=3) ?_;(refine ys zt (k:=?_);rintro _ _ ⟨_,rfl,rfl⟩);refine zb ?_;(refine ys (zba (xs:=[.int .u8 0]) (k:=1) (m:=j+n) (km:=j+1+n) (hxn:=rfl) (hr:=Rd.row Has.go) (hn:=by rw [List.length_map,hE,Nat.mul_one]) (hnil:=hnil) (hkm:=by omega) (hys:=rfl)) (k:=?_);rintro _ _ ⟨rfl,aN,cN,rfl⟩);refine zd ?_)|fail)
  refine zy (j+1,aN,cN) ?_ ?_ ?_ ?_
  ·show j+1+n<=l;omega
  ·show l - (j+1) < l - j;omega
  ·exact Sub.go
  ·dsimp only
   rw [hY]
   exact SubR.go2
 ·obtain rfl:l=j+n:=by omega
  have hlt:decide (((j+n:Nat):Int) < ((j+n:Nat):Int))=false:=decide_eq_false (by omega)
  rw [show j+n - n=j by omega]
  repeat' (first|refine s_0 ?_|(refine za (id:=2) ?_;refine zb ?_;refine zq ?_;refine zb ?_;refine yv (zf (hc:=λ_ _ _ _=>(hle _))) (k:=?_);refine yv (zP (hr:=hlt)) (k:=?_))|(refine za (id:=4) ?_;refine zb ?_;refine zd ?_)|fail)
  exact ret1 rfl (resTmp rfl) (by exact SubR.go2) ⟨_,_,rfl,rfl⟩
end Go.Proofs.YtcpjfilcilcekaaGreatDoor
end
section
namespace Go.Nt
open Go Go.Sy
end Go.Nt
namespace Go.Sy
open Go
section
variable {P:Program}{ro:Option Nat}{N:Nat}{w0:World}{M:Nat->Prop}{ds:List Deferred}{fr:Fr}{L:List Res}
end
end Go.Sy
namespace Go.Proofs.YtcpjfilcilcekaaGreatDoor
open Go Go.Sy Go.Nt Go.RowKit
attribute [local irreducible] Sy SyL SyX Sy.Fn callFunc natC rowN refC iC gP gQ gL memB safeC
set_option maxRecDepth 10000
end Go.Proofs.YtcpjfilcilcekaaGreatDoor
end
section
namespace Go.Nt
open Go Go.Sy
theorem zrQ:gP 1=2879:=rfl
theorem zrP:gQ 1=1439:=rfl
theorem zrO:gL 1=2:=rfl
theorem zrN:gL 4=96:=rfl
end Go.Nt
namespace Go.Proofs.YtcpjfilcilcekaaGreatDoor
open Go Go.Sy Go.Nt Go.RowKit
attribute [local irreducible] Sy SyL SyX Sy.Fn callFunc natC rowN refC iC gP gQ gL memB safeC
set_option maxRecDepth 10000
end Go.Proofs.YtcpjfilcilcekaaGreatDoor
end
section
namespace Go.Proofs.YtcpjfilcilcekaaGreatDoor
open Go Go.Sy Go.Nt Go.RowKit
attribute [local irreducible] Sy SyL SyX Sy.Fn callFunc natC rowN refC iC gP gQ gL memB safeC fixB
set_option maxRecDepth 10000
theorem zpQ (i:Nat) (a:Option Addr) (ca x:Nat) (w:World) (h0:1<=i) (h5:i<=4) (ha:SlA w a (refC x)) (hx:nd 65536 x < 20000) (hc:memB (gP i) (gQ i) x=true):
  Sy.Fn Tryz.prog 51 [.int .i64 (i:Int),.slice a (nd 65536 x) ca] w No (RefG (inv (gP i) x).2):=by
 refine zk Tryz.func51 rfl Tryz.ntmps51 (by simp) Holds.nil ?_
 have k0:=ndW (zaW i h0 h5)
 have hp1:=zav i h0 h5
 have hp:=λw'=>zb5 i w' h0 h5
 have hi1:=zgM h0 h5 hc
 have hi0:(inv (gP i) x).2≠0:=by
  intro h
  have h2:=(zgY (gP i) x (by omega)).2
  rw [hi1,h,Nat.zero_mul] at h2
  have h3:=h2.mod
  rw [Nat.zero_mod,Nat.mod_eq_of_lt hp1] at h3
  omega
 have hq: ∀w' d cd,Keep No w w'->SlA w' d (refC (gP i))->Sy.Fn Tryz.prog 90 [.slice a (nd 65536 x) ca,.slice d (nd 65536 (gP i)) cd] w' No (λv R=>∃a c,v= .tuple #[.slice a (nd 65536 (inv (gP i) x).2) c,.bool true]/\R= [.row (.slice a (nd 65536 (inv (gP i) x).2) c) 3 1 (nd 65536 (inv (gP i) x).2) (refC (inv (gP i) x).2)]):=by
  intro w' d cd hk h
  refine Sy.Fn.mono (zqk a d ca cd x (gP i) w' (ha.to hk (λ_ h=> .inr h)).sla h (by omega) (by omega) (by omega)) ?_
  intro v R hv
  unfold InvG at hv
  rw [if_pos hi1] at hv
  obtain ⟨a1,c1,hv,hR|⟨_,hR⟩⟩:=hv
  ·exact ⟨a1,c1,hv,hR⟩
  ·exact absurd hR hi0
 clear hi1 hi0 hc
 unfold RefG at *
 generalize (inv (gP i) x).2=r at *
 generalize gP i=p at *
 repeat' (first|refine s_0 ?_|(refine za (id:=0) ?_;refine zd ?_)|(refine za (id:=1) ?_;refine zb ?_;refine zb ?_;(refine ys (zn (f:=64) (hc:=λw' X hk hh=>hp w')) (k:=?_);rintro _ _ ⟨R,rfl,a1,c1,rfl,rfl⟩);(refine ys (zn (f:=90) (hc:=λw' X hk hh=>hq w' _ _ hk (zu hh (by exact Has.append Has.go)))) (k:=?_);rintro _ _ ⟨R,rfl,a2,c2,rfl,rfl⟩);refine zb ?_;refine zh ?_;refine zh ?_;refine zd ?_;refine zd ?_)|(refine za (id:=2) ?_;refine zb ?_;refine zd ?_)|fail)
 exact ret1 rfl (resTmp rfl) (by exact SubR.go2) ⟨_,_,rfl,rfl⟩
end Go.Proofs.YtcpjfilcilcekaaGreatDoor
end
section
namespace Go.Sy
open Go
section
variable {P:Program}{ro:Option Nat}{N:Nat}{w0:World}{M:Nat->Prop}{ds:List Deferred}{g:Nat->Option Value}{L:List Res}{o:Oper}
variable {t t':TypeId}{x z:Operand}{y ye:Ty}
def objR (E b:Nat) (C:List Value):Res:=.obj b (.cells C.toArray E (C.length,C.length+1))
theorem zfj {b T:Nat} : ∀(l:List Value) (C:List Value) (o:Nat) (w:World),(objR T b C).holds w->o+l.length<=C.length->(objR T b (setSeg C o l)).holds (w.setCells b o l)
 | [],C,o,w,h,_=>by simpa [setSeg,World.setCells] using h
 |x::l,C,o,w,h,hl=>by
  simp only [List.length_cons] at hl
  have h1:(objR T b (C.set o x)).holds (w.setCell ⟨b,o,none⟩ x):=by
   have h:w.heap[b]?=some (.cells C.toArray T (C.length,C.length+1)):=h
   show (w.setCell ⟨b,o,none⟩ x).heap[b]?=_
   simp [World.setCell,Array.getElem?_modify,h]
  have:=zfj l (C.set o x) (o+1) _ h1 (by rw [List.length_set];omega)
  have e:setSeg (C.set o x) (o+1) l=setSeg C o (x::l):=by
   unfold setSeg
   rw [List.take_succ_eq_append_getElem (by rw [List.length_set];omega),List.getElem_set_self,List.take_set_of_le (Nat.le_refl o),List.drop_set_of_lt (by omega)]
   simp [Nat.add_assoc,Nat.add_comm 1]
  rw [e] at this;exact this
theorem zgr {e:Nat}{l:List UInt8}(ho:o.op= .convert t t' x:=by exact rfl) (hx:ev g x=some (.string (str l)):=by exact rfl) (ht:tyOf P t=some y:=by exact ty rfl) {y':Ty}(ht':tyOf P t'=some y':=by exact ty rfl) (hy':y'.desc= .slice e:=by exact rfl) (he:tyOf P e=some ye:=by exact ty rfl) (hye:ye.desc= .int .u8:=by exact rfl):
  OpT P ro N w0 M ds o g L (λv L'=>∃b J,v= .slice (some ⟨b,0,none⟩) l.length (l.length+J.length)/\L'=objR e b (l.map v8 ++ J)::L):=
 OpT.run (by rw [ho];rfl) λa w X hst=>by
  obtain ⟨d,i,hd,hi,hs,_⟩:=zF ht
  obtain ⟨d',i',hd',hi',hs',_⟩:=zF ht'
  rw [hy'] at hs'
  have:=zam hs';subst this
  obtain ⟨d2,i2,hd2,hi2,hs2,_⟩:=zF he
  rw [hye] at hs2
  have hd2':d2= .int .u8:=by
   cases d2 <;> simp [slim] at hs2
   exact congrArg _ hs2
  subst hd2'
  have hrun:=Lib.run_convert_string_bytes w t t' e (str l) hd hd' hd2
  have hk:Keep No w (Lib.bytesWorld w e (str l)):=⟨rfl,rfl,rfl,by rw [Lib.bytesWorld_size];omega,λk hk _=>Lib.bytesWorld_at_old w e (str l) k hk⟩
  have hB:w0.heap.size<=w.heap.size:=hst.keep.size
  have hcap:l.length<=grownCap w (str l).size 0 e:=by have:=grownCap_ge w (str l).size 0 e;rw [zeV] at this ⊢;exact this
  have hcells:Lib.bytesCells w e (str l)=(l.map v8 ++ List.replicate (grownCap w (str l).size 0 e - (str l).size) (Value.int .u8 0)).toArray:=by
   apply Array.toList_inj.1
   simp [Lib.bytesCells,str,v8,Wd.n8]
  refine ⟨_,_,Lib.bytesWorld w e (str l),_,?_,.inl rfl,⟨w.heap.size,List.replicate (grownCap w (str l).size 0 e - (str l).size) (Value.int .u8 0),rfl,rfl⟩,hst.keep.trans hk (λ_ h=>h.elim),?_⟩
  ·simp only [execOp,ho,hst.agr.eval hx,Sem.run_bind,hrun,Result.andThen_ok]
   rw [zeV] at hcap ⊢
   rw [List.length_replicate,show l.length+(grownCap w l.length 0 e - l.length)=grownCap w l.length 0 e by omega]
   rfl
  ·refine Holds.fresh hst.hold hk ?_ (λb hb=>hb.symm) hB
   show (Lib.bytesWorld w e (str l)).heap[w.heap.size]?=_
   rw [Lib.bytesWorld_at_new,hcells,List.size_toArray]
theorem zlN {k cs m cx e b:Nat}{b1:Addr}{xs J news:List Value}{L1:List Res}{xo so:Operand}(hL:Rem L (objR e b (xs ++ J)) L1)
    (hrx:Rd w0 M L (some b1) news) (hk:xs.length=k) (hm:news.length=m) (hmp:0 < m) (h1:news.all (·.oneCell')=true) (b1':k+m<=1000000)
    (hcs:cs=k+J.length) (ho:o.op= .call { callee:=.builtin .append,args:=#[so,xo],argTypes:=#[t,t] } :=by exact rfl)
    (hs:ev g so=some (.slice (some ⟨b,0,none⟩) k cs):=by exact rfl) (hx:ev g xo=some (.slice (some b1) m cx):=by exact rfl) (ht:tyOf P t=some y:=by exact ty rfl) (hy:y.desc= .slice e:=by exact rfl) (he:tyOf P e=some ye:=by exact ty rfl) (hsz:ye.size=1:=by exact rfl) (hz:(zeroC P e).map (·.length)=some 1:=by (rw [zc rfl];rfl)) (b2:ye.bytes=1:=by exact rfl):
    OpT P ro N w0 M ds o g L (λv' L'=>∃b' J' fz,v'= .slice (some ⟨b',0,none⟩) (k+m) (k+m+J'.length)/\L'= .obj b' (.cells ((xs ++ news) ++ J').toArray e fz)::L1):=by
  subst hcs
  refine OpT.run (by rw [ho];rfl) λa w X hst=>?_
  obtain ⟨d,i',hd,hi',hs',_⟩:=zF ht
  rw [hy] at hs'
  have:=zam hs';subst this
  obtain ⟨de,ie,hde,hie,_,hez,heb,_⟩:=zF he
  obtain ⟨zcells,hzc,hzl⟩:=Option.map_eq_some_iff.1 hz
  unfold zeroC at hzc
  rw [hie] at hzc
  simp only [Option.bind_some,Option.map_eq_some_iff] at hzc
  obtain ⟨zv,hzv,hze⟩:=hzc
  have hzs:zv.cells.size=1:=by rw [<-hze] at hzl;simpa using hzl
  have hp:=hst.perm (hL.append (X:=X)).perm
  have hobj:(objR e b (xs ++ J)).holds w:=hp.hold.all _ List.mem_cons_self
  have hcell:w.heap[b]?=some (.cells (xs ++ J).toArray e ((xs ++ J).length,(xs ++ J).length+1)):=hobj
  have c0: ∀j u,xs[j]?=some u->w.cell? ((⟨b,0,none⟩:Addr).add j)=some u:=zc3 λj u hj=>by
    have:w.cell? ⟨b,0+j,none⟩=(xs ++ J)[0+j]?:=by simp [World.cell?,hcell]
    rw [this,Nat.zero_add,List.getElem?_append_left (List.getElem?_eq_some_iff.1 hj).1];exact hj
  have c1: ∀j u,news[j]?=some u->w.cell? (b1.add j)=some u:=λj u hj=>by
    rcases hrx w X hst.keep hst.hold with h|⟨b,off,h,hrg⟩
    · rw [h] at hj;simp at hj
    · cases h;exact zc3 hrg j u hj
  have hie1:ie.size=1:=by rw [hez,hsz]
  have hib1:ie.bytes=1:=by rw [heb,b2]
  have e1: #[so,xo].map a.eval= #[.slice (some ⟨b,0,none⟩) k (k+J.length),.slice (some b1) m cx]:=by simp [hst.agr.eval hs,hst.agr.eval hx]
  by_cases hroom:k+m<=k+J.length
  · have hrun := run_append_room_cells (P := P) w t o.type e ie hd hie b 0 k (k + J.length) b1 m cx news (by rw [hie1]; omega) c1 (λu hu => List.all_eq_true.1 h1 u hu) hroom (λj hj => by
        have:w.cell? ⟨b,0+k*ie.size+j,none⟩=(xs ++ J)[0+k*ie.size+j]?:=by simp [World.cell?,hcell]
        rw [this,hie1,List.getElem?_eq_getElem (by rw [List.length_append];omega)];rfl) (λj hj=>by
        have hlt: ¬((xs ++ J).length<=0+k*ie.size+j):=by rw [hie1,List.length_append];omega
        simp only [World.frozen?,hcell]
        simp only [hlt,decide_false,Bool.false_and])
    rw [hie1,Nat.mul_one,Nat.zero_add] at hrun
    have hset:=zfj (T:=e) news (xs ++ J) k w hobj (by rw [List.length_append];omega)
    have hseg:setSeg (xs ++ J) k news=(xs ++ news) ++ J.drop m:=by
      unfold setSeg
      rw [<-hk,List.take_left,<-List.drop_drop,List.drop_left,hm]
    rw [hseg] at hset
    have hJ:(J.drop m).length=J.length - m:=List.length_drop
    refine ⟨_,_,w.setCells b k news,_,?_,.inl rfl,⟨b,J.drop m,(((xs ++ news) ++ J.drop m).length,((xs ++ news) ++ J.drop m).length+1),rfl,rfl⟩,?_,?_⟩
    · simp only [execOp,ho,resolve,invoke,builtin,e1,Sem.run_bind,Sem.run_pure,Result.andThen_ok,hrun]
      rw [hJ,show k+m+(J.length - m)=k+J.length by omega]
    · exact hst.keep.trans (Keep.setCells b news k w) (λx hx=>by subst hx;exact hp.hold.mine _ List.mem_cons_self x rfl)
    · have ht:=hp.hold.tail
      exact Holds.cons (L:=L1 ++ X) (ht.keep (Keep.setCells b news k w) (λr hr' q hb hb'=>(List.pairwise_cons.1 hp.hold.apart).1 r hr' q (by show b=q;exact hb'.symm) hb)) hset (λr hr' q hb hb'=>(List.pairwise_cons.1 hp.hold.apart).1 r hr' q hb hb') (λq hb=>hp.hold.mine _ List.mem_cons_self q hb)
  · have hrun:=run_append_grow (P:=P) w t o.type e ie zv hd hie hzv ⟨b,0,none⟩ k (k+J.length) xs (by rw [hie1];omega) c0 b1 m cx news (by rw [hie1];omega) c1 (by omega) (by omega) (growslice_fits (by omega) (by rw [hib1];omega))
    have hcap:=grownCap_ge w (k+m) (k+J.length) e
    obtain ⟨J',hJ,hJl⟩: ∃J':List Value,xs.toArray ++ news.toArray ++ Builtin.zeroCells zv.cells (grownCap w (k+m) (k+J.length) e - (k+m))=((xs ++ news) ++ J').toArray/\J'.length=grownCap w (k+m) (k+J.length) e - (k+m):=by
      refine ⟨(Builtin.zeroCells zv.cells (grownCap w (k+m) (k+J.length) e - (k+m))).toList,by simp,?_⟩
      simp [Builtin.zeroCells,hzs]
    rw [hJ] at hrun
    have hk':Keep No w (w.drew.alloc (.cells ((xs ++ news) ++ J').toArray e)):=⟨rfl,rfl,rfl,by show w.heap.size<=(w.heap.push _).size;rw [Array.size_push];omega,λq hq _=>by
      show (w.heap.push _)[q]?=_
      rw [Array.getElem?_push,if_neg (by omega)]⟩
    refine ⟨_,_,w.drew.alloc (.cells ((xs ++ news) ++ J').toArray e),_,?_,.inl rfl,⟨w.heap.size,J',(0,0),rfl,rfl⟩,hst.keep.trans hk' (λ_ h=>h.elim),?_⟩
    · simp only [execOp,ho,resolve,invoke,builtin,e1,Sem.run_bind,Sem.run_pure,Result.andThen_ok,hrun]
      rw [show grownCap w (k+m) (k+J.length) e=k+m+J'.length by omega]
    · refine Holds.fresh (L:=L1 ++ X) hp.hold.tail hk' ?_ (λb hb=>hb.symm) hst.keep.size
      show (w.heap.push _)[w.heap.size]?=_
      exact Array.getElem?_push_size
end
end Go.Sy
end
