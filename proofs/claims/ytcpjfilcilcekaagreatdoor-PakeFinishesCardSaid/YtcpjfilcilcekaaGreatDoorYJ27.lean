/- The functions of layer group: bytes written and read, the scalar of bytes, all groups. -/
import Derived.Test.YtcpjfilcilcekaaGreatDoorYJ26
import Derived.Test.YtcpjfilcilcekaaGreatDoorYJ07
import Derived.Test.YtcpjfilcilcekaaGreatDoorYJ21
set_option linter.all false
section
namespace Go.Nt
open Go Go.Sy
theorem zej {i x:Nat}(h0:1<=i) (h5:i<=4) (h:x < gP i):nd 256 x<=gL i:=by
 rw [<-zhb i h0 h5]
 exact zak 256 x _ (by decide) (Nat.lt_trans h (zae 256 (gP i) (by decide)))
theorem zpo {p q x:Nat}(h:memB p q x=true):x < p:=by
 unfold memB at h
 exact (of_decide_eq_true h).2.1
theorem zrh (i:Nat):gQ i<=gP i:=Nat.div_le_self _ _
theorem zl7 (q X R d:Nat):(X % q*R % q+d) % q=(X*R+d) % q:=by
 rw [Nat.mod_mul_mod,Nat.mod_add_mod]
end Go.Nt
namespace Go.Proofs.YtcpjfilcilcekaaGreatDoor
open Go Go.Sy Go.Nt Go.RowKit
attribute [local irreducible] Sy SyL SyX Sy.Fn callFunc natC rowN safeC gP gQ gL gS gCells memB
set_option maxRecDepth 10000
def FixG (i x:Nat) (v:Value) (R:List Res):Prop:=∃a c,v= .tuple #[.slice a (gL i) c,.int .i64 0]/\R= [.row (.slice a (gL i) c) 5 1 (gL i) ((fixB (gL i) x).map v8)]
theorem zii (i x f:Nat) (cond:Nat->Bool) (w:World) (h0:1<=i) (h5:i<=4) (hG:GT w) (hx:x < 18446744073709551616 ^ 16) (hen: ∀args w,(callFunc f args).run Tryz.prog w= .ok (.enter f args) w) (hf: ∀w',Sy.Fn Tryz.prog f [safeV (gP i) (gQ i) (gL i),natV x] w' No (Gives (.bool (cond x)))) (hc:cond x=true) (hlt:x < gP i):Sy.Fn Tryz.prog 101 [.int .i64 (i:Int),natV x,.func (.func f) #[] #[]] w No (FixG i x):=by
 refine zk Tryz.func101 rfl Tryz.ntmps101 (by simp) Holds.nil ?_
 have lx:=ze x
 have hnd:=zej h0 h5 hlt
 have hl96:=(zdq i h0 h5).2
 unfold FixG
 have hW:=zaW i h0 h5
 have hQW:=za3 i h0 h5
 have hp1:=zav i h0 h5
 have hq0:=zaF i h0 h5
 have hfi:=λw' (hk:Keep No w w')=>zby i w' h0 h5 (hG.to hk)
 generalize gP i=p at *
 generalize gQ i=q at *
 generalize gL i=l at *
 have lS:=zQ p q l
 have lp:=ze p
 have lq:=ze q
 have lz:=ze 0
 have hsp:=zbB p q l
 have hsq:=zbF p q l
 have hsl:=zbD p q l
 have hal:=λw' b' (h:w'.rangeAt b' 0 (rowN [x]))=>all1c p q l f x b' cond w' hen hf h
 simp only [hc,if_true] at hal
 have hfx:=λw'=>znQ p q l x w' hx hnd (by omega)
 unfold RowOf at hfx
 generalize fixB l x=F at *
 repeat' (first|refine s_0 ?_|(refine za (id:=0) ?_;(refine zi ?_;intro _);refine zd ?_;refine zd ?_)|(refine za (id:=1) ?_;refine zb ?_;refine yv (zf (f:=73) (hc:=λw' _ hk _=>hfi w' hk)) (k:=?_);refine zb ?_;refine zh ?_;refine zh ?_;(refine zi ?_;intro _);refine yn (zM (B:=safeC p q l) (hv:=zaz p q l) (h1:=(zQ p q l).symm)) (k:=?_);refine zd ?_)|(refine za (id:=2) ?_;refine zb ?_;refine zV ?_)|(refine za (id:=4) ?_;refine yv (zg (B:=safeC p q l)) (k:=?_);refine zb ?_;refine yv (zg (B:=natC x)) (k:=?_))|(refine za (id:=5) ?_;refine zb ?_;refine zV ?_)|(refine za (id:=7) ?_;refine yv (zg (B:=safeC p q l)) (k:=?_);refine yv (zg (B:=natC x)) (k:=?_);(refine ys (zn (f:=136) (hc:=λw' X hk hh=>hfx w')) (k:=?_);rintro _ _ ⟨R,rfl,aF,cF,rfl,rfl⟩);refine zd ?_;refine zd ?_)|(refine ys (zaO (x:=x)) (k:=?_);rintro _ _ ⟨bb,rfl,rfl⟩)|(refine zC ?_;first|refine yv (zf (f:=121) (hc:=λw' X hk hh=>hal w' _ (zz (hh.has (by exact Has.append Has.here)) Seg.all))) (k:=?_)|refine zd ?_|fail)|fail)
 exact ret2 rfl (resTmp rfl) (resTmp rfl) (by exact SubR.go2) ⟨_,_,rfl,rfl⟩
theorem zmi (i x:Nat) (w:World) (h0:1<=i) (h5:i<=4) (hG:GT w) (hx:x < 18446744073709551616 ^ 16) (hc:memB (gP i) (gQ i) x=true):Sy.Fn Tryz.prog 62 [.int .i64 (i:Int),natV x] w No (FixG i x):=by
 refine zk Tryz.func62 rfl Tryz.ntmps62 (by simp) Holds.nil ?_
 have lx:=ze x
 have hw:=λw' (hk:Keep No w w')=>zii i x 95 (memB (gP i) (gQ i)) w' h0 h5 (hG.to hk) hx (en rfl) (λw''=>zch _ _ _ x w'' (zaW i h0 h5) (za3 i h0 h5) (by have:=zav i h0 h5;omega) hx) hc (zpo hc)
 unfold FixG at *
 repeat' (first|refine s_0 ?_|(refine za (id:=0) ?_;(refine zi ?_;intro _);refine zd ?_;refine zd ?_)|(refine za (id:=1) ?_;refine zb ?_;refine yv (zg (B:=natC x)) (k:=?_);(refine ys (zn (f:=101) (hc:=λw' X hk hh=>hw w' hk)) (k:=?_);rintro _ _ ⟨R,rfl,aF,cF,rfl,rfl⟩);refine zh ?_;refine zh ?_;refine zd ?_;refine zd ?_)|fail)
 exact ret2 rfl (resTmp rfl) (resTmp rfl) (by exact SubR.go2) ⟨_,_,rfl,rfl⟩
theorem zlQ (i x:Nat) (w:World) (h0:1<=i) (h5:i<=4) (hG:GT w) (hx:x < 18446744073709551616 ^ 16) (hc:decide (x < gQ i)=true):Sy.Fn Tryz.prog 98 [.int .i64 (i:Int),natV x] w No (FixG i x):=by
 refine zk Tryz.func98 rfl Tryz.ntmps98 (by simp) Holds.nil ?_
 have lx:=ze x
 have hw:=λw' (hk:Keep No w w')=>zii i x 122 (λy=>decide (y < gQ i)) w' h0 h5 (hG.to hk) hx (en rfl) (λw''=>zfw _ _ _ x w'' (za3 i h0 h5) hx) hc (Nat.lt_of_lt_of_le (of_decide_eq_true hc) (zrh i))
 unfold FixG at *
 repeat' (first|refine s_0 ?_|(refine za (id:=0) ?_;(refine zi ?_;intro _);refine zd ?_;refine zd ?_)|(refine za (id:=1) ?_;refine zb ?_;refine yv (zg (B:=natC x)) (k:=?_);(refine ys (zn (f:=101) (hc:=λw' X hk hh=>hw w' hk)) (k:=?_);rintro _ _ ⟨R,rfl,aF,cF,rfl,rfl⟩);refine zh ?_;refine zh ?_;refine zd ?_;refine zd ?_)|fail)
 exact ret2 rfl (resTmp rfl) (resTmp rfl) (by exact SubR.go2) ⟨_,_,rfl,rfl⟩
theorem znw (z:Int) (f:Nat) (a:Option Addr) (n c:Nat) (w:World) (hz: ¬(1<=z/\z<=4)):Sy.Fn Tryz.prog 94 [.int .i64 z,.slice a n c,.func (.func f) #[] #[]] w No (Gives (.tuple #[natV 0,.int .i64 2])):=by
 refine zk Tryz.func94 rfl Tryz.ntmps94 (by simp) Holds.nil ?_
 have lS:=zQ 0 0 0
 have lz:=ze 0
 repeat' (first|refine s_t ?_|(refine za (id:=0) ?_;(refine zi ?_;intro _);refine zd ?_)|(refine za (id:=1) ?_;refine zb ?_;refine yv (zf (hc:=λ_ _ _ _=>(zj2 z _ hz))) (k:=?_);refine zb ?_;refine zh ?_;refine zh ?_;(refine zi ?_;intro _);refine yn (zM (B:=safeC 0 0 0) (hv:=zaz 0 0 0) (h1:=(zQ 0 0 0).symm)) (k:=?_);refine zd ?_)|(refine za (id:=2) ?_;refine zb ?_;refine zV ?_;refine zd ?_)|(refine za (id:=3) ?_;refine yv za8 (k:=?_);refine zb ?_;refine yn (zl (n:=0)) (k:=?_);refine zd ?_)|fail)
 exact ret2 rfl (resCells (B:=natC 0) rfl (ty rfl) rfl Has.go Seg.all (ze _).symm) (resTmp rfl) SubR.nil ⟨rfl,rfl⟩
theorem zj8 (i f:Nat) (a:Option Addr) (n c:Nat) (w:World) (h0:1<=i) (h5:i<=4) (hG:GT w) (hn:n < gL i):Sy.Fn Tryz.prog 94 [.int .i64 (i:Int),.slice a n c,.func (.func f) #[] #[]] w No (Gives (.tuple #[natV 0,.int .i64 4])):=by
 refine zk Tryz.func94 rfl Tryz.ntmps94 (by simp) Holds.nil ?_
 have hW:=zaW i h0 h5
 have hQW:=za3 i h0 h5
 have hp1:=zav i h0 h5
 have hq0:=zaF i h0 h5
 have hfi:=λw' (hk:Keep No w w')=>zby i w' h0 h5 (hG.to hk)
 generalize gP i=p at *
 generalize gQ i=q at *
 generalize gL i=l at *
 have lS:=zQ p q l
 have lp:=ze p
 have lq:=ze q
 have lz:=ze 0
 have hsp:=zbB p q l
 have hsq:=zbF p q l
 have hsl:=zbD p q l
 have g1:decide ((n:Int) < (l:Int))=true:=decide_eq_true (by omega)
 repeat' (first|refine s_t ?_|(refine za (id:=0) ?_;(refine zi ?_;intro _);refine zd ?_)|(refine za (id:=1) ?_;refine zb ?_;refine yv (zf (f:=73) (hc:=λw' _ hk _=>hfi w' hk)) (k:=?_);refine zb ?_;refine zh ?_;refine zh ?_;(refine zi ?_;intro _);refine yn (zM (B:=safeC p q l) (hv:=zaz p q l) (h1:=(zQ p q l).symm)) (k:=?_);refine zd ?_)|(refine za (id:=2) ?_;refine zb ?_;refine zV ?_;refine zd ?_)|(refine za (id:=4) ?_;refine zb ?_;refine zq ?_;refine zm ?_;refine yv (zw (hv:=hsl)) (k:=?_);refine yv (zP (hr:=g1)) (k:=?_);refine zd ?_)|(refine za (id:=5) ?_;refine yv za8 (k:=?_);refine yn (zl (n:=0)) (k:=?_);refine zd ?_)|fail)
 exact ret2 rfl (resCells (B:=natC 0) rfl (ty rfl) rfl Has.go Seg.all (ze _).symm) (resTmp rfl) SubR.nil ⟨rfl,rfl⟩
theorem zlX (i f:Nat) (a:Option Addr) (n c:Nat) (w:World) (h0:1<=i) (h5:i<=4) (hG:GT w) (hn:gL i < n):Sy.Fn Tryz.prog 94 [.int .i64 (i:Int),.slice a n c,.func (.func f) #[] #[]] w No (Gives (.tuple #[natV 0,.int .i64 5])):=by
 refine zk Tryz.func94 rfl Tryz.ntmps94 (by simp) Holds.nil ?_
 have hW:=zaW i h0 h5
 have hQW:=za3 i h0 h5
 have hp1:=zav i h0 h5
 have hq0:=zaF i h0 h5
 have hfi:=λw' (hk:Keep No w w')=>zby i w' h0 h5 (hG.to hk)
 generalize gP i=p at *
 generalize gQ i=q at *
 generalize gL i=l at *
 have lS:=zQ p q l
 have lp:=ze p
 have lq:=ze q
 have lz:=ze 0
 have hsp:=zbB p q l
 have hsq:=zbF p q l
 have hsl:=zbD p q l
 have g1:decide ((n:Int) < (l:Int))=false:=decide_eq_false (by omega)
 have g2:decide ((n:Int) > (l:Int))=true:=decide_eq_true (by omega)
 repeat' (first|refine s_t ?_|(refine za (id:=0) ?_;(refine zi ?_;intro _);refine zd ?_)|(refine za (id:=1) ?_;refine zb ?_;refine yv (zf (f:=73) (hc:=λw' _ hk _=>hfi w' hk)) (k:=?_);refine zb ?_;refine zh ?_;refine zh ?_;(refine zi ?_;intro _);refine yn (zM (B:=safeC p q l) (hv:=zaz p q l) (h1:=(zQ p q l).symm)) (k:=?_);refine zd ?_)|(refine za (id:=2) ?_;refine zb ?_;refine zV ?_;refine zd ?_)|(refine za (id:=4) ?_;refine zb ?_;refine zq ?_;refine zm ?_;refine yv (zw (hv:=hsl)) (k:=?_);refine yv (zP (hr:=g1)) (k:=?_);refine zd ?_)|(refine za (id:=6) ?_;refine zb ?_;refine zq ?_;refine zm ?_;refine yv (zw (hv:=hsl)) (k:=?_);refine yv (zaf (hr:=g2)) (k:=?_);refine zd ?_)|(refine za (id:=7) ?_;refine yv za8 (k:=?_);refine yn (zl (n:=0)) (k:=?_);refine zd ?_)|fail)
 exact ret2 rfl (resCells (B:=natC 0) rfl (ty rfl) rfl Has.go Seg.all (ze _).symm) (resTmp rfl) SubR.nil ⟨rfl,rfl⟩
theorem zoI (i f:Nat) (cond:Nat->Bool) (a:Option Addr) (n c:Nat) (bl:List UInt8) (w:World) (h0:1<=i) (h5:i<=4) (hG:GT w) (hn:n=gL i) (hl:bl.length=n) (hcap:n<=c) (hb:SlA w a (bl.map v8)) (hen: ∀args w,(callFunc f args).run Tryz.prog w= .ok (.enter f args) w) (hf: ∀x,x < 18446744073709551616 ^ 16-> ∀w',Sy.Fn Tryz.prog f [safeV (gP i) (gQ i) (gL i),natV x] w' No (Gives (.bool (cond x)))) (hc:cond (bev 256 (bn bl))=false):
  Sy.Fn Tryz.prog 94 [.int .i64 (i:Int),.slice a n c,.func (.func f) #[] #[]] w No (Gives (.tuple #[natV 0,.int .i64 3])):=by
 refine zk Tryz.func94 rfl Tryz.ntmps94 (by simp) Holds.nil ?_
 have hl96:=(zdq i h0 h5).2
 have hW:=zaW i h0 h5
 have hQW:=za3 i h0 h5
 have hp1:=zav i h0 h5
 have hq0:=zaF i h0 h5
 have hfi:=λw' (hk:Keep No w w')=>zby i w' h0 h5 (hG.to hk)
 generalize gP i=p at *
 generalize gQ i=q at *
 generalize gL i=l at *
 have lS:=zQ p q l
 have lp:=ze p
 have lq:=ze q
 have lz:=ze 0
 have hsp:=zbB p q l
 have hsq:=zbF p q l
 have hsl:=zbD p q l
 have hxW:bev 256 (bn bl) < 18446744073709551616 ^ 16:=by
  rw [zez 256 8 128 rfl rfl]
  refine Nat.lt_of_lt_of_le (zco 256 (bn bl) (zef bl)) ?_
  rw [show (bn bl).length=bl.length from List.length_map _]
  exact Nat.pow_le_pow_right (by decide) (by omega)
 have hfb:=λw' (hk:Keep No w w')=>zbb a n c bl w' hl hcap (hb.to hk (λ_ h=> .inr h)).sla (by omega)
 rw [if_pos hxW] at hfb
 have hf:=hf _ hxW
 have g1:decide ((n:Int) < (l:Int))=false:=decide_eq_false (by omega)
 have g2:decide ((n:Int) > (l:Int))=false:=decide_eq_false (by omega)
 generalize bev 256 (bn bl)=x at *
 have lx:=ze x
 have hal:=λw' b' (h:w'.rangeAt b' 0 (rowN [x]))=>all1c p q l f x b' cond w' hen hf h
 simp only [hc,Bool.false_eq_true,if_false] at hal
 repeat' (first|refine s_t ?_|(refine za (id:=0) ?_;(refine zi ?_;intro _);refine zd ?_)|(refine za (id:=1) ?_;refine zb ?_;refine yv (zf (f:=73) (hc:=λw' _ hk _=>hfi w' hk)) (k:=?_);refine zb ?_;refine zh ?_;refine zh ?_;(refine zi ?_;intro _);refine yn (zM (B:=safeC p q l) (hv:=zaz p q l) (h1:=(zQ p q l).symm)) (k:=?_);refine zd ?_)|(refine za (id:=2) ?_;refine zb ?_;refine zV ?_;refine zd ?_)|(refine za (id:=4) ?_;refine zb ?_;refine zq ?_;refine zm ?_;refine yv (zw (hv:=hsl)) (k:=?_);refine yv (zP (hr:=g1)) (k:=?_);refine zd ?_)|(refine za (id:=6) ?_;refine zb ?_;refine zq ?_;refine zm ?_;refine yv (zw (hv:=hsl)) (k:=?_);refine yv (zaf (hr:=g2)) (k:=?_);refine zd ?_)|(refine za (id:=8) ?_;refine zb ?_;refine yv (zf (f:=117) (hc:=λw' _ hk _=>hfb w' hk)) (k:=?_);refine zb ?_;refine zh ?_;refine zh ?_;(refine zi ?_;intro _);refine yn (zl (n:=x)) (k:=?_);refine zd ?_)|(refine za (id:=9) ?_;refine yv (zg (B:=safeC p q l)) (k:=?_);refine zb ?_;refine yv (zg (B:=natC x)) (k:=?_))|(refine za (id:=10) ?_;refine zb ?_;refine zV ?_)|(refine za (id:=11) ?_;refine yv za8 (k:=?_);refine zb ?_;refine yn (zl (n:=0)) (k:=?_);refine zd ?_)|(refine ys (zaO (x:=x)) (k:=?_);rintro _ _ ⟨bb,rfl,rfl⟩)|(refine zC ?_;first|refine yv (zf (f:=121) (hc:=λw' X hk hh=>hal w' _ (zz (hh.has (by exact Has.append Has.here)) Seg.all))) (k:=?_)|refine zd ?_|fail)|fail)
 exact ret2 rfl (resCells (B:=natC 0) rfl (ty rfl) rfl Has.go Seg.all (ze _).symm) (resTmp rfl) SubR.nil ⟨rfl,rfl⟩
theorem zoN (i f:Nat) (cond:Nat->Bool) (a:Option Addr) (n c:Nat) (bl:List UInt8) (w:World) (h0:1<=i) (h5:i<=4) (hG:GT w) (hn:n=gL i) (hl:bl.length=n) (hcap:n<=c) (hb:SlA w a (bl.map v8)) (hen: ∀args w,(callFunc f args).run Tryz.prog w= .ok (.enter f args) w) (hf: ∀x,x < 18446744073709551616 ^ 16-> ∀w',Sy.Fn Tryz.prog f [safeV (gP i) (gQ i) (gL i),natV x] w' No (Gives (.bool (cond x)))) (hc:cond (bev 256 (bn bl))=true):
  Sy.Fn Tryz.prog 94 [.int .i64 (i:Int),.slice a n c,.func (.func f) #[] #[]] w No (Gives (.tuple #[natV (bev 256 (bn bl)),.int .i64 0])):=by
 refine zk Tryz.func94 rfl Tryz.ntmps94 (by simp) Holds.nil ?_
 have hl96:=(zdq i h0 h5).2
 have hW:=zaW i h0 h5
 have hQW:=za3 i h0 h5
 have hp1:=zav i h0 h5
 have hq0:=zaF i h0 h5
 have hfi:=λw' (hk:Keep No w w')=>zby i w' h0 h5 (hG.to hk)
 generalize gP i=p at *
 generalize gQ i=q at *
 generalize gL i=l at *
 have lS:=zQ p q l
 have lp:=ze p
 have lq:=ze q
 have lz:=ze 0
 have hsp:=zbB p q l
 have hsq:=zbF p q l
 have hsl:=zbD p q l
 have hxW:bev 256 (bn bl) < 18446744073709551616 ^ 16:=by
  rw [zez 256 8 128 rfl rfl]
  refine Nat.lt_of_lt_of_le (zco 256 (bn bl) (zef bl)) ?_
  rw [show (bn bl).length=bl.length from List.length_map _]
  exact Nat.pow_le_pow_right (by decide) (by omega)
 have hfb:=λw' (hk:Keep No w w')=>zbb a n c bl w' hl hcap (hb.to hk (λ_ h=> .inr h)).sla (by omega)
 rw [if_pos hxW] at hfb
 have hf:=hf _ hxW
 have g1:decide ((n:Int) < (l:Int))=false:=decide_eq_false (by omega)
 have g2:decide ((n:Int) > (l:Int))=false:=decide_eq_false (by omega)
 generalize bev 256 (bn bl)=x at *
 have lx:=ze x
 have hal:=λw' b' (h:w'.rangeAt b' 0 (rowN [x]))=>all1c p q l f x b' cond w' hen hf h
 simp only [hc,if_true] at hal
 repeat' (first|refine s_t ?_|(refine za (id:=0) ?_;(refine zi ?_;intro _);refine zd ?_)|(refine za (id:=1) ?_;refine zb ?_;refine yv (zf (f:=73) (hc:=λw' _ hk _=>hfi w' hk)) (k:=?_);refine zb ?_;refine zh ?_;refine zh ?_;(refine zi ?_;intro _);refine yn (zM (B:=safeC p q l) (hv:=zaz p q l) (h1:=(zQ p q l).symm)) (k:=?_);refine zd ?_)|(refine za (id:=2) ?_;refine zb ?_;refine zV ?_;refine zd ?_)|(refine za (id:=4) ?_;refine zb ?_;refine zq ?_;refine zm ?_;refine yv (zw (hv:=hsl)) (k:=?_);refine yv (zP (hr:=g1)) (k:=?_);refine zd ?_)|(refine za (id:=6) ?_;refine zb ?_;refine zq ?_;refine zm ?_;refine yv (zw (hv:=hsl)) (k:=?_);refine yv (zaf (hr:=g2)) (k:=?_);refine zd ?_)|(refine za (id:=8) ?_;refine zb ?_;refine yv (zf (f:=117) (hc:=λw' _ hk _=>hfb w' hk)) (k:=?_);refine zb ?_;refine zh ?_;refine zh ?_;(refine zi ?_;intro _);refine yn (zl (n:=x)) (k:=?_);refine zd ?_)|(refine za (id:=9) ?_;refine yv (zg (B:=safeC p q l)) (k:=?_);refine zb ?_;refine yv (zg (B:=natC x)) (k:=?_))|(refine za (id:=10) ?_;refine zb ?_;refine zV ?_)|(refine za (id:=12) ?_;refine yv (zg (B:=natC x)) (k:=?_);refine yn (zl (n:=x)) (k:=?_);refine zd ?_)|(refine ys (zaO (x:=x)) (k:=?_);rintro _ _ ⟨bb,rfl,rfl⟩)|(refine zC ?_;first|refine yv (zf (f:=121) (hc:=λw' X hk hh=>hal w' _ (zz (hh.has (by exact Has.append Has.here)) Seg.all))) (k:=?_)|refine zd ?_|fail)|fail)
 exact ret2 rfl (resCells (B:=natC x) rfl (ty rfl) rfl Has.go Seg.all (ze _).symm) (resTmp rfl) SubR.nil ⟨rfl,rfl⟩
theorem zjr (z:Int) (a:Option Addr) (n c:Nat) (w:World) (hz: ¬(1<=z/\z<=4)):Sy.Fn Tryz.prog 56 [.int .i64 z,.slice a n c] w No (Gives (.tuple #[natV 0,.int .i64 2])):=by
 refine zk Tryz.func56 rfl Tryz.ntmps56 (by simp) Holds.nil ?_
 have hw:=λw' (_:Keep No w w')=>znw z 95 a n c w' hz
 have lx:=ze 0
 repeat' (first|refine s_0 ?_|(refine za (id:=0) ?_;(refine zi ?_;intro _);refine zd ?_)|(refine za (id:=1) ?_;refine zb ?_;refine zb ?_;refine yv (zf (f:=94) (hc:=λw' _ hk _=>hw w' hk)) (k:=?_);refine zh ?_;refine zh ?_;refine yn (zl (n:=0)) (k:=?_);refine zd ?_)|fail)
 exact ret2 rfl (resCells (B:=natC 0) rfl (ty rfl) rfl Has.go Seg.all (ze _).symm) (resTmp rfl) SubR.nil ⟨rfl,rfl⟩
theorem zhJ (i:Nat) (a:Option Addr) (n c:Nat) (w:World) (h0:1<=i) (h5:i<=4) (hG:GT w) (hn:n < gL i):Sy.Fn Tryz.prog 56 [.int .i64 (i:Int),.slice a n c] w No (Gives (.tuple #[natV 0,.int .i64 4])):=by
 refine zk Tryz.func56 rfl Tryz.ntmps56 (by simp) Holds.nil ?_
 have hw:=λw' (hk:Keep No w w')=>zj8 i 95 a n c w' h0 h5 (hG.to hk) hn
 have lx:=ze 0
 repeat' (first|refine s_0 ?_|(refine za (id:=0) ?_;(refine zi ?_;intro _);refine zd ?_)|(refine za (id:=1) ?_;refine zb ?_;refine zb ?_;refine yv (zf (f:=94) (hc:=λw' _ hk _=>hw w' hk)) (k:=?_);refine zh ?_;refine zh ?_;refine yn (zl (n:=0)) (k:=?_);refine zd ?_)|fail)
 exact ret2 rfl (resCells (B:=natC 0) rfl (ty rfl) rfl Has.go Seg.all (ze _).symm) (resTmp rfl) SubR.nil ⟨rfl,rfl⟩
theorem ziE (i:Nat) (a:Option Addr) (n c:Nat) (w:World) (h0:1<=i) (h5:i<=4) (hG:GT w) (hn:gL i < n):Sy.Fn Tryz.prog 56 [.int .i64 (i:Int),.slice a n c] w No (Gives (.tuple #[natV 0,.int .i64 5])):=by
 refine zk Tryz.func56 rfl Tryz.ntmps56 (by simp) Holds.nil ?_
 have hw:=λw' (hk:Keep No w w')=>zlX i 95 a n c w' h0 h5 (hG.to hk) hn
 have lx:=ze 0
 repeat' (first|refine s_0 ?_|(refine za (id:=0) ?_;(refine zi ?_;intro _);refine zd ?_)|(refine za (id:=1) ?_;refine zb ?_;refine zb ?_;refine yv (zf (f:=94) (hc:=λw' _ hk _=>hw w' hk)) (k:=?_);refine zh ?_;refine zh ?_;refine yn (zl (n:=0)) (k:=?_);refine zd ?_)|fail)
 exact ret2 rfl (resCells (B:=natC 0) rfl (ty rfl) rfl Has.go Seg.all (ze _).symm) (resTmp rfl) SubR.nil ⟨rfl,rfl⟩
theorem zgq (i:Nat) (a:Option Addr) (n c:Nat) (bl:List UInt8) (w:World) (h0:1<=i) (h5:i<=4) (hG:GT w) (hn:n=gL i) (hl:bl.length=n) (hcap:n<=c) (hb:SlA w a (bl.map v8)) (hc:memB (gP i) (gQ i) (bev 256 (bn bl))=false):Sy.Fn Tryz.prog 56 [.int .i64 (i:Int),.slice a n c] w No (Gives (.tuple #[natV 0,.int .i64 3])):=by
 refine zk Tryz.func56 rfl Tryz.ntmps56 (by simp) Holds.nil ?_
 have hw:=λw' (hk:Keep No w w')=>zoI i 95 (memB (gP i) (gQ i)) a n c bl w' h0 h5 (hG.to hk) hn hl hcap (hb.to hk (λ_ h=> .inr h)).sla (en rfl) (λx hx w''=>zch _ _ _ x w'' (zaW i h0 h5) (za3 i h0 h5) (by have:=zav i h0 h5;omega) hx) hc
 have lx:=ze 0
 repeat' (first|refine s_0 ?_|(refine za (id:=0) ?_;(refine zi ?_;intro _);refine zd ?_)|(refine za (id:=1) ?_;refine zb ?_;refine zb ?_;refine yv (zf (f:=94) (hc:=λw' _ hk _=>hw w' hk)) (k:=?_);refine zh ?_;refine zh ?_;refine yn (zl (n:=0)) (k:=?_);refine zd ?_)|fail)
 exact ret2 rfl (resCells (B:=natC 0) rfl (ty rfl) rfl Has.go Seg.all (ze _).symm) (resTmp rfl) SubR.nil ⟨rfl,rfl⟩
theorem zey (i:Nat) (a:Option Addr) (n c:Nat) (bl:List UInt8) (w:World) (h0:1<=i) (h5:i<=4) (hG:GT w) (hn:n=gL i) (hl:bl.length=n) (hcap:n<=c) (hb:SlA w a (bl.map v8)) (hc:memB (gP i) (gQ i) (bev 256 (bn bl))=true):Sy.Fn Tryz.prog 56 [.int .i64 (i:Int),.slice a n c] w No (Gives (.tuple #[natV (bev 256 (bn bl)),.int .i64 0])):=by
 refine zk Tryz.func56 rfl Tryz.ntmps56 (by simp) Holds.nil ?_
 have hw:=λw' (hk:Keep No w w')=>zoN i 95 (memB (gP i) (gQ i)) a n c bl w' h0 h5 (hG.to hk) hn hl hcap (hb.to hk (λ_ h=> .inr h)).sla (en rfl) (λx hx w''=>zch _ _ _ x w'' (zaW i h0 h5) (za3 i h0 h5) (by have:=zav i h0 h5;omega) hx) hc
 have lx:=ze (bev 256 (bn bl))
 generalize bev 256 (bn bl)=x at *
 repeat' (first|refine s_0 ?_|(refine za (id:=0) ?_;(refine zi ?_;intro _);refine zd ?_)|(refine za (id:=1) ?_;refine zb ?_;refine zb ?_;refine yv (zf (f:=94) (hc:=λw' _ hk _=>hw w' hk)) (k:=?_);refine zh ?_;refine zh ?_;refine yn (zl (n:=x)) (k:=?_);refine zd ?_)|fail)
 exact ret2 rfl (resCells (B:=natC x) rfl (ty rfl) rfl Has.go Seg.all (ze _).symm) (resTmp rfl) SubR.nil ⟨rfl,rfl⟩
set_option maxHeartbeats 1000000 in
theorem zhq (i:Nat) (a:Option Addr) (n c:Nat) (bl:List UInt8) (w:World) (h0:1<=i) (h5:i<=4) (hG:GT w) (hl:bl.length=n) (hcap:n<=c) (hc2:n < 1000000) (hb:SlA w a (bl.map v8)):
  Sy.Fn Tryz.prog 77 [.int .i64 (i:Int),.slice a n c] w No (Gives (.tuple #[natV (bev 256 (bn bl) % gQ i),.int .i64 0])):=by
 refine zk Tryz.func77 rfl Tryz.ntmps77 (by simp) Holds.nil ?_
 have hW:=zaW i h0 h5
 have hQW:=za3 i h0 h5
 have hp1:=zav i h0 h5
 have hq0:=zaF i h0 h5
 have hfi:=λw' (hk:Keep No w w')=>zby i w' h0 h5 (hG.to hk)
 generalize gP i=p at *
 generalize gQ i=q at *
 generalize gL i=l at *
 have lS:=zQ p q l
 have lp:=ze p
 have lq:=ze q
 have lz:=ze 0
 have hsp:=zbB p q l
 have hsq:=zbF p q l
 have hsl:=zbD p q l
 have hq00:0 < q:=by omega
 have hRW:256 ^ 32 < 18446744073709551616 ^ 16:=by
  rw [zez 256 8 128 rfl rfl];exact Nat.pow_lt_pow_right (by decide) (by decide)
 have hrad:=λw' aR cR (h:SlA w' aR ((1::List.replicate 32 0:List UInt8).map v8)) (hc:32+1<=cR)=>zbb aR (32+1) cR (1::List.replicate 32 0) w' (by simp) hc h (by omega)
 rw [zh5,if_pos hRW] at hrad
 have hys: [Value.int IntKind.u8 1] ++ List.replicate 32 (Value.int IntKind.u8 0)=(1::List.replicate 32 0:List UInt8).map v8:=by
  rw [List.map_cons,List.map_replicate];rfl
 have lr:=ze (256 ^ 32)
 generalize hrd:256 ^ 32=rad at *
 obtain ⟨f,hf⟩: ∃f,f=n % 32:=⟨_,rfl⟩
 have hf32:f < 32:=by rw [hf];exact Nat.mod_lt _ (by decide)
 have hfn:f<=n:=by rw [hf];exact Nat.mod_le _ _
 obtain ⟨k,hk⟩: ∃k,n=f+32*k:=⟨n / 32,by rw [hf];have:=Nat.div_add_mod n 32;omega⟩
 have hrem:(n:Int).tmod 32=((f:Nat):Int):=by rw [hf];exact remI n 32
 have chunkW: ∀D:List UInt8,D.length<=32->bev 256 (bn D) < 18446744073709551616 ^ 16:=λD hD=>by
  rw [zez 256 8 128 rfl rfl]
  refine Nat.lt_of_lt_of_le (zco 256 (bn D) (zef D)) ?_
  rw [show (bn D).length=D.length from List.length_map _]
  exact Nat.pow_le_pow_right (by decide) (by omega)
 have hf0:=λw' (hk:Keep No w w')=>zbb a f f (bl.take f) w' (by rw [List.length_take];omega) (Nat.le_refl _) (by rw [List.map_take];exact ((hb.to hk (λ_ h=> .inr h)).sla).take _) (by omega)
 rw [if_pos (chunkW (bl.take f) (by rw [List.length_take];omega))] at hf0
 have hd0W:=chunkW (bl.take f) (by rw [List.length_take];omega)
 have hrd0:=λw'=>znu (bev 256 (bn (bl.take f))) q w' hd0W hQW
 unfold modR at hrd0
 simp only [if_neg (show ¬q=0 by omega)] at hrd0
 have ld0:=ze (bev 256 (bn (bl.take f)))
 have lr0:=ze (bev 256 (bn (bl.take f)) % q)
 clear hf
 repeat' (first|refine s_0 ?_|(refine za (id:=0) ?_;(refine zi ?_;intro _);refine zd ?_)|(refine za (id:=1) ?_;refine zb ?_;refine yv (zf (f:=73) (hc:=λw' _ hk _=>hfi w' hk)) (k:=?_);refine zb ?_;refine zh ?_;refine zh ?_;(refine zi ?_;intro _);refine yn (zM (B:=safeC p q l) (hv:=zaz p q l) (h1:=(zQ p q l).symm)) (k:=?_);refine zd ?_)|(refine za (id:=2) ?_;refine zb ?_;refine zV ?_)|(refine za (id:=4) ?_;(refine ys zt (k:=?_);rintro _ _ ⟨_,rfl,rfl⟩);(refine ys (OpT.conv (zb6 (n:=1) (s:=1) (by repeat (first|exact Rem.here|apply Rem.there)) rfl (by unfold maxLen;omega)) (zhk (k:=1) (m:=32) (km:=32+1) (hm:=rfl) (hL:=Rem.here) (hkm:=rfl) (hys:=hys))) (k:=?_);rintro _ _ ⟨rfl,aR,cR,rfl⟩);refine yv (zf (f:=117) (hc:=λw' _ _ hh=>hrad w' _ _ (zu hh (by exact Has.append Has.go)) (Row.cap (n:=32+1) hh (by exact Has.append Has.go)))) (k:=?_);refine zb ?_;refine zh ?_;refine zh ?_;(refine zi ?_;intro _);refine yn (zl (n:=rad)) (k:=?_);refine zd ?_)|(refine za (id:=5) ?_;refine zb ?_;refine zq ?_;refine yv (zau (hr:=hrem)) (k:=?_);refine zd ?_)|fail)
 rename_i b4 b6 wx b8
 refine Sy.weaken (fr':=[(1,.slice a n c),(4,.pointer (some ⟨b4,0,none⟩)),(6,.pointer (some ⟨b6,0,none⟩)),(8,.pointer (some ⟨b8,0,none⟩)),(10,.int .i64 f)]) (L':=[.blk b8 73 (natC rad),.blk b6 109 (safeC p q l),.blk b4 73 (List.replicate 16 (Value.int IntKind.u64 0))]) ?_ (by exact Sub.go) (by exact SubR.go2)
 clear hrad hys hfi
 generalize hD0:bev 256 (bn (bl.take f))=d0 at *
 generalize hr0:d0 % q=r0 at *
 repeat' (first|refine s_t ?_|(refine za (id:=6) ?_;refine zb ?_;refine zb ?_;refine zb ?_;refine yv (zbp (l:=0) (h:=f) (m:=f) (n':=f) (c':=f)) (k:=?_);refine yv (zf (f:=117) (hc:=λw' _ hk _=>hf0 w' hk)) (k:=?_);refine zb ?_;refine zh ?_;refine zh ?_;(refine zi ?_;intro _);refine yn (zl (n:=d0)) (k:=?_);refine zd ?_)|(refine za (id:=7) ?_;refine yv (zg (B:=natC d0)) (k:=?_);refine zm ?_;refine yv (zg (B:=natC q) (hv:=hsq)) (k:=?_);refine yv (zf (hc:=λ_ _ _ _=>(hrd0 _))) (k:=?_);refine zb ?_;refine zh ?_;refine zh ?_;refine yn (zl (n:=r0)) (k:=?_))|(refine za (id:=8) ?_;refine zb ?_;refine zd ?_)|fail)
 rename_i b11
 refine zE (γ:=Nat) (λj=>[(1,.slice a n c),(4,.pointer (some ⟨b4,0,none⟩)),(6,.pointer (some ⟨b6,0,none⟩)),(8,.pointer (some ⟨b8,0,none⟩)),(11,.pointer (some ⟨b11,0,none⟩)),(13,.int .i64 ((f+32*j:Nat):Int))])
  (λj=>[.blk b11 73 (natC (bev 256 (bn (bl.take (f+32*j))) % q)),.blk b8 73 (natC rad),.blk b6 109 (safeC p q l),.blk b4 73 (List.replicate 16 (Value.int IntKind.u64 0))])
  (λj=>j<=k) (λj=>k - j) 0 (Nat.zero_le _) ?_ ?_ ?_
 ·exact Sub.go
 ·show SubR [.blk b11 73 (natC (bev 256 (bn (bl.take f)) % q)),.blk b8 73 (natC rad),.blk b6 109 (safeC p q l),.blk b4 73 (List.replicate 16 (Value.int IntKind.u64 0))] _
  rw [hD0,hr0]
  exact SubR.go2
 clear hf0 hrd0 ld0 lr0 hd0W
 intro j hj
 rcases Nat.lt_or_ge j k with h|h
 ·have hlt:decide (((f+32*j:Nat):Int) < (n:Int))=true:=decide_eq_true (by omega)
  have hadd:IntKind.i64.wrap (((f+32*j:Nat):Int)+32)=((f+32*j+32:Nat):Int):=by rw [IntWalk.i64_in _ (by omega)];omega
  have hch:=zid bl (f+32*j) 32 (by omega)
  rw [hrd] at hch
  have hcl:((bl.take (f+32*j+32)).drop (f+32*j)).length=32:=by rw [List.length_drop,List.length_take];omega
  have hcW:=chunkW ((bl.take (f+32*j+32)).drop (f+32*j)) (by omega)
  have hfb:=λw' (hk:Keep No w w')=>zbb (movA a (f+32*j) (f+32*j+32) 1) 32 32 ((bl.take (f+32*j+32)).drop (f+32*j)) w' hcl (Nat.le_refl _) (by
   rw [List.map_drop,List.map_take]
   exact (((hb.to hk (λ_ h=> .inr h)).sla).take _).mov (by rw [List.length_take];omega)) (by omega)
  rw [if_pos hcW] at hfb
  have hst:=zl7 q (bev 256 (bn (bl.take (f+32*j)))) rad (bev 256 (bn ((bl.take (f+32*j+32)).drop (f+32*j))))
  rw [<-hch] at hst
  have hrW:=Nat.lt_trans (Nat.mod_lt (bev 256 (bn (bl.take (f+32*j)))) hq00) hQW
  generalize bev 256 (bn ((bl.take (f+32*j+32)).drop (f+32*j)))=d at *
  generalize bev 256 (bn (bl.take (f+32*j))) % q=R0 at *
  have hM:=λw'=>zhN R0 rad q w' hrW hRW hQW
  have hpW:=Nat.lt_trans (Nat.mod_lt (R0*rad) hq00) hQW
  have hA:=λw'=>zpu (R0*rad % q) d q w' hpW hcW hQW
  unfold modR at hM hA
  simp only [if_neg (show ¬q=0 by omega)] at hM hA
  rw [hst] at hA
  have l1:=ze R0
  have l2:=ze d
  have l3:=ze (R0*rad % q)
  have hcur:bev 256 (bn (bl.take (f+32*(j+1)))) % q=bev 256 (bn (bl.take (f+32*j+32))) % q:=by rw [show f+32*(j+1)=f+32*j+32 by omega]
  have hnx:((f+32*(j+1):Nat):Int)=((f+32*j+32:Nat):Int):=by omega
  rw [<-hcur] at hA
  have l4:=ze (bev 256 (bn (bl.take (f+32*(j+1)))) % q)
  clear hst hch hcur
  generalize hnew:bev 256 (bn (bl.take (f+32*(j+1)))) % q=R1 at *
  generalize R0*rad % q=P at *
  repeat' (first|refine s_t ?_|(refine za (id:=9) ?_;refine zb ?_;refine zb ?_;refine zq ?_;refine yv (zP (hr:=hlt)) (k:=?_))|(refine za (id:=11) ?_;refine zb ?_;refine zb ?_;refine zb ?_;refine yv (zL (hr:=hadd)) (k:=?_);refine zb ?_;refine yv (zL (hr:=hadd)) (k:=?_);refine yv (zbp (l:=f+32*j) (h:=f+32*j+32) (m:=f+32*j+32) (n':=32) (c':=32) (hn':=by omega) (hc':=by omega)) (k:=?_);refine yv (zf (f:=117) (hc:=λw' _ hk _=>hfb w' hk)) (k:=?_);refine zb ?_;refine zh ?_;refine zh ?_;(refine zi ?_;intro _);refine yn (zl (n:=d)) (k:=?_);refine zd ?_)|(refine za (id:=12) ?_;refine yv (zg (B:=natC R0)) (k:=?_);refine yv (zg (B:=natC rad)) (k:=?_);refine zm ?_;refine yv (zg (B:=natC q) (hv:=hsq)) (k:=?_);refine yv (zf (hc:=λ_ _ _ _=>(hM _))) (k:=?_);refine zb ?_;refine zh ?_;refine zh ?_;refine yn (zl (n:=P)) (k:=?_))|(refine za (id:=13) ?_;refine yv (zg (B:=natC P)) (k:=?_);refine yv (zg (B:=natC d)) (k:=?_);refine zm ?_;refine yv (zg (B:=natC q) (hv:=hsq)) (k:=?_);refine yv (zf (hc:=λ_ _ _ _=>(hA _))) (k:=?_);refine zb ?_;refine zh ?_;refine zh ?_;refine yn (zl (n:=R1)) (k:=?_))|(refine za (id:=10) ?_;refine zb ?_;refine yv (zL (hr:=hadd)) (k:=?_);refine zd ?_)|fail)
  refine zy (j+1) ?_ ?_ ?_ ?_
  ·show j+1<=k;omega
  ·show k - (j+1) < k - j;omega
  ·rw [hnx]
   exact Sub.go
  ·show SubR [.blk b11 73 (natC (bev 256 (bn (bl.take (f+32*(j+1)))) % q)),.blk b8 73 (natC rad),.blk b6 109 (safeC p q l),.blk b4 73 (List.replicate 16 (Value.int IntKind.u64 0))] _
   rw [hnew]
   exact SubR.go2
 ·obtain rfl:j=k:=by omega
  have hlt:decide (((f+32*j:Nat):Int) < (n:Int))=false:=decide_eq_false (by omega)
  rw [List.take_of_length_le (by omega)]
  have lR:=ze (bev 256 (bn bl) % q)
  generalize bev 256 (bn bl) % q=R at *
  repeat' (first|refine s_0 ?_|(refine za (id:=9) ?_;refine zb ?_;refine zb ?_;refine zq ?_;refine yv (zP (hr:=hlt)) (k:=?_))|(refine za (id:=14) ?_;refine yv (zg (B:=natC R)) (k:=?_);refine yn (zl (n:=R)) (k:=?_);refine zd ?_)|fail)
  exact ret2 rfl (resCells (B:=natC R) rfl (ty rfl) rfl Has.go Seg.all (ze _).symm) (resTmp rfl) SubR.nil ⟨rfl,rfl⟩
end Go.Proofs.YtcpjfilcilcekaaGreatDoor
end
section
namespace Go.Proofs.YtcpjfilcilcekaaGreatDoor
open Go Go.Sy Go.Nt Go.RowKit
attribute [local irreducible] Sy SyL SyX Sy.Fn callFunc natC rowN refC iC gP gQ gL memB safeC fixB
set_option maxRecDepth 10000
def gel (z:Int) (l:List UInt8):Nat×Int:=
 if 1<=z/\z<=4 then if l.length < gL z.toNat then (0,4) else if gL z.toNat < l.length then (0,5) else if memB (gP z.toNat) (gQ z.toNat) (bev 256 (bn l)) then (bev 256 (bn l),0) else (0,3) else (0,2)
def glen (z:Int):Nat:=if 1<=z/\z<=4 then gL z.toNat else 0
theorem zo9 {z:Int}(hz:1<=z/\z<=4): ∃i:Nat,z=(i:Int)/\z.toNat=i/\1<=i/\i<=4:=⟨z.toNat,by omega,rfl,by omega,by omega⟩
theorem zqD (z:Int) (a:Option Addr) (n c:Nat) (bl:List UInt8) (w:World) (hG:GT w) (hl:bl.length=n) (hc:n<=c) (hb:SlA w a (bl.map v8)):
  Sy.Fn Tryz.prog 56 [.int .i64 z,.slice a n c] w No (Gives (.tuple #[natV (gel z bl).1,.int .i64 (gel z bl).2])):=by
 unfold gel
 by_cases hz:1<=z/\z<=4
 ·rw [if_pos hz]
  obtain ⟨i,rfl,hi,h0,h5⟩:=zo9 hz
  rw [hi,hl]
  by_cases h1:n < gL i
  ·rw [if_pos h1];exact zhJ i a n c w h0 h5 hG h1
  rw [if_neg h1]
  by_cases h2:gL i < n
  ·rw [if_pos h2];exact ziE i a n c w h0 h5 hG h2
  rw [if_neg h2]
  by_cases h3:memB (gP i) (gQ i) (bev 256 (bn bl))=true
  ·rw [if_pos h3];exact zey i a n c bl w h0 h5 hG (by omega) hl hc hb h3
  ·rw [if_neg h3];exact zgq i a n c bl w h0 h5 hG (by omega) hl hc hb (by simpa using h3)
 ·rw [if_neg hz];exact zjr z a n c w hz
theorem znH (z:Int) (w:World) (hG:GT w):Sy.Fn Tryz.prog 29 [.int .i64 z] w No (Gives (.int .i64 ((glen z:Nat):Int))):=by
 unfold glen
 by_cases hz:1<=z/\z<=4
 ·rw [if_pos hz]
  obtain ⟨i,rfl,hi,h0,h5⟩:=zo9 hz
  rw [hi];exact zkA i w h0 h5 hG
 ·rw [if_neg hz];exact zoJ z w hz
end Go.Proofs.YtcpjfilcilcekaaGreatDoor
end
section
namespace Go.Nt
end Go.Nt
end
section
namespace Go.Nt
theorem bevW' {l:List UInt8}(h:l.length<=128):bev 256 (bn l) < 18446744073709551616 ^ 16:=by
 rw [zez 256 8 128 rfl rfl]
 refine Nat.lt_of_lt_of_le (zco 256 (bn l) (zef l)) ?_
 rw [show (bn l).length=l.length from List.length_map _]
 exact Nat.pow_le_pow_right (by decide) h
end Go.Nt
namespace Go.Proofs.YtcpjfilcilcekaaGreatDoor
open Go Go.Sy Go.Nt Go.RowKit
theorem zjP (l x:Nat):bev 256 (bn (fixB l x))=x:=by unfold fixB;rw [zfQ,zkB]
theorem ziQ {i x:Nat}(h0:1<=i) (h5:i<=4) (h:x < gQ i):nd 256 x<=gL i:=zej h0 h5 (Nat.lt_of_lt_of_le h (zrh i))
end Go.Proofs.YtcpjfilcilcekaaGreatDoor
end
