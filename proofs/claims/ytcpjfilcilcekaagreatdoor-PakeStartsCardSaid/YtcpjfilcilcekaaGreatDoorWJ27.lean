/- The functions of layer group: bytes written and read, the scalar of bytes, all groups. -/
import Derived.Test.YtcpjfilcilcekaaGreatDoorWJ26
import Derived.Test.YtcpjfilcilcekaaGreatDoorWJ07
import Derived.Test.YtcpjfilcilcekaaGreatDoorWJ21
set_option linter.all false
section
namespace Go.Nt
open Go Go.Sy
theorem zd2 {i x:Nat}(h0:1<=i) (h5:i<=4) (h:x < gP i):nd 256 x<=gL i:=by
  rw [<-zgX i h0 h5]
  exact zak 256 x _ (by decide) (Nat.lt_trans h (zaa 256 (gP i) (by decide)))
theorem zpz {p q x:Nat}(h:memB p q x=true):x < p:=by
  unfold memB at h
  exact (of_decide_eq_true h).2.1
theorem zqt (i:Nat):gQ i<=gP i:=Nat.div_le_self _ _
theorem zmf (q X R d:Nat):(X % q*R % q+d) % q=(X*R+d) % q:=by
  rw [Nat.mod_mul_mod,Nat.mod_add_mod]
end Go.Nt
namespace Go.Proofs.YtcpjfilcilcekaaGreatDoor
open Go Go.Sy Go.Nt Go.RowKit
attribute [local irreducible] Sy SyL SyX Sy.Fn callFunc natC rowN safeC gP gQ gL gS gCells memB
set_option maxRecDepth 10000
def FixG (i x:Nat) (v:Value) (R:List Res):Prop:=∃a c,v= .tuple #[.slice a (gL i) c,.int .i64 0]/\R= [.row (.slice a (gL i) c) 5 1 (gL i) ((fixB (gL i) x).map v8)]
theorem zh5 (i x f:Nat) (cond:Nat->Bool) (w:World) (h0:1<=i) (h5:i<=4) (hG:GT w) (hx:x < 18446744073709551616 ^ 16) (hen: ∀args w,(callFunc f args).run Tryz.prog w= .ok (.enter f args) w) (hf: ∀w',Sy.Fn Tryz.prog f [safeV (gP i) (gQ i) (gL i),natV x] w' No (Gives (.bool (cond x)))) (hc:cond x=true) (hlt:x < gP i):Sy.Fn Tryz.prog 101 [.int .i64 (i:Int),natV x,.func (.func f) #[] #[]] w No (FixG i x):=by
  refine zk Tryz.func101 rfl Tryz.ntmps101 (by simp) Holds.nil ?_
  have lx:=ze x
  have hnd:=zd2 h0 h5 hlt
  have hl96:=(zdl i h0 h5).2
  unfold FixG
  have hW:=za8 i h0 h5
  have hQW:=zbq i h0 h5
  have hp1:=zax i h0 h5
  have hq0:=zaI i h0 h5
  have hfi:=λw' (hk:Keep No w w')=>zbS i w' h0 h5 (hG.to hk)
  generalize gP i=p at *
  generalize gQ i=q at *
  generalize gL i=l at *
  have lS:=zQ p q l
  have lp:=ze p
  have lq:=ze q
  have lz:=ze 0
  have hsp:=zbI p q l
  have hsq:=zbH p q l
  have hsl:=zbQ p q l
  have hal:=λw' b' (h:w'.rangeAt b' 0 (rowN [x]))=>all1c p q l f x b' cond w' hen hf h
  simp only [hc,if_true] at hal
  have hfx:=λw'=>zok p q l x w' hx hnd (by omega)
  unfold RowOf at hfx
  generalize fixB l x=F at *
  repeat' (first|refine s_0 ?_|(refine za (id:=0) ?_;(refine zi ?_;intro _);refine zd ?_;refine zd ?_)|(refine za (id:=1) ?_;refine zb ?_;refine yv (zf (f:=73) (hc:=λw' _ hk _=>hfi w' hk)) (k:=?_);refine zb ?_;refine zh ?_;refine zh ?_;(refine zi ?_;intro _);refine yn (zR (B:=safeC p q l) (hv:=zaC p q l) (h1:=(zQ p q l).symm)) (k:=?_);refine zd ?_)|(refine za (id:=2) ?_;refine zb ?_;refine zP ?_)|(refine za (id:=4) ?_;refine yv (zg (B:=safeC p q l)) (k:=?_);refine zb ?_;refine yv (zg (B:=natC x)) (k:=?_))|(refine za (id:=5) ?_;refine zb ?_;refine zP ?_)|(refine za (id:=7) ?_;refine yv (zg (B:=safeC p q l)) (k:=?_);refine yv (zg (B:=natC x)) (k:=?_);(refine ys (zn (f:=136) (hc:=λw' X hk hh=>hfx w')) (k:=?_);rintro _ _ ⟨R,rfl,aF,cF,rfl,rfl⟩);refine zd ?_;refine zd ?_)|(refine ys (zaE (x:=x)) (k:=?_);rintro _ _ ⟨bb,rfl,rfl⟩)|(refine zB ?_;first|refine yv (zf (f:=121) (hc:=λw' X hk hh=>hal w' _ (zz (hh.has (by exact Has.append Has.here)) Seg.all))) (k:=?_)|refine zd ?_|fail)|fail)
  exact ret2 rfl (resTmp rfl) (resTmp rfl) (by exact SubR.go2) ⟨_,_,rfl,rfl⟩
theorem zh0 (i x:Nat) (w:World) (h0:1<=i) (h5:i<=4) (hG:GT w) (hx:x < 18446744073709551616 ^ 16) (hc:memB (gP i) (gQ i) x=true):Sy.Fn Tryz.prog 62 [.int .i64 (i:Int),natV x] w No (FixG i x):=by
  refine zk Tryz.func62 rfl Tryz.ntmps62 (by simp) Holds.nil ?_
  have lx:=ze x
  have hw:=λw' (hk:Keep No w w')=>zh5 i x 95 (memB (gP i) (gQ i)) w' h0 h5 (hG.to hk) hx (en rfl) (λw''=>zcc _ _ _ x w'' (za8 i h0 h5) (zbq i h0 h5) (by have:=zax i h0 h5;omega) hx) hc (zpz hc)
  unfold FixG at *
  repeat' (first|refine s_0 ?_|(refine za (id:=0) ?_;(refine zi ?_;intro _);refine zd ?_;refine zd ?_)|(refine za (id:=1) ?_;refine zb ?_;refine yv (zg (B:=natC x)) (k:=?_);(refine ys (zn (f:=101) (hc:=λw' X hk hh=>hw w' hk)) (k:=?_);rintro _ _ ⟨R,rfl,aF,cF,rfl,rfl⟩);refine zh ?_;refine zh ?_;refine zd ?_;refine zd ?_)|fail)
  exact ret2 rfl (resTmp rfl) (resTmp rfl) (by exact SubR.go2) ⟨_,_,rfl,rfl⟩
theorem zk5 (i x:Nat) (w:World) (h0:1<=i) (h5:i<=4) (hG:GT w) (hx:x < 18446744073709551616 ^ 16) (hc:decide (x < gQ i)=true):Sy.Fn Tryz.prog 98 [.int .i64 (i:Int),natV x] w No (FixG i x):=by
  refine zk Tryz.func98 rfl Tryz.ntmps98 (by simp) Holds.nil ?_
  have lx:=ze x
  have hw:=λw' (hk:Keep No w w')=>zh5 i x 122 (λy=>decide (y < gQ i)) w' h0 h5 (hG.to hk) hx (en rfl) (λw''=>zfn _ _ _ x w'' (zbq i h0 h5) hx) hc (Nat.lt_of_lt_of_le (of_decide_eq_true hc) (zqt i))
  unfold FixG at *
  repeat' (first|refine s_0 ?_|(refine za (id:=0) ?_;(refine zi ?_;intro _);refine zd ?_;refine zd ?_)|(refine za (id:=1) ?_;refine zb ?_;refine yv (zg (B:=natC x)) (k:=?_);(refine ys (zn (f:=101) (hc:=λw' X hk hh=>hw w' hk)) (k:=?_);rintro _ _ ⟨R,rfl,aF,cF,rfl,rfl⟩);refine zh ?_;refine zh ?_;refine zd ?_;refine zd ?_)|fail)
  exact ret2 rfl (resTmp rfl) (resTmp rfl) (by exact SubR.go2) ⟨_,_,rfl,rfl⟩
theorem znT (i f:Nat) (cond:Nat->Bool) (a:Option Addr) (n c:Nat) (bl:List UInt8) (w:World) (h0:1<=i) (h5:i<=4) (hG:GT w) (hn:n=gL i) (hl:bl.length=n) (hcap:n<=c) (hb:SlA w a (bl.map v8)) (hen: ∀args w,(callFunc f args).run Tryz.prog w= .ok (.enter f args) w) (hf: ∀x,x < 18446744073709551616 ^ 16-> ∀w',Sy.Fn Tryz.prog f [safeV (gP i) (gQ i) (gL i),natV x] w' No (Gives (.bool (cond x)))) (hc:cond (bev 256 (bn bl))=false):
    Sy.Fn Tryz.prog 94 [.int .i64 (i:Int),.slice a n c,.func (.func f) #[] #[]] w No (Gives (.tuple #[natV 0,.int .i64 3])):=by
  refine zk Tryz.func94 rfl Tryz.ntmps94 (by simp) Holds.nil ?_
  have hl96:=(zdl i h0 h5).2
  have hW:=za8 i h0 h5
  have hQW:=zbq i h0 h5
  have hp1:=zax i h0 h5
  have hq0:=zaI i h0 h5
  have hfi:=λw' (hk:Keep No w w')=>zbS i w' h0 h5 (hG.to hk)
  generalize gP i=p at *
  generalize gQ i=q at *
  generalize gL i=l at *
  have lS:=zQ p q l
  have lp:=ze p
  have lq:=ze q
  have lz:=ze 0
  have hsp:=zbI p q l
  have hsq:=zbH p q l
  have hsl:=zbQ p q l
  have hxW:bev 256 (bn bl) < 18446744073709551616 ^ 16:=by
    rw [zef 256 8 128 rfl rfl]
    refine Nat.lt_of_lt_of_le (zcg 256 (bn bl) (zdX bl)) ?_
    rw [show (bn bl).length=bl.length from List.length_map _]
    exact Nat.pow_le_pow_right (by decide) (by omega)
  have hfb:=λw' (hk:Keep No w w')=>za4 a n c bl w' hl hcap (hb.to hk (λ_ h=> .inr h)).sla (by omega)
  rw [if_pos hxW] at hfb
  have hf:=hf _ hxW
  have g1:decide ((n:Int) < (l:Int))=false:=decide_eq_false (by omega)
  have g2:decide ((n:Int) > (l:Int))=false:=decide_eq_false (by omega)
  generalize bev 256 (bn bl)=x at *
  have lx:=ze x
  have hal:=λw' b' (h:w'.rangeAt b' 0 (rowN [x]))=>all1c p q l f x b' cond w' hen hf h
  simp only [hc,Bool.false_eq_true,if_false] at hal
  repeat' (first|refine s_t ?_|(refine za (id:=0) ?_;(refine zi ?_;intro _);refine zd ?_)|(refine za (id:=1) ?_;refine zb ?_;refine yv (zf (f:=73) (hc:=λw' _ hk _=>hfi w' hk)) (k:=?_);refine zb ?_;refine zh ?_;refine zh ?_;(refine zi ?_;intro _);refine yn (zR (B:=safeC p q l) (hv:=zaC p q l) (h1:=(zQ p q l).symm)) (k:=?_);refine zd ?_)|(refine za (id:=2) ?_;refine zb ?_;refine zP ?_;refine zd ?_)|(refine za (id:=4) ?_;refine zb ?_;refine zr ?_;refine zm ?_;refine yv (zH (hv:=hsl)) (k:=?_);refine yv (zT (hr:=g1)) (k:=?_);refine zd ?_)|(refine za (id:=6) ?_;refine zb ?_;refine zr ?_;refine zm ?_;refine yv (zH (hv:=hsl)) (k:=?_);refine yv (zaq (hr:=g2)) (k:=?_);refine zd ?_)|(refine za (id:=8) ?_;refine zb ?_;refine yv (zf (f:=117) (hc:=λw' _ hk _=>hfb w' hk)) (k:=?_);refine zb ?_;refine zh ?_;refine zh ?_;(refine zi ?_;intro _);refine yn (zj (n:=x)) (k:=?_);refine zd ?_)|(refine za (id:=9) ?_;refine yv (zg (B:=safeC p q l)) (k:=?_);refine zb ?_;refine yv (zg (B:=natC x)) (k:=?_))|(refine za (id:=10) ?_;refine zb ?_;refine zP ?_)|(refine za (id:=11) ?_;refine yv za0 (k:=?_);refine zb ?_;refine yn (zj (n:=0)) (k:=?_);refine zd ?_)|(refine ys (zaE (x:=x)) (k:=?_);rintro _ _ ⟨bb,rfl,rfl⟩)|(refine zB ?_;first|refine yv (zf (f:=121) (hc:=λw' X hk hh=>hal w' _ (zz (hh.has (by exact Has.append Has.here)) Seg.all))) (k:=?_)|refine zd ?_|fail)|fail)
  exact ret2 rfl (resCells (B:=natC 0) rfl (ty rfl) rfl Has.go Seg.all (ze _).symm) (resTmp rfl) SubR.nil ⟨rfl,rfl⟩
theorem zoc (i f:Nat) (cond:Nat->Bool) (a:Option Addr) (n c:Nat) (bl:List UInt8) (w:World) (h0:1<=i) (h5:i<=4) (hG:GT w) (hn:n=gL i) (hl:bl.length=n) (hcap:n<=c) (hb:SlA w a (bl.map v8)) (hen: ∀args w,(callFunc f args).run Tryz.prog w= .ok (.enter f args) w) (hf: ∀x,x < 18446744073709551616 ^ 16-> ∀w',Sy.Fn Tryz.prog f [safeV (gP i) (gQ i) (gL i),natV x] w' No (Gives (.bool (cond x)))) (hc:cond (bev 256 (bn bl))=true):
    Sy.Fn Tryz.prog 94 [.int .i64 (i:Int),.slice a n c,.func (.func f) #[] #[]] w No (Gives (.tuple #[natV (bev 256 (bn bl)),.int .i64 0])):=by
  refine zk Tryz.func94 rfl Tryz.ntmps94 (by simp) Holds.nil ?_
  have hl96:=(zdl i h0 h5).2
  have hW:=za8 i h0 h5
  have hQW:=zbq i h0 h5
  have hp1:=zax i h0 h5
  have hq0:=zaI i h0 h5
  have hfi:=λw' (hk:Keep No w w')=>zbS i w' h0 h5 (hG.to hk)
  generalize gP i=p at *
  generalize gQ i=q at *
  generalize gL i=l at *
  have lS:=zQ p q l
  have lp:=ze p
  have lq:=ze q
  have lz:=ze 0
  have hsp:=zbI p q l
  have hsq:=zbH p q l
  have hsl:=zbQ p q l
  have hxW:bev 256 (bn bl) < 18446744073709551616 ^ 16:=by
    rw [zef 256 8 128 rfl rfl]
    refine Nat.lt_of_lt_of_le (zcg 256 (bn bl) (zdX bl)) ?_
    rw [show (bn bl).length=bl.length from List.length_map _]
    exact Nat.pow_le_pow_right (by decide) (by omega)
  have hfb:=λw' (hk:Keep No w w')=>za4 a n c bl w' hl hcap (hb.to hk (λ_ h=> .inr h)).sla (by omega)
  rw [if_pos hxW] at hfb
  have hf:=hf _ hxW
  have g1:decide ((n:Int) < (l:Int))=false:=decide_eq_false (by omega)
  have g2:decide ((n:Int) > (l:Int))=false:=decide_eq_false (by omega)
  generalize bev 256 (bn bl)=x at *
  have lx:=ze x
  have hal:=λw' b' (h:w'.rangeAt b' 0 (rowN [x]))=>all1c p q l f x b' cond w' hen hf h
  simp only [hc,if_true] at hal
  repeat' (first|refine s_t ?_|(refine za (id:=0) ?_;(refine zi ?_;intro _);refine zd ?_)|(refine za (id:=1) ?_;refine zb ?_;refine yv (zf (f:=73) (hc:=λw' _ hk _=>hfi w' hk)) (k:=?_);refine zb ?_;refine zh ?_;refine zh ?_;(refine zi ?_;intro _);refine yn (zR (B:=safeC p q l) (hv:=zaC p q l) (h1:=(zQ p q l).symm)) (k:=?_);refine zd ?_)|(refine za (id:=2) ?_;refine zb ?_;refine zP ?_;refine zd ?_)|(refine za (id:=4) ?_;refine zb ?_;refine zr ?_;refine zm ?_;refine yv (zH (hv:=hsl)) (k:=?_);refine yv (zT (hr:=g1)) (k:=?_);refine zd ?_)|(refine za (id:=6) ?_;refine zb ?_;refine zr ?_;refine zm ?_;refine yv (zH (hv:=hsl)) (k:=?_);refine yv (zaq (hr:=g2)) (k:=?_);refine zd ?_)|(refine za (id:=8) ?_;refine zb ?_;refine yv (zf (f:=117) (hc:=λw' _ hk _=>hfb w' hk)) (k:=?_);refine zb ?_;refine zh ?_;refine zh ?_;(refine zi ?_;intro _);refine yn (zj (n:=x)) (k:=?_);refine zd ?_)|(refine za (id:=9) ?_;refine yv (zg (B:=safeC p q l)) (k:=?_);refine zb ?_;refine yv (zg (B:=natC x)) (k:=?_))|(refine za (id:=10) ?_;refine zb ?_;refine zP ?_)|(refine za (id:=12) ?_;refine yv (zg (B:=natC x)) (k:=?_);refine yn (zj (n:=x)) (k:=?_);refine zd ?_)|(refine ys (zaE (x:=x)) (k:=?_);rintro _ _ ⟨bb,rfl,rfl⟩)|(refine zB ?_;first|refine yv (zf (f:=121) (hc:=λw' X hk hh=>hal w' _ (zz (hh.has (by exact Has.append Has.here)) Seg.all))) (k:=?_)|refine zd ?_|fail)|fail)
  exact ret2 rfl (resCells (B:=natC x) rfl (ty rfl) rfl Has.go Seg.all (ze _).symm) (resTmp rfl) SubR.nil ⟨rfl,rfl⟩
theorem zjV (i:Nat) (a:Option Addr) (n c:Nat) (bl:List UInt8) (w:World) (h0:1<=i) (h5:i<=4) (hG:GT w) (hn:n=gL i) (hl:bl.length=n) (hcap:n<=c) (hb:SlA w a (bl.map v8)) (hc:memB (gP i) (gQ i) (bev 256 (bn bl))=false):Sy.Fn Tryz.prog 56 [.int .i64 (i:Int),.slice a n c] w No (Gives (.tuple #[natV 0,.int .i64 3])):=by
  refine zk Tryz.func56 rfl Tryz.ntmps56 (by simp) Holds.nil ?_
  have hw:=λw' (hk:Keep No w w')=>znT i 95 (memB (gP i) (gQ i)) a n c bl w' h0 h5 (hG.to hk) hn hl hcap (hb.to hk (λ_ h=> .inr h)).sla (en rfl) (λx hx w''=>zcc _ _ _ x w'' (za8 i h0 h5) (zbq i h0 h5) (by have:=zax i h0 h5;omega) hx) hc
  have lx:=ze 0
  repeat' (first|refine s_0 ?_|(refine za (id:=0) ?_;(refine zi ?_;intro _);refine zd ?_)|(refine za (id:=1) ?_;refine zb ?_;refine zb ?_;refine yv (zf (f:=94) (hc:=λw' _ hk _=>hw w' hk)) (k:=?_);refine zh ?_;refine zh ?_;refine yn (zj (n:=0)) (k:=?_);refine zd ?_)|fail)
  exact ret2 rfl (resCells (B:=natC 0) rfl (ty rfl) rfl Has.go Seg.all (ze _).symm) (resTmp rfl) SubR.nil ⟨rfl,rfl⟩
theorem zjO (i:Nat) (a:Option Addr) (n c:Nat) (bl:List UInt8) (w:World) (h0:1<=i) (h5:i<=4) (hG:GT w) (hn:n=gL i) (hl:bl.length=n) (hcap:n<=c) (hb:SlA w a (bl.map v8)) (hc:memB (gP i) (gQ i) (bev 256 (bn bl))=true):Sy.Fn Tryz.prog 56 [.int .i64 (i:Int),.slice a n c] w No (Gives (.tuple #[natV (bev 256 (bn bl)),.int .i64 0])):=by
  refine zk Tryz.func56 rfl Tryz.ntmps56 (by simp) Holds.nil ?_
  have hw:=λw' (hk:Keep No w w')=>zoc i 95 (memB (gP i) (gQ i)) a n c bl w' h0 h5 (hG.to hk) hn hl hcap (hb.to hk (λ_ h=> .inr h)).sla (en rfl) (λx hx w''=>zcc _ _ _ x w'' (za8 i h0 h5) (zbq i h0 h5) (by have:=zax i h0 h5;omega) hx) hc
  have lx:=ze (bev 256 (bn bl))
  generalize bev 256 (bn bl)=x at *
  repeat' (first|refine s_0 ?_|(refine za (id:=0) ?_;(refine zi ?_;intro _);refine zd ?_)|(refine za (id:=1) ?_;refine zb ?_;refine zb ?_;refine yv (zf (f:=94) (hc:=λw' _ hk _=>hw w' hk)) (k:=?_);refine zh ?_;refine zh ?_;refine yn (zj (n:=x)) (k:=?_);refine zd ?_)|fail)
  exact ret2 rfl (resCells (B:=natC x) rfl (ty rfl) rfl Has.go Seg.all (ze _).symm) (resTmp rfl) SubR.nil ⟨rfl,rfl⟩
set_option maxHeartbeats 1000000 in
theorem zg0 (i:Nat) (a:Option Addr) (n c:Nat) (bl:List UInt8) (w:World) (h0:1<=i) (h5:i<=4) (hG:GT w) (hl:bl.length=n) (hcap:n<=c) (hc2:n < 1000000) (hb:SlA w a (bl.map v8)):
    Sy.Fn Tryz.prog 77 [.int .i64 (i:Int),.slice a n c] w No (Gives (.tuple #[natV (bev 256 (bn bl) % gQ i),.int .i64 0])):=by
  refine zk Tryz.func77 rfl Tryz.ntmps77 (by simp) Holds.nil ?_
  have hW:=za8 i h0 h5
  have hQW:=zbq i h0 h5
  have hp1:=zax i h0 h5
  have hq0:=zaI i h0 h5
  have hfi:=λw' (hk:Keep No w w')=>zbS i w' h0 h5 (hG.to hk)
  generalize gP i=p at *
  generalize gQ i=q at *
  generalize gL i=l at *
  have lS:=zQ p q l
  have lp:=ze p
  have lq:=ze q
  have lz:=ze 0
  have hsp:=zbI p q l
  have hsq:=zbH p q l
  have hsl:=zbQ p q l
  have hq00:0 < q:=by omega
  have hRW:256 ^ 32 < 18446744073709551616 ^ 16:=by
    rw [zef 256 8 128 rfl rfl];exact Nat.pow_lt_pow_right (by decide) (by decide)
  have hrad:=λw' aR cR (h:SlA w' aR ((1::List.replicate 32 0:List UInt8).map v8)) (hc:32+1<=cR)=>za4 aR (32+1) cR (1::List.replicate 32 0) w' (by simp) hc h (by omega)
  rw [zhM,if_pos hRW] at hrad
  have hys: [Value.int IntKind.u8 1] ++ List.replicate 32 (Value.int IntKind.u8 0)=(1::List.replicate 32 0:List UInt8).map v8:=by
    rw [List.map_cons,List.map_replicate];rfl
  have lr:=ze (256 ^ 32)
  generalize hrd:256 ^ 32=rad at *
  obtain ⟨f,hf⟩: ∃f,f=n % 32:=⟨_,rfl⟩
  have hf32:f < 32:=by rw [hf];exact Nat.mod_lt _ (by decide)
  have hfn:f<=n:=by rw [hf];exact Nat.mod_le _ _
  obtain ⟨k,hk⟩: ∃k,n=f+32*k:=⟨n / 32,by rw [hf];have:=Nat.div_add_mod n 32;omega⟩
  have hrem:(n:Int).tmod 32=((f:Nat):Int):=by rw [hf];exact remI n 32
  have chunkW: ∀D:List UInt8,D.length<=32->bev 256 (bn D) < 18446744073709551616 ^ 16:=λD hD=>by
    rw [zef 256 8 128 rfl rfl]
    refine Nat.lt_of_lt_of_le (zcg 256 (bn D) (zdX D)) ?_
    rw [show (bn D).length=D.length from List.length_map _]
    exact Nat.pow_le_pow_right (by decide) (by omega)
  have hf0:=λw' (hk:Keep No w w')=>za4 a f f (bl.take f) w' (by rw [List.length_take];omega) (Nat.le_refl _) (by rw [List.map_take];exact ((hb.to hk (λ_ h=> .inr h)).sla).take _) (by omega)
  rw [if_pos (chunkW (bl.take f) (by rw [List.length_take];omega))] at hf0
  have hd0W:=chunkW (bl.take f) (by rw [List.length_take];omega)
  have hrd0:=λw'=>zlB (bev 256 (bn (bl.take f))) q w' hd0W hQW
  unfold modR at hrd0
  simp only [if_neg (show ¬q=0 by omega)] at hrd0
  have ld0:=ze (bev 256 (bn (bl.take f)))
  have lr0:=ze (bev 256 (bn (bl.take f)) % q)
  clear hf
  repeat' (first|refine s_0 ?_|(refine za (id:=0) ?_;(refine zi ?_;intro _);refine zd ?_)|(refine za (id:=1) ?_;refine zb ?_;refine yv (zf (f:=73) (hc:=λw' _ hk _=>hfi w' hk)) (k:=?_);refine zb ?_;refine zh ?_;refine zh ?_;(refine zi ?_;intro _);refine yn (zR (B:=safeC p q l) (hv:=zaC p q l) (h1:=(zQ p q l).symm)) (k:=?_);refine zd ?_)|(refine za (id:=2) ?_;refine zb ?_;refine zP ?_)|(refine za (id:=4) ?_;(refine ys zt (k:=?_);rintro _ _ ⟨_,rfl,rfl⟩);(refine ys (OpT.conv (zbY (n:=1) (s:=1) (by repeat (first|exact Rem.here|apply Rem.there)) rfl (by unfold maxLen;omega)) (zgT (k:=1) (m:=32) (km:=32+1) (hm:=rfl) (hL:=Rem.here) (hkm:=rfl) (hys:=hys))) (k:=?_);rintro _ _ ⟨rfl,aR,cR,rfl⟩);refine yv (zf (f:=117) (hc:=λw' _ _ hh=>hrad w' _ _ (zM hh (by exact Has.append Has.go)) (Row.cap (n:=32+1) hh (by exact Has.append Has.go)))) (k:=?_);refine zb ?_;refine zh ?_;refine zh ?_;(refine zi ?_;intro _);refine yn (zj (n:=rad)) (k:=?_);refine zd ?_)|(refine za (id:=5) ?_;refine zb ?_;refine zr ?_;refine yv (zao (hr:=hrem)) (k:=?_);refine zd ?_)|fail)
  rename_i b4 b6 wx b8
  refine Sy.weaken (fr':=[(1,.slice a n c),(4,.pointer (some ⟨b4,0,none⟩)),(6,.pointer (some ⟨b6,0,none⟩)),(8,.pointer (some ⟨b8,0,none⟩)),(10,.int .i64 f)]) (L':=[.blk b8 73 (natC rad),.blk b6 109 (safeC p q l),.blk b4 73 (List.replicate 16 (Value.int IntKind.u64 0))]) ?_ (by exact Sub.go) (by exact SubR.go2)
  clear hrad hys hfi
  generalize hD0:bev 256 (bn (bl.take f))=d0 at *
  generalize hr0:d0 % q=r0 at *
  repeat' (first|refine s_t ?_|(refine za (id:=6) ?_;refine zb ?_;refine zb ?_;refine zb ?_;refine yv (zbe (l:=0) (h:=f) (m:=f) (n':=f) (c':=f)) (k:=?_);refine yv (zf (f:=117) (hc:=λw' _ hk _=>hf0 w' hk)) (k:=?_);refine zb ?_;refine zh ?_;refine zh ?_;(refine zi ?_;intro _);refine yn (zj (n:=d0)) (k:=?_);refine zd ?_)|(refine za (id:=7) ?_;refine yv (zg (B:=natC d0)) (k:=?_);refine zm ?_;refine yv (zg (B:=natC q) (hv:=hsq)) (k:=?_);refine yv (zf (hc:=λ_ _ _ _=>(hrd0 _))) (k:=?_);refine zb ?_;refine zh ?_;refine zh ?_;refine yn (zj (n:=r0)) (k:=?_))|(refine za (id:=8) ?_;refine zb ?_;refine zd ?_)|fail)
  rename_i b11
  refine zD (γ:=Nat) (λj=>[(1,.slice a n c),(4,.pointer (some ⟨b4,0,none⟩)),(6,.pointer (some ⟨b6,0,none⟩)),(8,.pointer (some ⟨b8,0,none⟩)),(11,.pointer (some ⟨b11,0,none⟩)),(13,.int .i64 ((f+32*j:Nat):Int))])
    (λj=>[.blk b11 73 (natC (bev 256 (bn (bl.take (f+32*j))) % q)),.blk b8 73 (natC rad),.blk b6 109 (safeC p q l),.blk b4 73 (List.replicate 16 (Value.int IntKind.u64 0))])
    (λj=>j<=k) (λj=>k - j) 0 (Nat.zero_le _) ?_ ?_ ?_
  · exact Sub.go
  · show SubR [.blk b11 73 (natC (bev 256 (bn (bl.take f)) % q)),.blk b8 73 (natC rad),.blk b6 109 (safeC p q l),.blk b4 73 (List.replicate 16 (Value.int IntKind.u64 0))] _
    rw [hD0,hr0]
    exact SubR.go2
  clear hf0 hrd0 ld0 lr0 hd0W
  intro j hj
  rcases Nat.lt_or_ge j k with h|h
  · have hlt:decide (((f+32*j:Nat):Int) < (n:Int))=true:=decide_eq_true (by omega)
    have hadd:IntKind.i64.wrap (((f+32*j:Nat):Int)+32)=((f+32*j+32:Nat):Int):=by rw [IntWalk.i64_in _ (by omega)];omega
    have hch:=zhw bl (f+32*j) 32 (by omega)
    rw [hrd] at hch
    have hcl:((bl.take (f+32*j+32)).drop (f+32*j)).length=32:=by rw [List.length_drop,List.length_take];omega
    have hcW:=chunkW ((bl.take (f+32*j+32)).drop (f+32*j)) (by omega)
    have hfb:=λw' (hk:Keep No w w')=>za4 (movA a (f+32*j) (f+32*j+32) 1) 32 32 ((bl.take (f+32*j+32)).drop (f+32*j)) w' hcl (Nat.le_refl _) (by
      rw [List.map_drop,List.map_take]
      exact (((hb.to hk (λ_ h=> .inr h)).sla).take _).mov (by rw [List.length_take];omega)) (by omega)
    rw [if_pos hcW] at hfb
    have hst:=zmf q (bev 256 (bn (bl.take (f+32*j)))) rad (bev 256 (bn ((bl.take (f+32*j+32)).drop (f+32*j))))
    rw [<-hch] at hst
    have hrW:=Nat.lt_trans (Nat.mod_lt (bev 256 (bn (bl.take (f+32*j)))) hq00) hQW
    generalize bev 256 (bn ((bl.take (f+32*j+32)).drop (f+32*j)))=d at *
    generalize bev 256 (bn (bl.take (f+32*j))) % q=R0 at *
    have hM:=λw'=>zhc R0 rad q w' hrW hRW hQW
    have hpW:=Nat.lt_trans (Nat.mod_lt (R0*rad) hq00) hQW
    have hA:=λw'=>zps (R0*rad % q) d q w' hpW hcW hQW
    unfold modR at hM hA
    simp only [if_neg (show ¬q=0 by omega)] at hM hA
    rw [hst] at hA
    have l1:=ze R0
    have l2:=ze d
    have l3:=ze (R0*rad % q)
    have hcur:bev 256 (bn (bl.take (f+32*(j+1)))) % q=bev 256 (bn (bl.take (f+32*j+32))) % q:=by rw [show f+32*(j+1)=f+32*j+32 by omega]
    have hnx:((f+32*(j+1):Nat):Int)=((f+32*j+32:Nat):Int):=by omega
    rw [<-hcur] at hA
    have l4:=ze (bev 256 (bn (bl.take (f+32*(j+1)))) % q)
    clear hst hch hcur
    generalize hnew:bev 256 (bn (bl.take (f+32*(j+1)))) % q=R1 at *
    generalize R0*rad % q=P at *
    repeat' (first|refine s_t ?_|(refine za (id:=9) ?_;refine zb ?_;refine zb ?_;refine zr ?_;refine yv (zT (hr:=hlt)) (k:=?_))|(refine za (id:=11) ?_;refine zb ?_;refine zb ?_;refine zb ?_;refine yv (zL (hr:=hadd)) (k:=?_);refine zb ?_;refine yv (zL (hr:=hadd)) (k:=?_);refine yv (zbe (l:=f+32*j) (h:=f+32*j+32) (m:=f+32*j+32) (n':=32) (c':=32) (hn':=by omega) (hc':=by omega)) (k:=?_);refine yv (zf (f:=117) (hc:=λw' _ hk _=>hfb w' hk)) (k:=?_);refine zb ?_;refine zh ?_;refine zh ?_;(refine zi ?_;intro _);refine yn (zj (n:=d)) (k:=?_);refine zd ?_)|(refine za (id:=12) ?_;refine yv (zg (B:=natC R0)) (k:=?_);refine yv (zg (B:=natC rad)) (k:=?_);refine zm ?_;refine yv (zg (B:=natC q) (hv:=hsq)) (k:=?_);refine yv (zf (hc:=λ_ _ _ _=>(hM _))) (k:=?_);refine zb ?_;refine zh ?_;refine zh ?_;refine yn (zj (n:=P)) (k:=?_))|(refine za (id:=13) ?_;refine yv (zg (B:=natC P)) (k:=?_);refine yv (zg (B:=natC d)) (k:=?_);refine zm ?_;refine yv (zg (B:=natC q) (hv:=hsq)) (k:=?_);refine yv (zf (hc:=λ_ _ _ _=>(hA _))) (k:=?_);refine zb ?_;refine zh ?_;refine zh ?_;refine yn (zj (n:=R1)) (k:=?_))|(refine za (id:=10) ?_;refine zb ?_;refine yv (zL (hr:=hadd)) (k:=?_);refine zd ?_)|fail)
    refine zu (j+1) ?_ ?_ ?_ ?_
    · show j+1<=k;omega
    · show k - (j+1) < k - j;omega
    · rw [hnx]
      exact Sub.go
    · show SubR [.blk b11 73 (natC (bev 256 (bn (bl.take (f+32*(j+1)))) % q)),.blk b8 73 (natC rad),.blk b6 109 (safeC p q l),.blk b4 73 (List.replicate 16 (Value.int IntKind.u64 0))] _
      rw [hnew]
      exact SubR.go2
  · obtain rfl:j=k:=by omega
    have hlt:decide (((f+32*j:Nat):Int) < (n:Int))=false:=decide_eq_false (by omega)
    rw [List.take_of_length_le (by omega)]
    have lR:=ze (bev 256 (bn bl) % q)
    generalize bev 256 (bn bl) % q=R at *
    repeat' (first|refine s_0 ?_|(refine za (id:=9) ?_;refine zb ?_;refine zb ?_;refine zr ?_;refine yv (zT (hr:=hlt)) (k:=?_))|(refine za (id:=14) ?_;refine yv (zg (B:=natC R)) (k:=?_);refine yn (zj (n:=R)) (k:=?_);refine zd ?_)|fail)
    exact ret2 rfl (resCells (B:=natC R) rfl (ty rfl) rfl Has.go Seg.all (ze _).symm) (resTmp rfl) SubR.nil ⟨rfl,rfl⟩
end Go.Proofs.YtcpjfilcilcekaaGreatDoor
end
section
namespace Go.Proofs.YtcpjfilcilcekaaGreatDoor
open Go Go.Sy Go.Nt Go.RowKit
attribute [local irreducible] Sy SyL SyX Sy.Fn callFunc natC rowN refC iC gP gQ gL memB safeC fixB
set_option maxRecDepth 10000
def glen (z:Int):Nat:=if 1<=z/\z<=4 then gL z.toNat else 0
theorem zqN {z:Int}(hz:1<=z/\z<=4): ∃i:Nat,z=(i:Int)/\z.toNat=i/\1<=i/\i<=4:=⟨z.toNat,by omega,rfl,by omega,by omega⟩
theorem znV (z:Int) (w:World) (hG:GT w):Sy.Fn Tryz.prog 29 [.int .i64 z] w No (Gives (.int .i64 ((glen z:Nat):Int))):=by
  unfold glen
  by_cases hz:1<=z/\z<=4
  · rw [if_pos hz]
    obtain ⟨i,rfl,hi,h0,h5⟩:=zqN hz
    rw [hi];exact zks i w h0 h5 hG
  · rw [if_neg hz];exact zns z w hz
end Go.Proofs.YtcpjfilcilcekaaGreatDoor
end
section
namespace Go.Nt
end Go.Nt
end
section
namespace Go.Nt
theorem bevW' {l:List UInt8}(h:l.length<=128):bev 256 (bn l) < 18446744073709551616 ^ 16:=by
  rw [zef 256 8 128 rfl rfl]
  refine Nat.lt_of_lt_of_le (zcg 256 (bn l) (zdX l)) ?_
  rw [show (bn l).length=l.length from List.length_map _]
  exact Nat.pow_le_pow_right (by decide) h
end Go.Nt
namespace Go.Proofs.YtcpjfilcilcekaaGreatDoor
open Go Go.Sy Go.Nt Go.RowKit
theorem zji (l x:Nat):bev 256 (bn (fixB l x))=x:=by unfold fixB;rw [zfq,zky]
theorem zoA {i x:Nat}(h0:1<=i) (h5:i<=4) (h:x < gQ i):nd 256 x<=gL i:=zd2 h0 h5 (Nat.lt_of_lt_of_le h (zqt i))
end Go.Proofs.YtcpjfilcilcekaaGreatDoor
end
section
namespace Go.Sh
open Go
def kbase (key:List UInt8):List UInt8:=if 64 < key.length then sum key else key
def kpad (key:List UInt8):List UInt8:=kbase key ++ List.replicate (64 - (kbase key).length) 0
def kxor (k:List UInt8) (m:UInt8):List UInt8:=k.map (· ^^^ m)
def hmac (key text:List UInt8):List UInt8:=sum (kxor (kpad key) 92 ++ sum (kxor (kpad key) 54 ++ text))
theorem zjp (key:List UInt8) (h:(sum key).length=32):(kbase key).length<=64:=by unfold kbase;split <;> omega
theorem zdS (key:List UInt8) (h:(sum key).length=32):(kpad key).length=64:=by
  have:=zjp key h
  unfold kpad;rw [List.length_append,List.length_replicate];omega
theorem zdP (k:List UInt8) (m:UInt8):(kxor k m).length=k.length:=List.length_map _
end Go.Sh
namespace Go.Sh
open Go
def four (v:Nat):List UInt8:=[UInt8.ofNat (v / 16777216),UInt8.ofNat (v / 65536),UInt8.ofNat (v / 256),UInt8.ofNat v]
theorem zer (v:Nat):(four v).length=4:=rfl
def dblock (key label ctx:List UInt8) (n i:Nat):List UInt8:=hmac key (four i ++ label ++ [0] ++ ctx ++ four (8*n))
def rows (f:Nat->List UInt8) (k:Nat):List UInt8:=(List.range k).flatMap λi=>f (i+1)
theorem zd3 (f:Nat->List UInt8) (k:Nat):rows f (k+1)=rows f k ++ f (k+1):=by
  unfold rows;rw [List.range_succ,List.flatMap_append];simp
theorem zcO (f:Nat->List UInt8) (h: ∀i,(f i).length=32): ∀k,(rows f k).length=32*k
  |0=>rfl
  |k+1=>by rw [zd3,List.length_append,zcO f h k,h];omega
def firstN (f:Nat->List UInt8) (n:Nat):List UInt8:=(rows f ((n+31) / 32)).take n
theorem zdr (f:Nat->List UInt8) (h: ∀i,(f i).length=32) (n:Nat):(firstN f n).length=n:=by
  unfold firstN;rw [List.length_take,zcO f h];omega
theorem zf5 (f:Nat->List UInt8) (h: ∀i,(f i).length=32) (k:Nat): ∀j,(rows f (k+j)).take (32*k)=rows f k
  |0=>by rw [Nat.add_zero,List.take_of_length_le];rw [zcO f h];exact Nat.le_refl _
  |j+1=>by
    rw [<-Nat.add_assoc,zd3,List.take_append_of_le_length (by rw [zcO f h];omega)]
    exact zf5 f h k j
theorem zhS (f:Nat->List UInt8) (h: ∀i,(f i).length=32) (n k:Nat) (hk:n<=32*k):(rows f k).take n=firstN f n:=by
  obtain ⟨j,rfl⟩: ∃j,k=(n+31) / 32+j:=⟨k - (n+31) / 32,by omega⟩
  unfold firstN
  rw [<-zf5 f h ((n+31) / 32) j,List.take_take,Nat.min_eq_left (by omega)]
end Go.Sh
end
section
namespace Go.Nt
open Go Go.Sh
def pkLab:Bool->List UInt8
  |true=>[119,97,116,99,104,119,111,114,100,32,112,97,107,101,32,99,108,105,101,110,116]
  |false=>[119,97,116,99,104,119,111,114,100,32,112,97,107,101,32,115,101,114,118,101,114]
def pkH (i:Nat) (s:Bool):Nat:=bev 256 (bn (Sh.sum (pkLab s ++ [UInt8.ofNat i,0])))
def pkPt (i:Nat) (s:Bool):Nat:=pkH i s*pkH i s % gP i
def pkLabS:List UInt8:=[119,97,116,99,104,119,111,114,100,32,112,97,107,101,32,115,101,99,114,101,116]
def pkLabW:List UInt8:=[115,99,97,108,97,114]
def pkW (i:Nat) (secret:List UInt8):Nat:=bev 256 (bn (firstN (dblock (hmac pkLabS secret) (pkLabW ++ [UInt8.ofNat i]) [] 32) 32)) % gQ i
def pkX (i:Nat) (priv:List UInt8):Nat:=if bev 256 (bn priv) % gQ i=0 then 1 else bev 256 (bn priv) % gQ i
def pkOwn (s:Bool) (i w x:Nat):Nat:=(4 ^ x % gP i)*(pkPt i s ^ w % gP i) % gP i
def pkSh (s:Bool) (i w x y:Nat):Nat:=(y*(inv (gP i) (pkPt i (!s) ^ w % gP i)).2 % gP i) ^ x % gP i
def pkFr (l:List UInt8):List UInt8:=four l.length ++ l
def pkDig (i:Nat) (ctx client server shared scalar:List UInt8):List UInt8:=Sh.sum (pkFr ctx ++ (pkFr [UInt8.ofNat i] ++ (pkFr client ++ (pkFr server ++ (pkFr shared ++ pkFr scalar)))))
def pkDer (dig label:List UInt8):List UInt8:=firstN (dblock dig label [] 32) 32
def pkKey:List UInt8:=[107,101,121]
def pkName:Bool->List UInt8
  |true=>[99,108,105,101,110,116]
  |false=>[115,101,114,118,101,114]
theorem zp7 (s:Bool):1 < pkPt 1 s/\pmod (gP 1) (gE 1) (pkPt 1 s) (gQ 1)=1:=by cases s <;> decide +kernel
theorem zqr (s:Bool):1 < pkPt 2 s/\pmod (gP 2) (gE 2) (pkPt 2 s) (gQ 2)=1:=by cases s <;> decide +kernel
theorem zp1 (s:Bool):1 < pkPt 3 s/\pmod (gP 3) (gE 3) (pkPt 3 s) (gQ 3)=1:=by cases s <;> decide +kernel
theorem zqJ (s:Bool):1 < pkPt 4 s/\pmod (gP 4) (gE 4) (pkPt 4 s) (gQ 4)=1:=by cases s <;> decide +kernel
theorem zdB (i:Nat) (s:Bool) (h0:1<=i) (h5:i<=4):1 < pkPt i s/\mem i (pkPt i s):=by
  have h:=zbr (p:=λi=>1 < pkPt i s/\pmod (gP i) (gE i) (pkPt i s) (gQ i)=1) (zp7 s) (zqr s) (zp1 s) (zqJ s) i h0 h5
  rw [zfO (gP i) (gE i) _ (gQ i) (zlj i h0 h5)] at h
  exact ⟨h.1,by omega,Nat.mod_lt _ (Nat.lt_trans Nat.zero_lt_one (zax i h0 h5)),h.2⟩
theorem zep {i:Nat}(s:Bool) (h0:1<=i) (h5:i<=4) (w x x':Nat):pkSh s i w x (pkOwn (!s) i w x')=4 ^ (x'*x) % gP i:=by
  unfold pkSh pkOwn
  have hm:=(zdB i (!s) h0 h5).2
  generalize pkPt i (!s)=n at *
  have h1:Cg (gP i) ((n ^ w % gP i) ^ gQ i) 1:=by
    refine ((zby _ _).pow _).trans ?_
    have:=(zdE h0 h5 hm.2.2).pow w
    rwa [Nat.one_pow,<-Nat.pow_mul,Nat.mul_comm,Nat.pow_mul] at this
  have hg:=ziE (Nat.lt_of_lt_of_le (by decide) (zaI i h0 h5)) h1
  obtain ⟨i1,i2⟩:=ziY (gP i) (n ^ w % gP i) (Nat.lt_trans Nat.zero_lt_one (zax i h0 h5))
  rw [i1,hg] at i2
  generalize (inv (gP i) (n ^ w % gP i)).2=v at *
  generalize n ^ w % gP i=u at *
  have h2:Cg (gP i) (4 ^ x' % gP i*u % gP i*v % gP i) (4 ^ x'):=by
    refine (zby _ _).trans (((zby _ _).mul (Cg.refl _ v)).trans ?_)
    rw [Nat.mul_assoc,Nat.mul_comm u v]
    have:=(zby (gP i) (4 ^ x')).mul i2
    rwa [Nat.mul_one] at this
  rw [Nat.pow_mul]
  exact (h2.pow x).mod
theorem zpg {i:Nat}(h0:1<=i) (h5:i<=4) (w x x':Nat):pkSh true i w x (pkOwn false i w x')=pkSh false i w x' (pkOwn true i w x):=by
  have h1:=zep true h0 h5 w x x'
  have h2:=zep false h0 h5 w x' x
  rw [show (!true)=false from rfl] at h1
  rw [show (!false)=true from rfl] at h2
  rw [h1,h2,Nat.mul_comm]
def pkSec:List UInt8:=[115,101,99,114,101,116]
def pkFill (b:UInt8):List UInt8:=List.replicate 32 b
def pw (i b e:Nat):Nat:=pmod (gP i) (gE i) b e
theorem zir {i b e:Nat}(h:e < 2 ^ gE i):pw i b e=b ^ e % gP i:=zfO _ _ _ _ h
def fx (l x:Nat):List UInt8:=((dg 256 l x).reverse).map UInt8.ofNat
def exW:Nat:=pkW 3 pkSec
def exC:Nat:=(pw 3 4 (pkX 3 (pkFill 3)))*(pw 3 (pkPt 3 true) exW) % gP 3
def exS:Nat:=(pw 3 4 (pkX 3 (pkFill 5)))*(pw 3 (pkPt 3 false) exW) % gP 3
def exSh:Nat:=pw 3 (pw 3 4 (pkX 3 (pkFill 5))) (pkX 3 (pkFill 3))
def exD:List UInt8:=pkDig 3 [] (fx 4 exC) (fx 4 exS) (fx 4 exSh) (fx 4 exW)
theorem zoK:exC≠1/\exS≠1:=by decide +kernel
theorem zo0:pkDer exD (pkName true)≠pkDer exD (pkName false):=by decide +kernel
end Go.Nt
namespace Go.Proofs.YtcpjfilcilcekaaGreatDoor
open Go Go.Nt
theorem zg7 {l x:Nat}(h:nd 256 x<=l):fixB l x=fx l x:=by
  unfold fixB byt be cd fx
  obtain ⟨k,rfl⟩: ∃k,l=nd 256 x+k:=⟨l - nd 256 x,by omega⟩
  rw [zdY,Nat.div_eq_of_lt (zaa 256 x (by decide)),zcX,List.reverse_append,List.reverse_replicate,List.map_append,List.map_replicate,Nat.add_sub_cancel_left]
  rfl
end Go.Proofs.YtcpjfilcilcekaaGreatDoor
end
