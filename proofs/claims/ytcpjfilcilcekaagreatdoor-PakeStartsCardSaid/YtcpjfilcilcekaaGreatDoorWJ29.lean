/- Layer pake, walked: the points of both sides. -/
import Derived.Test.YtcpjfilcilcekaaGreatDoorWJ28
import Derived.Test.YtcpjfilcilcekaaGreatDoorWJ26
import Derived.Test.YtcpjfilcilcekaaGreatDoorWJ13
import Derived.Test.YtcpjfilcilcekaaGreatDoorWJ27
import Derived.MapKept
set_option linter.all false
section
namespace Go.Proofs.YtcpjfilcilcekaaGreatDoor
open Go Go.Sy Go.Sh Go.Nt Go.RowKit
attribute [local irreducible] Sy SyL SyX Sy.Fn callFunc natC rowN refC iC gP gQ gL memB safeC fixB Sh.sum glen HashIs pkPt pkH pkQ
set_option maxRecDepth 10000
theorem zhu (s:Bool):(pkLab s).length<=1000:=by cases s <;> decide
section
attribute [local irreducible] pkLab
set_option maxHeartbeats 1000000 in
theorem ziU (i:Nat) (s:Bool) (w:World) (h0:1<=i) (h5:i<=4) (hT:Tab w No) (hG:GT w):
    Sy.Fn Tryz.prog 100 [.int .i64 (i:Int),.string (str (pkLab s))] w No (Gives (.tuple #[natV (pkPt i s),.int .i64 0])):=by
  refine zk Tryz.func100 rfl Tryz.ntmps100 (by simp) Holds.nil ?_
  have hpr:=λw' (hk:Keep No w w')=>zmK i w' h0 h5 (hG.to hk)
  have hl:(pkLab s).length<=1000:=zhu s
  have hone:=(zdB i s h0 h5).1
  have hW:=Nat.lt_trans (zdB i s h0 h5).2.2.1 (za8 i h0 h5)
  have hps:=λw' (hk:Keep No w w') bl bi bp h1 h2 h3=>zqk i 0 bl bi bp (pkLab s) w' h0 h5 (by decide) hl (hT.no hk) h1 h2 h3
  rw [zqa] at hps
  have hnu:=λw'=>zfS 1 w' (by decide)
  have hcm:=λw'=>zcx (pkPt i s) 1 w' hW (by decide)
  rw [zdt hone] at hcm
  generalize pkPt i s=r at *
  generalize gP i=p at *
  generalize pkLab s=lab at *
  have lp:=ze p
  have lr:=ze r
  repeat' (first|refine s_t ?_|refine zex ?_|(refine za (id:=0) ?_;(refine zi ?_;intro _);(refine zi ?_;intro _);(refine zi ?_;intro _);refine zd ?_)|(refine za (id:=1) ?_;refine zF ?_;refine yv (zf (f:=134) (hc:=λw' X hk hh=>hpr w' hk)) (k:=?_);refine zb ?_;refine zh ?_;refine zh ?_;(refine zi ?_;intro _);refine yn (zj (n:=p)) (k:=?_);refine zd ?_)|(refine za (id:=2) ?_;refine zb ?_;refine zP ?_)|(refine za (id:=4) ?_;refine zX ?_;refine zd ?_)|(refine za (id:=5) ?_;(refine zi ?_;intro _))|(refine za (id:=6) ?_;refine zd ?_)|(refine za (id:=7) ?_;refine zb ?_)|fail)
  rename_i b2 b3 b4 b6 b9
  refine zD (γ:=Unit) (λ_=>[(23,.int .i64 0),(9,.pointer (some ⟨b9,0,none⟩)),(8,.func (.func 135) #[] #[.pointer (some ⟨b3,0,none⟩),.pointer (some ⟨b2,0,none⟩),.pointer (some ⟨b6,0,none⟩)]),(4,.pointer (some ⟨b4,0,none⟩))])
    (λ_=>[.blk b9 73 (List.replicate 16 (.int .u64 0)),.blk b6 73 (natC p),.blk b4 73 (List.replicate 16 (.int .u64 0)),.blk b3 9 [.string (str lab)],.blk b2 3 [.int .i64 (i:Int)]])
    (λ_=>True) (λ_=>0) () trivial ?_ ?_ ?_
  · exact Sub.go
  · exact SubR.go2
  rintro ⟨⟩ -
  repeat' (first|refine s_t ?_|refine zc0 ?_|(refine za (id:=8) ?_;refine zK ?_)|(refine za (id:=9) ?_;refine zb ?_;refine zd ?_)|(refine za (id:=10) ?_;refine zb ?_;refine zb ?_;refine yv (zaB (fst:=[]) (cap:=[.pointer (some ⟨b3,0,none⟩),.pointer (some ⟨b2,0,none⟩),.pointer (some ⟨b6,0,none⟩)]) (hc:=λw' X hk hh=>hps w' hk b3 b2 b6 (zz (hh.has (r:=.blk b3 9 [.string (str lab)]) (by exact Has.append Has.go)) Seg.all 0 _ rfl) (zz (hh.has (r:=.blk b2 3 [.int .i64 (i:Int)]) (by exact Has.append Has.go)) Seg.all 0 _ rfl) (zz (hh.has (r:=.blk b6 73 (natC p)) (by exact Has.append Has.go)) Seg.all))) (k:=?_);refine zb ?_;refine zh ?_;refine zh ?_;(refine zi ?_;intro _);refine yn (zj (n:=r)) (k:=?_);refine zd ?_)|(refine za (id:=11) ?_;refine zb ?_;refine zP ?_;refine zd ?_)|(refine zJ (id:=13) 2 [[],[],[0,1],[0,1,2],[0,1,2,3]] mixed ?_ ?_;kernel_rfl;refine dc (λ_ _=>zg (B:=natC r)) (k:=?_);refine dc (λ_ _=>zf (hc:=λ_ _ _ _=>(hnu _))) (k:=?_);refine zS ?_;refine yv (zf (hc:=λ_ _ _ _=>(hcm _))) (k:=?_);refine zaf ?_;refine zd ?_)|(refine za (id:=14) ?_;refine yv (zg (B:=natC r)) (k:=?_);refine yn (zj (n:=r)) (k:=?_);refine zd ?_)|(refine za (id:=16) ?_;refine yv (zg (B:=natC r)) (k:=?_);refine zb ?_;refine yn (zj (n:=r)) (k:=?_);refine zd ?_)|fail)
  exact ret2 rfl (resCells (B:=natC r) rfl (ty rfl) rfl Has.go Seg.all (ze _).symm) (resTmp rfl) SubR.nil ⟨rfl,rfl⟩
end
theorem zh4 (i:Nat) (w:World) (h0:1<=i) (h5:i<=4) (hT:Tab w No) (hG:GT w):
    Sy.Fn Tryz.prog 61 [.int .i64 (i:Int)] w No (Gives (.tuple #[natV (pkPt i true),natV (pkPt i false),.int .i64 0])):=by
  refine zk Tryz.func61 rfl Tryz.ntmps61 (by simp) Holds.nil ?_
  have h1:=λw' (hk:Keep No w w')=>ziU i true w' h0 h5 (hT.no hk) (hG.to hk)
  have h2:=λw' (hk:Keep No w w')=>ziU i false w' h0 h5 (hT.no hk) (hG.to hk)
  generalize pkPt i true=p at *
  generalize pkPt i false=q at *
  have lp:=ze p
  have lq:=ze q
  rw [show (str (pkLab true))=str [119,97,116,99,104,119,111,114,100,32,112,97,107,101,32,99,108,105,101,110,116] from rfl] at h1
  rw [show (str (pkLab false))=str [119,97,116,99,104,119,111,114,100,32,112,97,107,101,32,115,101,114,118,101,114] from rfl] at h2
  repeat' (first|refine s_0 ?_|(refine za (id:=0) ?_;(refine zi ?_;intro _);(refine zi ?_;intro _);refine zd ?_)|(refine za (id:=1) ?_;refine zb ?_;refine yv (zf (f:=100) (hc:=λw' X hk hh=>h1 w' hk)) (k:=?_);refine zb ?_;refine zh ?_;refine zh ?_;refine yn (zj (n:=p)) (k:=?_);refine zd ?_)|(refine za (id:=2) ?_;refine zb ?_;refine zP ?_)|(refine za (id:=4) ?_;refine zb ?_;refine yv (zf (f:=100) (hc:=λw' X hk hh=>h2 w' hk)) (k:=?_);refine zb ?_;refine zh ?_;refine zh ?_;refine yn (zj (n:=q)) (k:=?_);refine zd ?_)|(refine za (id:=5) ?_;refine zb ?_;refine zP ?_)|(refine zJ (id:=7) 3 [[],[],[0],[0,1,2],[0,1,2,3]] mixed ?_ ?_;kernel_rfl;refine dc (λ_ _=>zg (B:=natC p)) (k:=?_);refine dc (λ_ _=>zg (B:=natC q)) (k:=?_))|fail)
  refine dcn (λ_ _=>zj (n:=p)) (k:=?_)
  repeat' (first|refine s_0 ?_|(refine zB ?_;first|refine yn (zj (n:=q)) (k:=?_)|refine zd ?_|fail)|refine zS ?_|fail)
  exact ret3 rfl (resCells (B:=natC p) rfl (ty rfl) rfl Has.go Seg.all (ze _).symm) (resCells (B:=natC q) rfl (ty rfl) rfl Has.go Seg.all (ze _).symm) (resTmp rfl) SubR.nil ⟨rfl,rfl⟩
end Go.Proofs.YtcpjfilcilcekaaGreatDoor
end
section
namespace Go.Sy
open Go
section
variable {P:Program}{f:FuncId}{args:List Value}{w:World}{b T:Nat}{C:List Value}{post post':Value->List Res->Prop}
theorem zfN (hC:(Res.blk b T C).holds w):Holds w.heap.size (λx=>x=b) [.blk b T C] w:=
  Holds.cons Holds.nil hC (λ_ h=>absurd h List.not_mem_nil) (λx hx=> .inr (show x=b from Eq.symm hx))
theorem Fn.still (hC:(Res.blk b T C).holds w) (h:Fn P f args w (λx=>x=b) post) (hp: ∀v R,post v R-> ∃R',R= .blk b T C::R'/\post' v R'):Fn P f args w No post':=
  Calls.mono h λ_ _ ⟨v,R,e,hv,hk,hh⟩=>by
    obtain ⟨R',rfl,hp'⟩:=hp v R hv
    have hb:=hh.all _ List.mem_cons_self
    refine ⟨v,R',e,hp',⟨hk.os,hk.tape,hk.output,hk.size,λk hlt _=>?_⟩,hh.tail.all,hh.tail.apart,λr hr x hx=>?_⟩
    · by_cases hkb:k=b
      · subst hkb
        have h1:w.heap[k]?=some (.cells C.toArray T (0,0)):=hC
        have h2:=hb
        rw [h1];exact h2
      · exact hk.block k hlt hkb
    · rcases hh.tail.mine r hr x hx with h1|h1
      · exact .inl h1
      · exact absurd hx ((List.pairwise_cons.1 hh.apart).1 r hr x (show (Res.blk b T C).own x from Eq.symm h1))
end
end Go.Sy
end
section
namespace Go.Proofs.YtcpjfilcilcekaaGreatDoor
open Go Go.Sy Go.Sh Go.Nt Go.RowKit
attribute [local irreducible] Sy SyL SyX Sy.Fn callFunc natC rowN refC iC gP gQ gL memB safeC fixB Sh.sum glen HashIs pkPt pkH pkQ pkLab
set_option maxRecDepth 10000
abbrev CalcIs (i b:Nat) (w:World):Prop:=(Res.blk b 64 [.int .i64 (i:Int),.int .i64 0]).holds w
def tup (v:Value) (k:Nat):Value:=match v with| .tuple vs=>(vs[k]?).getD v|v=>v
theorem zbV (i b x:Nat) (w:World) (hC:CalcIs i b w):
    Sy.Fn Tryz.prog 75 [.pointer (some ⟨b,0,none⟩),natV x,.int .i64 0] w No (Gives (natV x)):=by
  refine Fn.still (post:=λv R=>R= [.blk b 64 [.int .i64 (i:Int),.int .i64 0]]/\v=natV x) hC ?_ (λv R h=>⟨[],h.1,h.2,rfl⟩)
  refine zk Tryz.func75 rfl Tryz.ntmps75 (by simp) (zfN hC) ?_
  have lx:=ze x
  repeat' (first|refine s_0 ?_|(refine za (id:=0) ?_;(refine zi ?_;intro _);(refine zi ?_;intro _))|(refine za (id:=1) ?_;refine zb ?_;refine zy ?_;refine zm ?_;refine zF ?_;refine zZ ?_)|(refine za (id:=2) ?_;refine zb ?_;refine zb ?_;refine zy ?_;refine zm ?_;refine yn (zbO (v:=.int .i64 0) (C:=[.int .i64 (i:Int),.int .i64 0]) (C':=[.int .i64 (i:Int),.int .i64 0]) (hC:=⟨Nat.lt_succ_self 1,rfl⟩)) (k:=?_))|(refine za (id:=3) ?_;refine yv (zg (B:=natC x)) (k:=?_);refine yn (zj (n:=x)) (k:=?_))|fail)
  exact ret1 rfl (resCells (B:=natC x) rfl (ty rfl) rfl Has.go Seg.all (ze _).symm) (by exact SubR.go) ⟨rfl,rfl⟩
theorem CalcIs.to {i b:Nat}{w w':World}(h:CalcIs i b w) (hk:Keep No w w'):CalcIs i b w':=
  (hk.block b (Array.getElem?_eq_some_iff.1 h).1 (λh=>h)).trans h
theorem CalcIs.cell {i b:Nat}{w:World}(h:CalcIs i b w):w.cell? ⟨b,0+0,none⟩=some (.int .i64 (i:Int)):=by
  rw [Sy.blk_cell h];rfl
theorem zkC (i b x y:Nat) (w:World) (h0:1<=i) (h5:i<=4) (hG:GT w) (hC:CalcIs i b w) (hx:x < 18446744073709551616 ^ 16) (hy:y < 18446744073709551616 ^ 16) (hc:(memB (gP i) (gQ i) x && memB (gP i) (gQ i) y)=true):
    Sy.Fn Tryz.prog 35 [.pointer (some ⟨b,0,none⟩),natV x,natV y] w No (Gives (natV (x*y % gP i))):=by
  refine zk Tryz.func35 rfl Tryz.ntmps35 (by simp) Holds.nil ?_
  have hci:=hC.cell
  have hm:=λw' (hk:Keep No w w')=>zoT i x y w' h0 h5 (hG.to hk) hx hy hc
  have hn:=λw' (hk:Keep No w w')=>zbV i b (x*y % gP i) w' (hC.to hk)
  generalize x*y % gP i=r at *
  have lx:=ze x
  have ly:=ze y
  have lr:=ze r
  repeat' (first|refine s_0 ?_|(refine za (id:=0) ?_;(refine zi ?_;intro _);(refine zi ?_;intro _);(refine zi ?_;intro _))|(refine zJ (id:=1) 10 [[],[],[1],[1,2],[1,2,3],[],[],[1,2,3,4,5,6],[1,2,3,4,5,6,7],[1,2,3,4,5,6,7],[0,1,2,3,4,5,6,7,8,9],[0,1,2,3,4,5,6,7,8,9,10]] mixed ?_ ?_;kernel_rfl;refine zo ?_;refine zo ?_;refine zap ?_;refine zY ?_;refine dc (λ_ _=>zw (hv:=hci)) (k:=?_);refine dc (λ_ _=>zg (B:=natC x)) (k:=?_);refine dc (λ_ _=>zg (B:=natC y)) (k:=?_);refine dc (λ_ _=>zf (f:=79) (hc:=λw' X hk hh=>hm w' hk)) (k:=?_);refine zaV ?_;refine zaV ?_;refine zS ?_;refine yv (zf (f:=75) (hc:=λw' X hk hh=>hn w' hk)) (k:=?_);refine yn (zj (n:=r)) (k:=?_))|fail)
  exact ret1 rfl (resCells (B:=natC r) rfl (ty rfl) rfl Has.go Seg.all (ze _).symm) SubR.nil ⟨rfl,rfl⟩
theorem zhk (i b x e:Nat) (w:World) (h0:1<=i) (h5:i<=4) (hG:GT w) (hC:CalcIs i b w) (hx:x < 18446744073709551616 ^ 16) (he:e < 18446744073709551616 ^ 16) (hc:memB (gP i) (gQ i) x=true) (hd:e < gQ i):
    Sy.Fn Tryz.prog 37 [.pointer (some ⟨b,0,none⟩),natV x,natV e] w No (Gives (natV (x ^ e % gP i))):=by
  refine zk Tryz.func37 rfl Tryz.ntmps37 (by simp) Holds.nil ?_
  have hci:=hC.cell
  have hm:=λw' (hk:Keep No w w')=>zoX i x e w' h0 h5 (hG.to hk) hx he hc hd
  have hn:=λw' (hk:Keep No w w')=>zbV i b (x ^ e % gP i) w' (hC.to hk)
  generalize x ^ e % gP i=r at *
  have lx:=ze x
  have le:=ze e
  have lr:=ze r
  repeat' (first|refine s_0 ?_|(refine za (id:=0) ?_;(refine zi ?_;intro _);(refine zi ?_;intro _);(refine zi ?_;intro _))|(refine zJ (id:=1) 10 [[],[],[1],[1,2],[1,2,3],[],[],[1,2,3,4,5,6],[1,2,3,4,5,6,7],[1,2,3,4,5,6,7],[0,1,2,3,4,5,6,7,8,9],[0,1,2,3,4,5,6,7,8,9,10]] mixed ?_ ?_;kernel_rfl;refine zo ?_;refine zo ?_;refine zap ?_;refine zY ?_;refine dc (λ_ _=>zw (hv:=hci)) (k:=?_);refine dc (λ_ _=>zg (B:=natC x)) (k:=?_);refine dc (λ_ _=>zg (B:=natC e)) (k:=?_);refine dc (λ_ _=>zf (f:=81) (hc:=λw' X hk hh=>hm w' hk)) (k:=?_);refine zaV ?_;refine zaV ?_;refine zS ?_;refine yv (zf (f:=75) (hc:=λw' X hk hh=>hn w' hk)) (k:=?_);refine yn (zj (n:=r)) (k:=?_))|fail)
  exact ret1 rfl (resCells (B:=natC r) rfl (ty rfl) rfl Has.go Seg.all (ze _).symm) SubR.nil ⟨rfl,rfl⟩
theorem zlI (i b e:Nat) (w:World) (h0:1<=i) (h5:i<=4) (hG:GT w) (hC:CalcIs i b w) (he:e < 18446744073709551616 ^ 16) (hd:e < gQ i):
    Sy.Fn Tryz.prog 36 [.pointer (some ⟨b,0,none⟩),natV e] w No (Gives (natV (4 ^ e % gP i))):=by
  refine zk Tryz.func36 rfl Tryz.ntmps36 (by simp) Holds.nil ?_
  have hci:=hC.cell
  have hm:=λw' (hk:Keep No w w')=>zl1 i e w' h0 h5 (hG.to hk) he hd
  have hn:=λw' (hk:Keep No w w')=>zbV i b (4 ^ e % gP i) w' (hC.to hk)
  generalize 4 ^ e % gP i=r at *
  have le:=ze e
  have lr:=ze r
  repeat' (first|refine s_0 ?_|(refine za (id:=0) ?_;(refine zi ?_;intro _);(refine zi ?_;intro _))|(refine zJ (id:=1) 9 [[],[],[1],[1,2],[1,2,3],[],[1,2,3,4,5],[1,2,3,4,5,6],[1,2,3,4,5,6],[0,1,2,3,4,5,6,7,8],[0,1,2,3,4,5,6,7,8,9]] mixed ?_ ?_;kernel_rfl;refine zo ?_;refine zo ?_;refine zap ?_;refine zY ?_;refine dc (λ_ _=>zw (hv:=hci)) (k:=?_);refine dc (λ_ _=>zg (B:=natC e)) (k:=?_);refine dc (λ_ _=>zf (f:=80) (hc:=λw' X hk hh=>hm w' hk)) (k:=?_);refine zaV ?_;refine zaV ?_;refine zS ?_;refine yv (zf (f:=75) (hc:=λw' X hk hh=>hn w' hk)) (k:=?_);refine yn (zj (n:=r)) (k:=?_))|fail)
  exact ret1 rfl (resCells (B:=natC r) rfl (ty rfl) rfl Has.go Seg.all (ze _).symm) SubR.nil ⟨rfl,rfl⟩
theorem zpR (i b x:Nat) (w:World) (h0:1<=i) (h5:i<=4) (hG:GT w) (hC:CalcIs i b w) (hx:x < 18446744073709551616 ^ 16) (hc:memB (gP i) (gQ i) x=true):
    Sy.Fn Tryz.prog 58 [.pointer (some ⟨b,0,none⟩),natV x] w No (Gives (natV (inv (gP i) x).2)):=by
  refine zk Tryz.func58 rfl Tryz.ntmps58 (by simp) Holds.nil ?_
  have hci:=hC.cell
  have hm:=λw' (hk:Keep No w w')=>zpr i x w' h0 h5 (hG.to hk) hx hc
  have hn:=λw' (hk:Keep No w w')=>zbV i b (inv (gP i) x).2 w' (hC.to hk)
  generalize (inv (gP i) x).2=r at *
  have lx:=ze x
  have lr:=ze r
  repeat' (first|refine s_0 ?_|(refine za (id:=0) ?_;(refine zi ?_;intro _);(refine zi ?_;intro _))|(refine zJ (id:=1) 9 [[],[],[1],[1,2],[1,2,3],[],[1,2,3,4,5],[1,2,3,4,5,6],[1,2,3,4,5,6],[0,1,2,3,4,5,6,7,8],[0,1,2,3,4,5,6,7,8,9]] mixed ?_ ?_;kernel_rfl;refine zo ?_;refine zo ?_;refine zap ?_;refine zY ?_;refine dc (λ_ _=>zw (hv:=hci)) (k:=?_);refine dc (λ_ _=>zg (B:=natC x)) (k:=?_);refine dc (λ_ _=>zf (f:=97) (hc:=λw' X hk hh=>hm w' hk)) (k:=?_);refine zaV ?_;refine zaV ?_;refine zS ?_;refine yv (zf (f:=75) (hc:=λw' X hk hh=>hn w' hk)) (k:=?_);refine yn (zj (n:=r)) (k:=?_))|fail)
  exact ret1 rfl (resCells (B:=natC r) rfl (ty rfl) rfl Has.go Seg.all (ze _).symm) SubR.nil ⟨rfl,rfl⟩
theorem zg8 (i b:Nat) (w:World) (h0:1<=i) (h5:i<=4) (hT:Tab w No) (hG:GT w) (hC:CalcIs i b w):
    Sy.Fn Tryz.prog 33 [.pointer (some ⟨b,0,none⟩)] w No (Gives (.tuple #[natV (pkPt i true),natV (pkPt i false)])):=by
  refine zk Tryz.func33 rfl Tryz.ntmps33 (by simp) Holds.nil ?_
  have hci:=hC.cell
  have hm:=λw' (hk:Keep No w w')=>zh4 i w' h0 h5 (hT.no hk) (hG.to hk)
  have hn:=λw' (hk:Keep No w w')=>zbV i b (pkPt i true) w' (hC.to hk)
  generalize pkPt i true=p at *
  generalize pkPt i false=q at *
  have lp:=ze p
  have lq:=ze q
  repeat' (first|refine s_0 ?_|(refine za (id:=0) ?_;(refine zi ?_;intro _);(refine zi ?_;intro _))|(refine za (id:=1) ?_;refine zb ?_;refine zy ?_;refine zm ?_;refine yv (zw (hv:=hci)) (k:=?_);refine yv (zf (f:=61) (hc:=λw' X hk hh=>hm w' hk)) (k:=?_);refine zb ?_;refine zh ?_;refine zh ?_;refine zh ?_;refine yn (zj (n:=p)) (k:=?_);refine yn (zj (n:=q)) (k:=?_);refine zd ?_)|(refine zJ (id:=2) 6 [[],[],[],[0,1,2],[],[0,1,2,3],[0,1,2,3,4,5]] mixed ?_ ?_;kernel_rfl;refine zo ?_;refine dc (λ_ _=>zg (B:=natC p)) (k:=?_);refine zo ?_;refine dc (λ_ _=>zf (f:=75) (hc:=λw' X hk hh=>hn w' hk)) (k:=?_);refine dc (λ_ _=>zg (B:=natC q)) (k:=?_))|fail)
  refine dcn (λ_ _=>zj (n:=p)) (k:=?_)
  repeat' (first|refine s_0 ?_|(refine zB ?_;first|refine yn (zj (n:=q)) (k:=?_)|fail)|refine zS ?_|fail)
  exact ret2 rfl (resCells (B:=natC p) rfl (ty rfl) rfl Has.go Seg.all (ze _).symm) (resCells (B:=natC q) rfl (ty rfl) rfl Has.go Seg.all (ze _).symm) SubR.nil ⟨rfl,rfl⟩
theorem zjL (i b:Nat) (a:Option Addr) (n c:Nat) (bl:List UInt8) (w:World) (h0:1<=i) (h5:i<=4) (hG:GT w) (hC:CalcIs i b w) (hl:bl.length=n) (hcap:n<=c) (hc2:n < 1000000) (hb:SlA w a (bl.map v8)):
    Sy.Fn Tryz.prog 32 [.pointer (some ⟨b,0,none⟩),.slice a n c] w No (Gives (natV (pkX i bl))):=by
  refine zk Tryz.func32 rfl Tryz.ntmps32 (by simp) Holds.nil ?_
  have hci:=hC.cell
  have hm:=λw' (hk:Keep No w w')=>zg0 i a n c bl w' h0 h5 (hG.to hk) hl hcap hc2 ((SlF.of hb).to (Mi:=No) hk (λ_ h=> .inr h)).sla
  have hn:=λw' (hk:Keep No w w')=>zbV i b (bev 256 (bn bl) % gQ i) w' (hC.to hk)
  have hW:bev 256 (bn bl) % gQ i < 18446744073709551616 ^ 16:=Nat.lt_trans (Nat.mod_lt _ (Nat.lt_of_lt_of_le (by decide) (zaI i h0 h5))) (zbq i h0 h5)
  have hz:=λw'=>zbi (bev 256 (bn bl) % gQ i) w' hW
  have hx:pkX i bl=if bev 256 (bn bl) % gQ i=0 then 1 else bev 256 (bn bl) % gQ i:=rfl
  have h1:=λw'=>zfS 1 w' (by decide)
  rw [hx]
  generalize bev 256 (bn bl) % gQ i=r at *
  have lr:=ze r
  have l1:=ze 1
  by_cases h:r=0
  · rw [if_pos h]
    simp only [h,decide_true] at hz
    subst h
    repeat' (first|refine s_0 ?_|(refine za (id:=0) ?_;(refine zi ?_;intro _))|(refine za (id:=1) ?_;refine zb ?_;refine zb ?_;refine zy ?_;refine zm ?_;refine yv (zw (hv:=hci)) (k:=?_);refine zb ?_;refine yv (zf (f:=77) (hc:=λw' X hk hh=>hm w' hk)) (k:=?_);refine zh ?_;refine zh ?_;refine yv (zf (f:=75) (hc:=λw' X hk hh=>hn w' hk)) (k:=?_);(refine zi ?_;intro _);refine yn (zj (n:=0)) (k:=?_))|(refine za (id:=2) ?_;refine yv (zg (B:=natC 0)) (k:=?_);refine yv (zf (hc:=λ_ _ _ _=>(hz _))) (k:=?_))|(refine za (id:=3) ?_;refine yv (zf (hc:=λ_ _ _ _=>(h1 _))) (k:=?_);refine yn (zj (n:=1)) (k:=?_))|fail)
    exact ret1 rfl (resCells (B:=natC 1) rfl (ty rfl) rfl Has.go Seg.all (ze _).symm) SubR.nil ⟨rfl,rfl⟩
  · rw [if_neg h]
    simp only [h,decide_false] at hz
    repeat' (first|refine s_0 ?_|(refine za (id:=0) ?_;(refine zi ?_;intro _))|(refine za (id:=1) ?_;refine zb ?_;refine zb ?_;refine zy ?_;refine zm ?_;refine yv (zw (hv:=hci)) (k:=?_);refine zb ?_;refine yv (zf (f:=77) (hc:=λw' X hk hh=>hm w' hk)) (k:=?_);refine zh ?_;refine zh ?_;refine yv (zf (f:=75) (hc:=λw' X hk hh=>hn w' hk)) (k:=?_);(refine zi ?_;intro _);refine yn (zj (n:=r)) (k:=?_))|(refine za (id:=2) ?_;refine yv (zg (B:=natC r)) (k:=?_);refine yv (zf (hc:=λ_ _ _ _=>(hz _))) (k:=?_))|(refine za (id:=4) ?_;refine yv (zg (B:=natC r)) (k:=?_);refine yn (zj (n:=r)) (k:=?_))|fail)
    exact ret1 rfl (resCells (B:=natC r) rfl (ty rfl) rfl Has.go Seg.all (ze _).symm) SubR.nil ⟨rfl,rfl⟩
theorem zhE (i b x:Nat) (w:World) (h0:1<=i) (h5:i<=4) (hG:GT w) (hC:CalcIs i b w) (hx:x < 18446744073709551616 ^ 16) (hc:memB (gP i) (gQ i) x=true):
    Sy.Fn Tryz.prog 34 [.pointer (some ⟨b,0,none⟩),natV x] w No (λv R=>∃a c,v= .slice a (gL i) c/\R= [.row (.slice a (gL i) c) 5 1 (gL i) ((fixB (gL i) x).map v8)]):=by
  refine zk Tryz.func34 rfl Tryz.ntmps34 (by simp) Holds.nil ?_
  have hci:=hC.cell
  have hm:=λw' (hk:Keep No w w')=>zh0 i x w' h0 h5 (hG.to hk) hx hc
  have hn:=λw' (hk:Keep No w w')=>zbV i b x w' (hC.to hk)
  have lx:=ze x
  repeat' (first|refine s_0 ?_|(refine za (id:=0) ?_;(refine zi ?_;intro _);refine zd ?_)|fail)
  rename_i b3
  unfold FixG at hm
  refine zai (id:=1) mixed ?_
  (refine zad 10 10 [[],[0],[0,1],[0,1,2],[],[0,1,2,3,4],[0,1,2,3,4,5],[0,1,2,3,4,5,6],[0,1,2,3,4,5,6],[0,1,2,3,4,5,6,7],[0,1,2,3,4,5,6,7,8,9]] [[],[],[],[],[],[],[],[],[],[],[]] none rfl ?_ ?_ ?_;kernel_rfl;kernel_rfl;refine zU ?_;refine zaH ?_;refine z6 ?_;refine dcE (λ_ _=>zw (hv:=hci)) (k:=?_);refine dcE (λ_ _=>zg (B:=natC x)) (k:=?_);try refine dh_0nE (h:=?_))
  refine z8 (R:=λ_=>FixG i x) (λ_ _ _=>rfl) (λρ hρ=>zn (f:=62) (hc:=λw' X hk hh=>hm w' hk)) (h:=?_)
  refine zbs (u:=λρ=>(ρ 5).1) (λρ hρ=>zcV) (λ_=>rfl) rfl (λρ ρ' h=>by rw [h 5 (by decide)]) (h:=?_)
  refine zbs (u:=λρ=>tup (ρ 5).1 0) (λρ hρ=>?_) (λ_=>rfl) rfl (λρ ρ' h=>by rw [h 5 (by decide)]) (h:=?_)
  · obtain ⟨⟨a,c,e1,e2⟩,-⟩:=hρ
    refine OpT.mono (zaG (vs:=#[.slice a (gL i) c,.int .i64 0]) (hx:=by show some (ρ 5).1=_;rw [e1])) λv L' h=>?_
    obtain ⟨rfl,rfl⟩:=h
    exact ⟨by rw [e1];rfl,rfl⟩
  refine dcE (u:=.int .i64 0) (λρ hρ=>?_) (k:=?_)
  · obtain ⟨⟨a,c,e1,e2⟩,-⟩:=hρ
    exact zaG (vs:=#[.slice a (gL i) c,.int .i64 0]) (hx:=by show some (ρ 5).1=_;rw [e1])
  refine zbs (u:=λρ=>tup (ρ 5).1 0) (λρ hρ=>zbK) (λ_=>rfl) rfl (λρ ρ' h=>by rw [h 5 (by decide)]) (h:=?_)
  refine zaT (h:=?_)
  rintro ρ ⟨⟨aF,cF,e1,e2⟩,-⟩
  (refine zah [[],[0],[0,1],[0,1,2],[],[0,1,2,3,4],[0,1,2,3,4,5],[0,1,2,3,4,5,6],[0,1,2,3,4,5,6],[0,1,2,3,4,5,6,7],[0,1,2,3,4,5,6,7,8,9]] ?_ ?_;kernel_rfl)
  have e3:tup (ρ 5).1 0= .slice aF (gL i) cF:=by rw [e1];rfl
  refine SyL.weaken (fr':=[(15,.int .i64 0),(5,.slice aF (gL i) cF),(0,.pointer (some ⟨b,0,none⟩)),(3,.pointer (some ⟨b3,0,none⟩)),(4,.slice none 0 0)]) (L':=[.row (.slice aF (gL i) cF) 5 1 (gL i) ((fixB (gL i) x).map v8),.blk b3 73 (natC x)]) ?_ (by simp only [e3];exact Sub.go) ?_
  rotate_left
  · show SubR _ ((ρ 5).2 ++ _)
    rw [e2]
    exact SubR.go2
  repeat' (first|refine s_0 ?_|(refine za (id:=2) ?_;refine zb ?_;refine yv (zg (B:=natC x)) (k:=?_);refine zb ?_;refine yv (zf (f:=75) (hc:=λw' X hk hh=>hn w' hk)) (k:=?_))|(refine za (id:=3) ?_;refine zb ?_;refine zd ?_)|(refine zB ?_;first|refine zd ?_|fail)|fail)
  exact ret1 rfl (resTmp rfl) (by exact SubR.go2) ⟨_,_,rfl,rfl⟩
theorem zkR (i b x:Nat) (w:World) (h0:1<=i) (h5:i<=4) (hG:GT w) (hC:CalcIs i b w) (hx:x < 18446744073709551616 ^ 16) (hc:decide (x < gQ i)=true):
    Sy.Fn Tryz.prog 59 [.pointer (some ⟨b,0,none⟩),natV x] w No (λv R=>∃a c,v= .slice a (gL i) c/\R= [.row (.slice a (gL i) c) 5 1 (gL i) ((fixB (gL i) x).map v8)]):=by
  refine zk Tryz.func59 rfl Tryz.ntmps59 (by simp) Holds.nil ?_
  have hci:=hC.cell
  have hm:=λw' (hk:Keep No w w')=>zk5 i x w' h0 h5 (hG.to hk) hx hc
  have hn:=λw' (hk:Keep No w w')=>zbV i b x w' (hC.to hk)
  have lx:=ze x
  repeat' (first|refine s_0 ?_|(refine za (id:=0) ?_;(refine zi ?_;intro _);refine zd ?_)|fail)
  rename_i b3
  unfold FixG at hm
  refine zai (id:=1) mixed ?_
  (refine zad 10 10 [[],[0],[0,1],[0,1,2],[],[0,1,2,3,4],[0,1,2,3,4,5],[0,1,2,3,4,5,6],[0,1,2,3,4,5,6],[0,1,2,3,4,5,6,7],[0,1,2,3,4,5,6,7,8,9]] [[],[],[],[],[],[],[],[],[],[],[]] none rfl ?_ ?_ ?_;kernel_rfl;kernel_rfl;refine zU ?_;refine zaH ?_;refine z6 ?_;refine dcE (λ_ _=>zw (hv:=hci)) (k:=?_);refine dcE (λ_ _=>zg (B:=natC x)) (k:=?_);try refine dh_0nE (h:=?_))
  refine z8 (R:=λ_=>FixG i x) (λ_ _ _=>rfl) (λρ hρ=>zn (f:=98) (hc:=λw' X hk hh=>hm w' hk)) (h:=?_)
  refine zbs (u:=λρ=>(ρ 5).1) (λρ hρ=>zcV) (λ_=>rfl) rfl (λρ ρ' h=>by rw [h 5 (by decide)]) (h:=?_)
  refine zbs (u:=λρ=>tup (ρ 5).1 0) (λρ hρ=>?_) (λ_=>rfl) rfl (λρ ρ' h=>by rw [h 5 (by decide)]) (h:=?_)
  · obtain ⟨⟨a,c,e1,e2⟩,-⟩:=hρ
    refine OpT.mono (zaG (vs:=#[.slice a (gL i) c,.int .i64 0]) (hx:=by show some (ρ 5).1=_;rw [e1])) λv L' h=>?_
    obtain ⟨rfl,rfl⟩:=h
    exact ⟨by rw [e1];rfl,rfl⟩
  refine dcE (u:=.int .i64 0) (λρ hρ=>?_) (k:=?_)
  · obtain ⟨⟨a,c,e1,e2⟩,-⟩:=hρ
    exact zaG (vs:=#[.slice a (gL i) c,.int .i64 0]) (hx:=by show some (ρ 5).1=_;rw [e1])
  refine zbs (u:=λρ=>tup (ρ 5).1 0) (λρ hρ=>zbK) (λ_=>rfl) rfl (λρ ρ' h=>by rw [h 5 (by decide)]) (h:=?_)
  refine zaT (h:=?_)
  rintro ρ ⟨⟨aF,cF,e1,e2⟩,-⟩
  (refine zah [[],[0],[0,1],[0,1,2],[],[0,1,2,3,4],[0,1,2,3,4,5],[0,1,2,3,4,5,6],[0,1,2,3,4,5,6],[0,1,2,3,4,5,6,7],[0,1,2,3,4,5,6,7,8,9]] ?_ ?_;kernel_rfl)
  have e3:tup (ρ 5).1 0= .slice aF (gL i) cF:=by rw [e1];rfl
  refine SyL.weaken (fr':=[(15,.int .i64 0),(5,.slice aF (gL i) cF),(0,.pointer (some ⟨b,0,none⟩)),(3,.pointer (some ⟨b3,0,none⟩)),(4,.slice none 0 0)]) (L':=[.row (.slice aF (gL i) cF) 5 1 (gL i) ((fixB (gL i) x).map v8),.blk b3 73 (natC x)]) ?_ (by simp only [e3];exact Sub.go) ?_
  rotate_left
  · show SubR _ ((ρ 5).2 ++ _)
    rw [e2]
    exact SubR.go2
  repeat' (first|refine s_0 ?_|(refine za (id:=2) ?_;refine zb ?_;refine yv (zg (B:=natC x)) (k:=?_);refine zb ?_;refine yv (zf (f:=75) (hc:=λw' X hk hh=>hn w' hk)) (k:=?_))|(refine za (id:=3) ?_;refine zb ?_;refine zd ?_)|(refine zB ?_;first|refine zd ?_|fail)|fail)
  exact ret1 rfl (resTmp rfl) (by exact SubR.go2) ⟨_,_,rfl,rfl⟩
end Go.Proofs.YtcpjfilcilcekaaGreatDoor
end
section
namespace Go.Sy
open Go Instr Go.MapKept
section
variable {P:Program}{ro:Option Nat}{N:Nat}{w0:World}{M:Nat->Prop}{ds:List Deferred}{g:Nat->Option Value}{L:List Res}{o:Oper}{t k e:TypeId}{d:TypeDesc}{m x:Operand}
def mapR (b:Nat) (es:List MapEntry) (c:Nat):Res:=.obj b (.map es.toArray c)
theorem zlr (ho:o.op= .makeMap t none:=by exact rfl):OpT P ro N w0 M ds o g L (λv L'=>∃b,v= .map (some b)/\L'=mapR b [] 0::L):=
  OpT.run (by rw [ho];rfl) λa w X hs=>by
    refine ⟨_,_,w.alloc (.map #[] 0),mapR w.heap.size [] 0::L,?_,.inl rfl,⟨w.heap.size,rfl,rfl⟩,hs.keep.trans (Keep.alloc No w _) (λ_ h=>h.elim),hs.hold.newObj hs.keep.size _⟩
    simp [execOp,ho,Instr.makeMap]
theorem Keep.setObj (w:World) (b:Nat) (ob:Obj):Keep (· =b) w { w with heap:=w.heap.setIfInBounds b ob } :=
  ⟨rfl,rfl,rfl,by simp,λj _ hn=>by
    show (w.heap.setIfInBounds b ob)[j]?=_
    rw [Array.getElem?_setIfInBounds_ne (λh=>hn h.symm)]⟩
theorem zhZ {z:Operand}{b c:Nat}{es:List MapEntry}{key v:Value}{L':List Res}(ht:P.underlying t=some (.map k e)) (hd:P.underlying k=some d) (hk:IsKey d key) (hf:findNow d key es 0=some none) (ho:o.op= .insert t m x z:=by exact rfl)
    (hm:ev g m=some (.map (some b)):=by exact rfl) (hx:ev g x=some key:=by exact rfl) (hz:ev g z=some v:=by exact rfl)
    (hL:Upd L (mapR b es c) (mapR b (es ++ [MapEntry.mk key v c]) (c+1)) L':=by repeat (first|exact Upd.here|apply Upd.there)):OpT P ro N w0 M ds o g L (Det undef L'):=
  OpT.run (by rw [ho];rfl) λa w X hs=>by
    have hb:w.heap[b]?=some (.map es.toArray c):=hs.hold.has (r:=mapR b es c) (by obtain ⟨A,B,e,_⟩:=hL;subst e;simp [Has])
    have hmi:=hs.hold.mine (mapR b es c) (by obtain ⟨A,B,e,_⟩:=hL;subst e;simp) b rfl
    obtain ⟨s1,s2⟩:=heap_set (o':=.map (es ++ [MapEntry.mk key v c]).toArray (c+1)) hb
    refine ⟨_,_,{ w with heap:=w.heap.setIfInBounds b (.map (es ++ [MapEntry.mk key v c]).toArray (c+1)) },L',?_,.inr ⟨rfl,rfl⟩,⟨rfl,rfl⟩,zdj hs.keep (Keep.setObj w b _) hmi,?_⟩
    · have hg:(getObj b).run P w= .ok (.map es.toArray c) w:=by simp [getObj,Sem.run,hb]
      have e1:(es.toArray.push (MapEntry.mk key v c))=(es ++ [MapEntry.mk key v c]).toArray:=by simp
      simp [execOp,ho,hs.agr.eval hm,hs.agr.eval hx,hs.agr.eval hz,Instr.mapUpdate,run_underlying ht,hg,run_checkKey hd hk,run_findKey hd hf,run_setObj_map _ hb,e1]
    · exact hs.hold.upd hL.append (λb' hb'=> .inl hb') s1 ((Keep.setObj w b _).mono (λx hx=>by subst hx;exact rfl))
theorem zl2 {b c i:Nat}{es:List MapEntry}{key v:Value}(ht:P.underlying t=some (.map k e)) (hd:P.underlying k=some d) (hk:IsKey d key) (hf:findNow d key es 0=some (some (i,v))) (ho:o.op= .lookup t m x false:=by exact rfl)
    (hm:ev g m=some (.map (some b)):=by exact rfl) (hx:ev g x=some key:=by exact rfl) (hL:Has L (mapR b es c):=by repeat (first|exact Has.here|apply Has.there)):OpT P ro N w0 M ds o g L (Det v L):=
  OpT.still (by rw [ho];rfl) λa w X hs=>by
    have hb:w.heap[b]?=some (.map es.toArray c):=hs.hold.has (r:=mapR b es c) (Has.append hL)
    have hg:(getObj b).run P w= .ok (.map es.toArray c) w:=by simp [getObj,Sem.run,hb]
    simp [execOp,ho,hs.agr.eval hm,hs.agr.eval hx,Instr.lookup,run_underlying ht,hg,run_checkKey hd hk,run_findKey hd hf]
theorem zjB {b c i:Nat}{es:List MapEntry}{key v:Value}(ht:P.underlying t=some (.map k e)) (hd:P.underlying k=some d) (hk:IsKey d key) (hf:findNow d key es 0=some (some (i,v))) (ho:o.op= .lookup t m x true:=by exact rfl)
    (hm:ev g m=some (.map (some b)):=by exact rfl) (hx:ev g x=some key:=by exact rfl) (hL:Has L (mapR b es c):=by repeat (first|exact Has.here|apply Has.there)):OpT P ro N w0 M ds o g L (Det (.tuple #[v,.bool true]) L):=
  OpT.still (by rw [ho];rfl) λa w X hs=>by
    have hb:w.heap[b]?=some (.map es.toArray c):=hs.hold.has (r:=mapR b es c) (Has.append hL)
    have hg:(getObj b).run P w= .ok (.map es.toArray c) w:=by simp [getObj,Sem.run,hb]
    simp [execOp,ho,hs.agr.eval hm,hs.agr.eval hx,Instr.lookup,run_underlying ht,hg,run_checkKey hd hk,run_findKey hd hf]
theorem zih {b c:Nat}{es:List MapEntry}{key zv:Value}(ht:P.underlying t=some (.map k e)) (hd:P.underlying k=some d) (hk:IsKey d key) (hf:findNow d key es 0=some none) (hzv: ∀w:World,(zeroValue e).run P w= .ok zv w) (ho:o.op= .lookup t m x true:=by exact rfl)
    (hm:ev g m=some (.map (some b)):=by exact rfl) (hx:ev g x=some key:=by exact rfl) (hL:Has L (mapR b es c):=by repeat (first|exact Has.here|apply Has.there)):OpT P ro N w0 M ds o g L (Det (.tuple #[zv,.bool false]) L):=
  OpT.still (by rw [ho];rfl) λa w X hs=>by
    have hb:w.heap[b]?=some (.map es.toArray c):=hs.hold.has (r:=mapR b es c) (Has.append hL)
    have hg:(getObj b).run P w= .ok (.map es.toArray c) w:=by simp [getObj,Sem.run,hb]
    simp [execOp,ho,hs.agr.eval hm,hs.agr.eval hx,Instr.lookup,run_underlying ht,hg,run_checkKey hd hk,run_findKey hd hf,hzv]
end
end Go.Sy
end
section
namespace Go.Proofs.YtcpjfilcilcekaaGreatDoor
open Go Go.Sy Go.Sh Go.Nt Go.RowKit
attribute [local irreducible] Sy SyL SyX Sy.Fn callFunc natC
set_option maxRecDepth 10000
theorem zpS (x y:Nat) (w:World):Sy.Fn Tryz.prog 69 [natV x,natV y] w No (Gives (natV x)):=by
  refine zk Tryz.func69 rfl Tryz.ntmps69 (by simp) Holds.nil ?_
  have lx:=ze x
  have ly:=ze y
  repeat' (first|refine s_0 ?_|(refine za (id:=0) ?_;(refine zi ?_;intro _);(refine zi ?_;intro _);(refine zi ?_;intro _))|(refine za (id:=1) ?_;refine yv (zg (B:=natC x)) (k:=?_);refine yn (zj (n:=x)) (k:=?_))|fail)
  exact ret1 rfl (resCells (B:=natC x) rfl (ty rfl) rfl Has.go Seg.all (ze _).symm) SubR.nil ⟨rfl,rfl⟩
theorem zpW (x y:Nat) (w:World):Sy.Fn Tryz.prog 70 [natV x,natV y] w No (Gives (natV y)):=by
  refine zk Tryz.func70 rfl Tryz.ntmps70 (by simp) Holds.nil ?_
  have lx:=ze x
  have ly:=ze y
  repeat' (first|refine s_0 ?_|(refine za (id:=0) ?_;(refine zi ?_;intro _);(refine zi ?_;intro _);(refine zi ?_;intro _))|(refine za (id:=1) ?_;refine yv (zg (B:=natC y)) (k:=?_);refine yn (zj (n:=y)) (k:=?_))|fail)
  exact ret1 rfl (resCells (B:=natC y) rfl (ty rfl) rfl Has.go Seg.all (ze _).symm) SubR.nil ⟨rfl,rfl⟩
theorem zpH (a b:Option Addr) (n c m d:Nat) (w:World):Sy.Fn Tryz.prog 71 [.slice a n c,.slice b m d] w No (Gives (.tuple #[.slice a n c,.slice b m d])):=by
  refine zk Tryz.func71 rfl Tryz.ntmps71 (by simp) Holds.nil ?_
  repeat' (first|refine s_0 ?_|(refine za (id:=0) ?_;refine zd ?_;refine zd ?_)|(refine za (id:=1) ?_;refine zb ?_;refine zb ?_;refine zd ?_;refine zd ?_)|fail)
  exact ret2 rfl (resTmp rfl) (resTmp rfl) SubR.nil ⟨rfl,rfl⟩
theorem zpe (a b:Option Addr) (n c m d:Nat) (w:World):Sy.Fn Tryz.prog 72 [.slice a n c,.slice b m d] w No (Gives (.tuple #[.slice b m d,.slice a n c])):=by
  refine zk Tryz.func72 rfl Tryz.ntmps72 (by simp) Holds.nil ?_
  repeat' (first|refine s_0 ?_|(refine za (id:=0) ?_;refine zd ?_;refine zd ?_)|(refine za (id:=1) ?_;refine zb ?_;refine zb ?_;refine zd ?_;refine zd ?_)|fail)
  exact ret2 rfl (resTmp rfl) (resTmp rfl) SubR.nil ⟨rfl,rfl⟩
def aggC:Value:=.agg #[.string (str (pkName true)),.func (.func 69) #[] #[],.func (.func 70) #[] #[],.func (.func 71) #[] #[]]
def aggS:Value:=.agg #[.string (str (pkName false)),.func (.func 70) #[] #[],.func (.func 69) #[] #[],.func (.func 72) #[] #[]]
theorem zcW (w:World):Sy.Fn Tryz.prog 28 [] w No (λv R=>∃b,v= .map (some b)/\R= [mapR b [⟨.int .i64 1,aggC,0⟩,⟨.int .i64 2,aggS,1⟩] 2]):=by
  refine zk Tryz.func28 rfl Tryz.ntmps28 (by simp) Holds.nil ?_
  have ht:Tryz.prog.underlying 60=some (.map 29 58):=rfl
  have hd:Tryz.prog.underlying 29=some (.int .i64):=rfl
  have hk: ∀n,MapKept.IsKey (.int .i64) (.int .i64 n):=λ_=>rfl
  repeat' (first|refine s_0 ?_|(refine za (id:=0) ?_;refine zd ?_)|(refine za (id:=1) ?_;refine zd ?_)|(refine za (id:=2) ?_;refine zd ?_)|(refine za (id:=3) ?_)|refine yn (zhZ (key:=.int .i64 1) (v:=aggC) (ht:=ht) (hd:=hd) (hk:=hk _) (hf:=rfl)) (k:=?_)|refine yn (zhZ (key:=.int .i64 2) (v:=aggS) (ht:=ht) (hd:=hd) (hk:=hk _) (hf:=rfl)) (k:=?_)|(refine zB ?_;first|(refine ys zlr (k:=?_);rintro _ _ ⟨bm,rfl,rfl⟩)|refine zd ?_|refine zaS ?_|refine zb ?_|fail)|fail)
  exact ret1 rfl (resTmp rfl) (SubR.same Rem.here SubR.nil) ⟨bm,rfl,rfl⟩
end Go.Proofs.YtcpjfilcilcekaaGreatDoor
end
