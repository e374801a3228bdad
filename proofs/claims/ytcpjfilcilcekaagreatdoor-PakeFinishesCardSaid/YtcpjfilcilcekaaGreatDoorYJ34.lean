/- Layer pake: the cells of an exchange, what its numbers are members of; the functions of a side. -/
import Derived.Test.YtcpjfilcilcekaaGreatDoorYJ33
set_option linter.all false
section
namespace Go.Proofs.YtcpjfilcilcekaaGreatDoor
open Go Go.Sy Go.Sh Go.Nt Go.RowKit
theorem zc7 {i x:Nat}(h0:1<=i) (h5:i<=4) (h:memB (gP i) (gQ i) x=true) (e:Nat):memB (gP i) (gQ i) (x ^ e % gP i)=true:=zaK.2 (zg6 h0 h5 (by
 have:=(zd4 h0 h5 (zaK.1 h).2.2).pow e
 rwa [Nat.one_pow,<-Nat.pow_mul,Nat.mul_comm,Nat.pow_mul] at this))
theorem zjh {i x y:Nat}(h0:1<=i) (h5:i<=4) (h:memB (gP i) (gQ i) x=true) (h':memB (gP i) (gQ i) y=true):memB (gP i) (gQ i) (x*y % gP i)=true:=zaK.2 (zg6 h0 h5 (by
 have:=(zd4 h0 h5 (zaK.1 h).2.2).mul (zd4 h0 h5 (zaK.1 h').2.2)
 rwa [Nat.mul_one,<-Nat.mul_pow] at this))
theorem zmu {i x:Nat}(h0:1<=i) (h5:i<=4) (h:memB (gP i) (gQ i) x=true):memB (gP i) (gQ i) (inv (gP i) x).2=true:=by
 have hP:0 < gP i:=Nat.lt_trans Nat.zero_lt_one (zav i h0 h5)
 have h1:=(zgY (gP i) x hP).2
 rw [zgM h0 h5 h] at h1
 have hx:Cg (gP i) (x ^ gQ i) 1:=zd4 h0 h5 (zaK.1 h).2.2
 have h2:=h1.pow (gQ i)
 rw [Nat.mul_pow,Nat.one_pow] at h2
 have h3:Cg (gP i) ((inv (gP i) x).2 ^ gQ i*1) 1:=((Cg.refl _ _).mul hx.symm).trans h2
 rw [Nat.mul_one] at h3
 have h4:=zg6 h0 h5 h3
 rw [Nat.mod_eq_of_lt (zq6 (gP i) x hP)] at h4
 exact zaK.2 h4
theorem zbI {i x:Nat}(h0:1<=i) (h5:i<=4) (h:memB (gP i) (gQ i) x=true):x < 18446744073709551616 ^ 16:=Nat.lt_trans (zaK.1 h).2.1 (zaW i h0 h5)
theorem zg2 (i:Nat) (s:Bool) (h0:1<=i) (h5:i<=4):memB (gP i) (gQ i) (pkPt i s)=true:=zaK.2 (zdN i s h0 h5).2
theorem zgh (i e:Nat) (h0:1<=i) (h5:i<=4):memB (gP i) (gQ i) (4 ^ e % gP i)=true:=zaK.2 (zqm h0 h5 e)
theorem zfF (s:Bool) (i w x:Nat) (h0:1<=i) (h5:i<=4):memB (gP i) (gQ i) (pkOwn s i w x)=true:=zjh h0 h5 (zgh i x h0 h5) (zc7 h0 h5 (zg2 i s h0 h5) w)
theorem zfZ {C A B R:List Value}{k:Nat}(h:C=A ++ (B ++ R)) (hk:A.length=k):Seg C k B:=λj v hj=>by
 subst hk
 rw [h,List.getElem?_append_right (Nat.le_add_right _ _),Nat.add_sub_cancel_left,List.getElem?_append_left (List.getElem?_eq_some_iff.1 hj).1]
 exact hj
def pkC (i:Nat) (sx:Bs) (d:Bool) (G:List Value) (s:Bool) (x wv:Nat) (so:Bs):List Value:=.int .i64 (i:Int)::sx.val:: .bool d::(G ++ (.int .i64 (sideI s)::(natC x ++ (natC wv ++ [so.val]))))
section
variable {i:Nat}{sx:Bs}{d:Bool}{G:List Value}{s:Bool}{x wv:Nat}{so:Bs}
theorem zpc:(pkC i sx d G s x wv so)[0]?=some (.int .i64 (i:Int)):=rfl
theorem zro:(pkC i sx d G s x wv so)[1]?=some sx.val:=rfl
theorem zru:(pkC i sx d G s x wv so)[2]?=some (.bool d):=rfl
theorem zrw:Seg (pkC i sx d G s x wv so) 3 G:=zfZ (A:=[_,_,_]) rfl rfl
theorem zmP (h:G.length=32):(pkC i sx d G s x wv so)[35]?=some (.int .i64 (sideI s)):=
 (zfZ (C:=pkC i sx d G s x wv so) (A:=.int .i64 (i:Int)::sx.val:: .bool d::G) (B:=[.int .i64 (sideI s)]) (R:=natC x ++ (natC wv ++ [so.val])) (k:=35) rfl (by simp [h])) 0 _ rfl
theorem zl8 (h:G.length=32):Seg (pkC i sx d G s x wv so) 36 (natC x):=
 zfZ (A:=.int .i64 (i:Int)::sx.val:: .bool d::(G ++ [.int .i64 (sideI s)])) (R:=natC wv ++ [so.val]) (by unfold pkC;simp) (by simp [h])
theorem zmg (h:G.length=32):Seg (pkC i sx d G s x wv so) 52 (natC wv):=
 zfZ (A:=.int .i64 (i:Int)::sx.val:: .bool d::(G ++ (.int .i64 (sideI s)::natC x))) (R:=[so.val]) (by unfold pkC;simp) (by simp [h,ze])
theorem znz (h:G.length=32):(pkC i sx d G s x wv so)[68]?=some so.val:=
 (zfZ (C:=pkC i sx d G s x wv so) (A:=.int .i64 (i:Int)::sx.val:: .bool d::(G ++ (.int .i64 (sideI s)::(natC x ++ natC wv)))) (B:=[so.val]) (R:=[]) (k:=68) (by unfold pkC;simp) (by simp [h,ze])) 0 _ rfl
end
attribute [local irreducible] Sy SyL SyX Sy.Fn callFunc natC
set_option maxRecDepth 10000
def selA:Bool->Nat
 |true=>69
 |false=>70
def ordF:Bool->Nat
 |true=>71
 |false=>72
def aggL (s:Bool):List Value:=[.string (str (pkName s)),.func (.func (selA s)) #[] #[],.func (.func (selA (!s))) #[] #[],.func (.func (ordF s)) #[] #[]]
theorem zmz (s:Bool):aggB s= .agg (aggL s).toArray:=by cases s <;> rfl
theorem zkY (s:Bool): ∀args w,(callFunc (selA s) args).run Tryz.prog w= .ok (.enter (selA s) args) w:=by
 cases s
 ·exact en rfl
 ·exact en rfl
theorem zqt (s:Bool): ∀args w,(callFunc (ordF s) args).run Tryz.prog w= .ok (.enter (ordF s) args) w:=by
 cases s
 ·exact en rfl
 ·exact en rfl
theorem zkO (s:Bool) (f:Bool->Nat) (w:World):Sy.Fn Tryz.prog (selA s) [natV (f true),natV (f false)] w No (Gives (natV (f s))):=by
 cases s
 ·exact zqp _ _ w
 ·exact zpR _ _ w
theorem zp9 (s:Bool) (so sp:Bs) (w:World):Sy.Fn Tryz.prog (ordF s) [so.val,sp.val] w No (Gives (.tuple #[(if s then so else sp).val,(if s then sp else so).val])):=by
 cases s
 ·exact zqo _ _ _ _ _ _ w
 ·exact zp2 _ _ _ _ _ _ w
section
variable {ro:Option Nat}{N:Nat}{w0:World}{M:Nat->Prop}{ds:List Deferred}{g:Nat->Option Value}{L:List Res}{o:Oper}{m x:Operand}
theorem zou {b:Nat}(s:Bool) (ho:o.op= .lookup 60 m x false:=by exact rfl) (hm:ev g m=some (.map (some b)):=by exact rfl) (hx:ev g x=some (.int .i64 (sideI s)):=by exact rfl) (hL:Has L (mapR b pkMap 2):=by repeat (first|exact Has.here|apply Has.there)):
  OpT Tryz.prog ro N w0 M ds o g L (Det (.agg (aggL s).toArray) L):=by
 rw [<-zmz]
 exact zhO s ho hm hx hL
theorem zij {b:Nat}(s:Bool) (ho:o.op= .lookup 60 m x true:=by exact rfl) (hm:ev g m=some (.map (some b)):=by exact rfl) (hx:ev g x=some (.int .i64 (sideI s)):=by exact rfl) (hL:Has L (mapR b pkMap 2):=by repeat (first|exact Has.here|apply Has.there)):
  OpT Tryz.prog ro N w0 M ds o g L (Det (.tuple #[.agg (aggL s).toArray,.bool true]) L):=by
 rw [<-zmz]
 exact zkh (k:=29) (e:=58) (d:=.int .i64) (key:=.int .i64 (sideI s)) rfl rfl rfl (zh9 s) ho hm hx hL
theorem zis {z:Operand}{i:Int}(ho:o.op= .build 64 #[(0,z)]:=by exact rfl) (hz:ev g z=some (.int .i64 i):=by exact rfl):OpT Tryz.prog ro N w0 M ds o g L (Det (.agg [.int .i64 i,.int .i64 0].toArray) L):=
 zce (parts:=#[(0,z)]) (vs:=[.int .i64 i]) (C:=[.int .i64 i,.int .i64 0]) (.cons (cs:=[.int .i64 i]) (off:=0) (n:=1) rfl rfl rfl (by decide) .nil) ho (by simp [evs,hz]) (ty rfl) rfl rfl (zc rfl)
end
end Go.Proofs.YtcpjfilcilcekaaGreatDoor
end
section
namespace Go.Proofs.YtcpjfilcilcekaaGreatDoor
open Go Go.Sy Go.Sh Go.Nt Go.RowKit
attribute [local irreducible] Sy SyL SyX Sy.Fn callFunc natC rowN refC iC gP gQ gL memB safeC fixB Sh.sum HashIs pkPt pkH firstN dblock hmac pkDer pkDig pkC selA ordF
set_option maxRecDepth 10000
abbrev XIs (b i:Nat) (sx:Bs) (d:Bool) (G:List Value) (s:Bool) (x wv:Nat) (so:Bs) (w:World):Prop:=(Res.blk b 75 (pkC i sx d G s x wv so)).holds w
section
variable {b i:Nat}{sx:Bs}{d:Bool}{G:List Value}{s:Bool}{x wv:Nat}{so:Bs}{w w':World}
theorem XIs.c0 (h:XIs b i sx d G s x wv so w):w.cell? ⟨b,0,none⟩=some (.int .i64 (i:Int)):=by rw [Sy.blk_cell h];exact zpc
theorem XIs.c2 (h:XIs b i sx d G s x wv so w):w.cell? ⟨b,2,none⟩=some (.bool d):=by rw [Sy.blk_cell h];exact zru
theorem XIs.c35 (h:XIs b i sx d G s x wv so w) (hG:G.length=32):w.cell? ⟨b,35,none⟩=some (.int .i64 (sideI s)):=by rw [Sy.blk_cell h];exact zmP hG
theorem XIs.c68 (h:XIs b i sx d G s x wv so w) (hG:G.length=32):w.cell? ⟨b,68,none⟩=some so.val:=by rw [Sy.blk_cell h];exact znz hG
theorem XIs.r3 (h:XIs b i sx d G s x wv so w):w.rangeAt b 3 G:=zz h zrw
theorem XIs.to (h:XIs b i sx d G s x wv so w) (hk:Keep No w w'):XIs b i sx d G s x wv so w':=
 (hk.block b (Array.getElem?_eq_some_iff.1 h).1 (λh=>h)).trans h
end
theorem zkS (b i:Nat) (sx:Bs) (G:List Value) (s:Bool) (x wv y:Nat) (e:Int) (so sp:Bs) (w:World) (hG:G.length=32) (hX:XIs b i sx false G s x wv so w) (hy:y < 18446744073709551616 ^ 16) (he:e≠0\/y=1)
  (hel: ∀w',Keep No w w'->Sy.Fn Tryz.prog 56 [.int .i64 (i:Int),sp.val] w' No (Gives (.tuple #[natV y,.int .i64 e]))):
  Sy.Fn Tryz.prog 15 [.pointer (some ⟨b,0,none⟩),sp.val] w No (Gives (.int .i64 6)):=by
 refine zk Tryz.func15 rfl Tryz.ntmps15 (by simp) Holds.nil ?_
 have hch:=λw' (hk:Keep No w w') b9 h=>zkT b b9 s w' ((hX.to hk).c35 hG) ((hX.to hk).c2) h
 have h0:=hX.c0
 have ly:=ze y
 have h1:=λw'=>zgf 1 w' (by decide)
 by_cases h:e=0
 ·subst h
  obtain rfl:y=1:=he.resolve_left (λh=>h rfl)
  repeat' (first|refine s_0 ?_|(refine za (id:=0) ?_;refine zd ?_)|(refine za (id:=1) ?_;refine zb ?_;refine zW ?_;refine zb ?_;refine zW ?_;(refine ys zt (k:=?_);rintro _ _ ⟨_,rfl,rfl⟩);refine yv (zf (f:=54) (hc:=λw' X hk hh=>hch w' hk _ (zz (hh.has (Has.append Has.here)) Seg.all))) (k:=?_);refine zd ?_)|(refine za (id:=2) ?_;refine zb ?_;refine zV ?_)|(refine za (id:=4) ?_;refine zb ?_;refine zA ?_;refine zm ?_;refine zm ?_;refine yv (zx (hv:=h0)) (k:=?_);refine zb ?_;refine yv (zf (f:=56) (hc:=λw' X hk hh=>hel w' hk)) (k:=?_);refine zb ?_;refine zh ?_;refine zh ?_;(refine zi ?_;intro _);refine yn (zl (n:=1)) (k:=?_);refine zd ?_)|(refine zK (id:=5) 5 [[],[0],[0,1],[0,1,2],[0,1,2],[0,1,2,3,4],[0,1,2,3,4,5]] mixed ?_ ?_;kernel_rfl;refine zp ?_;refine zpe ?_;refine zp ?_;refine dc (λ_ _=>zg (B:=natC 1)) (k:=?_);refine dc (λ_ _=>zf (hc:=λ_ _ _ _=>(h1 _))) (k:=?_);refine zU ?_;refine yv (zeT (a:=1) (b:=1) (r:=true) natTy hy hy rfl) (k:=?_);refine zo ?_)|(refine za (id:=6) ?_;refine zd ?_)|fail)
  exact ret1 rfl (resTmp rfl) SubR.nil ⟨rfl,rfl⟩
 ·have g1:decide (e≠(0:Int))=true:=decide_eq_true h
  repeat' (first|refine s_0 ?_|(refine za (id:=0) ?_;refine zd ?_)|(refine za (id:=1) ?_;refine zb ?_;refine zW ?_;refine zb ?_;refine zW ?_;(refine ys zt (k:=?_);rintro _ _ ⟨_,rfl,rfl⟩);refine yv (zf (f:=54) (hc:=λw' X hk hh=>hch w' hk _ (zz (hh.has (Has.append Has.here)) Seg.all))) (k:=?_);refine zd ?_)|(refine za (id:=2) ?_;refine zb ?_;refine zV ?_)|(refine za (id:=4) ?_;refine zb ?_;refine zA ?_;refine zm ?_;refine zm ?_;refine yv (zx (hv:=h0)) (k:=?_);refine zb ?_;refine yv (zf (f:=56) (hc:=λw' X hk hh=>hel w' hk)) (k:=?_);refine zb ?_;refine zh ?_;refine zh ?_;(refine zi ?_;intro _);refine yn (zl (n:=y)) (k:=?_);refine zd ?_)|(refine zK (id:=5) 5 [[],[0],[0,1],[0,1,2],[0,1,2],[0,1,2,3,4],[0,1,2,3,4,5]] mixed ?_ ?_;kernel_rfl;refine zp ?_;refine dc (λ_ _=>zay (hr:=g1)) (k:=?_);refine zp ?_;refine zc8 (λ_=>rfl) rfl ?_;refine zc8 (λ_=>rfl) rfl ?_;refine zU ?_;refine zj rfl rfl rfl ?_;refine zo ?_)|(refine za (id:=6) ?_;refine zd ?_)|fail)
  exact ret1 rfl (resTmp rfl) SubR.nil ⟨rfl,rfl⟩
end Go.Proofs.YtcpjfilcilcekaaGreatDoor
end
section
namespace Go.Proofs.YtcpjfilcilcekaaGreatDoor
open Go Go.Sy Go.Sh Go.Nt Go.RowKit
attribute [local irreducible] Sy SyL SyX Sy.Fn callFunc natC rowN refC iC gP gQ gL memB safeC fixB Sh.sum HashIs pkPt pkH firstN dblock hmac pkDer pkDig pkC selA ordF
set_option maxRecDepth 10000
set_option maxHeartbeats 2000000 in
theorem zkz (b i:Nat) (sx:Bs) (G:List Value) (s:Bool) (x wv y:Nat) (so sp:Bs) (w:World) (h0:1<=i) (h5:i<=4) (hG:G.length=32) (hX:XIs b i sx false G s x wv so w) (hy1:y≠1) (hy:memB (gP i) (gQ i) y=true) (hx:x < gQ i) (hw:wv < gQ i)
  (hel: ∀w',Keep (λz=>z=b) w w'->Sy.Fn Tryz.prog 56 [.int .i64 (i:Int),sp.val] w' No (Gives (.tuple #[natV y,.int .i64 0])))
  (hps: ∀t∈[sx,so,sp],SlF w (λz=>z=b) t.a (t.l.map v8)/\t.l.length=t.n/\t.n<=t.c/\(t.a=none->t.c=0)/\t.n<=10000) (hT:Tab w (λz=>z=b)) (hGT: ∀w',Keep (λz=>z=b) w w'->GT w'):
  Sy.Fn Tryz.prog 15 [.pointer (some ⟨b,0,none⟩),sp.val] w (λz=>z=b) (λv R=>v= .int .i64 0/\
   R= [.blk b 75 (pkC i sx true ((pkDig i sx.l (if s then so else sp).l (if s then sp else so).l (fixB (gL i) (pkSh s i wv x y)) (fixB (gL i) wv)).map v8) s x wv so)]):=by
 refine zk Tryz.func15 rfl Tryz.ntmps15 (by simp) (zfV hX) ?_
 have c0:(pkC i sx false G s x wv so)[0]?=_:=zpc
 have c35:(pkC i sx false G s x wv so)[35]?=_:=zmP hG
 have c68:(pkC i sx false G s x wv so)[68]?=_:=znz hG
 have s36:Seg (pkC i sx false G s x wv so) 36 (natC x):=zl8 hG
 have s52:Seg (pkC i sx false G s x wv so) 52 (natC wv):=zmg hG
 have hch:=λw' (hX':XIs b i sx false G s x wv so w') b9 h=>zkT b b9 s w' (hX'.c35 hG) (hX'.c2) h
 have ly:=ze y
 have h1:=λw'=>zgf 1 w' (by decide)
 have hyW:=zbI h0 h5 hy
 have g1:decide (y=1)=false:=decide_eq_false hy1
 repeat' (first|refine s_0 ?_|(refine za (id:=0) ?_;refine zd ?_)|(refine za (id:=1) ?_;refine zb ?_;refine zW ?_;refine zb ?_;refine zW ?_;(refine ys zt (k:=?_);rintro _ _ ⟨_,rfl,rfl⟩);refine yv (zf (f:=54) (hc:=λw' X hk hh=>hch w' (hh.has (Has.there Has.here)) _ (zz (hh.has (Has.append Has.here)) Seg.all))) (k:=?_);refine zd ?_)|(refine za (id:=2) ?_;refine zb ?_;refine zV ?_)|(refine za (id:=4) ?_;refine zb ?_;refine zA ?_;refine zm ?_;refine zm ?_;refine yv (zw (hv:=c0)) (k:=?_);refine zb ?_;refine yv (zf (f:=56) (hc:=λw' X hk hh=>hel w' hk)) (k:=?_);refine zb ?_;refine zh ?_;refine zh ?_;(refine zi ?_;intro _);refine yn (zl (n:=y)) (k:=?_);refine zd ?_)|(refine zK (id:=5) 5 [[],[0],[0,1],[0,1,2],[0,1,2],[0,1,2,3,4],[0,1,2,3,4,5]] mixed ?_ ?_;kernel_rfl;refine zp ?_;refine zpe ?_;refine zp ?_;refine dc (λ_ _=>zg (B:=natC y)) (k:=?_);refine dc (λ_ _=>zf (hc:=λ_ _ _ _=>(h1 _))) (k:=?_);refine zU ?_;refine yv (zeT (a:=y) (b:=1) (r:=false) natTy hyW (by decide) g1) (k:=?_);refine zo ?_)|fail)
 rename_i b21 b6
 refine Sy.weaken (fr':=[(6,.pointer (some ⟨b6,0,none⟩)),(1,sp.val),(0,.pointer (some ⟨b,0,none⟩))]) (L':=[.blk b6 73 (natC y),.blk b 75 (pkC i sx false G s x wv so)]) ?_ (by exact Sub.go) (by exact SubR.go)
 refine zah (id:=7) mixed ?_
 (refine zab 7 7 [[],[],[1],[1,2],[1,2,3],[0,1,2,3,4],[],[0,1,2,3,4,5,6]] [[],[],[],[],[],[],[],[]] none rfl ?_ ?_ ?_;kernel_rfl;kernel_rfl;try refine z5 (h:=?_))
 refine z7 (R:=λ_ v Nw=>∃b,v= .map (some b)/\Nw= [mapR b pkMap 2]) (λ_ _ _=>rfl) (λρ hρ=>zn (f:=28) (hc:=λw' X hk hh=>zcW w')) (h:=?_)
 (skip;refine zS ?_;refine zaN ?_;refine zT ?_;refine dcE (λ_ _=>zw (hv:=c35)) (k:=?_);try refine z5 (h:=?_))
 refine dcE (u:=.agg (aggL s).toArray) (λρ hρ=>?_) (k:=?_)
 ·obtain ⟨⟨bm,e1,e2⟩,-⟩:=hρ
  exact zou (b:=bm) s (hm:=by show some (ρ 0).1=_;rw [e1]) (hL:=by show Has ((ρ 0).2 ++ _) _;rw [e2];exact Has.here)
 refine z7 (R:=λ_ v Nw=>∃b C,C.length=4/\v= .pointer (some ⟨b,0,none⟩)/\Nw= [.blk b 58 C]) (λ_ _ _=>rfl) (λρ hρ=>OpT.mono zaX λv L' h=>?_) (h:=?_)
 ·obtain ⟨b,rfl,rfl⟩:=h
  exact ⟨[_],rfl,b,_,rfl,rfl,rfl⟩
 refine zaE (h:=?_)
 rintro ρ ⟨⟨b8,C8,l8,e8,f8⟩,⟨bm,-,f0⟩,-⟩
 (refine zag [[],[],[1],[1,2],[1,2,3],[0,1,2,3,4],[],[0,1,2,3,4,5,6]] ?_ ?_;kernel_rfl)
 refine SyL.weaken (fr':=[(48,.agg (aggL s).toArray),(8,.pointer (some ⟨b8,0,none⟩)),(6,.pointer (some ⟨b6,0,none⟩)),(1,sp.val),(0,.pointer (some ⟨b,0,none⟩))]) (L':=[.blk b8 58 C8,.blk b6 73 (natC y),.blk b 75 (pkC i sx false G s x wv so)]) ?_ ?_ ?_
 rotate_left
 ·(repeat' (first|exact Sub.nil|refine Sub.cons rfl ?_ ?_|rfl))
  exact e8
 ·show SubR _ ((ρ 6).2 ++ ((ρ 0).2 ++ _))
  rw [f8,f0]
  exact SubR.go2
 clear e8 f8 f0
 have lp1:=ze (pkPt i true)
 have lp2:=ze (pkPt i false)
 have hcp:=λb9 w' (hk:Keep (λz=>z=b) w w') (hC:CalcIs i b9 w')=>zhd i b9 w' h0 h5 (hT.no hk) (hGT w' hk) hC
 repeat' (first|refine s_0 ?_|(refine za (id:=8) ?_;refine zb ?_;refine zA ?_;refine zm ?_;refine zm ?_;refine yv (zw (hv:=c0)) (k:=?_);refine yv zis (k:=?_);(refine zi ?_;intro _);refine zB ?_)|(refine za (id:=9) ?_;refine yv (zf (f:=33) (hc:=λw' X hk hh=>hcp _ w' hk (hh.has (Has.append Has.here)))) (k:=?_);refine zb ?_;refine zh ?_;refine zh ?_;(refine zi ?_;intro _);(refine zi ?_;intro _);refine yn (zl (n:=pkPt i true)) (k:=?_);refine yn (zl (n:=pkPt i false)) (k:=?_))|(refine zC ?_;first|refine yn (zM (B:=aggL s) (hC:=l8)) (k:=?_)|fail)|fail)
 rename_i b9 b10 b11
 refine Sy.weaken (fr':=[(11,.pointer (some ⟨b11,0,none⟩)),(10,.pointer (some ⟨b10,0,none⟩)),(9,.pointer (some ⟨b9,0,none⟩)),(8,.pointer (some ⟨b8,0,none⟩)),(6,.pointer (some ⟨b6,0,none⟩)),(1,sp.val),(0,.pointer (some ⟨b,0,none⟩))])
  (L':=[.blk b9 64 [.int .i64 (i:Int),.int .i64 0],.blk b11 73 (natC (pkPt i false)),.blk b10 73 (natC (pkPt i true)),.blk b8 58 (aggL s),.blk b6 73 (natC y),.blk b 75 (pkC i sx false G s x wv so)]) ?_ (by exact Sub.go) (by exact SubR.go)
 have hmp:=zg2 i (!s) h0 h5
 have hmh:=zc7 h0 h5 hmp wv
 have hsel:=λw'=>zkO (!s) (pkPt i) w'
 have hexp:=λw' (hk:Keep (λz=>z=b) w w') (hC:CalcIs i b9 w')=>zhL i b9 (pkPt i (!s)) wv w' h0 h5 (hGT w' hk) hC (zbI h0 h5 hmp) (Nat.lt_trans hw (za3 i h0 h5)) hmp hw
 have hsh:pkSh s i wv x y=(y*(inv (gP i) (pkPt i (!s) ^ wv % gP i)).2 % gP i) ^ x % gP i:=rfl
 generalize pkPt i (!s) ^ wv % gP i=hd at *
 generalize hpn:pkPt i (!s)=pn at *
 generalize pkPt i true=pt at *
 generalize pkPt i false=pf at *
 have lh:=ze hd
 have lpn:=ze pn
 have lw:=ze wv
 refine zah (id:=10) mixed ?_
 (refine zab 11 11 [[],[0],[],[],[0,1,2,3],[],[5],[5,6],[5,6,7],[0,1,2,3,4,5,6,7,8],[],[0,1,2,3,4,5,6,7,8,9,10]] [[],[],[],[],[],[],[],[],[],[],[],[]] none rfl ?_ ?_ ?_;kernel_rfl;kernel_rfl;refine zT ?_;refine dcE (λ_ _=>zw (v:=.func (.func (selA (!s))) #[] #[]) (hv:=rfl)) (k:=?_);refine dcE (λ_ _=>zg (B:=natC pt)) (k:=?_);refine dcE (λ_ _=>zg (B:=natC pf)) (k:=?_);refine dcE (λ_ _=>zaI (he:=zkY (!s)) (fst:=[]) (cap:=[]) (hc:=λw' X hk hh=>hsel w')) (k:=?_);refine zS ?_;refine zaN ?_;refine zT ?_;refine dcE (λ_ _=>zg (B:=natC wv) (hv:=s52)) (k:=?_);refine dcE (λ_ _=>zf (f:=37) (hc:=λw' X hk hh=>hexp w' hk (hh.has (Has.append Has.here)))) (k:=?_);try refine z5 (h:=?_))
 refine z7 (R:=λ_=>PtrOf 73 (List.replicate 16 (.int .u64 0))) (λ_ _ _=>rfl) (λρ hρ=>OpT.mono zaX λv L' h=>?_) (h:=?_)
 ·obtain ⟨b,rfl,rfl⟩:=h
  exact ⟨[_],rfl,b,rfl,rfl⟩
 refine zaE (h:=?_)
 rintro ρ ⟨⟨b12,e12,f12⟩,-⟩
 (refine zag [[],[0],[],[],[0,1,2,3],[],[5],[5,6],[5,6,7],[0,1,2,3,4,5,6,7,8],[],[0,1,2,3,4,5,6,7,8,9,10]] ?_ ?_;kernel_rfl)
 refine SyL.weaken (fr':=[(68,natV hd),(12,.pointer (some ⟨b12,0,none⟩)),(9,.pointer (some ⟨b9,0,none⟩)),(8,.pointer (some ⟨b8,0,none⟩)),(6,.pointer (some ⟨b6,0,none⟩)),(1,sp.val),(0,.pointer (some ⟨b,0,none⟩))])
  (L':=[.blk b12 73 (List.replicate 16 (.int .u64 0)),.blk b9 64 [.int .i64 (i:Int),.int .i64 0],.blk b8 58 (aggL s),.blk b6 73 (natC y),.blk b 75 (pkC i sx false G s x wv so)]) ?_ ?_ ?_
 rotate_left
 ·(repeat' (first|exact Sub.nil|refine Sub.cons rfl ?_ ?_|rfl))
  exact e12
 ·show SubR _ ((ρ 10).2 ++ _)
  rw [f12]
  exact SubR.go2
 clear e12 f12
 repeat' (first|refine s_0 ?_|(refine zC ?_;first|refine yn (zl (n:=hd)) (k:=?_)|fail)|fail)
 have hmi:=zmu h0 h5 hmh
 have hmm:=zjh h0 h5 hy hmi
 have hms:=zc7 h0 h5 hmm x
 have hinv:=λw' (hk:Keep (λz=>z=b) w w') (hC:CalcIs i b9 w')=>zp5 i b9 hd w' h0 h5 (hGT w' hk) hC (zbI h0 h5 hmh) hmh
 have hmul:=λw' (hk:Keep (λz=>z=b) w w') (hC:CalcIs i b9 w')=>zk1 i b9 y (inv (gP i) hd).2 w' h0 h5 (hGT w' hk) hC hyW (zbI h0 h5 hmi) (by rw [hy,hmi];rfl)
 have hexp2:=λw' (hk:Keep (λz=>z=b) w w') (hC:CalcIs i b9 w')=>zhL i b9 (y*(inv (gP i) hd).2 % gP i) x w' h0 h5 (hGT w' hk) hC (zbI h0 h5 hmm) (Nat.lt_trans hx (za3 i h0 h5)) hmm hx
 rw [<-hsh] at hexp2 hms
 have hbyt:=λw' (hk:Keep (λz=>z=b) w w') (hC:CalcIs i b9 w')=>zhY i b9 (pkSh s i wv x y) w' h0 h5 (hGT w' hk) hC (zbI h0 h5 hms) hms
 have hsca:=λw' (hk:Keep (λz=>z=b) w w') (hC:CalcIs i b9 w')=>zlj i b9 wv w' h0 h5 (hGT w' hk) hC (Nat.lt_trans hw (za3 i h0 h5)) (decide_eq_true hw)
 clear hsh hexp
 have ln1:nd 256 (pkSh s i wv x y)<=gL i:=zej h0 h5 (zaK.1 hms).2.1
 generalize pkSh s i wv x y=sv at *
 generalize y*(inv (gP i) hd).2 % gP i=mv at *
 generalize (inv (gP i) hd).2=iv at *
 have lx:=ze x
 have li:=ze iv
 have lm:=ze mv
 have lsv:=ze sv
 refine zah (id:=11) mixed ?_
 (refine zab 11 11 [[],[],[1],[0,1,2],[],[4],[4,5],[4,5,6],[0,1,2,3,4,5,6,7],[0,1,2,3,4,5,6,7,8],[0,1,2,3,4,5,6,7,8,9]] [[],[],[],[],[],[],[],[],[],[],[]] none rfl ?_ ?_ ?_;kernel_rfl;kernel_rfl;refine dcE (λ_ _=>zg (B:=natC y)) (k:=?_);refine dcE (λ_ _=>zg (B:=natC hd)) (k:=?_);refine dcE (λ_ _=>zf (f:=58) (hc:=λw' X hk hh=>hinv w' hk (hh.has (Has.append (by exact Has.go))))) (k:=?_);refine dcE (λ_ _=>zf (f:=35) (hc:=λw' X hk hh=>hmul w' hk (hh.has (Has.append (by exact Has.go))))) (k:=?_);refine zS ?_;refine zaN ?_;refine zT ?_;refine dcE (λ_ _=>zg (B:=natC x) (hv:=s36)) (k:=?_);refine dcE (λ_ _=>zf (f:=37) (hc:=λw' X hk hh=>hexp2 w' hk (hh.has (Has.append (by exact Has.go))))) (k:=?_);try refine z5 (h:=?_))
 refine z7 (R:=λ_ v Nw=>∃a c,v= .slice a (gL i) c/\Nw= [.row (.slice a (gL i) c) 5 1 (gL i) ((fixB (gL i) sv).map v8)]) (λ_ _ _=>rfl) (λρ hρ=>zn (f:=34) (hc:=λw' X hk hh=>hbyt w' hk (hh.has (Has.append (by exact Has.go))))) (h:=?_)
 refine zbf (u:=λρ=>(ρ 9).1) (λρ hρ=>zbR) (λ_=>rfl) rfl (λρ ρ' h=>by rw [h 9 (by decide)]) (h:=?_)
 refine zaE (h:=?_)
 rintro ρ ⟨⟨aS,cS,e1,e2⟩,-⟩
 (refine zag [[],[],[1],[0,1,2],[],[4],[4,5],[4,5,6],[0,1,2,3,4,5,6,7],[0,1,2,3,4,5,6,7,8],[0,1,2,3,4,5,6,7,8,9]] ?_ ?_;kernel_rfl)
 refine SyL.weaken (fr':=[(13,.slice aS (gL i) cS),(9,.pointer (some ⟨b9,0,none⟩)),(8,.pointer (some ⟨b8,0,none⟩)),(1,sp.val),(0,.pointer (some ⟨b,0,none⟩))])
  (L':=[.row (.slice aS (gL i) cS) 5 1 (gL i) ((fixB (gL i) sv).map v8),.blk b9 64 [.int .i64 (i:Int),.int .i64 0],.blk b8 58 (aggL s),.blk b 75 (pkC i sx false G s x wv so)]) ?_ ?_ ?_
 rotate_left
 ·(repeat' (first|exact Sub.nil|refine Sub.cons rfl ?_ ?_|rfl))
  exact e1
 ·show SubR _ ((ρ 9).2 ++ _)
  rw [e2]
  exact SubR.go2
 clear e1 e2
 have hf1:=zbM (gL i) sv ln1
 have hf2:=zbM (gL i) wv (ziQ h0 h5 hw)
 have hgl:=(zdq i h0 h5).2
 repeat' (first|refine s_0 ?_|(refine za (id:=12) ?_;refine zb ?_;refine zA ?_;refine zm ?_;refine yv (zg (B:=natC wv) (hv:=s52)) (k:=?_);(refine ys (zn (f:=59) (hc:=λw' X hk hh=>hsca w' hk (hh.has (Has.append (by exact Has.go))))) (k:=?_);rintro _ _ ⟨R,rfl,aV,cV,rfl,rfl⟩);refine zd ?_)|(refine za (id:=13) ?_;refine zm ?_;refine zD ?_;refine zV ?_)|(refine zK (id:=15) 12 [[],[0],[],[2],[2,3],[2,3,4],[],[0,1,2,3,4,5,6],[0,1,2,3,4,5,6,7],[0,1,2,3,4,5,6,7,8],[0,1,2,3,4,5,6,7,8],[0,1,2,3,4,5,6,7,8,9],[0,1,2,3,4,5,6,7,8,9,10,11]] mixed ?_ ?_;kernel_rfl;refine z3 ?_;refine dc (λ_ _=>zw (v:=.func (.func (ordF s)) #[] #[]) (hv:=rfl)) (k:=?_);refine zp ?_;refine zas ?_;refine z3 ?_;refine dc (λ_ _=>zw (hv:=c68)) (k:=?_);refine zp ?_;refine dc (λ_ _=>zaI (he:=zqt s) (fst:=[]) (cap:=[]) (hc:=λw' X hk hh=>zp9 s so sp w')) (k:=?_);refine zp ?_;refine za1 ?_;refine za1 ?_;refine zd5 ?_;refine zU ?_;refine zd ?_)|fail)
 refine Sy.weaken (fr':=[(16,(if s then sp else so).val),(15,(if s then so else sp).val),(14,.slice aV (gL i) cV),(13,.slice aS (gL i) cS),(0,.pointer (some ⟨b,0,none⟩))])
  (L':=[.row (.slice aV (gL i) cV) 5 1 (gL i) ((fixB (gL i) wv).map v8),.row (.slice aS (gL i) cS) 5 1 (gL i) ((fixB (gL i) sv).map v8),.blk b 75 (pkC i sx false G s x wv so)]) ?_ (by exact Sub.go) (by exact SubR.go2)
 have hfin: ∀w' X,Keep (λz=>z=b) w w'->Holds w.heap.size (λz=>z=b) ([.row (.slice aV (gL i) cV) 5 1 (gL i) ((fixB (gL i) wv).map v8),.row (.slice aS (gL i) cS) 5 1 (gL i) ((fixB (gL i) sv).map v8),.blk b 75 (pkC i sx false G s x wv so)] ++ X) w'->
   Sy.Fn Tryz.prog 60 [.pointer (some ⟨b,0,none⟩),(if s then so else sp).val,(if s then sp else so).val,.slice aS (gL i) cS,.slice aV (gL i) cV] w' (λz=>z=b) (λv R=>v= .tuple #[]/\
    R= [.blk b 75 (pkC i sx true ((pkDig i sx.l (if s then so else sp).l (if s then sp else so).l (fixB (gL i) sv) (fixB (gL i) wv)).map v8) s x wv so)]):=λw' X hk hh=>by
  have hold: ∀t∈[sx,so,sp],SlF w' (λz=>z=b) t.a (t.l.map v8)/\t.l.length=t.n/\t.n<=t.c/\(t.a=none->t.c=0)/\t.n<=10000:=λt ht=>by
   obtain ⟨h1,h2⟩:=hps t ht
   exact ⟨h1.to hk (λ_ h=> .inr h),h2⟩
  have hb:(Res.blk b 75 (pkC i sx false G s x wv so)).holds w':=hh.has (Has.append (Has.there (Has.there Has.here)))
  have hr1:=Row.nil hh (Has.append Has.here)
  have hr2:=Row.nil hh (Has.append (Has.there Has.here))
  have hc1:=Row.cap hh (Has.append Has.here)
  have hc2:=Row.cap hh (Has.append (Has.there Has.here))
  have hs1:=SlF.rowB hh (Has.there (Has.there Has.here)) Has.here
  have hs2:=SlF.rowB hh (Has.there (Has.there Has.here)) (Has.there Has.here)
  unfold pkC at hb ⊢
  refine zlw b 75 i false G (.int .i64 (sideI s)::(natC x ++ (natC wv ++ [so.val]))) hG sx (if s then so else sp) (if s then sp else so) ⟨aS,gL i,cS,fixB (gL i) sv⟩ ⟨aV,gL i,cV,fixB (gL i) wv⟩ w' (by omega) hb (λt ht=>?_) (hT.to hk (λ_ h=> .inr h))
  simp only [List.mem_cons,List.not_mem_nil,or_false] at ht
  rcases ht with rfl|rfl|rfl|rfl|rfl
  ·exact hold _ (by simp)
  ·cases s
   ·exact hold _ (by simp)
   ·exact hold _ (by simp)
  ·cases s
   ·exact hold _ (by simp)
   ·exact hold _ (by simp)
  ·exact ⟨hs2,hf1,hc2,λh=>(hr2 h).1,by show gL i<=10000;omega⟩
  ·exact ⟨hs1,hf2,hc1,λh=>(hr1 h).1,by show gL i<=10000;omega⟩
 repeat' (first|refine s_0 ?_|(refine za (id:=16) ?_;refine zb ?_;refine zA ?_;refine zm ?_;refine zb ?_;refine zb ?_;refine zb ?_;refine zb ?_;refine yv (zbj (b:=b) (f:=60) (T:=75) (C:=pkC i sx false G s x wv so) (hc:=λw' X hk hh=>hfin w' X hk hh)) (k:=?_))|(refine za (id:=17) ?_;refine zd ?_)|fail)
 exact ret1 rfl (resTmp rfl) (by exact SubR.go2) ⟨rfl,rfl⟩
end Go.Proofs.YtcpjfilcilcekaaGreatDoor
end
section
namespace Go.Proofs.YtcpjfilcilcekaaGreatDoor
open Go Go.Sy Go.Sh Go.Nt Go.RowKit
theorem ziz {C A B B' R:List Value}{k:Nat}(h:C=A ++ (B ++ R)) (hk:A.length=k) (hl:B.length=B'.length):setSeg C k B'=A ++ (B' ++ R):=by
 subst hk
 unfold setSeg
 rw [h,List.take_left' rfl,<-List.append_assoc A B R,List.drop_left' (by rw [List.length_append,hl]),List.append_assoc]
section
variable {i:Nat}{sx:Bs}{d:Bool}{G:List Value}{s:Bool}{x wv:Nat}{so:Bs}
theorem zl3 (r:Nat) (h:G.length=32):setSeg (pkC i sx d G s x wv so) 36 (natC r)=pkC i sx d G s r wv so:=by
 rw [ziz (A:=.int .i64 (i:Int)::sx.val:: .bool d::(G ++ [.int .i64 (sideI s)])) (B:=natC x) (R:=natC wv ++ [so.val]) (by unfold pkC;simp) (by simp [h]) (by rw [ze,ze])]
 unfold pkC;simp
theorem zm0 (r:Nat) (h:G.length=32):setSeg (pkC i sx d G s x wv so) 52 (natC r)=pkC i sx d G s x r so:=by
 rw [ziz (A:=.int .i64 (i:Int)::sx.val:: .bool d::(G ++ (.int .i64 (sideI s)::natC x))) (B:=natC wv) (R:=[so.val]) (by unfold pkC;simp) (by simp [h,ze]) (by rw [ze,ze])]
 unfold pkC;simp
theorem zhD (h:G.length=32):(pkC i sx d G s x wv so).length=69:=by unfold pkC;simp [h,ze]
theorem zir (so':Bs) (h:G.length=32):SetAt (pkC i sx d G s x wv so) 68 so'.val (pkC i sx d G s x wv so'):=by
 refine ⟨by rw [zhD h];decide,?_⟩
 have e: ∀so:Bs,pkC i sx d G s x wv so=(.int .i64 (i:Int)::sx.val:: .bool d::(G ++ (.int .i64 (sideI s)::(natC x ++ natC wv)))) ++ [so.val]:=λso=>by unfold pkC;simp
 have l:(.int .i64 (i:Int)::sx.val:: .bool d::(G ++ (.int .i64 (sideI s)::(natC x ++ natC wv)))).length=68:=by simp [h,ze]
 rw [e so,e so',<-l]
 simp
end
def zG:List Value:=List.replicate 32 (.int .u8 0)
def pkZ (i:Nat) (v:Value) (s:Int):List Value:=.int .i64 (i:Int)::v:: .bool false::(List.replicate 32 (.int .u8 0) ++ (.int .i64 s::(List.replicate 32 (.int .u64 0) ++ [.slice none 0 0])))
theorem zrA (i:Nat) (sx:Bs) (s:Bool):pkZ i sx.val (sideI s)=pkC i sx false zG s 0 0 ⟨none,0,0,[]⟩:=by
 unfold pkC
 rw [<-natC0];rfl
section
variable {ro:Option Nat}{N:Nat}{w0:World}{M:Nat->Prop}{ds:List Deferred}{g:Nat->Option Value}{L:List Res}{o:Oper}{z z':Operand}
theorem zmm {i:Int}{v:Value}(hv:v.cells= #[v]) (ho:o.op= .build 68 #[(0,z),(1,z')]:=by exact rfl) (hz:ev g z=some (.int .i64 i):=by exact rfl) (hz':ev g z'=some v:=by exact rfl):
  OpT Tryz.prog ro N w0 M ds o g L (Det (.agg (.int .i64 i::v:: .bool false::List.replicate 32 (.int .u8 0)).toArray) L):=
 zce (parts:=#[(0,z),(1,z')]) (vs:=[.int .i64 i,v]) (C:=.int .i64 i::v:: .bool false::List.replicate 32 (.int .u8 0)) (.cons (cs:=[.int .i64 i]) (off:=0) (n:=1) rfl rfl rfl (Nat.le_of_ble_eq_true rfl) (.cons (cs:=[v]) (off:=1) (n:=1) hv rfl rfl (Nat.le_of_ble_eq_true rfl) .nil)) ho (by simp [evs,hz,hz']) (ty rfl) rfl rfl (zc rfl)
theorem zmO {i:Nat}{v:Value}{s:Int}(ho:o.op= .build 75 #[(0,z),(1,z')]:=by exact rfl) (hz:ev g z=some (.agg (.int .i64 (i:Int)::v:: .bool false::List.replicate 32 (.int .u8 0)).toArray):=by exact rfl) (hz':ev g z'=some (.int .i64 s):=by exact rfl):
  OpT Tryz.prog ro N w0 M ds o g L (Det (.agg (pkZ i v s).toArray) L):=
 zce (parts:=#[(0,z),(1,z')]) (vs:=[.agg (.int .i64 (i:Int)::v:: .bool false::List.replicate 32 (.int .u8 0)).toArray,.int .i64 s]) (C:=pkZ i v s) (.cons (cs:=.int .i64 (i:Int)::v:: .bool false::List.replicate 32 (.int .u8 0)) (off:=0) (n:=35) rfl rfl rfl (Nat.le_of_ble_eq_true rfl) (.cons (cs:=[.int .i64 s]) (off:=35) (n:=1) rfl rfl rfl (Nat.le_of_ble_eq_true rfl) .nil)) ho (by simp [evs,hz,hz']) (ty rfl) rfl rfl (zc rfl)
end
end Go.Proofs.YtcpjfilcilcekaaGreatDoor
end
