/- The groups: elements, scalars, powers, fixed bytes, conditions of several numbers. -/
import Derived.Test.YtcpjfilcilcekaaGreatDoorYJ21
import Derived.Test.YtcpjfilcilcekaaGreatDoorYJ25
import Derived.Test.YtcpjfilcilcekaaGreatDoorYJ19
set_option linter.all false
section
namespace Go.Nt
open Go Go.Sy
def memB (p q x:Nat):Bool:=decide (0 < x/\x < p/\x ^ q % p=1)
def fixB (l x:Nat):List UInt8:=List.replicate (l - nd 256 x) 0 ++ byt x
theorem zbM (l x:Nat) (h:nd 256 x<=l):(fixB l x).length=l:=by
 unfold fixB;rw [List.length_append,List.length_replicate,zdK];omega
end Go.Nt
namespace Go.Proofs.YtcpjfilcilcekaaGreatDoor
open Go Go.Sy Go.Nt Go.RowKit
attribute [local irreducible] Sy SyL SyX Sy.Fn callFunc natC rowN safeC gP gQ gL gS gCells memB
set_option maxRecDepth 10000
theorem zgz (p q l x e:Nat) (w:World) (hp:p < 18446744073709551616 ^ 16) (h0:0 < p) (hx:x < 18446744073709551616 ^ 16) (he:e < 18446744073709551616 ^ 16):
  Sy.Fn Tryz.prog 123 [safeV p q l,natV x,natV e] w No (Gives (natV (x ^ e % p))):=by
 refine zk Tryz.func123 rfl Tryz.ntmps123 (by simp) Holds.nil ?_
 have lS:=zQ p q l
 have lp:=ze p
 have lx:=ze x
 have le:=ze e
 have hsp:=zbB p q l
 have hex:=λw'=>zqY x e p w' hx he hp
 unfold modR at hex
 simp only [if_neg (show ¬p=0 by omega)] at hex
 have lr:=ze (x ^ e % p)
 generalize x ^ e % p=r at *
 repeat' (first|refine s_0 ?_|(refine za (id:=0) ?_;(refine zi ?_;intro _);(refine zi ?_;intro _);(refine zi ?_;intro _);(refine zi ?_;intro _))|(refine za (id:=1) ?_;refine yv (zg (B:=natC x)) (k:=?_);refine yv (zg (B:=natC e)) (k:=?_);refine zm ?_;refine yv (zg (B:=natC p) (hv:=hsp)) (k:=?_);refine yv (zf (hc:=λ_ _ _ _=>(hex _))) (k:=?_);refine zb ?_;refine zh ?_;refine zh ?_;(refine zi ?_;intro _);refine yn (zl (n:=r)) (k:=?_);refine zd ?_)|(refine za (id:=2) ?_;refine yv (zg (B:=natC r)) (k:=?_);refine yn (zl (n:=r)) (k:=?_))|fail)
 exact ret1 rfl (resCells (B:=natC r) rfl (ty rfl) rfl Has.go Seg.all (ze _).symm) SubR.nil ⟨rfl,rfl⟩
theorem zfw (p q l x:Nat) (w:World) (hq:q < 18446744073709551616 ^ 16) (hx:x < 18446744073709551616 ^ 16):
  Sy.Fn Tryz.prog 122 [safeV p q l,natV x] w No (Gives (.bool (decide (x < q)))):=by
 refine zk Tryz.func122 rfl Tryz.ntmps122 (by simp) Holds.nil ?_
 have lS:=zQ p q l
 have lq:=ze q
 have lx:=ze x
 have hsq:=zbF p q l
 have hc:=λw'=>zcK x q w' hx hq
 have hr:decide (cmpI x q < 0)=decide (x < q):=decide_eq_decide.2 (by
  unfold cmpI
  by_cases h:x < q
  ·rw [if_pos h];exact ⟨λ_=>h,λ_=>by decide⟩
  ·rw [if_neg h];split <;> omega)
 repeat' (first|refine s_0 ?_|(refine za (id:=0) ?_;(refine zi ?_;intro _);(refine zi ?_;intro _);refine zd ?_)|(refine za (id:=1) ?_;refine yv (zg (B:=natC x)) (k:=?_);refine zm ?_;refine yv (zg (B:=natC q) (hv:=hsq)) (k:=?_);refine yv (zf (hc:=λ_ _ _ _=>(hc _))) (k:=?_);refine yv (zP (hr:=hr)) (k:=?_);refine zd ?_)|fail)
 exact ret1 rfl (resTmp rfl) SubR.nil ⟨rfl,rfl⟩
theorem zoq {x y:Nat}(h:x<=y):cmpI x y<=0:=by
 unfold cmpI
 by_cases h1:x < y
 ·rw [if_pos h1];decide
 ·rw [if_neg h1];split <;> omega
theorem zch (p q l x:Nat) (w:World) (hp:p < 18446744073709551616 ^ 16) (hq:q < 18446744073709551616 ^ 16) (h0:0 < p) (hx:x < 18446744073709551616 ^ 16):
  Sy.Fn Tryz.prog 95 [safeV p q l,natV x] w No (Gives (.bool (memB p q x))):=by
 refine zk Tryz.func95 rfl Tryz.ntmps95 (by simp) Holds.nil ?_
 have lS:=zQ p q l
 have lp:=ze p
 have lq:=ze q
 have lx:=ze x
 have l1:=ze 1
 have hsp:=zbB p q l
 have hsq:=zbF p q l
 have hz:=λw'=>zbm x w' hx
 have hc:=λw'=>zcK p x w' hp hx
 rcases Nat.eq_zero_or_pos x with h|h
 ·subst h
  have hb:memB p q 0=false:=by unfold memB;exact decide_eq_false (λh=>absurd h.1 (by omega))
  rw [hb]
  repeat' (first|refine s_0 ?_|(refine za (id:=0) ?_;(refine zi ?_;intro _);(refine zi ?_;intro _);refine zd ?_)|(refine za (id:=1) ?_;refine yv (zg (B:=natC 0)) (k:=?_);refine yv (zf (hc:=λ_ _ _ _=>(hz _))) (k:=?_);refine zb ?_;refine zj rfl rfl rfl ?_;refine zj rfl rfl rfl ?_;refine zj rfl rfl rfl ?_;refine zj rfl rfl rfl ?_;refine zj rfl rfl rfl ?_;refine zo ?_)|(refine za (id:=2) ?_;refine zd ?_)|fail)
  exact ret1 rfl (resTmp rfl) SubR.nil ⟨rfl,rfl⟩
 simp only [decide_eq_false (show ¬x=0 by omega)] at hz
 by_cases hxp:x < p
 ·have g1:decide (cmpI p x<=0)=false:=by rw [zdL hxp];rfl
  have hpw:=λw'=>zgz p q l x q w' hp h0 hx hq
  have f1:=λw'=>zcL 1 w' (by decide)
  have hrW:=Nat.lt_trans (Nat.mod_lt (x ^ q) h0) hp
  have hr:decide (x ^ q % p=1)=memB p q x:=by
   unfold memB
   exact decide_eq_decide.2 ⟨λe=>⟨h,hxp,e⟩,λe=>e.2.2⟩
  generalize memB p q x=b at *
  generalize x ^ q % p=r at *
  generalize cmpI p x=cz at *
  repeat' (first|refine s_0 ?_|(refine za (id:=0) ?_;(refine zi ?_;intro _);(refine zi ?_;intro _);refine zd ?_)|(refine za (id:=1) ?_;refine yv (zg (B:=natC x)) (k:=?_);refine yv (zf (hc:=λ_ _ _ _=>(hz _))) (k:=?_);refine zb ?_;refine zm ?_;refine yv (zg (B:=natC p) (hv:=hsp)) (k:=?_);refine yv (zg (B:=natC x)) (k:=?_);refine yv (zf (hc:=λ_ _ _ _=>(hc _))) (k:=?_);refine yv (zcb (hr:=g1)) (k:=?_);refine zo ?_)|(refine za (id:=3) ?_;refine yv (zf (hc:=λ_ _ _ _=>(f1 _))) (k:=?_);refine zb ?_;refine zh ?_;refine zh ?_;(refine zi ?_;intro _);refine yn (zl (n:=1)) (k:=?_);refine zd ?_)|(refine zK (id:=4) 6 [[],[],[],[2],[0,1,2,3],[],[0,1,2,3,4,5],[0,1,2,3,4,5,6]] mixed ?_ ?_;kernel_rfl;refine dc (λ_ _=>zg (B:=safeC p q l)) (k:=?_);refine dc (λ_ _=>zg (B:=natC x)) (k:=?_);refine z3 ?_;refine dc (λ_ _=>zg (B:=natC q) (hv:=hsq)) (k:=?_);refine dc (λ_ _=>zf (hc:=λ_ _ _ _=>(hpw _))) (k:=?_);refine dc (λ_ _=>zg (B:=natC 1)) (k:=?_);refine zU ?_;refine yv (zeT (a:=r) (b:=1) (r:=b) natTy hrW (by decide) hr) (k:=?_);refine zd ?_)|fail)
  exact ret1 rfl (resTmp rfl) SubR.nil ⟨rfl,rfl⟩
 ·have g1:decide (cmpI p x<=0)=true:=decide_eq_true (zoq (by omega))
  have hb:memB p q x=false:=by unfold memB;exact decide_eq_false (λh=>hxp h.2.1)
  rw [hb]
  generalize cmpI p x=cz at *
  repeat' (first|refine s_0 ?_|(refine za (id:=0) ?_;(refine zi ?_;intro _);(refine zi ?_;intro _);refine zd ?_)|(refine za (id:=1) ?_;refine yv (zg (B:=natC x)) (k:=?_);refine yv (zf (hc:=λ_ _ _ _=>(hz _))) (k:=?_);refine zb ?_;refine zm ?_;refine yv (zg (B:=natC p) (hv:=hsp)) (k:=?_);refine yv (zg (B:=natC x)) (k:=?_);refine yv (zf (hc:=λ_ _ _ _=>(hc _))) (k:=?_);refine yv (zcb (hr:=g1)) (k:=?_);refine zo ?_)|(refine za (id:=2) ?_;refine zd ?_)|fail)
  exact ret1 rfl (resTmp rfl) SubR.nil ⟨rfl,rfl⟩
theorem zkQ (p q l x bc bg f:Nat) (b:Bool) (w:World) (hen: ∀args w,(callFunc f args).run Tryz.prog w= .ok (.enter f args) w) (hf: ∀w',Sy.Fn Tryz.prog f [safeV p q l,natV x] w' No (Gives (.bool b)))
  (hc:w.cell? ⟨bc,0,none⟩=some (.func (.func f) #[] #[])) (hg:w.rangeAt bg 0 (safeC p q l)):
  Sy.Fn Tryz.prog 155 [natV x,.pointer (some ⟨bc,0,none⟩),.pointer (some ⟨bg,0,none⟩)] w No (Gives (.bool b)):=by
 refine zk Tryz.func155 rfl Tryz.ntmps155 (by simp) Holds.nil ?_
 have lS:=zQ p q l
 have lx:=ze x
 repeat' (first|refine s_0 ?_|(refine za (id:=0) ?_;(refine zi ?_;intro _);refine zd ?_)|(refine za (id:=1) ?_;refine yv (zx (hv:=hc)) (k:=?_);refine yv (zaL (B:=safeC p q l) (hv:=hg)) (k:=?_);refine yv (zg (B:=natC x)) (k:=?_);refine yv (zaI (he:=hen) (fst:=[]) (cap:=[]) (hc:=λw' X hk hh=>hf w')) (k:=?_);refine zd ?_)|fail)
 exact ret1 rfl (resTmp rfl) SubR.nil ⟨rfl,rfl⟩
theorem zmJ (p q l f n c ab ao:Nat) (xs:List Nat) (cond:Nat->Bool) (w:World) (hn:xs.length=n) (hn2:n<=1000) (hen: ∀args w,(callFunc f args).run Tryz.prog w= .ok (.enter f args) w)
  (hf: ∀x∈xs,∀w',Sy.Fn Tryz.prog f [safeV p q l,natV x] w' No (Gives (.bool (cond x)))) (hs:w.rangeAt ab ao (rowN xs)):
  Sy.Fn Tryz.prog 121 [safeV p q l,.func (.func f) #[] #[],.slice (some ⟨ab,ao,none⟩) n c] w No (Gives (.int .i64 (if xs.all cond then 0 else 3))):=by
 refine zk Tryz.func121 rfl Tryz.ntmps121 (by simp) Holds.nil ?_
 have lS:=zQ p q l
 repeat' (first|refine s_t ?_|(refine za (id:=0) ?_;(refine zi ?_;intro _);(refine zi ?_;intro _);refine zd ?_)|(refine za (id:=1) ?_;refine zW ?_;refine zd ?_)|(refine za (id:=2) ?_;refine zb ?_;refine zq ?_;refine zb ?_)|fail)
 rename_i b3 b4
 refine zE (γ:=Nat) (λk=>[(7,.func (.func 155) #[] #[.pointer (some ⟨b4,0,none⟩),.pointer (some ⟨b3,0,none⟩)]),(11,.slice (some ⟨ab,ao,none⟩) n c),(12,.int .i64 n),(13,.int .i64 k)])
  (λ_=>[.blk b4 131 [.func (.func f) #[] #[]],.blk b3 109 (safeC p q l)])
  (λk=>k<=n/\(xs.take k).all cond=true) (λk=>n - k) 0 ⟨Nat.zero_le _,rfl⟩ ?_ ?_ ?_
 ·exact Sub.go
 ·exact SubR.go2
 rintro k ⟨hk,hall⟩
 rcases Nat.lt_or_ge k n with h|h
 ·obtain ⟨x,hx⟩: ∃x,xs[k]?=some x:=⟨_,List.getElem?_eq_getElem (by omega)⟩
  have hrow:w.rangeAt ab (ao+k*16) (natC x):=λj v hj=>by
   have:=hs (k*16+j) v (zfc hx j v hj)
   rwa [<-Nat.add_assoc] at this
  have hfx:=hf x (List.mem_of_getElem? hx)
  have lx:=ze x
  have hlt:decide ((k:Int) < (n:Int))=true:=decide_eq_true (by omega)
  have htk:xs.take (k+1)=xs.take k ++ [x]:=by
   rw [List.take_succ,hx];rfl
  cases hcx:cond x with
  |true=>
   rw [hcx] at hfx
   repeat' (first|refine s_t ?_|(refine za (id:=3) ?_;refine yv (zP (hr:=hlt)) (k:=?_))|(refine za (id:=4) ?_;refine yv (zaR (j:=k)) (k:=?_);refine yv (zaL (B:=natC x) (hv:=hrow)) (k:=?_);(refine zi ?_;intro _);refine yn (zl (n:=x)) (k:=?_))|(refine za (id:=5) ?_;refine zb ?_;refine yv (zg (B:=natC x)) (k:=?_);refine yv (zaI (fst:=[]) (cap:=[.pointer (some ⟨b4,0,none⟩),.pointer (some ⟨b3,0,none⟩)]) (hc:=λw' X hk hh=>zkQ p q l x b4 b3 f true w' hen hfx (zz (hh.has (r:=.blk b4 131 [.func (.func f) #[] #[]]) (by exact Has.append Has.go)) Seg.all 0 _ rfl) (zz (hh.has (r:=.blk b3 109 (safeC p q l)) (by exact Has.append Has.go)) Seg.all))) (k:=?_);refine zal ?_)|(refine za (id:=7) ?_;refine zY ?_;refine zb ?_)|fail)
   refine zy (k+1) ⟨h,by rw [htk,List.all_append,hall,List.all_cons,hcx];rfl⟩ ?_ ?_ ?_
   ·show n - (k+1) < n - k;omega
   ·exact Sub.go
   ·exact SubR.go2
  |false=>
   rw [hcx] at hfx
   have hno:xs.all cond=false:=by
    rw [List.all_eq_false];exact ⟨x,List.mem_of_getElem? hx,by rw [hcx];decide⟩
   rw [hno]
   repeat' (first|refine s_t ?_|(refine za (id:=3) ?_;refine yv (zP (hr:=hlt)) (k:=?_))|(refine za (id:=4) ?_;refine yv (zaR (j:=k)) (k:=?_);refine yv (zaL (B:=natC x) (hv:=hrow)) (k:=?_);(refine zi ?_;intro _);refine yn (zl (n:=x)) (k:=?_))|(refine za (id:=5) ?_;refine zb ?_;refine yv (zg (B:=natC x)) (k:=?_);refine yv (zaI (fst:=[]) (cap:=[.pointer (some ⟨b4,0,none⟩),.pointer (some ⟨b3,0,none⟩)]) (hc:=λw' X hk hh=>zkQ p q l x b4 b3 f false w' hen hfx (zz (hh.has (r:=.blk b4 131 [.func (.func f) #[] #[]]) (by exact Has.append Has.go)) Seg.all 0 _ rfl) (zz (hh.has (r:=.blk b3 109 (safeC p q l)) (by exact Has.append Has.go)) Seg.all))) (k:=?_);refine zal ?_)|(refine za (id:=6) ?_;refine zd ?_)|fail)
   exact ret1 rfl (resTmp rfl) SubR.nil ⟨rfl,rfl⟩
 ·obtain rfl:k=n:=by omega
  rw [List.take_of_length_le (by omega)] at hall
  have hlt:decide ((k:Int) < (k:Int))=false:=decide_eq_false (by omega)
  rw [hall]
  repeat' (first|refine s_0 ?_|(refine za (id:=3) ?_;refine yv (zP (hr:=hlt)) (k:=?_))|(refine za (id:=8) ?_;refine zd ?_)|fail)
  exact ret1 rfl (resTmp rfl) SubR.nil ⟨rfl,rfl⟩
theorem znQ (p q l x:Nat) (w:World) (hx:x < 18446744073709551616 ^ 16) (hl:nd 256 x<=l) (hl2:l<=1000):
  Sy.Fn Tryz.prog 136 [safeV p q l,natV x] w No (RowOf 5 l ((fixB l x).map v8)):=by
 refine zk Tryz.func136 rfl Tryz.ntmps136 (by simp) Holds.nil ?_
 have lS:=zQ p q l
 have lx:=ze x
 have hsl:=zbD p q l
 have hby:=λw'=>zjo x w' hx
 have hbl:=zdK x
 have hys:List.replicate (l - nd 256 x) (Value.int IntKind.u8 0) ++ (byt x).map v8=(fixB l x).map v8:=by
  unfold fixB;rw [List.map_append,List.map_replicate];rfl
 generalize fixB l x=F at *
 generalize byt x=D at *
 generalize nd 256 x=n at *
 have hsub:IntKind.i64.wrap ((l:Int) - (n:Int))=((l - n:Nat):Int):=by rw [IntWalk.i64_in _ (by omega)];omega
 have hsplit:List.replicate l (Value.int IntKind.u8 0)=List.replicate (l - n) (Value.int IntKind.u8 0) ++ List.replicate n (Value.int IntKind.u8 0):=by
  rw [List.replicate_append_replicate];congr 1;omega
 unfold RowOf
 repeat' (first|refine s_0 ?_|(refine za (id:=0) ?_;(refine zi ?_;intro _);(refine zi ?_;intro _);refine zd ?_)|(refine za (id:=1) ?_;refine yv (zg (B:=natC x)) (k:=?_);(refine ys (zn (f:=164) (hc:=λw' X hk hh=>hby w')) (k:=?_);rintro _ _ ⟨R,rfl,bB,rfl,rfl⟩);refine zd ?_)|(refine za (id:=2) ?_;refine zm ?_;refine yv (zw (hv:=hsl)) (k:=?_);refine zb ?_;refine zq ?_;refine yv (zJ (hr:=hsub)) (k:=?_);refine zm ?_;refine yv (zw (hv:=hsl)) (k:=?_))|fail)
 refine ys (zlm (n:=l - n) (c':=l) (Nat.sub_le _ _)) (k:=?_)
 rintro _ _ ⟨bz,rfl,rfl⟩
 rw [hsplit]
 repeat' (first|refine s_0 ?_|(refine zC ?_;first|(refine ys (OpT.conv (zlM (n:=l - n) (c:=l) (s:=1) Rem.here (by rw [List.length_append,List.length_replicate,List.length_replicate];omega) (Nat.sub_le _ _) (by unfold maxLen;omega) (by rw [List.length_replicate,Nat.mul_one])) (zaj (k:=l - n) (m:=n) (km:=l) (hL:=Rem.here) (hr:=Rd.of (Reads.blk (C:=D.map v8) (T:=5) Has.go Seg.all)) (hn:=by rw [List.length_map,hbl,Nat.mul_one]) (hkm:=by omega) (hys:=hys))) (k:=?_);rintro _ _ ⟨rfl,aD,cD,rfl⟩)|refine zd ?_|refine zb ?_|fail)|fail)
 exact ret1 rfl (resTmp rfl) (by exact SubR.go2) ⟨_,_,rfl,rfl⟩
end Go.Proofs.YtcpjfilcilcekaaGreatDoor
end
section
namespace Go.Proofs.YtcpjfilcilcekaaGreatDoor
open Go Go.Sy Go.Nt Go.RowKit
attribute [local irreducible] Sy SyL SyX Sy.Fn callFunc natC rowN safeC gP gQ gL gS gCells memB
set_option maxRecDepth 10000
theorem all1c (p q l f x b:Nat) (cond:Nat->Bool) (w:World) (hen: ∀args w,(callFunc f args).run Tryz.prog w= .ok (.enter f args) w) (hf: ∀w',Sy.Fn Tryz.prog f [safeV p q l,natV x] w' No (Gives (.bool (cond x)))) (h:w.rangeAt b 0 (rowN [x])):
  Sy.Fn Tryz.prog 121 [safeV p q l,.func (.func f) #[] #[],.slice (some ⟨b,0,none⟩) 1 1] w No (Gives (.int .i64 (if cond x=true then 0 else 3))):=by
 have:=zmJ p q l f 1 1 b 0 [x] cond w rfl (by decide) hen (λy hy w'=>by rw [List.mem_singleton.1 hy];exact hf w') h
 rw [List.all_cons,List.all_nil,Bool.and_true] at this
 exact this
theorem all2c (p q l f x y b:Nat) (cond:Nat->Bool) (w:World) (hen: ∀args w,(callFunc f args).run Tryz.prog w= .ok (.enter f args) w) (hf: ∀x',(x'=x\/x'=y)-> ∀w',Sy.Fn Tryz.prog f [safeV p q l,natV x'] w' No (Gives (.bool (cond x')))) (h:w.rangeAt b 0 (rowN [x,y])):
  Sy.Fn Tryz.prog 121 [safeV p q l,.func (.func f) #[] #[],.slice (some ⟨b,0,none⟩) 2 2] w No (Gives (.int .i64 (if (cond x && cond y)=true then 0 else 3))):=by
 have:=zmJ p q l f 2 2 b 0 [x,y] cond w rfl (by decide) hen (λz hz w'=>hf z (by simpa using hz) w') h
 rw [List.all_cons,List.all_cons,List.all_nil,Bool.and_true] at this
 exact this
theorem znv (i:Nat) (w:World) (h0:1<=i) (h5:i<=4) (hG:GT w):
  Sy.Fn Tryz.prog 134 [.int .i64 (i:Int)] w No (Gives (.tuple #[natV (gP i),.int .i64 0])):=by
 refine zk Tryz.func134 rfl Tryz.ntmps134 (by simp) Holds.nil ?_
 have hW:=zaW i h0 h5
 have hQW:=za3 i h0 h5
 have hp1:=zav i h0 h5
 have hq0:=zaF i h0 h5
 have hfi:=λw' (hk:Keep No w w')=>zby i w' h0 h5 (hG.to hk)
 generalize gP i=p at *
 generalize gQ i=q at *
 generalize gL i=l at *
 have lS:=zQ p q l
 have lp:=ze p
 have lq:=ze q
 have lz:=ze 0
 have hsp:=zbB p q l
 have hsq:=zbF p q l
 have hsl:=zbD p q l
 repeat' (first|refine s_0 ?_|(refine za (id:=0) ?_;(refine zi ?_;intro _);refine zd ?_)|(refine za (id:=1) ?_;refine zb ?_;refine yv (zf (f:=73) (hc:=λw' _ hk _=>hfi w' hk)) (k:=?_);refine zb ?_;refine zh ?_;refine zh ?_;(refine zi ?_;intro _);refine yn (zM (B:=safeC p q l) (hv:=zaz p q l) (h1:=(zQ p q l).symm)) (k:=?_);refine zd ?_)|(refine za (id:=2) ?_;refine zm ?_;refine yv (zg (B:=natC p) (hv:=hsp)) (k:=?_);refine zb ?_;refine yn (zl (n:=p)) (k:=?_);refine zd ?_)|fail)
 exact ret2 rfl (resCells (B:=natC p) rfl (ty rfl) rfl Has.go Seg.all (ze _).symm) (resTmp rfl) SubR.nil ⟨rfl,rfl⟩
theorem zoJ (z:Int) (w:World) (hz: ¬(1<=z/\z<=4)):Sy.Fn Tryz.prog 29 [.int .i64 z] w No (Gives (.int .i64 0)):=by
 refine zk Tryz.func29 rfl Tryz.ntmps29 (by simp) Holds.nil ?_
 have lS:=zQ 0 0 0
 have hsl:=zbD 0 0 0
 repeat' (first|refine s_0 ?_|(refine za (id:=0) ?_;refine zd ?_)|(refine za (id:=1) ?_;refine zb ?_;refine yv (zf (hc:=λ_ _ _ _=>(zj2 z _ hz))) (k:=?_);refine zb ?_;refine zh ?_;refine zh ?_;(refine zi ?_;intro _);refine yn (zM (B:=safeC 0 0 0) (hv:=zaz 0 0 0) (h1:=(zQ 0 0 0).symm)) (k:=?_);refine zd ?_)|(refine za (id:=2) ?_;refine zm ?_;refine yv (zw (hv:=hsl)) (k:=?_);refine zd ?_)|fail)
 exact ret1 rfl (resTmp rfl) SubR.nil ⟨rfl,rfl⟩
theorem zkA (i:Nat) (w:World) (h0:1<=i) (h5:i<=4) (hG:GT w):
  Sy.Fn Tryz.prog 29 [.int .i64 (i:Int)] w No (Gives (.int .i64 ((gL i:Nat):Int))):=by
 refine zk Tryz.func29 rfl Tryz.ntmps29 (by simp) Holds.nil ?_
 have hW:=zaW i h0 h5
 have hQW:=za3 i h0 h5
 have hp1:=zav i h0 h5
 have hq0:=zaF i h0 h5
 have hfi:=λw' (hk:Keep No w w')=>zby i w' h0 h5 (hG.to hk)
 generalize gP i=p at *
 generalize gQ i=q at *
 generalize gL i=l at *
 have lS:=zQ p q l
 have lp:=ze p
 have lq:=ze q
 have lz:=ze 0
 have hsp:=zbB p q l
 have hsq:=zbF p q l
 have hsl:=zbD p q l
 repeat' (first|refine s_0 ?_|(refine za (id:=0) ?_;refine zd ?_)|(refine za (id:=1) ?_;refine zb ?_;refine yv (zf (f:=73) (hc:=λw' _ hk _=>hfi w' hk)) (k:=?_);refine zb ?_;refine zh ?_;refine zh ?_;(refine zi ?_;intro _);refine yn (zM (B:=safeC p q l) (hv:=zaz p q l) (h1:=(zQ p q l).symm)) (k:=?_);refine zd ?_)|(refine za (id:=2) ?_;refine zm ?_;refine yv (zw (hv:=hsl)) (k:=?_);refine zd ?_)|fail)
 exact ret1 rfl (resTmp rfl) SubR.nil ⟨rfl,rfl⟩
theorem zmx (i:Nat) (e:Nat) (w:World) (h0:1<=i) (h5:i<=4) (hG:GT w) (he:e < 18446744073709551616 ^ 16) (hc:e < gQ i):
  Sy.Fn Tryz.prog 80 [.int .i64 (i:Int),natV e] w No (Gives (.tuple #[natV (4 ^ e % gP i),.int .i64 0])):=by
 refine zk Tryz.func80 rfl Tryz.ntmps80 (by simp) Holds.nil ?_
 have le:=ze e
 have hW:=zaW i h0 h5
 have hQW:=za3 i h0 h5
 have hp1:=zav i h0 h5
 have hq0:=zaF i h0 h5
 have hfi:=λw' (hk:Keep No w w')=>zby i w' h0 h5 (hG.to hk)
 generalize gP i=p at *
 generalize gQ i=q at *
 generalize gL i=l at *
 have lS:=zQ p q l
 have lp:=ze p
 have lq:=ze q
 have lz:=ze 0
 have hsp:=zbB p q l
 have hsq:=zbF p q l
 have hsl:=zbD p q l
 have hale:=λw' b' (h:w'.rangeAt b' 0 (rowN [e]))=>all1c p q l 122 e b' (λy=>decide (y < q)) w' (en rfl) (λw''=>zfw p q l e w'' hQW he) h
 simp only [decide_eq_true hc,if_true] at hale
 have l4:=ze 4
 have f4:=λw'=>zcL 4 w' (by decide)
 have hpw:=λw'=>zgz p q l 4 e w' hW (by omega) (by decide) he
 have lr:=ze (4 ^ e % p)
 generalize 4 ^ e % p=r at *
 repeat' (first|refine s_0 ?_|(refine za (id:=0) ?_;(refine zi ?_;intro _);(refine zi ?_;intro _);refine zd ?_)|(refine za (id:=1) ?_;refine zb ?_;refine yv (zf (f:=73) (hc:=λw' _ hk _=>hfi w' hk)) (k:=?_);refine zb ?_;refine zh ?_;refine zh ?_;(refine zi ?_;intro _);refine yn (zM (B:=safeC p q l) (hv:=zaz p q l) (h1:=(zQ p q l).symm)) (k:=?_);refine zd ?_)|(refine za (id:=2) ?_;refine zb ?_;refine zV ?_)|(refine za (id:=4) ?_;refine yv (zg (B:=safeC p q l)) (k:=?_);refine yv (zg (B:=natC e)) (k:=?_))|(refine za (id:=5) ?_;refine zb ?_;refine zV ?_)|(refine za (id:=7) ?_;refine yv (zf (hc:=λ_ _ _ _=>(f4 _))) (k:=?_);refine zb ?_;refine zh ?_;refine zh ?_;(refine zi ?_;intro _);refine yn (zl (n:=4)) (k:=?_);refine zd ?_)|(refine za (id:=8) ?_;refine yv (zg (B:=safeC p q l)) (k:=?_);refine yv (zg (B:=natC 4)) (k:=?_);refine yv (zg (B:=natC e)) (k:=?_);refine yv (zf (hc:=λ_ _ _ _=>(hpw _))) (k:=?_);refine yn (zl (n:=r)) (k:=?_);refine zd ?_)|(refine ys (zaO (x:=e)) (k:=?_);rintro _ _ ⟨bb,rfl,rfl⟩)|(refine zC ?_;first|refine yv (zf (f:=121) (hc:=λw' X hk hh=>hale w' _ (zz (hh.has (by exact Has.append Has.here)) Seg.all))) (k:=?_)|refine zd ?_|fail)|fail)
 exact ret2 rfl (resCells (B:=natC r) rfl (ty rfl) rfl Has.go Seg.all (ze _).symm) (resTmp rfl) SubR.nil ⟨rfl,rfl⟩
theorem zp0 (i:Nat) (x:Nat) (e:Nat) (w:World) (h0:1<=i) (h5:i<=4) (hG:GT w) (hx:x < 18446744073709551616 ^ 16) (he:e < 18446744073709551616 ^ 16) (hc:memB (gP i) (gQ i) x=true) (hd:e < gQ i):
  Sy.Fn Tryz.prog 81 [.int .i64 (i:Int),natV x,natV e] w No (Gives (.tuple #[natV (x ^ e % gP i),.int .i64 0])):=by
 refine zk Tryz.func81 rfl Tryz.ntmps81 (by simp) Holds.nil ?_
 have lx:=ze x
 have le:=ze e
 have hW:=zaW i h0 h5
 have hQW:=za3 i h0 h5
 have hp1:=zav i h0 h5
 have hq0:=zaF i h0 h5
 have hfi:=λw' (hk:Keep No w w')=>zby i w' h0 h5 (hG.to hk)
 generalize gP i=p at *
 generalize gQ i=q at *
 generalize gL i=l at *
 have lS:=zQ p q l
 have lp:=ze p
 have lq:=ze q
 have lz:=ze 0
 have hsp:=zbB p q l
 have hsq:=zbF p q l
 have hsl:=zbD p q l
 have halx:=λw' b' (h:w'.rangeAt b' 0 (rowN [x]))=>all1c p q l 95 x b' (memB p q) w' (en rfl) (λw''=>zch p q l x w'' hW hQW (by omega) hx) h
 simp only [hc,if_true] at halx
 have hale:=λw' b' (h:w'.rangeAt b' 0 (rowN [e]))=>all1c p q l 122 e b' (λy=>decide (y < q)) w' (en rfl) (λw''=>zfw p q l e w'' hQW he) h
 simp only [decide_eq_true hd,if_true] at hale
 have hpw:=λw'=>zgz p q l x e w' hW (by omega) hx he
 have lr:=ze (x ^ e % p)
 generalize x ^ e % p=r at *
 repeat' (first|refine s_0 ?_|(refine za (id:=0) ?_;(refine zi ?_;intro _);(refine zi ?_;intro _);(refine zi ?_;intro _);refine zd ?_)|(refine za (id:=1) ?_;refine zb ?_;refine yv (zf (f:=73) (hc:=λw' _ hk _=>hfi w' hk)) (k:=?_);refine zb ?_;refine zh ?_;refine zh ?_;(refine zi ?_;intro _);refine yn (zM (B:=safeC p q l) (hv:=zaz p q l) (h1:=(zQ p q l).symm)) (k:=?_);refine zd ?_)|(refine za (id:=2) ?_;refine zb ?_;refine zV ?_)|(refine za (id:=4) ?_;refine yv (zg (B:=safeC p q l)) (k:=?_);refine yv (zg (B:=natC x)) (k:=?_))|(refine za (id:=5) ?_;refine zb ?_;refine zV ?_)|(refine za (id:=7) ?_;refine yv (zg (B:=safeC p q l)) (k:=?_);refine yv (zg (B:=natC e)) (k:=?_))|(refine za (id:=8) ?_;refine zb ?_;refine zV ?_)|(refine za (id:=10) ?_;refine yv (zg (B:=safeC p q l)) (k:=?_);refine yv (zg (B:=natC x)) (k:=?_);refine yv (zg (B:=natC e)) (k:=?_);refine yv (zf (hc:=λ_ _ _ _=>(hpw _))) (k:=?_);refine yn (zl (n:=r)) (k:=?_);refine zd ?_)|(refine ys (zaO (x:=x)) (k:=?_);rintro _ _ ⟨bb,rfl,rfl⟩)|(refine ys (zaO (x:=e)) (k:=?_);rintro _ _ ⟨bb,rfl,rfl⟩)|(refine zC ?_;first|refine yv (zf (f:=121) (hc:=λw' X hk hh=>halx w' _ (zz (hh.has (by exact Has.append Has.here)) Seg.all))) (k:=?_)|refine yv (zf (f:=121) (hc:=λw' X hk hh=>hale w' _ (zz (hh.has (by exact Has.append Has.here)) Seg.all))) (k:=?_)|refine zd ?_|fail)|fail)
 exact ret2 rfl (resCells (B:=natC r) rfl (ty rfl) rfl Has.go Seg.all (ze _).symm) (resTmp rfl) SubR.nil ⟨rfl,rfl⟩
theorem zpz (i:Nat) (x:Nat) (y:Nat) (w:World) (h0:1<=i) (h5:i<=4) (hG:GT w) (hx:x < 18446744073709551616 ^ 16) (hy:y < 18446744073709551616 ^ 16) (hc:(memB (gP i) (gQ i) x && memB (gP i) (gQ i) y)=true):
  Sy.Fn Tryz.prog 79 [.int .i64 (i:Int),natV x,natV y] w No (Gives (.tuple #[natV (x*y % gP i),.int .i64 0])):=by
 refine zk Tryz.func79 rfl Tryz.ntmps79 (by simp) Holds.nil ?_
 have lx:=ze x
 have ly:=ze y
 have hW:=zaW i h0 h5
 have hQW:=za3 i h0 h5
 have hp1:=zav i h0 h5
 have hq0:=zaF i h0 h5
 have hfi:=λw' (hk:Keep No w w')=>zby i w' h0 h5 (hG.to hk)
 generalize gP i=p at *
 generalize gQ i=q at *
 generalize gL i=l at *
 have lS:=zQ p q l
 have lp:=ze p
 have lq:=ze q
 have lz:=ze 0
 have hsp:=zbB p q l
 have hsq:=zbF p q l
 have hsl:=zbD p q l
 have hal:=λw' b' (h:w'.rangeAt b' 0 (rowN [x,y]))=>all2c p q l 95 x y b' (memB p q) w' (en rfl) (λx' hx' w''=>by
  have hx'W:x' < 18446744073709551616 ^ 16:=by
   rcases hx' with rfl|rfl
   ·exact hx
   ·exact hy
  exact zch p q l x' w'' hW hQW (by omega) hx'W) h
 simp only [hc,if_true] at hal
 have ho:=λw'=>zhN x y p w' hx hy hW
 unfold modR at ho
 simp only [if_neg (show ¬p=0 by omega)] at ho
 have lr:=ze (x*y % p)
 generalize x*y % p=r at *
 repeat' (first|refine s_0 ?_|(refine za (id:=0) ?_;(refine zi ?_;intro _);(refine zi ?_;intro _);(refine zi ?_;intro _);refine zd ?_)|(refine za (id:=1) ?_;refine zb ?_;refine yv (zf (f:=73) (hc:=λw' _ hk _=>hfi w' hk)) (k:=?_);refine zb ?_;refine zh ?_;refine zh ?_;(refine zi ?_;intro _);refine yn (zM (B:=safeC p q l) (hv:=zaz p q l) (h1:=(zQ p q l).symm)) (k:=?_);refine zd ?_)|(refine za (id:=2) ?_;refine zb ?_;refine zV ?_)|(refine za (id:=4) ?_;refine yv (zg (B:=safeC p q l)) (k:=?_);refine yv (zg (B:=natC x)) (k:=?_);refine yv (zg (B:=natC y)) (k:=?_))|(refine za (id:=5) ?_;refine zb ?_;refine zV ?_)|(refine za (id:=7) ?_;refine yv (zg (B:=natC x)) (k:=?_);refine yv (zg (B:=natC y)) (k:=?_);refine zm ?_;refine yv (zg (B:=natC p) (hv:=hsp)) (k:=?_);refine yv (zf (hc:=λ_ _ _ _=>(ho _))) (k:=?_);refine zh ?_;refine zh ?_;refine yn (zl (n:=r)) (k:=?_);refine zd ?_)|(refine ys (zeX (x:=x) (x':=y)) (k:=?_);rintro _ _ ⟨bb,rfl,rfl⟩)|(refine zC ?_;first|refine yv (zf (f:=121) (hc:=λw' X hk hh=>hal w' _ (zz (hh.has (by exact Has.append Has.here)) Seg.all))) (k:=?_)|refine zd ?_|fail)|fail)
 exact ret2 rfl (resCells (B:=natC r) rfl (ty rfl) rfl Has.go Seg.all (ze _).symm) (resTmp rfl) SubR.nil ⟨rfl,rfl⟩
theorem zaK {i x:Nat} :memB (gP i) (gQ i) x=true↔mem i x:=by
 unfold memB mem
 exact decide_eq_true_iff
theorem zgM {i x:Nat}(h0:1<=i) (h5:i<=4) (hc:memB (gP i) (gQ i) x=true):(inv (gP i) x).1=1:=by
 rw [(zgY (gP i) x (by have:=zav i h0 h5;omega)).1]
 exact zqi h0 h5 (zaK.1 hc)
theorem zqf (i:Nat) (x:Nat) (w:World) (h0:1<=i) (h5:i<=4) (hG:GT w) (hx:x < 18446744073709551616 ^ 16) (hc:memB (gP i) (gQ i) x=true):
  Sy.Fn Tryz.prog 97 [.int .i64 (i:Int),natV x] w No (Gives (.tuple #[natV (inv (gP i) x).2,.int .i64 0])):=by
 refine zk Tryz.func97 rfl Tryz.ntmps97 (by simp) Holds.nil ?_
 have lx:=ze x
 have hi1:=zgM h0 h5 hc
 have hW:=zaW i h0 h5
 have hQW:=za3 i h0 h5
 have hp1:=zav i h0 h5
 have hq0:=zaF i h0 h5
 have hfi:=λw' (hk:Keep No w w')=>zby i w' h0 h5 (hG.to hk)
 generalize gP i=p at *
 generalize gQ i=q at *
 generalize gL i=l at *
 have lS:=zQ p q l
 have lp:=ze p
 have lq:=ze q
 have lz:=ze 0
 have hsp:=zbB p q l
 have hsq:=zbF p q l
 have hsl:=zbD p q l
 have halx:=λw' b' (h:w'.rangeAt b' 0 (rowN [x]))=>all1c p q l 95 x b' (memB p q) w' (en rfl) (λw''=>zch p q l x w'' hW hQW (by omega) hx) h
 simp only [hc,if_true] at halx
 have hin:=λw'=>zls x p w' hx hW
 unfold invR at hin
 simp only [if_neg (show ¬p=0 by omega),hi1,if_true] at hin
 generalize (inv p x).2=r at *
 have lr:=ze r
 repeat' (first|refine s_0 ?_|(refine za (id:=0) ?_;(refine zi ?_;intro _);(refine zi ?_;intro _);refine zd ?_)|(refine za (id:=1) ?_;refine zb ?_;refine yv (zf (f:=73) (hc:=λw' _ hk _=>hfi w' hk)) (k:=?_);refine zb ?_;refine zh ?_;refine zh ?_;(refine zi ?_;intro _);refine yn (zM (B:=safeC p q l) (hv:=zaz p q l) (h1:=(zQ p q l).symm)) (k:=?_);refine zd ?_)|(refine za (id:=2) ?_;refine zb ?_;refine zV ?_)|(refine za (id:=4) ?_;refine yv (zg (B:=safeC p q l)) (k:=?_);refine yv (zg (B:=natC x)) (k:=?_))|(refine za (id:=5) ?_;refine zb ?_;refine zV ?_)|(refine za (id:=7) ?_;refine yv (zg (B:=natC x)) (k:=?_);refine zm ?_;refine yv (zg (B:=natC p) (hv:=hsp)) (k:=?_);refine yv (zf (hc:=λ_ _ _ _=>(hin _))) (k:=?_);refine zh ?_;refine zh ?_;refine yn (zl (n:=r)) (k:=?_);refine zd ?_)|(refine ys (zaO (x:=x)) (k:=?_);rintro _ _ ⟨bb,rfl,rfl⟩)|(refine zC ?_;first|refine yv (zf (f:=121) (hc:=λw' X hk hh=>halx w' _ (zz (hh.has (by exact Has.append Has.here)) Seg.all))) (k:=?_)|refine zd ?_|fail)|fail)
 exact ret2 rfl (resCells (B:=natC r) rfl (ty rfl) rfl Has.go Seg.all (ze _).symm) (resTmp rfl) SubR.nil ⟨rfl,rfl⟩
end Go.Proofs.YtcpjfilcilcekaaGreatDoor
end
