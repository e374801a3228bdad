/- The groups: elements, scalars, powers, fixed bytes, conditions of several numbers. -/
import Derived.Test.YtdnlngbjpdbffaaGreatDoorLJ19
import Derived.Test.YtdnlngbjpdbffaaGreatDoorLJ17
set_option maxRecDepth 10000
set_option linter.all false
section
namespace Go.Nt
open Go Go.Sy
def memB (p q x:Nat):Bool:=decide (0 < x/\x < p/\x ^ q % p=1)
def fixB (l x:Nat):List UInt8:=List.replicate (l - nd 256 x) 0 ++ byt x
theorem zbH (l x:Nat) (h:nd 256 x<=l):(fixB l x).length=l:=by
 unfold fixB;rw [List.length_append,List.length_replicate,zdO];omega
end Go.Nt
namespace Go.Proofs.YtdnlngbjpdbffaaGreatDoor
open Go Go.Sy Go.Nt Go.RowKit
attribute [local irreducible] Sy SyL SyX Sy.Fn callFunc natC rowN safeC gP gQ gL gS gCells memB
theorem zgA (p q l x e:Nat) (w:World) (hp:p < 18446744073709551616 ^ 16) (h0:0 < p) (hx:x < 18446744073709551616 ^ 16) (he:e < 18446744073709551616 ^ 16):
  Sy.Fn Tryz.prog 192 [safeV p q l,natV x,natV e] w No (Gives (natV (x ^ e % p))):=by
 refine zg Tryz.func192 rfl Tryz.ntmps192 q_p Holds.nil ?_;have lS:=zQ p q l;have lp:=ze p;have lx:=ze x;have le:=ze e;have hsp:=zbf p q l;have hex:=λw'=>zrX x e p w' hx he hp;unfold modR at hex;simp only [if_neg (show ¬p=0 by omega)] at hex;have lr:=ze (x ^ e % p);generalize x ^ e % p=r at *;repeat' (first|refine s_0 ?_|(refine zb 0 ?_;refine zj ?_;intro _;refine zj ?_;intro _;refine zj ?_;intro _;refine zj ?_;intro _)|(refine zb 1 ?_;refine yv (zf (B:=natC x)) (k:=?_);refine yv (zf (B:=natC e)) (k:=za ?_);refine yv (zf (B:=natC p) (hv:=hsp)) (k:=?_);refine yv (zd (hc:=λ_ _ _ _=>(hex _))) (k:=?_);refine za ?_;refine zj ?_;intro _;refine yn (zi (n:=r)) (k:=za ?_))|(refine zb 2 ?_;refine yv (zf (B:=natC r)) (k:=?_);refine yn (zi (n:=r)) (k:=?_)))
 exact ret1 rfl (resCells (B:=natC r) rfl (ty rfl) rfl Has.go Seg.all (ze _).symm) SubR.nil ⟨rfl,rfl⟩
theorem zca (p q l x:Nat) (w:World) (hq:q < 18446744073709551616 ^ 16) (hx:x < 18446744073709551616 ^ 16):
  Sy.Fn Tryz.prog 190 [safeV p q l,natV x] w No (Gives (.bool (decide (x < q)))):=by
 refine zg Tryz.func190 rfl Tryz.ntmps190 q_p Holds.nil ?_;have lS:=zQ p q l;have lq:=ze q;have lx:=ze x;have hsq:=zbb p q l;have hc:=λw'=>zbR x q w' hx hq;have hr:decide (cmpI x q < 0)=decide (x < q):=decide_eq_decide.2 (by
  unfold cmpI;by_cases h:x < q
  ·rw [if_pos h];exact ⟨λ_=>h,λ_=>by decide⟩
  ·rw [if_neg h];split <;> omega)
 repeat' (first|refine s_0 ?_|(refine zb 0 ?_;refine zj ?_;intro _;refine zO ?_;intro _)|(refine zb 1 ?_;refine yv (zf (B:=natC x)) (k:=za ?_);refine yv (zf (B:=natC q) (hv:=hsq)) (k:=?_);refine yv (zd (hc:=λ_ _ _ _=>(hc _))) (k:=?_);refine yv (zn (hr:=hr)) (k:=za ?_)))
 exact q_r
theorem zn7 {x y:Nat}(h:x<=y):cmpI x y<=0:=by
 unfold cmpI;by_cases h1:x < y
 ·rw [if_pos h1];decide
 ·rw [if_neg h1];split <;> omega
theorem zcU (p q l x:Nat) (w:World) (hp:p < 18446744073709551616 ^ 16) (hq:q < 18446744073709551616 ^ 16) (h0:0 < p) (hx:x < 18446744073709551616 ^ 16):
  Sy.Fn Tryz.prog 188 [safeV p q l,natV x] w No (Gives (.bool (memB p q x))):=by
 refine zg Tryz.func188 rfl Tryz.ntmps188 q_p Holds.nil ?_;have lS:=zQ p q l;have lp:=ze p;have lq:=ze q;have lx:=ze x;have l1:=ze 1;have hsp:=zbf p q l;have hsq:=zbb p q l;have hz:=λw'=>zbP x w' hx;have hc:=λw'=>zbR p x w' hp hx;rcases Nat.eq_zero_or_pos x with h|h
 ·subst h;have hb:memB p q 0=false:=by unfold memB;exact decide_eq_false (λh=>absurd h.1 q_o)
  rw [hb];repeat' (first|refine s_0 ?_|(refine zb 0 ?_;refine zj ?_;intro _;refine zO ?_;intro _)|(refine zb 1 ?_;refine yv (zf (B:=natC 0)) (k:=?_);refine yv (zd (hc:=λ_ _ _ _=>(hz _))) (k:=?_);refine za ?_)|(refine zb 2 (za ?_)))
  exact q_r
 simp only [decide_eq_false (show ¬x=0 by omega)] at hz;by_cases hxp:x < p
 ·have g1:decide (cmpI p x<=0)=false:=by rw [zfV hxp];rfl
  have hpw:=λw'=>zgA p q l x q w' hp h0 hx hq;have f1:=λw'=>zeJ 1 w' q_e;have hrW:=Nat.lt_trans (Nat.mod_lt (x ^ q) h0) hp;have hr:decide (x ^ q % p=1)=memB p q x:=by
   unfold memB;exact decide_eq_decide.2 ⟨λe=>⟨h,hxp,e⟩,λe=>e.2.2⟩
  generalize memB p q x=b at *;generalize x ^ q % p=r at *;generalize cmpI p x=cz at *;repeat' (first|refine s_0 ?_|(refine zb 0 ?_;refine zj ?_;intro _;refine zO ?_;intro _)|(refine zb 1 ?_;refine yv (zf (B:=natC x)) (k:=?_);refine yv (zd (hc:=λ_ _ _ _=>(hz _))) (k:=?_);refine za ?_;refine yv (zf (B:=natC p) (hv:=hsp)) (k:=?_);refine yv (zf (B:=natC x)) (k:=?_);refine yv (zd (hc:=λ_ _ _ _=>(hc _))) (k:=?_);refine yv (zau (hr:=g1)) (k:=za ?_))|(refine zb 3 ?_;refine yv (zd (hc:=λ_ _ _ _=>(f1 _))) (k:=?_);refine za ?_;refine zj ?_;intro _;refine yn (zi (n:=1)) (k:=za ?_))|(refine zM (id:=4) 6 [[],[],[],[2],[0,1,2,3],[],[0,1,2,3,4,5],[0,1,2,3,4,5,6]] mixed ?_ ?_;kernel_rfl;refine dc (λ_ _=>zf (B:=safeC p q l)) (k:=?_);refine dc (λ_ _=>zf (B:=natC x)) (k:=?_);refine zR ?_;refine dc (λ_ _=>zf (B:=natC q) (hv:=hsq)) (k:=?_);refine dc (λ_ _=>zd (hc:=λ_ _ _ _=>(hpw _))) (k:=?_);refine dc (λ_ _=>zf (B:=natC 1)) (k:=?_);refine zY ?_;refine yv (zjb (a:=r) (b:=1) (r:=b) natTy hrW q_e hr) (k:=?_);refine zx ?_)|fail)
  exact q_r
 ·have g1:decide (cmpI p x<=0)=true:=decide_eq_true (zn7 q_o);have hb:memB p q x=false:=by unfold memB;exact decide_eq_false (λh=>hxp h.2.1)
  rw [hb];generalize cmpI p x=cz at *;repeat' (first|refine s_0 ?_|(refine zb 0 ?_;refine zj ?_;intro _;refine zO ?_;intro _)|(refine zb 1 ?_;refine yv (zf (B:=natC x)) (k:=?_);refine yv (zd (hc:=λ_ _ _ _=>(hz _))) (k:=?_);refine za ?_;refine yv (zf (B:=natC p) (hv:=hsp)) (k:=?_);refine yv (zf (B:=natC x)) (k:=?_);refine yv (zd (hc:=λ_ _ _ _=>(hc _))) (k:=?_);refine yv (zau (hr:=g1)) (k:=za ?_))|(refine zb 2 (za ?_)))
  exact q_r
theorem zlq (p q l x bc bg f:Nat) (b:Bool) (w:World) (hen: ∀args w,(callFunc f args).run Tryz.prog w= .ok (.enter f args) w) (hf: ∀w',Sy.Fn Tryz.prog f [safeV p q l,natV x] w' No (Gives (.bool b)))
  (hc:w.cell? ⟨bc,0,none⟩=some (.func (.func f) #[] #[])) (hg:w.rangeAt bg 0 (safeC p q l)):
  Sy.Fn Tryz.prog 251 [natV x,.pointer (some ⟨bc,0,none⟩),.pointer (some ⟨bg,0,none⟩)] w No (Gives (.bool b)):=by
 refine zg Tryz.func251 rfl Tryz.ntmps251 q_p Holds.nil ?_;have lS:=zQ p q l;have lx:=ze x;repeat' (first|refine s_0 ?_|(refine zb 0 ?_;refine zO ?_;intro _)|(refine zb 1 ?_;refine yv (zl (hv:=hc)) (k:=?_);refine yv (zz (B:=safeC p q l) (hv:=hg)) (k:=?_);refine yv (zf (B:=natC x)) (k:=?_);refine yv (zcD (he:=hen) (fst:=[]) (cap:=[]) (hc:=λw' X hk hh=>hf w')) (k:=?_);refine za ?_))
 exact q_r
theorem znw (p q l f n c ab ao:Nat) (xs:List Nat) (cond:Nat->Bool) (w:World) (hn:xs.length=n) (hn2:n<=1000) (hen: ∀args w,(callFunc f args).run Tryz.prog w= .ok (.enter f args) w)
  (hf: ∀x∈xs,∀w',Sy.Fn Tryz.prog f [safeV p q l,natV x] w' No (Gives (.bool (cond x)))) (hs:w.rangeAt ab ao (rowN xs)):
  Sy.Fn Tryz.prog 189 [safeV p q l,.func (.func f) #[] #[],.slice (some ⟨ab,ao,none⟩) n c] w No (Gives (.int .i64 (if xs.all cond then 0 else 3))):=by
 refine zg Tryz.func189 rfl Tryz.ntmps189 q_p Holds.nil ?_;have lS:=zQ p q l;repeat' (first|refine s_t ?_|(refine zb 0 ?_;refine zj ?_;intro _;refine zO ?_;intro _)|(refine zb 1 ?_;refine zaa ?_;refine za ?_)|(refine zb 2 (za ?_)))
 rename_i b3 b4;refine zy (γ:=Nat) (λk=>[(7,.func (.func 251) #[] #[.pointer (some ⟨b4,0,none⟩),.pointer (some ⟨b3,0,none⟩)]),(11,.slice (some ⟨ab,ao,none⟩) n c),(12,.int .i64 n),(13,.int .i64 k)])
  (λ_=>[.blk b4 203 [.func (.func f) #[] #[]],.blk b3 194 (safeC p q l)])
  (λk=>k<=n/\(xs.take k).all cond=true) (λk=>n - k) 0 ⟨Nat.zero_le _,rfl⟩ ?_ ?_ ?_
 ·exact q_h
 ·exact q_h
 rintro k ⟨hk,hall⟩;rcases Nat.lt_or_ge k n with h|h
 ·obtain ⟨x,hx⟩: ∃x,xs[k]?=some x:=⟨_,List.getElem?_eq_getElem q_o⟩;have hrow:w.rangeAt ab (ao+k*16) (natC x):=λj v hj=>by
   have:=hs (k*16+j) v (zb9 hx j v hj);rwa [<-Nat.add_assoc] at this
  have hfx:=hf x (List.mem_of_getElem? hx);have lx:=ze x;have hlt:decide ((k:Int) < (n:Int))=true:=q_d;have htk:xs.take (k+1)=xs.take k ++ [x]:=by
   rw [List.take_succ,hx];rfl
  cases hcx:cond x with
  |true=>
   rw [hcx] at hfx;repeat' (first|refine s_t ?_|(refine zb 3 ?_;refine yv (zn (hr:=hlt)) (k:=?_))|(refine zb 4 ?_;refine yv (zaA (j:=k)) (k:=?_);refine yv (zz (B:=natC x) (hv:=hrow)) (k:=?_);refine zj ?_;intro _;refine yn (zi (n:=x)) (k:=?_))|(refine zb 5 (za ?_);refine yv (zf (B:=natC x)) (k:=?_);refine yv (zcD (fst:=[]) (cap:=[.pointer (some ⟨b4,0,none⟩),.pointer (some ⟨b3,0,none⟩)]) (hc:=λw' X hk hh=>zlq p q l x b4 b3 f true w' hen hfx (zp (hh.has (r:=.blk b4 203 [.func (.func f) #[] #[]]) q_h) Seg.all 0 _ rfl) (zp (hh.has (r:=.blk b3 194 (safeC p q l)) q_h) Seg.all))) (k:=?_);refine za ?_)|(refine zb 7 ?_;refine zaj ?_;refine za ?_))
   refine zq (k+1) ⟨h,by rw [htk,List.all_append,hall,List.all_cons,hcx];rfl⟩ ?_ ?_ ?_
   ·show n - (k+1) < n - k;omega
   ·exact q_h
   ·exact q_h
  |false=>
   rw [hcx] at hfx;have hno:xs.all cond=false:=by
    rw [List.all_eq_false];exact ⟨x,List.mem_of_getElem? hx,by rw [hcx];decide⟩
   rw [hno];repeat' (first|refine s_t ?_|(refine zb 3 ?_;refine yv (zn (hr:=hlt)) (k:=?_))|(refine zb 4 ?_;refine yv (zaA (j:=k)) (k:=?_);refine yv (zz (B:=natC x) (hv:=hrow)) (k:=?_);refine zj ?_;intro _;refine yn (zi (n:=x)) (k:=?_))|(refine zb 5 (za ?_);refine yv (zf (B:=natC x)) (k:=?_);refine yv (zcD (fst:=[]) (cap:=[.pointer (some ⟨b4,0,none⟩),.pointer (some ⟨b3,0,none⟩)]) (hc:=λw' X hk hh=>zlq p q l x b4 b3 f false w' hen hfx (zp (hh.has (r:=.blk b4 203 [.func (.func f) #[] #[]]) q_h) Seg.all 0 _ rfl) (zp (hh.has (r:=.blk b3 194 (safeC p q l)) q_h) Seg.all))) (k:=?_);refine za ?_)|(refine zb 6 (za ?_)))
   exact q_r
 ·obtain rfl:k=n:=q_o;rw [List.take_of_length_le q_o] at hall;have hlt:decide ((k:Int) < (k:Int))=false:=q_f;rw [hall];repeat' (first|refine s_0 ?_|(refine zb 3 ?_;refine yv (zn (hr:=hlt)) (k:=?_))|(refine zb 8 (za ?_)))
  exact q_r
theorem zo2 (p q l x:Nat) (w:World) (hx:x < 18446744073709551616 ^ 16) (hl:nd 256 x<=l) (hl2:l<=1000):
  Sy.Fn Tryz.prog 250 [safeV p q l,natV x] w No (RowOf 5 l ((fixB l x).map v8)):=by
 refine zg Tryz.func250 rfl Tryz.ntmps250 q_p Holds.nil ?_;have lS:=zQ p q l;have lx:=ze x;have hsl:=zbz p q l;have hby:=λw'=>zj1 x w' hx;have hbl:=zdO x;have hys:List.replicate (l - nd 256 x) (Value.int IntKind.u8 0) ++ (byt x).map v8=(fixB l x).map v8:=by
  unfold fixB;rw [List.map_append,List.map_replicate];rfl
 generalize fixB l x=F at *;generalize byt x=D at *;generalize nd 256 x=n at *;have hsub:IntKind.i64.wrap ((l:Int) - (n:Int))=((l - n:Nat):Int):=q_w;have hsplit:List.replicate l (Value.int IntKind.u8 0)=List.replicate (l - n) (Value.int IntKind.u8 0) ++ List.replicate n (Value.int IntKind.u8 0):=by
  rw [List.replicate_append_replicate];congr 1;omega
 unfold RowOf;repeat' (first|refine s_0 ?_|(refine zb 0 ?_;refine zj ?_;intro _;refine zO ?_;intro _)|(refine zb 1 ?_;refine yv (zf (B:=natC x)) (k:=?_);(refine ys (zh (f:=294) (hc:=λw' X hk hh=>hby w')) (k:=?_);rintro _ _ ⟨R,rfl,bB,rfl,rfl⟩);refine za ?_)|(refine zb 2 (za ?_);refine yv (zC (hv:=hsl)) (k:=za ?_);refine yv (zD (hr:=hsub)) (k:=za ?_);refine yv (zC (hv:=hsl)) (k:=?_)))
 refine ys (zht (n:=l - n) (c':=l) (Nat.sub_le _ _)) (k:=?_);rintro _ _ ⟨bz,rfl,rfl⟩;rw [hsplit];repeat' (first|refine s_0 ?_|(refine zP ?_;first|(refine ys (OpT.conv (zgQ (n:=l - n) (c:=l) (s:=1) Rem.here (by rw [List.length_append,List.length_replicate,List.length_replicate];omega) (Nat.sub_le _ _) (by unfold maxLen;omega) (by rw [List.length_replicate,Nat.mul_one])) (z9 (k:=l - n) (m:=n) (km:=l) (hL:=Rem.here) (hr:=Rd.of (Reads.blk (C:=D.map v8) (T:=5) Has.go Seg.all)) (hn:=by rw [List.length_map,hbl,Nat.mul_one]) (hkm:=by omega) (hys:=hys))) (k:=?_);rintro _ _ ⟨rfl,aD,cD,rfl⟩)|refine zx ?_|refine zaH ?_|fail)|fail)
 exact q_r
theorem all1c (p q l f x b:Nat) (cond:Nat->Bool) (w:World) (hen: ∀args w,(callFunc f args).run Tryz.prog w= .ok (.enter f args) w) (hf: ∀w',Sy.Fn Tryz.prog f [safeV p q l,natV x] w' No (Gives (.bool (cond x)))) (h:w.rangeAt b 0 (rowN [x])):
  Sy.Fn Tryz.prog 189 [safeV p q l,.func (.func f) #[] #[],.slice (some ⟨b,0,none⟩) 1 1] w No (Gives (.int .i64 (if cond x=true then 0 else 3))):=by
 have:=znw p q l f 1 1 b 0 [x] cond w rfl q_e hen (λy hy w'=>by rw [List.mem_singleton.1 hy];exact hf w') h;rw [List.all_cons,List.all_nil,Bool.and_true] at this;exact this
theorem all2c (p q l f x y b:Nat) (cond:Nat->Bool) (w:World) (hen: ∀args w,(callFunc f args).run Tryz.prog w= .ok (.enter f args) w) (hf: ∀x',(x'=x\/x'=y)-> ∀w',Sy.Fn Tryz.prog f [safeV p q l,natV x'] w' No (Gives (.bool (cond x')))) (h:w.rangeAt b 0 (rowN [x,y])):
  Sy.Fn Tryz.prog 189 [safeV p q l,.func (.func f) #[] #[],.slice (some ⟨b,0,none⟩) 2 2] w No (Gives (.int .i64 (if (cond x && cond y)=true then 0 else 3))):=by
 have:=znw p q l f 2 2 b 0 [x,y] cond w rfl q_e hen (λz hz w'=>hf z (by simpa using hz) w') h;rw [List.all_cons,List.all_cons,List.all_nil,Bool.and_true] at this;exact this
theorem zmg (z:Int) (w:World) (hz: ¬(1<=z/\z<=4)):Sy.Fn Tryz.prog 129 [.int .i64 z] w No (Gives (.tuple #[natV 0,.int .i64 2])):=by
 refine zg Tryz.func129 rfl Tryz.ntmps129 q_p Holds.nil ?_;have lz:=ze 0;have lS:=zQ 0 0 0;have hsp:=zbf 0 0 0;have hsq:=zbb 0 0 0;repeat' (first|refine s_0 ?_|(refine zb 0 ?_;refine zO ?_;intro _)|(refine zb 1 (za ?_);refine yv (zd (hc:=λ_ _ _ _=>(ze6 z _ hz))) (k:=?_);refine za ?_;refine zj ?_;intro _;refine yn (zE (B:=safeC 0 0 0) (hv:=zas 0 0 0) (h1:=(zQ 0 0 0).symm)) (k:=za ?_))|(refine zb 2 (za ?_);refine yv (zf (B:=natC 0) (hv:=hsq)) (k:=za ?_);refine yn (zi (n:=0)) (k:=za ?_)))
 exact ret2 rfl (resCells (B:=natC 0) rfl (ty rfl) rfl Has.go Seg.all (ze _).symm) (resTmp rfl) SubR.nil ⟨rfl,rfl⟩
theorem zml (i:Nat) (w:World) (h0:1<=i) (h5:i<=4) (hG:GT w):
  Sy.Fn Tryz.prog 129 [.int .i64 (i:Int)] w No (Gives (.tuple #[natV (gQ i),.int .i64 0])):=by
 refine zg Tryz.func129 rfl Tryz.ntmps129 q_p Holds.nil ?_;have hW:=zaN i h0 h5;have hQW:=zaV i h0 h5;have hp1:=zaI i h0 h5;have hq0:=zaB i h0 h5;have hfi:=λw' (hk:Keep No w w')=>zbx i w' h0 h5 (hG.to hk);generalize gP i=p at *;generalize gQ i=q at *;generalize gL i=l at *;have lS:=zQ p q l;have lp:=ze p;have lq:=ze q;have lz:=ze 0;have hsp:=zbf p q l;have hsq:=zbb p q l;have hsl:=zbz p q l;repeat' (first|refine s_0 ?_|(refine zb 0 ?_;refine zO ?_;intro _)|(refine zb 1 (za ?_);refine yv (zd (f:=180) (hc:=zr hfi)) (k:=?_);refine za ?_;refine zj ?_;intro _;refine yn (zE (B:=safeC p q l) (hv:=zas p q l) (h1:=(zQ p q l).symm)) (k:=za ?_))|(refine zb 2 (za ?_);refine yv (zf (B:=natC q) (hv:=hsq)) (k:=za ?_);refine yn (zi (n:=q)) (k:=za ?_)))
 exact ret2 rfl (resCells (B:=natC q) rfl (ty rfl) rfl Has.go Seg.all (ze _).symm) (resTmp rfl) SubR.nil ⟨rfl,rfl⟩
theorem zpq (z:Int) (w:World) (hz: ¬(1<=z/\z<=4)):Sy.Fn Tryz.prog 270 [.int .i64 z] w No (Gives (.int .i64 0)):=by
 refine zg Tryz.func270 rfl Tryz.ntmps270 q_p Holds.nil ?_;have lS:=zQ 0 0 0;have hsl:=zbz 0 0 0;repeat' (first|refine s_0 ?_|(refine zb 0 (za ?_))|(refine zb 1 (za ?_);refine yv (zd (hc:=λ_ _ _ _=>(ze6 z _ hz))) (k:=?_);refine za ?_;refine zj ?_;intro _;refine yn (zE (B:=safeC 0 0 0) (hv:=zas 0 0 0) (h1:=(zQ 0 0 0).symm)) (k:=za ?_))|(refine zb 2 (za ?_);refine yv (zC (hv:=hsl)) (k:=za ?_)))
 exact q_r
theorem zqV (i:Nat) (w:World) (h0:1<=i) (h5:i<=4) (hG:GT w):
  Sy.Fn Tryz.prog 270 [.int .i64 (i:Int)] w No (Gives (.int .i64 ((gL i:Nat):Int))):=by
 refine zg Tryz.func270 rfl Tryz.ntmps270 q_p Holds.nil ?_;have hW:=zaN i h0 h5;have hQW:=zaV i h0 h5;have hp1:=zaI i h0 h5;have hq0:=zaB i h0 h5;have hfi:=λw' (hk:Keep No w w')=>zbx i w' h0 h5 (hG.to hk);generalize gP i=p at *;generalize gQ i=q at *;generalize gL i=l at *;have lS:=zQ p q l;have lp:=ze p;have lq:=ze q;have lz:=ze 0;have hsp:=zbf p q l;have hsq:=zbb p q l;have hsl:=zbz p q l;repeat' (first|refine s_0 ?_|(refine zb 0 (za ?_))|(refine zb 1 (za ?_);refine yv (zd (f:=180) (hc:=zr hfi)) (k:=?_);refine za ?_;refine zj ?_;intro _;refine yn (zE (B:=safeC p q l) (hv:=zas p q l) (h1:=(zQ p q l).symm)) (k:=za ?_))|(refine zb 2 (za ?_);refine yv (zC (hv:=hsl)) (k:=za ?_)))
 exact q_r
theorem zfv (i:Nat) (e:Nat) (w:World) (h0:1<=i) (h5:i<=4) (hG:GT w) (he:e < 18446744073709551616 ^ 16) (hc:e < gQ i):
  Sy.Fn Tryz.prog 106 [.int .i64 (i:Int),natV e] w No (Gives (.tuple #[natV (4 ^ e % gP i),.int .i64 0])):=by
 refine zg Tryz.func106 rfl Tryz.ntmps106 q_p Holds.nil ?_;have le:=ze e;have hW:=zaN i h0 h5;have hQW:=zaV i h0 h5;have hp1:=zaI i h0 h5;have hq0:=zaB i h0 h5;have hfi:=λw' (hk:Keep No w w')=>zbx i w' h0 h5 (hG.to hk);generalize gP i=p at *;generalize gQ i=q at *;generalize gL i=l at *;have lS:=zQ p q l;have lp:=ze p;have lq:=ze q;have lz:=ze 0;have hsp:=zbf p q l;have hsq:=zbb p q l;have hsl:=zbz p q l;have hale:=λw' b' (h:w'.rangeAt b' 0 (rowN [e]))=>all1c p q l 190 e b' (λy=>decide (y < q)) w' (en rfl) (λw''=>zca p q l e w'' hQW he) h;simp only [decide_eq_true hc,if_true] at hale;have l4:=ze 4;have f4:=λw'=>zeJ 4 w' q_e;have hpw:=λw'=>zgA p q l 4 e w' hW q_o q_e he;have lr:=ze (4 ^ e % p);generalize 4 ^ e % p=r at *;repeat' (first|refine s_0 ?_|(refine zb 0 ?_;refine zj ?_;intro _;refine zO ?_;intro _)|(refine zb 1 (za ?_);refine yv (zd (f:=180) (hc:=zr hfi)) (k:=?_);refine za ?_;refine zj ?_;intro _;refine yn (zE (B:=safeC p q l) (hv:=zas p q l) (h1:=(zQ p q l).symm)) (k:=za ?_))|(refine zb 2 (za ?_);refine z8 ?_)|(refine zb 4 ?_;refine yv (zf (B:=safeC p q l)) (k:=?_);refine yv (zf (B:=natC e)) (k:=?_))|(refine zb 5 (za ?_);refine z8 ?_)|(refine zb 7 ?_;refine yv (zd (hc:=λ_ _ _ _=>(f4 _))) (k:=?_);refine za ?_;refine zj ?_;intro _;refine yn (zi (n:=4)) (k:=za ?_))|(refine zb 8 ?_;refine yv (zf (B:=safeC p q l)) (k:=?_);refine yv (zf (B:=natC 4)) (k:=?_);refine yv (zf (B:=natC e)) (k:=?_);refine yv (zd (hc:=λ_ _ _ _=>(hpw _))) (k:=?_);refine yn (zi (n:=r)) (k:=za ?_))|(refine ys (za3 (x:=e)) (k:=?_);rintro _ _ ⟨bb,rfl,rfl⟩)|(refine zP ?_;first|refine yv (zd (f:=189) (hc:=λw' X hk hh=>hale w' _ (zp (hh.has (by exact Has.append Has.here)) Seg.all))) (k:=?_)|refine zx ?_|fail)|fail)
 exact ret2 rfl (resCells (B:=natC r) rfl (ty rfl) rfl Has.go Seg.all (ze _).symm) (resTmp rfl) SubR.nil ⟨rfl,rfl⟩
theorem zqQ (i:Nat) (x:Nat) (e:Nat) (w:World) (h0:1<=i) (h5:i<=4) (hG:GT w) (hx:x < 18446744073709551616 ^ 16) (he:e < 18446744073709551616 ^ 16) (hc:memB (gP i) (gQ i) x=true) (hd:e < gQ i):
  Sy.Fn Tryz.prog 137 [.int .i64 (i:Int),natV x,natV e] w No (Gives (.tuple #[natV (x ^ e % gP i),.int .i64 0])):=by
 refine zg Tryz.func137 rfl Tryz.ntmps137 q_p Holds.nil ?_;have lx:=ze x;have le:=ze e;have hW:=zaN i h0 h5;have hQW:=zaV i h0 h5;have hp1:=zaI i h0 h5;have hq0:=zaB i h0 h5;have hfi:=λw' (hk:Keep No w w')=>zbx i w' h0 h5 (hG.to hk);generalize gP i=p at *;generalize gQ i=q at *;generalize gL i=l at *;have lS:=zQ p q l;have lp:=ze p;have lq:=ze q;have lz:=ze 0;have hsp:=zbf p q l;have hsq:=zbb p q l;have hsl:=zbz p q l;have halx:=λw' b' (h:w'.rangeAt b' 0 (rowN [x]))=>all1c p q l 188 x b' (memB p q) w' (en rfl) (λw''=>zcU p q l x w'' hW hQW q_o hx) h;simp only [hc,if_true] at halx;have hale:=λw' b' (h:w'.rangeAt b' 0 (rowN [e]))=>all1c p q l 190 e b' (λy=>decide (y < q)) w' (en rfl) (λw''=>zca p q l e w'' hQW he) h;simp only [decide_eq_true hd,if_true] at hale;have hpw:=λw'=>zgA p q l x e w' hW q_o hx he;have lr:=ze (x ^ e % p);generalize x ^ e % p=r at *;repeat' (first|refine s_0 ?_|(refine zb 0 ?_;refine zj ?_;intro _;refine zj ?_;intro _;refine zO ?_;intro _)|(refine zb 1 (za ?_);refine yv (zd (f:=180) (hc:=zr hfi)) (k:=?_);refine za ?_;refine zj ?_;intro _;refine yn (zE (B:=safeC p q l) (hv:=zas p q l) (h1:=(zQ p q l).symm)) (k:=za ?_))|(refine zb 2 (za ?_);refine z8 ?_)|(refine zb 4 ?_;refine yv (zf (B:=safeC p q l)) (k:=?_);refine yv (zf (B:=natC x)) (k:=?_))|(refine zb 5 (za ?_);refine z8 ?_)|(refine zb 7 ?_;refine yv (zf (B:=safeC p q l)) (k:=?_);refine yv (zf (B:=natC e)) (k:=?_))|(refine zb 8 (za ?_);refine z8 ?_)|(refine zb 10 ?_;refine yv (zf (B:=safeC p q l)) (k:=?_);refine yv (zf (B:=natC x)) (k:=?_);refine yv (zf (B:=natC e)) (k:=?_);refine yv (zd (hc:=λ_ _ _ _=>(hpw _))) (k:=?_);refine yn (zi (n:=r)) (k:=za ?_))|(refine ys (za3 (x:=x)) (k:=?_);rintro _ _ ⟨bb,rfl,rfl⟩)|(refine ys (za3 (x:=e)) (k:=?_);rintro _ _ ⟨bb,rfl,rfl⟩)|(refine zP ?_;first|refine yv (zd (f:=189) (hc:=λw' X hk hh=>halx w' _ (zp (hh.has (by exact Has.append Has.here)) Seg.all))) (k:=?_)|refine yv (zd (f:=189) (hc:=λw' X hk hh=>hale w' _ (zp (hh.has (by exact Has.append Has.here)) Seg.all))) (k:=?_)|refine zx ?_|fail)|fail)
 exact ret2 rfl (resCells (B:=natC r) rfl (ty rfl) rfl Has.go Seg.all (ze _).symm) (resTmp rfl) SubR.nil ⟨rfl,rfl⟩
theorem zqu (i:Nat) (x:Nat) (y:Nat) (w:World) (h0:1<=i) (h5:i<=4) (hG:GT w) (hx:x < 18446744073709551616 ^ 16) (hy:y < 18446744073709551616 ^ 16) (hc:(memB (gP i) (gQ i) x && memB (gP i) (gQ i) y)=true):
  Sy.Fn Tryz.prog 139 [.int .i64 (i:Int),natV x,natV y] w No (Gives (.tuple #[natV (x*y % gP i),.int .i64 0])):=by
 refine zg Tryz.func139 rfl Tryz.ntmps139 q_p Holds.nil ?_;have lx:=ze x;have ly:=ze y;have hW:=zaN i h0 h5;have hQW:=zaV i h0 h5;have hp1:=zaI i h0 h5;have hq0:=zaB i h0 h5;have hfi:=λw' (hk:Keep No w w')=>zbx i w' h0 h5 (hG.to hk);generalize gP i=p at *;generalize gQ i=q at *;generalize gL i=l at *;have lS:=zQ p q l;have lp:=ze p;have lq:=ze q;have lz:=ze 0;have hsp:=zbf p q l;have hsq:=zbb p q l;have hsl:=zbz p q l;have hal:=λw' b' (h:w'.rangeAt b' 0 (rowN [x,y]))=>all2c p q l 188 x y b' (memB p q) w' (en rfl) (λx' hx' w''=>by
  have hx'W:x' < 18446744073709551616 ^ 16:=by
   rcases hx' with rfl|rfl
   ·exact hx
   ·exact hy
  exact zcU p q l x' w'' hW hQW q_o hx'W) h
 simp only [hc,if_true] at hal;have ho:=λw'=>zhM x y p w' hx hy hW;unfold modR at ho;simp only [if_neg (show ¬p=0 by omega)] at ho;have lr:=ze (x*y % p);generalize x*y % p=r at *;repeat' (first|refine s_0 ?_|(refine zb 0 ?_;refine zj ?_;intro _;refine zj ?_;intro _;refine zO ?_;intro _)|(refine zb 1 (za ?_);refine yv (zd (f:=180) (hc:=zr hfi)) (k:=?_);refine za ?_;refine zj ?_;intro _;refine yn (zE (B:=safeC p q l) (hv:=zas p q l) (h1:=(zQ p q l).symm)) (k:=za ?_))|(refine zb 2 (za ?_);refine z8 ?_)|(refine zb 4 ?_;refine yv (zf (B:=safeC p q l)) (k:=?_);refine yv (zf (B:=natC x)) (k:=?_);refine yv (zf (B:=natC y)) (k:=?_))|(refine zb 5 (za ?_);refine z8 ?_)|(refine zb 7 ?_;refine yv (zf (B:=natC x)) (k:=?_);refine yv (zf (B:=natC y)) (k:=za ?_);refine yv (zf (B:=natC p) (hv:=hsp)) (k:=?_);refine yv (zd (hc:=λ_ _ _ _=>(ho _))) (k:=?_);refine za ?_;refine yn (zi (n:=r)) (k:=za ?_))|(refine ys (zcK (x:=x) (x':=y)) (k:=?_);rintro _ _ ⟨bb,rfl,rfl⟩)|(refine zP ?_;first|refine yv (zd (f:=189) (hc:=λw' X hk hh=>hal w' _ (zp (hh.has (by exact Has.append Has.here)) Seg.all))) (k:=?_)|refine zx ?_|fail)|fail)
 exact ret2 rfl (resCells (B:=natC r) rfl (ty rfl) rfl Has.go Seg.all (ze _).symm) (resTmp rfl) SubR.nil ⟨rfl,rfl⟩
theorem zpy (i:Nat) (x:Nat) (y:Nat) (w:World) (h0:1<=i) (h5:i<=4) (hG:GT w) (hx:x < 18446744073709551616 ^ 16) (hy:y < 18446744073709551616 ^ 16) (hc:(decide (x < gQ i) && decide (y < gQ i))=true):
  Sy.Fn Tryz.prog 107 [.int .i64 (i:Int),natV x,natV y] w No (Gives (.tuple #[natV ((x+y) % gQ i),.int .i64 0])):=by
 refine zg Tryz.func107 rfl Tryz.ntmps107 q_p Holds.nil ?_;have lx:=ze x;have ly:=ze y;have hW:=zaN i h0 h5;have hQW:=zaV i h0 h5;have hp1:=zaI i h0 h5;have hq0:=zaB i h0 h5;have hfi:=λw' (hk:Keep No w w')=>zbx i w' h0 h5 (hG.to hk);generalize gP i=p at *;generalize gQ i=q at *;generalize gL i=l at *;have lS:=zQ p q l;have lp:=ze p;have lq:=ze q;have lz:=ze 0;have hsp:=zbf p q l;have hsq:=zbb p q l;have hsl:=zbz p q l;have hal:=λw' b' (h:w'.rangeAt b' 0 (rowN [x,y]))=>all2c p q l 190 x y b' (λy=>decide (y < q)) w' (en rfl) (λx' hx' w''=>by
  have hx'W:x' < 18446744073709551616 ^ 16:=by
   rcases hx' with rfl|rfl
   ·exact hx
   ·exact hy
  exact zca p q l x' w'' hQW hx'W) h
 simp only [hc,if_true] at hal;have ho:=λw'=>zlp x y q w' hx hy hQW;unfold modR at ho;simp only [if_neg (show ¬q=0 by omega)] at ho;have lr:=ze ((x+y) % q);generalize (x+y) % q=r at *;repeat' (first|refine s_0 ?_|(refine zb 0 ?_;refine zj ?_;intro _;refine zj ?_;intro _;refine zO ?_;intro _)|(refine zb 1 (za ?_);refine yv (zd (f:=180) (hc:=zr hfi)) (k:=?_);refine za ?_;refine zj ?_;intro _;refine yn (zE (B:=safeC p q l) (hv:=zas p q l) (h1:=(zQ p q l).symm)) (k:=za ?_))|(refine zb 2 (za ?_);refine z8 ?_)|(refine zb 4 ?_;refine yv (zf (B:=safeC p q l)) (k:=?_);refine yv (zf (B:=natC x)) (k:=?_);refine yv (zf (B:=natC y)) (k:=?_))|(refine zb 5 (za ?_);refine z8 ?_)|(refine zb 7 ?_;refine yv (zf (B:=natC x)) (k:=?_);refine yv (zf (B:=natC y)) (k:=za ?_);refine yv (zf (B:=natC q) (hv:=hsq)) (k:=?_);refine yv (zd (hc:=λ_ _ _ _=>(ho _))) (k:=?_);refine za ?_;refine yn (zi (n:=r)) (k:=za ?_))|(refine ys (zcK (x:=x) (x':=y)) (k:=?_);rintro _ _ ⟨bb,rfl,rfl⟩)|(refine zP ?_;first|refine yv (zd (f:=189) (hc:=λw' X hk hh=>hal w' _ (zp (hh.has (by exact Has.append Has.here)) Seg.all))) (k:=?_)|refine zx ?_|fail)|fail)
 exact ret2 rfl (resCells (B:=natC r) rfl (ty rfl) rfl Has.go Seg.all (ze _).symm) (resTmp rfl) SubR.nil ⟨rfl,rfl⟩
theorem zoe (i:Nat) (x:Nat) (y:Nat) (w:World) (h0:1<=i) (h5:i<=4) (hG:GT w) (hx:x < 18446744073709551616 ^ 16) (hy:y < 18446744073709551616 ^ 16) (hc:(decide (x < gQ i) && decide (y < gQ i))=true):
  Sy.Fn Tryz.prog 108 [.int .i64 (i:Int),natV x,natV y] w No (Gives (.tuple #[natV (x*y % gQ i),.int .i64 0])):=by
 refine zg Tryz.func108 rfl Tryz.ntmps108 q_p Holds.nil ?_;have lx:=ze x;have ly:=ze y;have hW:=zaN i h0 h5;have hQW:=zaV i h0 h5;have hp1:=zaI i h0 h5;have hq0:=zaB i h0 h5;have hfi:=λw' (hk:Keep No w w')=>zbx i w' h0 h5 (hG.to hk);generalize gP i=p at *;generalize gQ i=q at *;generalize gL i=l at *;have lS:=zQ p q l;have lp:=ze p;have lq:=ze q;have lz:=ze 0;have hsp:=zbf p q l;have hsq:=zbb p q l;have hsl:=zbz p q l;have hal:=λw' b' (h:w'.rangeAt b' 0 (rowN [x,y]))=>all2c p q l 190 x y b' (λy=>decide (y < q)) w' (en rfl) (λx' hx' w''=>by
  have hx'W:x' < 18446744073709551616 ^ 16:=by
   rcases hx' with rfl|rfl
   ·exact hx
   ·exact hy
  exact zca p q l x' w'' hQW hx'W) h
 simp only [hc,if_true] at hal;have ho:=λw'=>zhM x y q w' hx hy hQW;unfold modR at ho;simp only [if_neg (show ¬q=0 by omega)] at ho;have lr:=ze (x*y % q);generalize x*y % q=r at *;repeat' (first|refine s_0 ?_|(refine zb 0 ?_;refine zj ?_;intro _;refine zj ?_;intro _;refine zO ?_;intro _)|(refine zb 1 (za ?_);refine yv (zd (f:=180) (hc:=zr hfi)) (k:=?_);refine za ?_;refine zj ?_;intro _;refine yn (zE (B:=safeC p q l) (hv:=zas p q l) (h1:=(zQ p q l).symm)) (k:=za ?_))|(refine zb 2 (za ?_);refine z8 ?_)|(refine zb 4 ?_;refine yv (zf (B:=safeC p q l)) (k:=?_);refine yv (zf (B:=natC x)) (k:=?_);refine yv (zf (B:=natC y)) (k:=?_))|(refine zb 5 (za ?_);refine z8 ?_)|(refine zb 7 ?_;refine yv (zf (B:=natC x)) (k:=?_);refine yv (zf (B:=natC y)) (k:=za ?_);refine yv (zf (B:=natC q) (hv:=hsq)) (k:=?_);refine yv (zd (hc:=λ_ _ _ _=>(ho _))) (k:=?_);refine za ?_;refine yn (zi (n:=r)) (k:=za ?_))|(refine ys (zcK (x:=x) (x':=y)) (k:=?_);rintro _ _ ⟨bb,rfl,rfl⟩)|(refine zP ?_;first|refine yv (zd (f:=189) (hc:=λw' X hk hh=>hal w' _ (zp (hh.has (by exact Has.append Has.here)) Seg.all))) (k:=?_)|refine zx ?_|fail)|fail)
 exact ret2 rfl (resCells (B:=natC r) rfl (ty rfl) rfl Has.go Seg.all (ze _).symm) (resTmp rfl) SubR.nil ⟨rfl,rfl⟩
theorem zaY {i x:Nat} :memB (gP i) (gQ i) x=true↔mem i x:=by
 unfold memB mem;exact decide_eq_true_iff
end Go.Proofs.YtdnlngbjpdbffaaGreatDoor
end
