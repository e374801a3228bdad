/- Certificates, walked: conditions, components, equal principals, copies of them. -/
import Derived.Test.YtdnlngbjpdbffaaGreatDoorLJ32
import Derived.Test.YtdnlngbjpdbffaaGreatDoorLJ33
import Derived.Test.YtdnlngbjpdbffaaGreatDoorLJ09
import Derived.Lib.Bytealg
set_option maxRecDepth 10000
set_option linter.all false
section
namespace Go.Ct
open Go Go.Sy
theorem zcg {w:World}{a:Option Addr}{B:List Value}(h:SlA w a B) {i:Nat}(hi:i < B.length): ∃b o,a=some ⟨b,o,none⟩/\ ∀(j:Nat) (v:Value),B[j]?=some v->w.cell? ⟨b,o+j,none⟩=some v:=by
 rcases h with rfl|⟨b,o,rfl,hr⟩
 ·exact absurd hi q_p
 ·exact ⟨b,o,rfl,hr⟩
theorem zbW {α β:Type}(f:α->β) {l:List α}{i:Nat}(h:i < l.length):(l.map f)[i]?=some (f l[i]):=by rw [List.getElem?_map,List.getElem?_eq_getElem h];rfl
theorem zac {α:Type}{l:List α}{i:Nat}(h:i < l.length):l.take (i+1)=l.take i ++ [l[i]]:=List.take_succ_eq_append_getElem h
theorem zjf: ∀bs:List Bool,bs.all id=!bs.contains false
 | []=>rfl
 |x::l=>by
  have ih:=zjf l;cases x
  ·simp
  ·simp only [List.all_cons,id,Bool.true_and,ih,List.contains_cons];rfl
end Go.Ct
namespace Go.Proofs.YtdnlngbjpdbffaaGreatDoor
open Go Go.Sy Go.Ct Go.RowKit
attribute [local irreducible] Sy SyL SyX Sy.Fn callFunc
theorem zq6 (a:Option Addr) (m c:Nat) (bs:List Bool) (u:Bool) (w:World) (hm:bs.length=m) (hmb:m < 1000000) (hs:SlA w a (bs.map Value.bool)):
  Sy.Fn Tryz.prog 280 [.slice a m c,.bool u] w No (λv R=>∃z:Int,v= .int .i64 z/\decide (z>=0)=bs.contains u/\R= []):=by
 refine zg Tryz.func280 rfl Tryz.ntmps280 q_p Holds.nil ?_;repeat' (first|refine s_t ?_|(refine zB [0,1] ?_;refine za ?_))
 refine zy (γ:=Nat) (λi=>[(0,.slice a m c),(1,.bool u),(7,.int .i64 (m:Int)),(8,.int .i64 (i:Int))]) (λ_=>[]) (λi=>i<=m/\(bs.take i).contains u=false) (λi=>m - i) 0 ⟨Nat.zero_le _,rfl⟩ ?_ ?_ ?_
 ·exact q_h
 ·exact q_h
 rintro i ⟨hi,hno⟩;by_cases hlt:i < m
 ·obtain ⟨bl,ol,rfl,hcell⟩:=zcg hs (i:=i) (by rw [List.length_map];omega);have hc:=hcell i _ (zbW Value.bool q_o);have g1:decide ((i:Int) < (m:Int))=true:=q_d;have g5:IntKind.i64.wrap ((i:Int)+1)=((i+1:Nat):Int):=q_w;have htk:bs.take (i+1)=bs.take i ++ [bs[i]]:=zac q_o;have hin:bs[i]∈bs:=List.getElem_mem q_o;generalize bs[i]=x at *;by_cases hx:u=x
  ·have g2:(u == x)=true:=by simp [hx]
   repeat' (first|refine s_t ?_|(refine zb 2 ?_;refine yv (zn (hr:=g1)) (k:=?_))|(refine zB [3,5] ?_;refine za ?_)|(refine zb 4 (za ?_);refine yv (zG (j:=i)) (k:=?_);refine yv (zl (hv:=hc)) (k:=?_);refine yv (zhp (hr:=g2)) (k:=?_)))
   exact ret1 rfl (resTmp rfl) SubR.nil ⟨i,rfl,by rw [decide_eq_true q_o];symm;simp [hx,hin],rfl⟩
  ·have g2:(u == x)=false:=by simp [hx]
   repeat' (first|refine s_t ?_|(refine zb 2 ?_;refine yv (zn (hr:=g1)) (k:=?_))|(refine zb 3 (za ?_))|(refine zb 4 (za ?_);refine yv (zG (j:=i)) (k:=?_);refine yv (zl (hv:=hc)) (k:=?_);refine yv (zhp (hr:=g2)) (k:=?_))|(refine zb 6 ?_;refine yv (zu (hr:=g5)) (k:=za ?_)))
   refine zq (i+1) ⟨hlt,?_⟩ ?_ ?_ ?_
   ·rw [htk];simp only [List.contains_eq_mem,List.mem_append,List.mem_singleton,decide_eq_false_iff_not] at hno ⊢;rintro (h|h)
    ·exact hno h
    ·exact hx h
   ·show m - (i+1) < m - i;omega
   ·exact q_h
   ·exact q_h
 obtain rfl:i=m:=q_o;rw [List.take_of_length_le q_o] at hno;have g1:decide ((i:Int) < (i:Int))=false:=q_f;repeat' (first|refine s_0 ?_|(refine zb 2 ?_;refine yv (zn (hr:=g1)) (k:=?_))|(refine zb 7 (za ?_)))
 exact ret1 rfl (resTmp rfl) SubR.nil ⟨-1,rfl,by rw [hno];rfl,rfl⟩
theorem zjD (a:Option Addr) (m c:Nat) (bs:List Bool) (u:Bool) (w:World) (hm:bs.length=m) (hmb:m < 1000000) (hs:SlA w a (bs.map Value.bool)):
  Sy.Fn Tryz.prog 234 [.slice a m c,.bool u] w No (Gives (.bool (bs.contains u))):=by
 refine zg Tryz.func234 rfl Tryz.ntmps234 q_p Holds.nil ?_;have hi:=λw' (hk:Keep No w w')=>zq6 a m c bs u w' hm hmb ((SlF.of hs).to (Mi:=No) hk (λ_ h=> .inr h)).sla;repeat' (first|refine s_0 ?_|(refine zb 0 (za ?_))|(refine zb 1 (za ?_);(refine ys (zh (f:=280) (hc:=zr hi)) (k:=?_);rintro _ _ ⟨R,rfl,z,rfl,hz,rfl⟩);refine yv (zab (hr:=hz)) (k:=za ?_)))
 exact q_r
theorem zp8 (b m:Nat) (bs:List Bool) (w:World) (hm:bs.length=m) (hmb:m < 1000000) (hs:w.rangeAt b 0 (bs.map Value.bool)):
  Sy.Fn Tryz.prog 167 [.slice (some ⟨b,0,none⟩) m m] w No (Gives (.bool (bs.all id))):=by
 refine zg Tryz.func167 rfl Tryz.ntmps167 q_p Holds.nil ?_;have hi:=λw' (hk:Keep No w w')=>zjD (some ⟨b,0,none⟩) m m bs false w' hm hmb ((SlF.of (w:=w) (.inr ⟨b,0,rfl,hs⟩)).to (Mi:=No) hk (λ_ h=> .inr h)).sla;rw [zjf];repeat' (first|refine s_0 ?_|(refine zb 0 (za ?_))|(refine zb 1 (za ?_);refine yv (zd (f:=234) (hc:=zr hi)) (k:=?_);refine za ?_))
 exact q_r
theorem zp2 (b m:Nat) (bs:List Bool) (w:World) (hm:bs.length=m) (hmb:m < 1000000) (hs:w.rangeAt b 0 (bs.map Value.bool)):
  Sy.Fn Tryz.prog 216 [.slice (some ⟨b,0,none⟩) m m] w No (Gives (.bool (bs.all id))):=by
 refine zg Tryz.func216 rfl Tryz.ntmps216 q_p Holds.nil ?_;have hi:=λw' (hk:Keep No w w')=>zjD (some ⟨b,0,none⟩) m m bs false w' hm hmb ((SlF.of (w:=w) (.inr ⟨b,0,rfl,hs⟩)).to (Mi:=No) hk (λ_ h=> .inr h)).sla;rw [zjf];repeat' (first|refine s_0 ?_|(refine zb 0 (za ?_))|(refine zb 1 (za ?_);refine yv (zd (f:=234) (hc:=zr hi)) (k:=?_);refine za ?_))
 exact q_r
theorem zqJ (l:List UInt8) (w:World) (hl:l.length < 1000000000):Sy.Fn Tryz.prog 169 [strV l] w No (Gives (.bool (partOk l))):=by
 refine zg Tryz.func169 rfl Tryz.ntmps169 q_p Holds.nil ?_;unfold strV;have hs:((str l).size:Int)=(l.length:Int):=rfl;have hz:=λw'=>zj2 l w';unfold strV at hz;repeat' (first|refine s_t ?_|(refine zB [0,1] ?_;refine za ?_))
 refine zy (γ:=Nat) (λi=>[(0,.string (str l)),(5,.int .i64 (l.length:Int)),(6,.int .i64 (i:Int))]) (λ_=>[]) (λi=>i<=l.length/\(l.take i).all visC=true) (λi=>l.length - i) 0 ⟨Nat.zero_le _,rfl⟩ ?_ ?_ ?_
 ·exact q_h
 ·exact q_h
 rintro i ⟨hi,hal⟩;by_cases hlt:i < l.length
 ·have g1:decide ((i:Int) < (l.length:Int))=true:=q_d;have g5:IntKind.i64.wrap ((i:Int)+1)=((i+1:Nat):Int):=q_w;have hv:(str l).data[i]?=some l[i]:=by show l.toArray[i]?=_;rw [List.getElem?_toArray,List.getElem?_eq_getElem hlt]
  have htk:l.take (i+1)=l.take i ++ [l[i]]:=zac hlt;have hin:l[i]∈l:=List.getElem_mem hlt;generalize l[i]=x at *;have hc:x.toNat < 33\/(33<=x.toNat/\126 < x.toNat)\/(33<=x.toNat/\x.toNat<=126):=q_o;have hbad: ¬(33<=x.toNat/\x.toNat<=126)->partOk l=false:=λh=>by
   have:l.all visC=false:=by
    rw [List.all_eq_false];exact ⟨x,hin,by simp only [visC,Bool.and_eq_true,decide_eq_true_eq];exact h⟩
   simp [partOk,this]
  rcases hc with h|⟨h,h'⟩|⟨h,h'⟩
  ·rw [hbad q_o];repeat' (first|refine s_t ?_|(refine zb 2 ?_;refine yv (zn (hr:=g1)) (k:=?_))|(refine zB [3,5] ?_;refine za ?_)|(refine zb 4 (za ?_);refine yv (zF (j:=i) (hv:=hv)) (k:=?_);refine zL ?_;refine za ?_))
   exact q_r
  ·rw [hbad q_o];repeat' (first|refine s_t ?_|(refine zb 2 ?_;refine yv (zn (hr:=g1)) (k:=?_))|(refine zB [3,5] ?_;refine za ?_)|(refine zb 4 (za ?_);refine yv (zF (j:=i) (hv:=hv)) (k:=?_);refine zL ?_;refine za ?_;refine yv (zF (j:=i) (hv:=hv)) (k:=?_);refine zak ?_;refine za ?_))
   exact q_r
  ·repeat' (first|refine s_t ?_|(refine zb 2 ?_;refine yv (zn (hr:=g1)) (k:=?_))|(refine zb 3 (za ?_))|(refine zb 4 (za ?_);refine yv (zF (j:=i) (hv:=hv)) (k:=?_);refine zL ?_;refine za ?_;refine yv (zF (j:=i) (hv:=hv)) (k:=?_);refine zak ?_;refine za ?_)|(refine zb 6 ?_;refine yv (zu (hr:=g5)) (k:=za ?_)))
   refine zq (i+1) ⟨hlt,?_⟩ ?_ ?_ ?_
   ·rw [htk,List.all_append,hal];simp only [List.all_cons,List.all_nil,visC,decide_eq_true h,decide_eq_true h',Bool.true_and]
   ·show l.length - (i+1) < l.length - i;omega
   ·exact q_h
   ·exact q_h
 obtain rfl:i=l.length:=q_o;rw [List.take_of_length_le (Nat.le_refl _)] at hal;have g1:decide ((l.length:Int) < (l.length:Int))=false:=q_f;repeat' (first|refine s_0 ?_|(refine zb 2 ?_;refine yv (zn (hr:=g1)) (k:=?_))|(refine zb 7 (za ?_);refine yv (zd (hc:=λ_ _ _ _=>(hz _))) (k:=?_);refine za ?_))
 exact ret1 rfl (resTmp rfl) SubR.nil ⟨by simp [partOk,hal],rfl⟩
theorem znJ (a1 a2:Option Addr) (n1 c1 n2 c2:Nat) (l1 l2:List (List UInt8)) (w:World) (h1:l1.length=n1) (h2:l2.length=n2) (hb:n1 < 1000000) (s1:SlA w a1 (l1.map strV)) (s2:SlA w a2 (l2.map strV)):
  Sy.Fn Tryz.prog 165 [.slice a1 n1 c1,.slice a2 n2 c2] w No (Gives (.bool (l1 == l2))):=by
 refine zg Tryz.func165 rfl Tryz.ntmps165 q_p Holds.nil ?_;by_cases hn: ¬n1=n2
 ·have g1:decide ((n1:Int)≠(n2:Int))=true:=q_d;have e:(l1 == l2)=false:=by
   rw [beq_eq_false_iff_ne];intro e;exact hn (by rw [<-h1,<-h2,e])
  rw [e];repeat' (first|refine s_0 ?_|(refine zB [0,2] ?_;refine za ?_)|(refine zb 1 (za ?_);refine yv (zag (hr:=g1)) (k:=?_)))
  exact q_r
 have g1:decide ((n1:Int)≠(n2:Int))=false:=q_f;repeat' (first|refine s_t ?_|(refine zB [0,3] ?_;refine za ?_)|(refine zb 1 (za ?_);refine yv (zag (hr:=g1)) (k:=?_)))
 refine zy (γ:=Nat) (λi=>[(0,.slice a1 n1 c1),(1,.slice a2 n2 c2),(12,.int .i64 (n1:Int)),(13,.int .i64 (i:Int))]) (λ_=>[]) (λi=>i<=n1/\l1.take i=l2.take i) (λi=>n1 - i) 0 ⟨Nat.zero_le _,rfl⟩ ?_ ?_ ?_
 ·exact q_h
 ·exact q_h
 rintro i ⟨hi,heq⟩;by_cases hlt:i < n1
 ·obtain ⟨b1,o1,rfl,hcell1⟩:=zcg s1 (i:=i) (by rw [List.length_map];omega);obtain ⟨b2,o2,rfl,hcell2⟩:=zcg s2 (i:=i) (by rw [List.length_map];omega);have hc1:=hcell1 i _ (zbW strV q_o);have hc2:=hcell2 i _ (zbW strV q_o);unfold strV at hc1 hc2;have g2:decide ((i:Int) < (n1:Int))=true:=q_d;have g5:IntKind.i64.wrap ((i:Int)+1)=((i+1:Nat):Int):=q_w;have t1:l1.take (i+1)=l1.take i ++ [l1[i]]:=zac q_o;have t2:l2.take (i+1)=l2.take i ++ [l2[i]]:=zac q_o;by_cases hx:l1[i]=l2[i]
  ·have g3:decide (l1[i]≠l2[i])=false:=decide_eq_false (λh=>h hx);repeat' (first|refine s_t ?_|(refine zb 4 ?_;refine yv (zn (hr:=g2)) (k:=?_))|(refine zb 5 (za ?_))|(refine zM (id:=6) 8 [[],[],[0,1],[0,1,2],[],[],[4,5],[4,5,6],[0,1,2,3,4,5,6,7]] mixed ?_ ?_;kernel_rfl;refine zk ?_;refine zk ?_;refine dc (λ_ _=>zG (j:=i)) (k:=?_);refine dc (λ_ _=>zl (hv:=hc1)) (k:=?_);refine zk ?_;refine zk ?_;refine dc (λ_ _=>zG (j:=i)) (k:=?_);refine dc (λ_ _=>zl (hv:=hc2)) (k:=?_);refine zY ?_;refine yv (zb1 (hr:=g3)) (k:=?_))|(refine zb 8 ?_;refine yv (zu (hr:=g5)) (k:=za ?_)))
   refine zq (i+1) ⟨hlt,by rw [t1,t2,heq,hx]⟩ ?_ ?_ ?_
   ·show n1 - (i+1) < n1 - i;omega
   ·exact q_h
   ·exact q_h
  ·have g3:decide (l1[i]≠l2[i])=true:=decide_eq_true hx;have e:(l1 == l2)=false:=by
    rw [beq_eq_false_iff_ne];intro e;subst e;exact hx rfl
   rw [e];repeat' (first|refine s_t ?_|(refine zb 4 ?_;refine yv (zn (hr:=g2)) (k:=?_))|(refine zB [5,7] ?_;refine za ?_)|(refine zM (id:=6) 8 [[],[],[0,1],[0,1,2],[],[],[4,5],[4,5,6],[0,1,2,3,4,5,6,7]] mixed ?_ ?_;kernel_rfl;refine zk ?_;refine zk ?_;refine dc (λ_ _=>zG (j:=i)) (k:=?_);refine dc (λ_ _=>zl (hv:=hc1)) (k:=?_);refine zk ?_;refine zk ?_;refine dc (λ_ _=>zG (j:=i)) (k:=?_);refine dc (λ_ _=>zl (hv:=hc2)) (k:=?_);refine zY ?_;refine yv (zb1 (hr:=g3)) (k:=?_))|fail)
   exact q_r
 obtain rfl:i=n1:=q_o;have e:(l1 == l2)=true:=by
  rw [beq_iff_eq];rw [List.take_of_length_le q_o,List.take_of_length_le q_o] at heq;exact heq
 rw [e];have g2:decide ((i:Int) < (i:Int))=false:=q_f;repeat' (first|refine s_0 ?_|(refine zb 4 ?_;refine yv (zn (hr:=g2)) (k:=?_))|(refine zb 9 (za ?_)))
 exact q_r
theorem zfu (C1 C2:List Value) (p q:Prin) (w:World) (h1:PrinIn w C1 p) (h2:PrinIn w C2 q) (hb:p.parts.length < 1000000):Sy.Fn Tryz.prog 73 [.agg C1.toArray,.agg C2.toArray] w No (Gives (.bool (p.same q))):=by
 obtain ⟨⟨a1,c1,rfl,n1,m1,s1,z1⟩,-⟩:=h1;obtain ⟨⟨a2,c2,rfl,n2,m2,s2,z2⟩,-⟩:=h2;refine zg Tryz.func73 rfl Tryz.ntmps73 q_p Holds.nil ?_;unfold strV Prin.same;have he:=λw' (hk:Keep No w w')=>znJ a1 a2 p.parts.length c1 q.parts.length c2 p.parts q.parts w' rfl rfl hb ((SlF.of s1).to (Mi:=No) hk (λ_ h=> .inr h)).sla ((SlF.of s2).to (Mi:=No) hk (λ_ h=> .inr h)).sla;by_cases hr:p.realm=q.realm
 ·have g:decide (p.realm=q.realm)=true:=decide_eq_true hr;have e:(p.realm == q.realm)=true:=beq_iff_eq.2 hr;rw [e,Bool.true_and];repeat' (first|refine s_0 ?_|(refine zb 0 ?_;refine zj ?_;intro _;refine zO ?_;intro _)|(refine zb 1 (za ?_);refine zm ?_;refine za ?_;refine zm ?_;refine yv (za2 (hr:=g)) (k:=za ?_);refine zm ?_;refine za ?_;refine zm ?_;refine yv (zd (f:=165) (hc:=zr he)) (k:=?_);refine za ?_))
  exact q_r
 ·have g:decide (p.realm=q.realm)=false:=decide_eq_false hr;have e:(p.realm == q.realm)=false:=beq_eq_false_iff_ne.2 hr;rw [e,Bool.false_and];repeat' (first|refine s_0 ?_|(refine zb 0 ?_;refine zj ?_;intro _;refine zO ?_;intro _)|(refine zb 1 (za ?_);refine zm ?_;refine za ?_;refine zm ?_;refine yv (za2 (hr:=g)) (k:=za ?_)))
  exact q_r
theorem zkm (a0:Option Addr) (n c:Nat) (l:List (List UInt8)) (w:World) (hn:l.length=n) (hb:n < 1000000) (hsl:SlA w a0 (l.map strV)) (hc:n<=c) (hnil:a0=none->c=0):
  Sy.Fn Tryz.prog 166 [.slice a0 n c] w No (RowOf 9 n (l.map strV)):=by
 refine zg Tryz.func166 rfl Tryz.ntmps166 q_p Holds.nil ?_;cases a0 with
 |none=>
  obtain rfl:=hnil rfl;obtain rfl:n=0:=q_o;obtain rfl:l= []:=List.length_eq_zero_iff.1 hn;repeat' (first|refine s_0 ?_|(refine zB [0,2] ?_;refine za ?_)|(refine zb 1 (za ?_);refine zan ?_))
  exact zbm (zaE 9 1) (ret1 rfl (resTmp rfl) q_h ⟨_,_,rfl,rfl⟩)
 |some ad=>
  repeat' (first|refine s_0 ?_|(refine zb 0 (za ?_))|(refine zb 1 (za ?_);refine zan ?_)|(refine zb 3 ?_;(refine ys zeA (k:=?_);rintro _ _ ⟨_,rfl,rfl⟩);refine za ?_;(refine ys zaW (k:=?_);rintro _ _ ⟨rfl,_,_,rfl⟩);refine za ?_))
  exact q_r
theorem zjd (C:List Value) (p:Prin) (w:World) (h:PrinIn w C p) (hb:p.parts.length < 1000000):Sy.Fn Tryz.prog 75 [.agg C.toArray] w No (λv R=>∃a c,v= .agg #[.slice a p.parts.length c,strV p.realm]/\R= [.row (.slice a p.parts.length c) 9 1 p.parts.length (p.parts.map strV)]):=by
 obtain ⟨⟨a1,c1,rfl,n1,m1,s1,z1⟩,-⟩:=h;refine zg Tryz.func75 rfl Tryz.ntmps75 q_p Holds.nil ?_;have he:=λw' (hk:Keep No w w')=>zkm a1 p.parts.length c1 p.parts w' rfl hb ((SlF.of s1).to (Mi:=No) hk (λ_ h=> .inr h)).sla n1 z1;unfold RowOf at he;repeat' (first|refine s_0 ?_|(refine zb 0 ?_;refine zj ?_;intro _;refine zj ?_;intro _)|(refine zb 1 (za ?_);refine zm ?_;(refine ys (zh (f:=166) (hc:=zr he)) (k:=?_);rintro _ _ ⟨R,rfl,aN,cN,rfl,rfl⟩);refine za ?_;refine zI ?_)|(refine zb 2 ?_;refine zm ?_;refine zI ?_))
 exact ret1 rfl (resCells (B:=[.slice aN p.parts.length cN,strV p.realm]) rfl (ty rfl) rfl Has.go Seg.all rfl) q_h ⟨aN,cN,rfl,rfl⟩
end Go.Proofs.YtdnlngbjpdbffaaGreatDoor
end
section
namespace Go.Ct
open Go
def splitD:List UInt8->List (List UInt8)
 | []=>[[]]
 |c::r=>if c=46 then []::splitD r else match splitD r with
  | []=>[[c]]
  |l::ls=>(c::l)::ls
theorem zdl: ∀l:List UInt8,(∀c∈l,c≠46)->splitD l= [l]
 | [],_=>rfl
 |c::l,h=>by
  rw [splitD,if_neg (h c List.mem_cons_self),zdl l (λx hx=>h x (List.mem_cons_of_mem _ hx))]
theorem zdA: ∀(l r:List UInt8),(∀c∈l,c≠46)->splitD (l ++ 46::r)=l::splitD r
 | [],r,_=>by rw [List.nil_append,splitD,if_pos rfl]
 |c::l,r,h=>by
  rw [List.cons_append,splitD,if_neg (h c List.mem_cons_self),zdA l r (λx hx=>h x (List.mem_cons_of_mem _ hx))]
theorem zdn: ∀s:List UInt8,(∀c∈s,c≠46)\/ ∃l r,s=l ++ 46::r/\ ∀c∈l,c≠46
 | []=> .inl (λc hc=>by cases hc)
 |c::s=>by
  by_cases h:c=46
  ·exact .inr ⟨[],s,by rw [h];rfl,λc hc=>by cases hc⟩
  ·rcases zdn s with h1|⟨l,r,rfl,h1⟩
   ·refine .inl (λx hx=>?_);rcases List.mem_cons.1 hx with rfl|hx
    ·exact h
    ·exact h1 x hx
   ·refine .inr ⟨c::l,r,rfl,λx hx=>?_⟩;rcases List.mem_cons.1 hx with rfl|hx
    ·exact h
    ·exact h1 x hx
theorem zgj (l:List UInt8) (a b:Nat):(Sy.str l).extract a b=Sy.str ((l.drop a).take (b - a)):=by
 apply ByteArray.ext;rw [ByteArray.data_extract];show l.toArray.extract a b=_;rw [List.extract_toArray];rfl
def labOk (l:List UInt8):Bool:=!l.isEmpty && l.all labC
theorem zgd: ∀(n:Nat) (s:List UInt8),s.length<=n->rgood true s=(splitD s).all labOk
 |n,s,hn=>by
  rcases zdn s with h|⟨l,r,rfl,h⟩
  ·rw [zlI s h,zdl s h];simp [labOk]
  ·cases n with
   |zero=>simp at hn
   |succ n=>
    rw [zmm l r h,zdA l r h,List.all_cons,zgd n r (by simp at hn;omega)];rfl
theorem zg3: ∀(n:Nat) (s:List UInt8),s.length<=n-> ∀x∈splitD s,x.length<=s.length
 |n,s,hn,x,hx=>by
  rcases zdn s with h|⟨l,r,rfl,h⟩
  ·rw [zdl s h,List.mem_singleton] at hx;rw [hx];exact Nat.le_refl _
  ·cases n with
   |zero=>simp at hn
   |succ n=>
    rw [zdA l r h] at hx;rw [List.length_append,List.length_cons];rcases List.mem_cons.1 hx with rfl|hx
    ·omega
    ·have:=zg3 n r (by simp at hn;omega) x hx;omega
theorem zgS: ∀l:List UInt8,(∀c∈l,c≠46)->Lib.indexByte l 46= -1
 | [],_=>rfl
 |c::l,h=>by
  have h1:(c == 46)=false:=beq_eq_false_iff_ne.2 (h c List.mem_cons_self);rw [Lib.indexByte,h1,zgS l (λx hx=>h x (List.mem_cons_of_mem _ hx))];rfl
theorem zia: ∀(l r:List UInt8),(∀c∈l,c≠46)->Lib.indexByte (l ++ 46::r) 46=(l.length:Int)
 | [],r,_=>rfl
 |c::l,r,h=>by
  have h1:(c == 46)=false:=beq_eq_false_iff_ne.2 (h c List.mem_cons_self);have h2:=zia l r (λx hx=>h x (List.mem_cons_of_mem _ hx));have h3:(((l.length:Int)) == -1)=false:=beq_eq_false_iff_ne.2 q_o;rw [List.cons_append,Lib.indexByte,h1,h2,h3];simp
end Go.Ct
namespace Go.Proofs.YtdnlngbjpdbffaaGreatDoor
open Go Go.Sy Go.Ct Go.RowKit
theorem zlV (l:List UInt8) (w:World):(callFunc 338 [Value.string (str l),.int .u8 46].toArray).run Tryz.prog w= .ok (.value (.int .i64 (Lib.indexByte l 46))) w:=by
 show (callFunc 338 #[.string (str l),.int .u8 46]).run Tryz.prog w=_;rw [run_callFunc_extern Tryz.func338 (by kernel_rfl) (by kernel_rfl) (by kernel_rfl) (e:=Extern.BytealgIndexByte.indexByte) (by kernel_rfl),Lib.run_indexByteString];rfl
attribute [local irreducible] Sy SyL SyX Sy.Fn callFunc
theorem zrZ (l:List UInt8) (w:World):Sy.Fn Tryz.prog 334 [.string (str l),.int .u8 46] w No (Gives (.int .i64 (Lib.indexByte l 46))):=by
 refine zg Tryz.func334 rfl Tryz.ntmps334 q_p Holds.nil ?_;have h:=λw'=>zlV l w';repeat' (first|refine s_0 ?_|(refine zb 0 (za ?_))|(refine zb 1 (za ?_);refine yv (zbM (hr:=h)) (k:=za ?_)))
 exact q_r
theorem zry (l:List UInt8) (w:World):Sy.Fn Tryz.prog 325 [.string (str l),.string (str [46])] w No (Gives (.int .i64 (Lib.indexByte l 46))):=by
 refine zg Tryz.func325 rfl Tryz.ntmps325 q_p Holds.nil ?_;have h:=λw'=>zrZ l w';have hs:((str [46]).size:Int)=1:=rfl;by_cases hl: [46]=l
 ·subst hl;repeat' (first|refine s_t ?_|(refine zB [0,1,3] ?_;refine za ?_)|(refine zb 2 (za ?_);refine zan ?_;refine za ?_;refine yv (za2 (hr:=decide_eq_true rfl)) (k:=za ?_)))
  exact q_r
 ·have g:=decide_eq_false hl;repeat' (first|refine s_t ?_|(refine zB [0,1] ?_;refine za ?_)|(refine zb 2 (za ?_);refine zan ?_;refine za ?_;refine yv (za2 (hr:=g)) (k:=za ?_))|(refine zb 4 (za ?_);refine zan ?_;refine za ?_)|(refine zb 5 (za ?_);refine yv (zF (j:=0) (u:=46) (hv:=rfl)) (k:=?_);refine yv (zd (hc:=λ_ _ _ _=>(h _))) (k:=?_);refine za ?_))
  exact q_r
theorem zqC (l:List UInt8) (w:World):Sy.Fn Tryz.prog 315 [.string (str l),.string (str [46])] w No (Gives (.int .i64 (Lib.indexByte l 46))):=by
 refine zg Tryz.func315 rfl Tryz.ntmps315 q_p Holds.nil ?_;repeat' (first|refine s_0 ?_|(refine zb 0 (za ?_))|(refine zb 1 (za ?_);refine yv (zd (hc:=λ_ _ _ _=>(zry l _))) (k:=?_);refine za ?_))
 exact q_r
def SplitR (l:List UInt8) (v:Value) (R:List Res):Prop:=∃b3 b4 b5,v= .func (.func 313) #[] #[.pointer (some ⟨b4,0,none⟩),.pointer (some ⟨b3,0,none⟩),.pointer (some ⟨b5,0,none⟩)]/\R= [.blk b4 9 [.string (str [46])],.blk b3 9 [.string (str l)],.blk b5 3 [.int .i64 0]]
theorem zpl (l:List UInt8) (w:World):Sy.Fn Tryz.prog 281 [.string (str l),.string (str [46]),.int .i64 0] w No (SplitR l):=by
 refine zg Tryz.func281 rfl Tryz.ntmps281 q_p Holds.nil ?_;repeat' (first|refine s_0 ?_|(refine zb 0 ?_;refine zj ?_;intro _;refine zj ?_;intro _;refine zO ?_;intro _)|(refine zb 1 ?_;refine zaa ?_;refine za ?_))
 exact ret1 rfl (resTmp rfl) q_h ⟨_,_,_,rfl,rfl⟩
theorem zks (l:List UInt8) (w:World):Sy.Fn Tryz.prog 236 [.string (str l),.string (str [46])] w No (SplitR l):=by
 refine zg Tryz.func236 rfl Tryz.ntmps236 q_p Holds.nil ?_;have h:=λw'=>zpl l w';unfold SplitR at *;repeat' (first|refine s_0 ?_|(refine zb 0 (za ?_))|(refine zb 1 (za ?_);(refine ys (zh (f:=281) (hc:=λw' X hk hh=>h w')) (k:=?_);rintro _ _ ⟨R,rfl,b3,b4,b5,rfl,rfl⟩);refine za ?_))
 exact ret1 rfl (resTmp rfl) q_h ⟨_,_,_,rfl,rfl⟩
def ArgS (_:Nat->Prop) (x:List UInt8) (vs:List Value) (RA:List Res) (_:World):Prop:=vs= [.string (str x)]/\RA= []
theorem znD (b3 b4 b5:Nat) (s:List UInt8) (w:World) (M:Nat->Prop) (hs:s.length < 1000000000):
  IterG False Tryz.prog 313 [.pointer (some ⟨b4,0,none⟩),.pointer (some ⟨b3,0,none⟩),.pointer (some ⟨b5,0,none⟩)] (splitD s) ArgS w M [.blk b4 9 [.string (str [46])],.blk b3 9 [.string (str s)],.blk b5 3 [.int .i64 0]] []:=by
 intro lp J Jx j0 _ hJ0 hh hY;refine zg Tryz.func313 rfl Tryz.ntmps313 q_p hh ?_;have hix:=λl w'=>zqC l w';have h46:((str [46]).size:Int)=1:=rfl;repeat' (first|refine s_t ?_|(refine zb 0 ?_;refine zm ?_;refine za ?_;refine zan ?_))
 refine zy (γ:=List UInt8×Nat×Res) (λg=>[(0,.func (.yield lp) #[] #[]),(1,.pointer (some ⟨b4,0,none⟩)),(2,.pointer (some ⟨b3,0,none⟩)),(3,.pointer (some ⟨b5,0,none⟩))]) (λg=>[g.2.2,.blk b4 9 [.string (str [46])],.blk b3 9 [.string (str g.1)],.blk b5 3 [.int .i64 0]])
  (λg=>(splitD s).drop g.2.1=splitD g.1/\J g.2.1 g.2.2/\g.1.length<=s.length) (λg=>g.1.length) (s,0,j0) ⟨List.drop_zero,hJ0,Nat.le_refl _⟩ ?_ ?_ ?_
 ·exact q_h
 ·exact q_h
 rintro ⟨r,k,j⟩ ⟨hk,hJ,hrl⟩;dsimp only at hk hJ hrl ⊢;have hi:=hix r;rcases zdn r with h|⟨l,r',rfl,h⟩
 ·rw [zgS r h] at hi;rw [zdl r h] at hk;have hkl:k < (splitD s).length:=by
   rcases Nat.lt_or_ge k (splitD s).length with h|h
   ·exact h
   ·rw [List.drop_eq_nil_of_le h] at hk;cases hk
  have hx:(splitD s)[k]=r:=by rw [List.drop_eq_getElem_cons hkl] at hk;exact (List.cons.inj hk).1
  have hlast:(splitD s).length=k+1:=by have:=congrArg List.length hk;rw [List.length_drop] at this;simp at this;omega
  repeat' (first|refine s_t ?_|(refine zb 5 ?_;refine zm ?_;refine zm ?_;refine yv (zd (hc:=λ_ _ _ _=>(hi _))) (k:=?_);refine za ?_)|(refine zb 6 (za ?_);refine zL ?_)|(refine zb 10 (za ?_);refine zm ?_))
  refine ys (zbS hY hkl hJ (hL:=RemL.cons (by exact Rem.here) rfl RemL.nil) (harg:=λw' X hk hh'=>⟨by rw [hx],rfl⟩)) (k:=?_);rintro _ _ ⟨y,j',rfl,rfl,hy⟩;cases y
  ·repeat' (first|refine zae ?_|fail)
   exact end0 rfl q_h ⟨j',rfl,.inr ⟨k+1,by omega,hy⟩⟩
  ·repeat' (first|refine zae ?_|fail)
   exact end0 rfl q_h ⟨j',rfl,.inl (by rw [hlast];exact hy)⟩
 ·rw [zia l r' h] at hi;rw [zdA l r' h] at hk;have hkl:k < (splitD s).length:=by
   rcases Nat.lt_or_ge k (splitD s).length with h|h
   ·exact h
   ·rw [List.drop_eq_nil_of_le h] at hk;cases hk
  have hx:(splitD s)[k]=l:=by rw [List.drop_eq_getElem_cons hkl] at hk;exact (List.cons.inj hk).1
  have hk2:(splitD s).drop (k+1)=splitD r':=by rw [List.drop_eq_getElem_cons hkl] at hk;exact (List.cons.inj hk).2
  have hrl':l.length+1+r'.length<=s.length:=by rw [List.length_append,List.length_cons] at hrl;omega
  have g0:decide ((l.length:Int) < 0)=false:=q_f;have g1:IntKind.i64.wrap ((l.length:Int)+0)=((l.length:Nat):Int):=q_w;have g2:IntKind.i64.wrap ((l.length:Int)+1)=((l.length+1:Nat):Int):=q_w;have hsz:(str (l ++ 46::r')).size=l.length+1+r'.length:=by rw [zgo];simp;omega
  have e1:(str (l ++ 46::r')).extract 0 l.length=str l:=by
   rw [zgj,List.drop_zero,Nat.sub_zero,List.take_left'];rfl
  have e2:(str (l ++ 46::r')).extract (l.length+1) (l.length+1+r'.length)=str r':=by
   rw [zgj,show l ++ 46::r'=(l ++ [46]) ++ r' by simp,List.drop_left' q_p,Nat.add_sub_cancel_left,List.take_of_length_le (Nat.le_refl _)]
  generalize str (l ++ 46::r')=S at *;repeat' (first|refine s_t ?_|(refine zb 5 ?_;refine zm ?_;refine zm ?_;refine yv (zd (hc:=λ_ _ _ _=>(hi _))) (k:=?_);refine za ?_)|(refine zb 6 (za ?_);refine yv (zn (hr:=g0)) (k:=?_))|(refine zb 7 ?_;refine zm ?_;refine za ?_;refine zm ?_;refine yv (zu (hr:=g1)) (k:=?_);refine yv (zdg (l:=0) (h:=l.length) (h2:=by omega)) (k:=za ?_))|(refine zb 8 (za ?_)))
  rw [e1];refine ys (zbS hY hkl hJ (hL:=RemL.cons (by exact Rem.here) rfl RemL.nil) (harg:=λw' X hk hh'=>⟨by rw [hx],rfl⟩)) (k:=?_);rintro _ _ ⟨y,j',rfl,rfl,hy⟩;cases y
  ·repeat' (first|refine s_0 ?_|(refine zP ?_;first|refine zb8 ?_|fail)|fail)
   exact ret0 rfl q_h ⟨j',rfl,.inr ⟨k+1,by omega,hy⟩⟩
  ·repeat' (first|refine s_0 ?_|(refine zb 9 ?_;refine zm ?_;refine za ?_;refine zm ?_;refine za ?_;refine yv (zu (hr:=g2)) (k:=?_);refine yv (zdg (l:=l.length+1) (h:=l.length+1+r'.length) (hh:=by rw [<-hsz];exact zaL) (h2:=by omega)) (k:=?_);refine zI ?_)|(refine zP ?_;first|refine zb8 ?_|fail)|fail)
   rw [e2];refine zq (r',k+1,j') ⟨hk2,hy,by dsimp only;omega⟩ ?_ ?_ ?_
   ·show r'.length < (l ++ 46::r').length;simp;omega
   ·exact q_h
   ·exact q_h
end Go.Proofs.YtdnlngbjpdbffaaGreatDoor
end
