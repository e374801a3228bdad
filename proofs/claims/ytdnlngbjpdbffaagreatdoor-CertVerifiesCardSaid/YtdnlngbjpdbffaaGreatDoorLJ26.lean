/- The specification's numbers: Parse. -/
import Derived.Test.YtdnlngbjpdbffaaGreatDoorLJ24
import Derived.Test.YtdnlngbjpdbffaaGreatDoorLJ25
import Derived.Test.YtdnlngbjpdbffaaGreatDoorLJ20
set_option maxHeartbeats 1000000
set_option maxRecDepth 10000
set_option linter.all false
section
namespace Go.Nt
open Go Go.Sy
theorem znW: ∀d:Fin 16,hexv (hexc d.1)=some d.1:=by decide +kernel
theorem zp5: ∀u:Fin 256,∀d:Fin 16,hexv (UInt8.ofNat u.1)=some d.1->hexc d.1=UInt8.ofNat u.1:=by decide +kernel
theorem zrp {u:UInt8}{d:Nat}(h:hexv u=some d):hexc d=u:=by
 have:=zp5 ⟨u.toNat,u.toNat_lt⟩ ⟨d,zeC h⟩;rw [show UInt8.ofNat u.toNat=u from UInt8.ofNat_toNat] at this;exact this h
theorem zqD {u:UInt8}{d q:Nat}(h:hexv u=some d) (hq:q < 16) (hn:q≠d):hexc q≠u:=λhe=>by
 have:=znW ⟨q,hq⟩;rw [show hexc (⟨q,hq⟩:Fin 16).1=u from he,h] at this;exact hn (Option.some.inj this).symm
theorem zmM {u:UInt8}{q:Nat}(h:hexv u=none) (hq:q < 16):hexc q≠u:=λhe=>by
 have:=znW ⟨q,hq⟩;rw [show hexc (⟨q,hq⟩:Fin 16).1=u from he,h] at this;cases this
theorem zpM {u v:UInt8}(h:u≠v):decide (Wd.n8 u≠Wd.n8 v)=true:=decide_eq_true (λe=>h (UInt8.toNat_inj.1 (Int.ofNat.inj e)))
def hexd (l:List UInt8):List Nat:=l.map (λu=>(hexv u).getD 0)
theorem zkL: ∀ {l:List UInt8}{r:List Nat},hexs l=some r->r=hexd l
 | [],_,h=>by cases h;rfl
 |u::l,r,h=>by
  unfold hexs at h;split at h
  ·rename_i d r' h1 h2;cases h;rw [zkL h2];simp only [hexd,List.map_cons,h1,Option.getD_some]
  ·cases h
theorem zo0 {l:List UInt8}{i d:Nat}{u:UInt8}(h:l[i]?=some u) (hd:hexv u=some d):(hexd l)[i]?=some d:=by
 simp only [hexd,List.getElem?_map,h,Option.map_some,hd,Option.getD_some]
theorem zpR (l:List UInt8): ∀d∈hexd l,d < 16:=by
 intro d hd;simp only [hexd,List.mem_map] at hd;obtain ⟨u,-,rfl⟩:=hd;cases h:hexv u with
 |none=>decide
 |some d=>exact zeC h
theorem zq3 (l:List UInt8) (i:Nat):nd 65536 (bev 16 ((hexd l).take i))<=l.length:=by
 refine zao _ _ _ q_e ?_;refine Nat.lt_of_lt_of_le (zcf 16 _ (λd hd=>zpR l d (List.mem_of_mem_take hd))) ?_;refine Nat.le_trans (Nat.pow_le_pow_left q_e _) (Nat.pow_le_pow_right q_e ?_);rw [List.length_take,hexd,List.length_map];exact Nat.min_le_right _ _
end Go.Nt
namespace Go.Proofs.YtdnlngbjpdbffaaGreatDoor
open Go Go.Sy Go.Nt Go.RowKit
theorem znU:refC 0= []:=by unfold refC cd;rw [zaT];rfl
attribute [local irreducible] Sy SyL SyX Sy.Fn callFunc natC refC iC
theorem zmv (l:List UInt8) (w:World) (hx:l.length < 10000):
  Sy.Fn Tryz.prog 279 [.string (str l)] w No (λv R=>match parse l with
   |none=>v= .tuple #[.slice none 0 0,.bool false]/\R= []
   |some x=>∃a c,v= .tuple #[.slice a (nd 65536 x) c,.bool true]/\R= [.row (.slice a (nd 65536 x) c) 3 1 (nd 65536 x) (refC x)]):=by
 refine zg Tryz.func279 rfl Tryz.ntmps279 q_p Holds.nil ?_;repeat' (first|refine s_0 ?_|(refine zb 0 (za ?_)))
 refine zba (γ:=Unit) (λ_=>[(0,.string (str l)),(2,.slice none 0 0),(3,.bool false),(19,.bool (badS l))]) (λ_=>[]) (λ_=>True) ?_ ?_
 ·cases l with
  |nil=>
   rw [show badS []=true from rfl];have hz:decide ((((str []).size:Nat):Int)=0)=true:=rfl;repeat' (first|refine zae ?_|refine zZ ?_|(refine zb 1 (za ?_);refine yv (zX (hr:=hz)) (k:=za ?_)))
   exact zT () trivial q_h q_h
  |cons u r=>
   have hsz:(str (u::r)).size=r.length+1:=rfl;have hz:decide ((((str (u::r)).size:Nat):Int)=0)=false:=decide_eq_false (by rw [hsz];omega);by_cases hu:u=48
   ·have h48:decide (((u.toNat:Nat):Int)=48)=true:=decide_eq_true (by rw [hu];rfl);by_cases hr:0 < r.length
    ·rw [show badS (u::r)=true by simp only [badS,hu,decide_true,hr,Bool.and_self]];have hg:decide (1 < (((str (u::r)).size:Nat):Int))=true:=decide_eq_true (by rw [hsz];omega);repeat' (first|refine zae ?_|refine zZ ?_|(refine zb 1 (za ?_);refine yv (zX (hr:=hz)) (k:=za ?_);refine yv (zF (s:=str (u::r)) (u:=u) (hv:=rfl)) (k:=?_);refine yv (zX (hr:=h48)) (k:=za ?_);refine yv (zU (hr:=hg)) (k:=za ?_)))
     exact zT () trivial q_h q_h
    ·rw [show badS (u::r)=false by simp only [badS,hr,decide_false,Bool.and_false]];have hg:decide (1 < (((str (u::r)).size:Nat):Int))=false:=decide_eq_false (by rw [hsz];omega);repeat' (first|refine zae ?_|refine zZ ?_|(refine zb 1 (za ?_);refine yv (zX (hr:=hz)) (k:=za ?_);refine yv (zF (s:=str (u::r)) (u:=u) (hv:=rfl)) (k:=?_);refine yv (zX (hr:=h48)) (k:=za ?_);refine yv (zU (hr:=hg)) (k:=za ?_)))
     exact zT () trivial q_h q_h
   ·rw [show badS (u::r)=false by simp only [badS,hu,decide_false,Bool.false_and]];have h48:decide (((u.toNat:Nat):Int)=48)=false:=decide_eq_false (λh=>hu (UInt8.toNat_inj.1 (show u.toNat=48 by omega)));repeat' (first|refine zae ?_|refine zZ ?_|(refine zb 1 (za ?_);refine yv (zX (hr:=hz)) (k:=za ?_);refine yv (zF (s:=str (u::r)) (u:=u) (hv:=rfl)) (k:=?_);refine yv (zX (hr:=h48)) (k:=za ?_)))
    exact zT () trivial q_h q_h
 rintro - -;unfold parse;cases hb:badS l with
 |true=>
  rw [if_pos rfl];repeat' (first|refine s_0 ?_|(refine zb 2 (za ?_)))
  exact q_r
 |false=>
 rw [if_neg q_e];repeat' (first|refine s_t ?_|(refine zB [3,4] ?_;refine za ?_))
 refine zaR (zaE 3 1) ?_;obtain ⟨n,hn⟩: ∃n,n=l.length:=⟨_,rfl⟩;have hsz:(str l).size=n:=by rw [hn];rfl
 have hnd:=zq3 l;rw [<-hn] at hx hnd;refine zy (γ:=Nat×Option Addr×Nat) (λg=>[(0,.string (str l)),(4,.slice g.2.1 (nd 65536 (bev 16 ((hexd l).take g.1))) g.2.2),(5,.int .i64 g.1)])
  (λg=>[.row (.slice g.2.1 (nd 65536 (bev 16 ((hexd l).take g.1))) g.2.2) 3 1 (nd 65536 (bev 16 ((hexd l).take g.1))) (refC (bev 16 ((hexd l).take g.1)))])
  (λg=>g.1<=n/\ ∀j < g.1,∃v d,l[j]?=some v/\hexv v=some d) (λg=>n - g.1) (0,none,0) ⟨Nat.zero_le _,λj hj=>absurd hj q_o⟩ ?_ ?_ ?_
 ·rw [show bev 16 ((hexd l).take 0)=0 from rfl,zaT];exact q_h
 ·show SubR [.row (.slice none (nd 65536 (bev 16 ((hexd l).take 0))) 0) 3 1 (nd 65536 (bev 16 ((hexd l).take 0))) (refC (bev 16 ((hexd l).take 0)))] _;rw [show bev 16 ((hexd l).take 0)=0 from rfl,zaT,znU];exact q_h
 rintro ⟨i,a,c⟩ ⟨hi,hok⟩;dsimp only at hi hok ⊢;have hX:=hnd i;have hlss:decide (((i:Nat):Int) < (((str l).size:Nat):Int))=decide (i < n):=decide_eq_decide.2 (by rw [hsz];omega);by_cases hlt:i < n
 ·obtain ⟨u,hu⟩: ∃u,l[i]?=some u:=⟨l[i]'q_o,List.getElem?_eq_getElem _⟩;have hch:(str l).data[i]?=some u:=by
   show l.toArray[i]?=_;rw [List.getElem?_toArray,hu]
  rw [decide_eq_true hlt] at hlss;have hti:=λd (hd:hexv u=some d)=>ze9 16 (hexd l) i d (zo0 hu hd);have hX1:=hnd (i+1);generalize hXX:bev 16 ((hexd l).take i)=X at *;repeat' (first|refine s_t ?_|(refine zb 5 (za ?_);refine yv (zn (hr:=hlss)) (k:=?_))|(refine zb 7 (za ?_)))
  have hdat: ∀q < 16,(str hexT).data[q]?=some (hexc q):=λq hq=>by
   show hexT.toArray[q]?=_;rw [List.getElem?_toArray];exact zpv q hq
  cases hd:hexv u with
  |none=>
   have hnone:hexs l=none:=by
    cases hh:hexs l with
    |none=>rfl
    |some r=>
     obtain ⟨d,h1,_⟩:=zc6 hh i u hu;rw [hd] at h1;cases h1
   rw [hnone];refine zy (γ:=Nat) (λq=>[(0,.string (str l)),(5,.int .i64 i),(6,.int .i64 q)]) (λ_=>[]) (λq=>q<=16) (λq=>16 - q) 0 (Nat.zero_le _) ?_ ?_ ?_
   ·exact q_h
   ·exact SubR.nil
   intro q hq;by_cases hq6:q < 16
   ·have hs:=hdat q hq6;have hne:=zpM (zmM hd hq6);repeat' (first|refine s_t ?_|(refine zM (id:=8) 8 [[],[0],[0,1],[0,1,2],[0,1,2,3],[0,1,2],[0,1,2],[0,1,2,5,6],[0,1,2,3,4,5,6,7],[0,1,2,3,4,5,6,7,8]] mixed ?_ ?_;kernel_rfl;refine zk ?_;refine ziN ?_;refine zk ?_;refine zk ?_;refine dc (λ_ _=>zF (s:=str hexT) (hv:=hs)) (k:=?_);refine zk ?_;refine zk ?_;refine dc (λ_ _=>zF (s:=str l) (u:=u) (hv:=hch)) (k:=?_);refine zY ?_;refine yv (zag (hr:=hne)) (k:=?_);refine za1 ?_)|(refine zb 9 (za ?_);refine zaj ?_;refine za ?_))
    refine zq (q+1) ?_ ?_ ?_ ?_
    ·show q+1<=16;omega
    ·show 16 - (q+1) < 16 - q;omega
    ·exact q_h
    ·exact SubR.nil
   obtain rfl:q=16:=q_o;repeat' (first|refine s_0 ?_|(refine zM (id:=8) 8 [[],[0],[0,1],[0,1,2],[0,1,2,3],[0,1,2],[0,1,2],[0,1,2,5,6],[0,1,2,3,4,5,6,7],[0,1,2,3,4,5,6,7,8]] mixed ?_ ?_;kernel_rfl;refine zk ?_;refine ziN ?_;refine zk ?_;refine zat (λ_=>rfl) rfl ?_;refine zat (λ_=>rfl) rfl ?_;refine zat (λ_=>rfl) rfl ?_;refine zat (λ_=>rfl) rfl ?_;refine zat (λ_=>rfl) rfl ?_;refine zY ?_;refine zam rfl rfl rfl ?_;refine za1 ?_)|(refine zb 10 (za ?_);refine zan ?_)|(refine zb 11 (za ?_)))
   exact q_r
  |some d=>
   have hd16:=zeC hd;have hti:=hti d hd;refine zy (γ:=Nat) (λq=>[(0,.string (str l)),(4,.slice a (nd 65536 X) c),(5,.int .i64 i),(6,.int .i64 q)]) (λ_=>[.row (.slice a (nd 65536 X) c) 3 1 (nd 65536 X) (refC X)]) (λq=>q<=d) (λq=>d - q) 0 (Nat.zero_le _) ?_ ?_ ?_
   ·exact q_h
   ·exact q_h
   intro q hq;by_cases hqd:q < d
   ·have hs:=hdat q q_o;have hne:=zpM (zqD hd (show q < 16 by omega) q_o);repeat' (first|refine s_t ?_|(refine zM (id:=8) 8 [[],[0],[0,1],[0,1,2],[0,1,2,3],[0,1,2],[0,1,2],[0,1,2,5,6],[0,1,2,3,4,5,6,7],[0,1,2,3,4,5,6,7,8]] mixed ?_ ?_;kernel_rfl;refine zk ?_;refine ziN ?_;refine zk ?_;refine zk ?_;refine dc (λ_ _=>zF (s:=str hexT) (hv:=hs)) (k:=?_);refine zk ?_;refine zk ?_;refine dc (λ_ _=>zF (s:=str l) (u:=u) (hv:=hch)) (k:=?_);refine zY ?_;refine yv (zag (hr:=hne)) (k:=?_);refine za1 ?_)|(refine zb 9 (za ?_);refine zaj ?_;refine za ?_))
    refine zq (q+1) ?_ ?_ ?_ ?_
    ·show q+1<=d;omega
    ·show d - (q+1) < d - q;omega
    ·exact q_h
    ·exact q_h
   obtain rfl:q=d:=q_o;have hs:=hdat q hd16;rw [zrp hd] at hs;have hne:decide (Wd.n8 u≠Wd.n8 u)=false:=decide_eq_false (λh=>h rfl);have hsh:=λw' (h:SlA w' a (refC X))=>znv a c X 4 w' h q_o q_e;rw [show X*2 ^ 4=X*16 from rfl] at hsh;have hof:=λw'=>zeN q w' q_o;have hn16:nd 65536 (X*16) < 100000000:=by
    refine Nat.lt_of_le_of_lt (zao 65536 (X*16) (nd 65536 X+1) q_e ?_) q_o;have:=zai 65536 X q_e;rw [Nat.pow_succ];omega
   have hnq:nd 65536 q < 100000000:=Nat.lt_of_le_of_lt (zao 65536 q 1 q_e q_o) q_e;have had:=λw' a1 c1 a2 c2 (h1:SlA w' a1 (refC (X*16))) (h2:SlA w' a2 (refC q))=>zkY a1 a2 c1 c2 (X*16) q w' h1 h2 hn16 hnq;rw [<-hti] at had;generalize X*16=Y at *;repeat' (first|refine s_0 ?_|(refine zM (id:=8) 8 [[],[0],[0,1],[0,1,2],[0,1,2,3],[0,1,2],[0,1,2],[0,1,2,5,6],[0,1,2,3,4,5,6,7],[0,1,2,3,4,5,6,7,8]] mixed ?_ ?_;kernel_rfl;refine zk ?_;refine ziN ?_;refine zk ?_;refine zk ?_;refine dc (λ_ _=>zF (s:=str hexT) (hv:=hs)) (k:=?_);refine zk ?_;refine zk ?_;refine dc (λ_ _=>zF (s:=str l) (u:=u) (hv:=hch)) (k:=?_);refine zY ?_;refine yv (zag (hr:=hne)) (k:=?_);refine za1 ?_)|(refine zb 10 (za ?_);refine zan ?_)|(refine zb 12 (za ?_);(refine ys (zh (f:=312) (hc:=λw' X hk hh=>hsh w' (zJ hh q_h))) (k:=?_);rintro _ _ ⟨R,rfl,a3,c3,rfl,rfl⟩);refine za ?_;(refine ys (zh (f:=159) (hc:=λw' X hk hh=>hof w')) (k:=?_);rintro _ _ ⟨R,rfl,a4,c4,rfl,rfl⟩);(refine ys (zh (f:=277) (hc:=λw' X hk hh=>had w' _ _ _ _ (zJ hh q_h) (zJ hh q_h))) (k:=?_);rintro _ _ ⟨R,rfl,a5,c5,rfl,rfl⟩);refine za ?_)|(refine zb 6 (za ?_);refine zaj ?_;refine za ?_))
   refine zq (i+1,a5,c5) ⟨by show i+1<=n;omega,λj hj=>?_⟩ ?_ ?_ ?_
   ·rcases Nat.lt_or_ge j i with h|h
    ·exact hok j h
    ·obtain rfl:j=i:=q_o;exact ⟨u,q,hu,hd⟩
   ·show n - (i+1) < n - i;omega
   ·exact q_h
   ·exact q_h
 obtain rfl:i=n:=q_o;obtain ⟨r,hr⟩: ∃r,hexs l=some r:=by
  cases hh:hexs l with
  |some r=>exact ⟨r,rfl⟩
  |none=>
   obtain ⟨j,u,h1,h2,_⟩:=zfq hh;have hj:j < l.length:=by
    rcases Nat.lt_or_ge j l.length with h|h
    ·exact h
    ·rw [List.getElem?_eq_none h] at h1;cases h1
   obtain ⟨v,d,h3,h4⟩:=hok j q_o;rw [h1] at h3;cases h3;rw [h2] at h4;cases h4
 have htk:(hexd l).take i=hexd l:=List.take_of_length_le (by rw [hexd,List.length_map];omega);rw [hr,Option.map_some];dsimp only;rw [htk,zkL hr];rw [decide_eq_false hlt] at hlss;generalize bev 16 (hexd l)=X at *;repeat' (first|refine s_0 ?_|(refine zb 5 (za ?_);refine yv (zn (hr:=hlss)) (k:=?_))|(refine zb 13 (za ?_)))
 exact ret2 rfl (resTmp rfl) (resTmp rfl) q_h ⟨a,c,rfl,rfl⟩
end Go.Proofs.YtdnlngbjpdbffaaGreatDoor
end
section
namespace Go.Sy
open Go
end Go.Sy
namespace Go.Nt
open Go Go.Sy
theorem w64k:18446744073709551616 ^ 16=65536 ^ 64:=zel 65536 16 64 rfl rfl
theorem ndW {x:Nat}(h:x < 18446744073709551616 ^ 16):nd 65536 x<=64:=zao _ _ _ q_e (by rw [<-w64k];exact h)
theorem zqZ (i:Nat) (h0:1<=i) (h5:i<=4):(gP i - 1) / 2=gQ i:=by
 have:=zmu i h0 h5;omega
end Go.Nt
namespace Go.Proofs.YtdnlngbjpdbffaaGreatDoor
open Go Go.Sy Go.Nt Go.RowKit
attribute [local irreducible] Sy SyL SyX Sy.Fn callFunc natC refC iC gP gQ gL memB
theorem zhI (z:Int) (w:World):Sy.Fn Tryz.prog 228 [.int .i64 z] w No (Gives (.bool (decide (1<=z/\z<=4)))):=by
 refine zg Tryz.func228 rfl Tryz.ntmps228 q_p Holds.nil ?_;by_cases h1:1<=z
 ·have g1:decide (z>=1)=true:=decide_eq_true h1;have g2:decide (z<=4)=decide (1<=z/\z<=4):=decide_eq_decide.2 ⟨λh=>⟨h1,h⟩,λh=>h.2⟩;generalize decide (1<=z/\z<=4)=b at *;repeat' (first|refine s_0 ?_|(refine zb 0 (za ?_))|(refine zb 1 (za ?_);refine yv (zab (hr:=g1)) (k:=za ?_);refine yv (zau (hr:=g2)) (k:=za ?_)))
  exact q_r
 ·have g1:decide (z>=1)=false:=decide_eq_false h1;rw [show decide (1<=z/\z<=4)=false from decide_eq_false (λh=>h1 h.1)];repeat' (first|refine s_0 ?_|(refine zb 0 (za ?_))|(refine zb 1 (za ?_);refine yv (zab (hr:=g1)) (k:=za ?_)))
  exact q_r
theorem zdt (i:Nat) (w:World) (h0:1<=i) (h5:i<=4):Sy.Fn Tryz.prog 229 [.int .i64 (i:Int)] w No (RefG (gP i)):=by
 refine zg Tryz.func229 rfl Tryz.ntmps229 q_p Holds.nil ?_;have g3:IntKind.i64.wrap ((i:Int) - 1)=((i - 1:Nat):Int):=q_w;have hcell:=zg4 i h0 h5;have hpa:=λw'=>zmv (gS i) w' (by have:=znR i h0 h5;omega);rw [zjj i h0 h5] at hpa;dsimp only at hpa;unfold RefG;repeat' (first|refine s_0 ?_|(refine zb 0 (za ?_)))
 refine zb 1 ?_;refine ys (zt (vs:=gCells)) (k:=?_);rintro _ _ ⟨b6,rfl,rfl⟩;generalize gCells=GC at *;generalize gS i=S at *;repeat' (first|refine s_0 ?_|(refine zb 2 (za ?_);(refine ys (zh (f:=279) (hc:=λw' X hk hh=>hpa w')) (k:=?_);rintro _ _ ⟨R,rfl,a1,c1,rfl,rfl⟩);refine za ?_)|(refine zb 3 (za ?_))|(refine zP ?_;first|refine yv (zD (hr:=g3)) (k:=?_)|refine yv (zbw (j:=i - 1)) (k:=?_)|refine yv (zC (hv:=hcell)) (k:=?_)|refine zx ?_|refine zaH ?_|fail)|fail)
 exact q_r
theorem zdu (i:Nat) (w:World) (h0:1<=i) (h5:i<=4):Sy.Fn Tryz.prog 158 [.int .i64 (i:Int)] w No (RefG (gQ i)):=by
 refine zg Tryz.func158 rfl Tryz.ntmps158 q_p Holds.nil ?_;have hW:=zaN i h0 h5;have k0:=ndW hW;have hp1:=zaI i h0 h5;have hp:=λw'=>zdt i w' h0 h5;have h1:=λw'=>zeN 1 w' q_e;have h2:=λw'=>zeN 2 w' q_e;have n1:=zao 65536 1 1 q_e q_e;have n2:=zao 65536 2 1 q_e q_e;have n3:=zlb 65536 (gP i - 1) (gP i) q_e (Nat.sub_le _ _);have hs:=λw' a c a' c' (h:SlA w' a (refC (gP i))) (h':SlA w' a' (refC 1))=>zf8 a a' c c' (gP i) 1 w' h h' q_o q_o;have hd:=λw' a c a' c' (h:SlA w' a (refC (gP i - 1))) (h':SlA w' a' (refC 2))=>zhe a a' c c' (gP i - 1) 2 w' h h' q_o q_o q_e;rw [zqZ i h0 h5] at hd;unfold RefG at *;generalize (gP i - 1) % 2=r at *;generalize gP i - 1=p1 at *;generalize gP i=p at *;generalize gQ i=q at *;repeat' (first|refine s_0 ?_|(refine zB [0,2] ?_;refine za ?_)|(refine zb 1 (za ?_);(refine ys (zh (f:=229) (hc:=λw' X hk hh=>hp w')) (k:=?_);rintro _ _ ⟨R,rfl,a1,c1,rfl,rfl⟩);(refine ys (zh (f:=159) (hc:=λw' X hk hh=>h1 w')) (k:=?_);rintro _ _ ⟨R,rfl,a2,c2,rfl,rfl⟩);(refine ys (zh (f:=157) (hc:=λw' X hk hh=>hs w' _ _ _ _ (zJ hh q_h) (zJ hh q_h))) (k:=?_);rintro _ _ ⟨R,rfl,a3,c3,rfl,rfl⟩);(refine ys (zh (f:=159) (hc:=λw' X hk hh=>h2 w')) (k:=?_);rintro _ _ ⟨R,rfl,a4,c4,rfl,rfl⟩);(refine ys (zh (f:=232) (hc:=λw' X hk hh=>hd w' _ _ _ _ (zJ hh q_h) (zJ hh q_h))) (k:=?_);rintro _ _ ⟨R,rfl,a5,c5,a6,c6,rfl,rfl⟩);refine za ?_))
 exact q_r
theorem hasI (i:Nat) (h0:1<=i) (h5:i<=4):decide (1<=(i:Int)/\(i:Int)<=4)=true:=decide_eq_true ⟨by omega,by omega⟩
theorem zhR (i:Nat) (w:World) (h0:1<=i) (h5:i<=4):Sy.Fn Tryz.prog 154 [.int .i64 (i:Int)] w No (Gives (.int .i64 ((gL i:Nat):Int))):=by
 refine zg Tryz.func154 rfl Tryz.ntmps154 q_p Holds.nil ?_;have hh:=λw'=>zhI (i:Int) w';rw [hasI i h0 h5] at hh;have k0:=ndW (zaN i h0 h5);have hp:=λw'=>zdt i w' h0 h5;have hb:=λw' a c (h:SlA w' a (refC (gP i)))=>zif a c (gP i) w' h q_o;rw [zgW i h0 h5] at hb;unfold RefG at hp;generalize byt (gP i)=D at *;generalize gP i=p at *;generalize gL i=l at *;repeat' (first|refine s_0 ?_|(refine zb 0 (za ?_))|(refine zb 1 (za ?_);refine yv (zd (hc:=λ_ _ _ _=>(hh _))) (k:=?_);refine za ?_)|(refine zb 3 (za ?_);(refine ys (zh (f:=229) (hc:=λw' X hk hh=>hp w')) (k:=?_);rintro _ _ ⟨R,rfl,a1,c1,rfl,rfl⟩);(refine ys (zh (f:=223) (hc:=λw' X hk hh=>hb w' _ _ (zJ hh q_h))) (k:=?_);rintro _ _ ⟨R,rfl,a2,c2,rfl,rfl⟩);refine za ?_))
 exact q_r
theorem zkN (i:Nat) (a b:Option Addr) (ca cb x e:Nat) (w:World) (h0:1<=i) (h5:i<=4) (ha:SlA w a (refC x)) (hb:SlA w b (refC e)) (hx:nd 65536 x < 20000) (he:nd 65536 e < 20000):
  Sy.Fn Tryz.prog 161 [.int .i64 (i:Int),.slice a (nd 65536 x) ca,.slice b (nd 65536 e) cb] w No (RefG (x ^ e % gP i)):=by
 refine zg Tryz.func161 rfl Tryz.ntmps161 q_p Holds.nil ?_;have k0:=ndW (zaN i h0 h5);have hp1:=zaI i h0 h5;have hp:=λw'=>zdt i w' h0 h5;have hq:=λw' d cd (hk:Keep No w w') (h:SlA w' d (refC (gP i)))=>zkX a b d ca cb cd x e (gP i) w' (ha.to hk (λ_ h=> .inr h)).sla (hb.to hk (λ_ h=> .inr h)).sla h hx he q_o q_o;unfold RefG at *;generalize x ^ e % gP i=r at *;generalize gP i=p at *;repeat' (first|refine s_t ?_|(apply za6;(focus ((repeat (first|exact Rem.here|apply Rem.there));done));assumption)|(refine zb 0 ?_;try refine zx ?_)|(refine zb 1 ?_;try refine zaH ?_;try refine zaH ?_;try refine zaH ?_;try (first|(refine ys (zh (f:=229) (hc:=λw' X hk hh=>hp w')) (k:=?_);rintro _ _ ⟨R,rfl,a1,c1,rfl,rfl⟩)|(refine ys (zh (f:=233) (hc:=λw' X hk hh=>hq w' _ _ hk (zJ hh q_h))) (k:=?_);rintro _ _ ⟨R,rfl,a2,c2,rfl,rfl⟩)|fail);try (first|(refine ys (zh (f:=229) (hc:=λw' X hk hh=>hp w')) (k:=?_);rintro _ _ ⟨R,rfl,a1,c1,rfl,rfl⟩)|(refine ys (zh (f:=233) (hc:=λw' X hk hh=>hq w' _ _ hk (zJ hh q_h))) (k:=?_);rintro _ _ ⟨R,rfl,a2,c2,rfl,rfl⟩)|fail);try refine zx ?_)|(refine zP ?_;first|(refine ys (zh (f:=229) (hc:=λw' X hk hh=>hp w')) (k:=?_);rintro _ _ ⟨R,rfl,a1,c1,rfl,rfl⟩)|(refine ys (zh (f:=233) (hc:=λw' X hk hh=>hq w' _ _ hk (zJ hh q_h))) (k:=?_);rintro _ _ ⟨R,rfl,a2,c2,rfl,rfl⟩)|refine zx ?_|refine zaH ?_|fail)|refine zbc ?_)
 exact q_r
theorem zmC (i:Nat) (b:Option Addr) (cb e:Nat) (w:World) (h0:1<=i) (h5:i<=4) (hb:SlA w b (refC e)) (he:nd 65536 e < 20000):
  Sy.Fn Tryz.prog 149 [.int .i64 (i:Int),.slice b (nd 65536 e) cb] w No (RefG (4 ^ e % gP i)):=by
 refine zg Tryz.func149 rfl Tryz.ntmps149 q_p Holds.nil ?_;have h4:=λw'=>zeN 4 w' q_e;have n4:=zao 65536 4 1 q_e q_e;have hq:=λw' a ca (hk:Keep No w w') (h:SlA w' a (refC 4))=>zkN i a b ca cb 4 e w' h0 h5 h (hb.to hk (λ_ h=> .inr h)).sla q_o he;unfold RefG at *;generalize 4 ^ e % gP i=r at *;repeat' (first|refine s_t ?_|(apply za6;(focus ((repeat (first|exact Rem.here|apply Rem.there));done));assumption)|(refine zb 0 ?_;try refine zx ?_)|(refine zb 1 ?_;try refine zaH ?_;try (first|(refine ys (zh (f:=159) (hc:=λw' X hk hh=>h4 w')) (k:=?_);rintro _ _ ⟨R,rfl,a1,c1,rfl,rfl⟩)|(refine ys (zh (f:=161) (hc:=λw' X hk hh=>hq w' _ _ hk (zJ hh q_h))) (k:=?_);rintro _ _ ⟨R,rfl,a2,c2,rfl,rfl⟩)|fail);try refine zaH ?_;try (first|(refine ys (zh (f:=159) (hc:=λw' X hk hh=>h4 w')) (k:=?_);rintro _ _ ⟨R,rfl,a1,c1,rfl,rfl⟩)|(refine ys (zh (f:=161) (hc:=λw' X hk hh=>hq w' _ _ hk (zJ hh q_h))) (k:=?_);rintro _ _ ⟨R,rfl,a2,c2,rfl,rfl⟩)|fail);try refine zx ?_)|(refine zP ?_;first|(refine ys (zh (f:=159) (hc:=λw' X hk hh=>h4 w')) (k:=?_);rintro _ _ ⟨R,rfl,a1,c1,rfl,rfl⟩)|(refine ys (zh (f:=161) (hc:=λw' X hk hh=>hq w' _ _ hk (zJ hh q_h))) (k:=?_);rintro _ _ ⟨R,rfl,a2,c2,rfl,rfl⟩)|refine zx ?_|refine zaH ?_|fail)|refine zbc ?_)
 exact q_r
theorem zqO (i:Nat) (a b:Option Addr) (ca cb x y:Nat) (w:World) (h0:1<=i) (h5:i<=4) (ha:SlA w a (refC x)) (hb:SlA w b (refC y)) (hx:nd 65536 x < 20000) (hy:nd 65536 y < 20000):
  Sy.Fn Tryz.prog 160 [.int .i64 (i:Int),.slice a (nd 65536 x) ca,.slice b (nd 65536 y) cb] w No (RefG (x*y % gP i)):=by
 refine zg Tryz.func160 rfl Tryz.ntmps160 q_p Holds.nil ?_;have k0:=ndW (zaN i h0 h5);have hp1:=zaI i h0 h5;have hq0:=zaB i h0 h5;have hp:=λw'=>zdt i w' h0 h5;have hq:=λw' d cd (hk:Keep No w w') (h:SlA w' d (refC (gP i)))=>zlD a b d ca cb cd x y (gP i) w' (ha.to hk (λ_ h=> .inr h)).sla (hb.to hk (λ_ h=> .inr h)).sla h q_o q_o q_o q_o;unfold RefG at *;generalize x*y % gP i=r at *;generalize gP i=p at *;repeat' (first|refine s_0 ?_|(refine zb 0 (za ?_))|(refine zb 1 (za ?_);(refine ys (zh (f:=229) (hc:=λw' X hk hh=>hp w')) (k:=?_);rintro _ _ ⟨R,rfl,a1,c1,rfl,rfl⟩);(refine ys (zh (f:=226) (hc:=λw' X hk hh=>hq w' _ _ hk (zJ hh q_h))) (k:=?_);rintro _ _ ⟨R,rfl,a2,c2,rfl,rfl⟩);refine za ?_))
 exact q_r
theorem zoi (i:Nat) (a b:Option Addr) (ca cb x y:Nat) (w:World) (h0:1<=i) (h5:i<=4) (ha:SlA w a (refC x)) (hb:SlA w b (refC y)) (hx:nd 65536 x < 20000) (hy:nd 65536 y < 20000):
  Sy.Fn Tryz.prog 151 [.int .i64 (i:Int),.slice a (nd 65536 x) ca,.slice b (nd 65536 y) cb] w No (RefG ((x+y) % gQ i)):=by
 refine zg Tryz.func151 rfl Tryz.ntmps151 q_p Holds.nil ?_;have k0:=ndW (zaV i h0 h5);have hp1:=zaI i h0 h5;have hq0:=zaB i h0 h5;have hp:=λw'=>zdu i w' h0 h5;have hq:=λw' d cd (hk:Keep No w w') (h:SlA w' d (refC (gQ i)))=>zqW a b d ca cb cd x y (gQ i) w' (ha.to hk (λ_ h=> .inr h)).sla (hb.to hk (λ_ h=> .inr h)).sla h q_o q_o q_o q_o;unfold RefG at *;generalize (x+y) % gQ i=r at *;generalize gQ i=p at *;repeat' (first|refine s_0 ?_|(refine zb 0 (za ?_))|(refine zb 1 (za ?_);(refine ys (zh (f:=158) (hc:=λw' X hk hh=>hp w')) (k:=?_);rintro _ _ ⟨R,rfl,a1,c1,rfl,rfl⟩);(refine ys (zh (f:=225) (hc:=λw' X hk hh=>hq w' _ _ hk (zJ hh q_h))) (k:=?_);rintro _ _ ⟨R,rfl,a2,c2,rfl,rfl⟩);refine za ?_))
 exact q_r
theorem zlR (i:Nat) (a:Option Addr) (n c:Nat) (bl:List UInt8) (w:World) (h0:1<=i) (h5:i<=4) (hl:bl.length=n) (ha:SlA w a (bl.map v8)) (hn:n < 80000):
  Sy.Fn Tryz.prog 147 [.int .i64 (i:Int),.slice a n c] w No (RefG (bev 256 (bn bl) % gQ i)):=by
 refine zg Tryz.func147 rfl Tryz.ntmps147 q_p Holds.nil ?_;have k0:=ndW (zaV i h0 h5);have hq0:=zaB i h0 h5;have hp:=λw'=>zdu i w' h0 h5;have hf:=λw' (hk:Keep No w w')=>zf7 a n c bl w' hl (ha.to hk (λ_ h=> .inr h)).sla q_o;have kx:nd 65536 (bev 256 (bn bl))<=n:=zao 65536 _ _ q_e (Nat.lt_of_lt_of_le (zcf 256 (bn bl) (zeh bl)) (by rw [show (bn bl).length=n by unfold bn;rw [List.length_map,hl]];exact Nat.pow_le_pow_left q_e _));have hq:=λw' d cd d' cd' (h:SlA w' d (refC (bev 256 (bn bl)))) (h':SlA w' d' (refC (gQ i)))=>zdB d d' cd cd' (bev 256 (bn bl)) (gQ i) w' h h' q_o q_o q_o;unfold RefG at *;generalize bev 256 (bn bl) % gQ i=r at *;generalize bev 256 (bn bl)=x at *;generalize gQ i=q at *;repeat' (first|refine s_0 ?_|(refine zb 0 (za ?_))|(refine zb 1 (za ?_);(refine ys (zh (f:=155) (hc:=zr hf)) (k:=?_);rintro _ _ ⟨R,rfl,a0,c0,rfl,rfl⟩);refine za ?_;(refine ys (zh (f:=158) (hc:=λw' X hk hh=>hp w')) (k:=?_);rintro _ _ ⟨R,rfl,a1,c1,rfl,rfl⟩);(refine ys (zh (f:=222) (hc:=λw' X hk hh=>hq w' _ _ _ _ (zJ hh q_h) (zJ hh q_h))) (k:=?_);rintro _ _ ⟨R,rfl,a2,c2,rfl,rfl⟩);refine za ?_))
 exact q_r
theorem zfw (i:Nat) (a:Option Addr) (ca x:Nat) (w:World) (h0:1<=i) (h5:i<=4) (ha:SlA w a (refC x)) (hx:nd 65536 x < 20000):
  Sy.Fn Tryz.prog 156 [.int .i64 (i:Int),.slice a (nd 65536 x) ca] w No (Gives (.bool (decide (x < gQ i)))):=by
 refine zg Tryz.func156 rfl Tryz.ntmps156 q_p Holds.nil ?_;have k0:=ndW (zaV i h0 h5);have hp:=λw'=>zdu i w' h0 h5;have hq:=λw' d cd (hk:Keep No w w') (h:SlA w' d (refC (gQ i)))=>zce a d ca cd x (gQ i) w' (ha.to hk (λ_ h=> .inr h)).sla h q_o q_o;have hr:decide (cmpI x (gQ i) < 0)=decide (x < gQ i):=decide_eq_decide.2 (by
  unfold cmpI;by_cases h:x < gQ i
  ·rw [if_pos h];exact ⟨λ_=>h,λ_=>by decide⟩
  ·rw [if_neg h];split <;> omega)
 unfold RefG at *;generalize decide (x < gQ i)=b at *;generalize cmpI x (gQ i)=cz at *;generalize gQ i=q at *;repeat' (first|refine s_0 ?_|(refine zb 0 (za ?_))|(refine zb 1 (za ?_);(refine ys (zh (f:=158) (hc:=λw' X hk hh=>hp w')) (k:=?_);rintro _ _ ⟨R,rfl,a1,c1,rfl,rfl⟩);refine yv (zd (f:=162) (hc:=λw' X hk hh=>hq w' _ _ hk (zJ hh q_h))) (k:=?_);refine yv (zn (hr:=hr)) (k:=za ?_)))
 exact q_r
theorem zlU (i:Nat) (a:Option Addr) (ca x:Nat) (w:World) (h0:1<=i) (h5:i<=4) (ha:SlA w a (refC x)) (hx:nd 65536 x < 20000):
  Sy.Fn Tryz.prog 227 [.int .i64 (i:Int),.slice a (nd 65536 x) ca] w No (Gives (.bool (memB (gP i) (gQ i) x))):=by
 refine zg Tryz.func227 rfl Tryz.ntmps227 q_p Holds.nil ?_;have hh:=λw'=>zhI (i:Int) w';rw [hasI i h0 h5] at hh;have kp:=ndW (zaN i h0 h5);have kq:=ndW (zaV i h0 h5);have hp1:=zaI i h0 h5;have hnx:=(zlO 65536 x q_e).1;rcases Nat.eq_zero_or_pos x with h|h
 ·subst h;have hb:memB (gP i) (gQ i) 0=false:=by unfold memB;exact decide_eq_false (λh=>absurd h.1 q_o)
  rw [hb];have g1:decide (((nd 65536 0:Nat):Int)=0)=true:=decide_eq_true (by rw [zaT];rfl);repeat' (first|refine s_0 ?_|(refine zB [0,2] ?_;refine za ?_)|(refine zb 1 (za ?_);refine yv (zd (hc:=λ_ _ _ _=>(hh _))) (k:=?_);refine za ?_;refine yv (zX (hr:=g1)) (k:=za ?_)))
  exact q_r
 have g1:decide (((nd 65536 x:Nat):Int)=0)=false:=q_f;have hp:=λw'=>zdt i w' h0 h5;have hc:=λw' d cd (hk:Keep No w w') (h:SlA w' d (refC (gP i)))=>zce a d ca cd x (gP i) w' (ha.to hk (λ_ h=> .inr h)).sla h q_o q_o;by_cases hxp:x < gP i
 ·have g2:decide (cmpI x (gP i)>=0)=false:=by rw [zeH hxp];rfl
  have ho:=λw'=>zdu i w' h0 h5;have he:=λw' d cd d' cd' (hk:Keep No w w') (h:SlA w' d (refC (gQ i))) (h':SlA w' d' (refC (gP i)))=>zkX a d d' ca cd cd' x (gQ i) (gP i) w' (ha.to hk (λ_ h=> .inr h)).sla h h' hx q_o q_o q_o;have h1:=λw'=>zeN 1 w' q_e;have n1:=zao 65536 1 1 q_e q_e;have nr:=zmV 65536 (x ^ gQ i) (gP i) q_e q_o;have hc2:=λw' d cd d' cd' (h:SlA w' d (refC (x ^ gQ i % gP i))) (h':SlA w' d' (refC 1))=>zce d d' cd cd' (x ^ gQ i % gP i) 1 w' h h' q_o q_o;have g3:decide (cmpI (x ^ gQ i % gP i) 1=0)=memB (gP i) (gQ i) x:=by
   unfold memB;refine decide_eq_decide.2 ⟨λe=>⟨h,hxp,znI e⟩,λe=>?_⟩;rw [e.2.2];exact zfp 1
  unfold RefG at *;generalize memB (gP i) (gQ i) x=b at *;generalize x ^ gQ i % gP i=r at *;generalize cmpI r 1=cz2 at *;generalize cmpI x (gP i)=cz at *;generalize gP i=p at *;generalize gQ i=q at *;repeat' (first|refine s_0 ?_|(refine zb 0 (za ?_))|(refine zb 1 (za ?_);refine yv (zd (hc:=λ_ _ _ _=>(hh _))) (k:=?_);refine za ?_;refine yv (zX (hr:=g1)) (k:=za ?_);(refine ys (zh (f:=229) (hc:=λw' X hk hh=>hp w')) (k:=?_);rintro _ _ ⟨R,rfl,a1,c1,rfl,rfl⟩);refine yv (zd (f:=162) (hc:=λw' X hk hh=>hc w' _ _ hk (zJ hh q_h))) (k:=?_);refine yv (zab (hr:=g2)) (k:=za ?_))|(refine zb 3 (za ?_);(refine ys (zh (f:=158) (hc:=λw' X hk hh=>ho w')) (k:=?_);rintro _ _ ⟨R,rfl,a2,c2,rfl,rfl⟩);refine za ?_;(refine ys (zh (f:=229) (hc:=λw' X hk hh=>hp w')) (k:=?_);rintro _ _ ⟨R,rfl,a1,c1,rfl,rfl⟩);(refine ys (zh (f:=233) (hc:=λw' X hk hh=>he w' _ _ _ _ hk (zJ hh q_h) (zJ hh q_h))) (k:=?_);rintro _ _ ⟨R,rfl,a3,c3,rfl,rfl⟩);(refine ys (zh (f:=159) (hc:=λw' X hk hh=>h1 w')) (k:=?_);rintro _ _ ⟨R,rfl,a4,c4,rfl,rfl⟩);refine yv (zd (f:=162) (hc:=λw' X hk hh=>hc2 w' _ _ _ _ (zJ hh q_h) (zJ hh q_h))) (k:=?_);refine yv (zX (hr:=g3)) (k:=za ?_)))
  exact q_r
 ·have g2:decide (cmpI x (gP i)>=0)=true:=decide_eq_true (zhF q_o);have hb:memB (gP i) (gQ i) x=false:=by unfold memB;exact decide_eq_false (λh=>hxp h.2.1)
  rw [hb];unfold RefG at *;generalize cmpI x (gP i)=cz at *;generalize gP i=p at *;repeat' (first|refine s_0 ?_|(refine zB [0,2] ?_;refine za ?_)|(refine zb 1 (za ?_);refine yv (zd (hc:=λ_ _ _ _=>(hh _))) (k:=?_);refine za ?_;refine yv (zX (hr:=g1)) (k:=za ?_);(refine ys (zh (f:=229) (hc:=λw' X hk hh=>hp w')) (k:=?_);rintro _ _ ⟨R,rfl,a1,c1,rfl,rfl⟩);refine yv (zd (f:=162) (hc:=λw' X hk hh=>hc w' _ _ hk (zJ hh q_h))) (k:=?_);refine yv (zab (hr:=g2)) (k:=za ?_)))
  exact q_r
theorem znC (i:Nat) (a:Option Addr) (ca x:Nat) (w:World) (h0:1<=i) (h5:i<=4) (ha:SlA w a (refC x)) (hx:nd 65536 x < 20000) (hn:nd 256 x<=gL i):
  Sy.Fn Tryz.prog 148 [.int .i64 (i:Int),.slice a (nd 65536 x) ca] w No (RowOf 5 (gL i) ((fixB (gL i) x).map v8)):=by
 refine zg Tryz.func148 rfl Tryz.ntmps148 q_p Holds.nil ?_;have hl96:=(zcd i h0 h5).2;have hle:=λw'=>zhR i w' h0 h5;have hby:=λw' (hk:Keep No w w')=>zif a ca x w' (ha.to hk (λ_ h=> .inr h)).sla q_o;have hbl:=zdO x;unfold RowOf fixB;generalize byt x=D at *;generalize nd 256 x=n at *;generalize gL i=l at *;repeat' (first|refine s_t ?_|(refine zb 0 (za ?_))|(refine zb 1 (za ?_);(refine ys (zh (f:=223) (hc:=zr hby)) (k:=?_);rintro _ _ ⟨R,rfl,a0,c0,rfl,rfl⟩);refine za ?_))
 refine zy (γ:=Nat×Option Addr×Nat) (λg=>[(0,.int .i64 (i:Int)),(5,.slice g.2.1 (g.1+n) g.2.2)]) (λg=>[.row (.slice g.2.1 (g.1+n) g.2.2) 5 1 (g.1+n) ((List.replicate g.1 0 ++ D).map v8)])
  (λg=>g.1+n<=l) (λg=>l - g.1) (0,a0,c0) (by show 0+n<=l;omega) ?_ ?_ ?_
 ·dsimp only;rw [Nat.zero_add];exact q_h
 ·dsimp only;rw [Nat.zero_add,List.replicate_zero,List.nil_append];exact q_h
 rintro ⟨j,aj,cj⟩ hj;dsimp only at hj ⊢;rcases Nat.lt_or_ge (j+n) l with h|h
 ·have hlt:decide (((j+n:Nat):Int) < (l:Int))=true:=q_d;have hE:(List.replicate j (0:UInt8) ++ D).length=j+n:=by rw [List.length_append,List.length_replicate,hbl]
  have hY:List.replicate (j+1) (0:UInt8) ++ D=0::(List.replicate j 0 ++ D):=by rw [List.replicate_succ,List.cons_append]
  generalize List.replicate j (0:UInt8) ++ D=E at *;refine zcA (λw' hh=>(Row.none hh (a:=aj) (n:=j+n) (c:=cj) Has.here:aj=none->cj=0)) λhnil=>?_;repeat' (first|refine s_t ?_|(refine zb 2 (za ?_);refine yv (zd (hc:=λ_ _ _ _=>(hle _))) (k:=?_);refine yv (zn (hr:=hlt)) (k:=?_))|(refine zb 3 ?_;(refine ys zt (k:=?_);rintro _ _ ⟨_,rfl,rfl⟩);refine za ?_;(refine ys (zaW (xs:=[.int .u8 0]) (k:=1) (m:=j+n) (km:=j+1+n) (hxn:=rfl) (hr:=Rd.row Has.go) (hn:=by rw [List.length_map,hE,Nat.mul_one]) (hnil:=hnil) (hkm:=by omega) (hys:=rfl)) (k:=?_);rintro _ _ ⟨rfl,aN,cN,rfl⟩);refine za ?_))
  refine zq (j+1,aN,cN) ?_ ?_ ?_ ?_
  ·show j+1+n<=l;omega
  ·show l - (j+1) < l - j;omega
  ·exact q_h
  ·dsimp only;rw [hY];exact q_h
 ·obtain rfl:l=j+n:=q_o;have hlt:decide (((j+n:Nat):Int) < ((j+n:Nat):Int))=false:=q_f;rw [show j+n - n=j by omega];repeat' (first|refine s_0 ?_|(refine zb 2 (za ?_);refine yv (zd (hc:=λ_ _ _ _=>(hle _))) (k:=?_);refine yv (zn (hr:=hlt)) (k:=?_))|(refine zb 4 (za ?_)))
  exact q_r
end Go.Proofs.YtdnlngbjpdbffaaGreatDoor
end
