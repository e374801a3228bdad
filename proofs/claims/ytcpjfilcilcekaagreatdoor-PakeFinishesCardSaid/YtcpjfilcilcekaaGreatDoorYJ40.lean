/- The specification's numbers: Parse. -/
import Derived.Test.YtcpjfilcilcekaaGreatDoorYJ37
set_option linter.all false
section
namespace Go.Nt
open Go Go.Sy
theorem znf: ∀d:Fin 16,hexv (hexc d.1)=some d.1:=by decide +kernel
theorem zpp: ∀u:Fin 256,∀d:Fin 16,hexv (UInt8.ofNat u.1)=some d.1->hexc d.1=UInt8.ofNat u.1:=by decide +kernel
theorem zqE {u:UInt8}{d:Nat}(h:hexv u=some d):hexc d=u:=by
 have:=zpp ⟨u.toNat,u.toNat_lt⟩ ⟨d,zeF h⟩
 rw [show UInt8.ofNat u.toNat=u from UInt8.ofNat_toNat] at this
 exact this h
theorem zpx {u:UInt8}{d q:Nat}(h:hexv u=some d) (hq:q < 16) (hn:q≠d):hexc q≠u:=λhe=>by
 have:=znf ⟨q,hq⟩
 rw [show hexc (⟨q,hq⟩:Fin 16).1=u from he,h] at this
 exact hn (Option.some.inj this).symm
theorem zl6 {u:UInt8}{q:Nat}(h:hexv u=none) (hq:q < 16):hexc q≠u:=λhe=>by
 have:=znf ⟨q,hq⟩
 rw [show hexc (⟨q,hq⟩:Fin 16).1=u from he,h] at this
 cases this
theorem zpf {u v:UInt8}(h:u≠v):decide (Wd.n8 u≠Wd.n8 v)=true:=decide_eq_true (λe=>h (UInt8.toNat_inj.1 (Int.ofNat.inj e)))
def hexd (l:List UInt8):List Nat:=l.map (λu=>(hexv u).getD 0)
theorem zk8: ∀ {l:List UInt8}{r:List Nat},hexs l=some r->r=hexd l
 | [],_,h=>by cases h;rfl
 |u::l,r,h=>by
  unfold hexs at h
  split at h
  ·rename_i d r' h1 h2
   cases h
   rw [zk8 h2]
   simp only [hexd,List.map_cons,h1,Option.getD_some]
  ·cases h
theorem zoV {l:List UInt8}{i d:Nat}{u:UInt8}(h:l[i]?=some u) (hd:hexv u=some d):(hexd l)[i]?=some d:=by
 simp only [hexd,List.getElem?_map,h,Option.map_some,hd,Option.getD_some]
theorem zpB (l:List UInt8): ∀d∈hexd l,d < 16:=by
 intro d hd
 simp only [hexd,List.mem_map] at hd
 obtain ⟨u,-,rfl⟩:=hd
 cases h:hexv u with
 |none=>decide
 |some d=>exact zeF h
theorem zpG (l:List UInt8) (i:Nat):nd 65536 (bev 16 ((hexd l).take i))<=l.length:=by
 refine zak _ _ _ (by decide) ?_
 refine Nat.lt_of_lt_of_le (zco 16 _ (λd hd=>zpB l d (List.mem_of_mem_take hd))) ?_
 refine Nat.le_trans (Nat.pow_le_pow_left (by decide) _) (Nat.pow_le_pow_right (by decide) ?_)
 rw [List.length_take,hexd,List.length_map]
 exact Nat.min_le_right _ _
end Go.Nt
namespace Go.Proofs.YtcpjfilcilcekaaGreatDoor
open Go Go.Sy Go.Nt Go.RowKit
theorem zmQ:refC 0= []:=by unfold refC cd;rw [zaY];rfl
attribute [local irreducible] Sy SyL SyX Sy.Fn callFunc natC refC iC
set_option maxRecDepth 10000
set_option maxHeartbeats 1000000 in
theorem zmV (l:List UInt8) (w:World) (hx:l.length < 10000):
  Sy.Fn Tryz.prog 103 [.string (str l)] w No (λv R=>match parse l with
   |none=>v= .tuple #[.slice none 0 0,.bool false]/\R= []
   |some x=>∃a c,v= .tuple #[.slice a (nd 65536 x) c,.bool true]/\R= [.row (.slice a (nd 65536 x) c) 3 1 (nd 65536 x) (refC x)]):=by
 refine zk Tryz.func103 rfl Tryz.ntmps103 (by simp) Holds.nil ?_
 repeat' (first|refine s_0 ?_|(refine za (id:=0) ?_;refine zd ?_;refine zd ?_)|fail)
 refine zaJ (γ:=Unit) (λ_=>[(0,.string (str l)),(2,.slice none 0 0),(3,.bool false),(19,.bool (badS l))]) (λ_=>[]) (λ_=>True) ?_ ?_
 ·cases l with
  |nil=>
   rw [show badS []=true from rfl]
   have hz:decide ((((str []).size:Nat):Int)=0)=true:=rfl
   repeat' (first|refine z6 ?_|refine zR ?_|(refine za (id:=1) ?_;refine zb ?_;refine zq ?_;refine yv (z8 (hr:=hz)) (k:=?_);refine zb ?_;refine zj rfl rfl rfl ?_;refine zj rfl rfl rfl ?_;refine zj rfl rfl rfl ?_;refine zj rfl rfl rfl ?_;refine zj rfl rfl rfl ?_;refine zj rfl rfl rfl ?_;refine zj rfl rfl rfl ?_;refine zj rfl rfl rfl ?_;refine zo ?_)|fail)
   exact zO () trivial (by exact Sub.go) (by exact SubR.go)
  |cons u r=>
   have hsz:(str (u::r)).size=r.length+1:=rfl
   have hz:decide ((((str (u::r)).size:Nat):Int)=0)=false:=decide_eq_false (by rw [hsz];omega)
   by_cases hu:u=48
   ·have h48:decide (((u.toNat:Nat):Int)=48)=true:=decide_eq_true (by rw [hu];rfl)
    by_cases hr:0 < r.length
    ·rw [show badS (u::r)=true by simp only [badS,hu,decide_true,hr,Bool.and_self]]
     have hg:decide (1 < (((str (u::r)).size:Nat):Int))=true:=decide_eq_true (by rw [hsz];omega)
     repeat' (first|refine z6 ?_|refine zR ?_|(refine za (id:=1) ?_;refine zb ?_;refine zq ?_;refine yv (z8 (hr:=hz)) (k:=?_);refine zb ?_;refine zb ?_;refine yv (zad (s:=str (u::r)) (u:=u) (hv:=rfl)) (k:=?_);refine yv (z8 (hr:=h48)) (k:=?_);refine zb ?_;refine zb ?_;refine zq ?_;refine yv (zaf (hr:=hg)) (k:=?_);refine zo ?_;refine zo ?_)|fail)
     exact zO () trivial (by exact Sub.go) (by exact SubR.go)
    ·rw [show badS (u::r)=false by simp only [badS,hr,decide_false,Bool.and_false]]
     have hg:decide (1 < (((str (u::r)).size:Nat):Int))=false:=decide_eq_false (by rw [hsz];omega)
     repeat' (first|refine z6 ?_|refine zR ?_|(refine za (id:=1) ?_;refine zb ?_;refine zq ?_;refine yv (z8 (hr:=hz)) (k:=?_);refine zb ?_;refine zb ?_;refine yv (zad (s:=str (u::r)) (u:=u) (hv:=rfl)) (k:=?_);refine yv (z8 (hr:=h48)) (k:=?_);refine zb ?_;refine zb ?_;refine zq ?_;refine yv (zaf (hr:=hg)) (k:=?_);refine zo ?_;refine zo ?_)|fail)
     exact zO () trivial (by exact Sub.go) (by exact SubR.go)
   ·rw [show badS (u::r)=false by simp only [badS,hu,decide_false,Bool.false_and]]
    have h48:decide (((u.toNat:Nat):Int)=48)=false:=decide_eq_false (λh=>hu (UInt8.toNat_inj.1 (show u.toNat=48 by omega)))
    repeat' (first|refine z6 ?_|refine zR ?_|(refine za (id:=1) ?_;refine zb ?_;refine zq ?_;refine yv (z8 (hr:=hz)) (k:=?_);refine zb ?_;refine zb ?_;refine yv (zad (s:=str (u::r)) (u:=u) (hv:=rfl)) (k:=?_);refine yv (z8 (hr:=h48)) (k:=?_);refine zb ?_;refine zj rfl rfl rfl ?_;refine zj rfl rfl rfl ?_;refine zj rfl rfl rfl ?_;refine zo ?_;refine zo ?_)|fail)
    exact zO () trivial (by exact Sub.go) (by exact SubR.go)
 rintro - -
 unfold parse
 cases hb:badS l with
 |true=>
  rw [if_pos rfl]
  repeat' (first|refine s_0 ?_|(refine za (id:=2) ?_;refine zd ?_;refine zd ?_)|fail)
  exact ret2 rfl (resTmp rfl) (resTmp rfl) SubR.nil ⟨rfl,rfl⟩
 |false=>
 rw [if_neg (by decide)]
 repeat' (first|refine s_t ?_|(refine za (id:=3) ?_;refine zd ?_)|(refine za (id:=4) ?_;refine zd ?_)|fail)
 refine zbh (zaU 3 1) ?_
 obtain ⟨n,hn⟩: ∃n,n=l.length:=⟨_,rfl⟩
 have hsz:(str l).size=n:=by rw [hn];rfl
 have hnd:=zpG l
 rw [<-hn] at hx hnd
 refine zE (γ:=Nat×Option Addr×Nat) (λg=>[(0,.string (str l)),(4,.slice g.2.1 (nd 65536 (bev 16 ((hexd l).take g.1))) g.2.2),(5,.int .i64 g.1)])
  (λg=>[.row (.slice g.2.1 (nd 65536 (bev 16 ((hexd l).take g.1))) g.2.2) 3 1 (nd 65536 (bev 16 ((hexd l).take g.1))) (refC (bev 16 ((hexd l).take g.1)))])
  (λg=>g.1<=n/\ ∀j < g.1,∃v d,l[j]?=some v/\hexv v=some d) (λg=>n - g.1) (0,none,0) ⟨Nat.zero_le _,λj hj=>absurd hj (by omega)⟩ ?_ ?_ ?_
 ·rw [show bev 16 ((hexd l).take 0)=0 from rfl,zaY]
  exact Sub.go
 ·show SubR [.row (.slice none (nd 65536 (bev 16 ((hexd l).take 0))) 0) 3 1 (nd 65536 (bev 16 ((hexd l).take 0))) (refC (bev 16 ((hexd l).take 0)))] _
  rw [show bev 16 ((hexd l).take 0)=0 from rfl,zaY,zmQ]
  exact SubR.go
 rintro ⟨i,a,c⟩ ⟨hi,hok⟩
 dsimp only at hi hok ⊢
 have hX:=hnd i
 have hlss:decide (((i:Nat):Int) < (((str l).size:Nat):Int))=decide (i < n):=decide_eq_decide.2 (by rw [hsz];omega)
 by_cases hlt:i < n
 ·obtain ⟨u,hu⟩: ∃u,l[i]?=some u:=⟨l[i]'(by omega),List.getElem?_eq_getElem _⟩
  have hch:(str l).data[i]?=some u:=by
   show l.toArray[i]?=_
   rw [List.getElem?_toArray,hu]
  rw [decide_eq_true hlt] at hlss
  have hti:=λd (hd:hexv u=some d)=>zfl 16 (hexd l) i d (zoV hu hd)
  have hX1:=hnd (i+1)
  generalize hXX:bev 16 ((hexd l).take i)=X at *
  repeat' (first|refine s_t ?_|(refine za (id:=5) ?_;refine zb ?_;refine zb ?_;refine zq ?_;refine yv (zP (hr:=hlss)) (k:=?_))|(refine za (id:=7) ?_;refine zd ?_)|fail)
  have hdat: ∀q < 16,(str hexT).data[q]?=some (hexc q):=λq hq=>by
   show hexT.toArray[q]?=_
   rw [List.getElem?_toArray]
   exact zoy q hq
  cases hd:hexv u with
  |none=>
   have hnone:hexs l=none:=by
    cases hh:hexs l with
    |none=>rfl
    |some r=>
     obtain ⟨d,h1,_⟩:=zcV hh i u hu
     rw [hd] at h1;cases h1
   rw [hnone]
   refine zE (γ:=Nat) (λq=>[(0,.string (str l)),(5,.int .i64 i),(6,.int .i64 q)]) (λ_=>[]) (λq=>q<=16) (λq=>16 - q) 0 (Nat.zero_le _) ?_ ?_ ?_
   ·exact Sub.go
   ·exact SubR.nil
   intro q hq
   by_cases hq6:q < 16
   ·have hs:=hdat q hq6
    have hne:=zpf (zl6 hd hq6)
    repeat' (first|refine s_t ?_|(refine zK (id:=8) 8 [[],[0],[0,1],[0,1,2],[0,1,2,3],[0,1,2],[0,1,2],[0,1,2,5,6],[0,1,2,3,4,5,6,7],[0,1,2,3,4,5,6,7,8]] mixed ?_ ?_;kernel_rfl;refine zp ?_;refine ziR ?_;refine zp ?_;refine zp ?_;refine dc (λ_ _=>zad (s:=str hexT) (hv:=hs)) (k:=?_);refine zp ?_;refine zp ?_;refine dc (λ_ _=>zad (s:=str l) (u:=u) (hv:=hch)) (k:=?_);refine zU ?_;refine yv (zay (hr:=hne)) (k:=?_);refine zo ?_)|(refine za (id:=9) ?_;refine zb ?_;refine zY ?_;refine zd ?_)|fail)
    refine zy (q+1) ?_ ?_ ?_ ?_
    ·show q+1<=16;omega
    ·show 16 - (q+1) < 16 - q;omega
    ·exact Sub.go
    ·exact SubR.nil
   obtain rfl:q=16:=by omega
   repeat' (first|refine s_0 ?_|(refine zK (id:=8) 8 [[],[0],[0,1],[0,1,2],[0,1,2,3],[0,1,2],[0,1,2],[0,1,2,5,6],[0,1,2,3,4,5,6,7],[0,1,2,3,4,5,6,7,8]] mixed ?_ ?_;kernel_rfl;refine zp ?_;refine ziR ?_;refine zp ?_;refine zc8 (λ_=>rfl) rfl ?_;refine zc8 (λ_=>rfl) rfl ?_;refine zc8 (λ_=>rfl) rfl ?_;refine zc8 (λ_=>rfl) rfl ?_;refine zc8 (λ_=>rfl) rfl ?_;refine zU ?_;refine zj rfl rfl rfl ?_;refine zo ?_)|(refine za (id:=10) ?_;refine zb ?_;refine zX ?_)|(refine za (id:=11) ?_;refine zd ?_;refine zd ?_)|fail)
   exact ret2 rfl (resTmp rfl) (resTmp rfl) SubR.nil ⟨rfl,rfl⟩
  |some d=>
   have hd16:=zeF hd
   have hti:=hti d hd
   refine zE (γ:=Nat) (λq=>[(0,.string (str l)),(4,.slice a (nd 65536 X) c),(5,.int .i64 i),(6,.int .i64 q)]) (λ_=>[.row (.slice a (nd 65536 X) c) 3 1 (nd 65536 X) (refC X)]) (λq=>q<=d) (λq=>d - q) 0 (Nat.zero_le _) ?_ ?_ ?_
   ·exact Sub.go
   ·exact SubR.go
   intro q hq
   by_cases hqd:q < d
   ·have hs:=hdat q (by omega)
    have hne:=zpf (zpx hd (show q < 16 by omega) (by omega))
    repeat' (first|refine s_t ?_|(refine zK (id:=8) 8 [[],[0],[0,1],[0,1,2],[0,1,2,3],[0,1,2],[0,1,2],[0,1,2,5,6],[0,1,2,3,4,5,6,7],[0,1,2,3,4,5,6,7,8]] mixed ?_ ?_;kernel_rfl;refine zp ?_;refine ziR ?_;refine zp ?_;refine zp ?_;refine dc (λ_ _=>zad (s:=str hexT) (hv:=hs)) (k:=?_);refine zp ?_;refine zp ?_;refine dc (λ_ _=>zad (s:=str l) (u:=u) (hv:=hch)) (k:=?_);refine zU ?_;refine yv (zay (hr:=hne)) (k:=?_);refine zo ?_)|(refine za (id:=9) ?_;refine zb ?_;refine zY ?_;refine zd ?_)|fail)
    refine zy (q+1) ?_ ?_ ?_ ?_
    ·show q+1<=d;omega
    ·show d - (q+1) < d - q;omega
    ·exact Sub.go
    ·exact SubR.go
   obtain rfl:q=d:=by omega
   have hs:=hdat q hd16
   rw [zqE hd] at hs
   have hne:decide (Wd.n8 u≠Wd.n8 u)=false:=decide_eq_false (λh=>h rfl)
   have hsh:=λw' (h:SlA w' a (refC X))=>zm3 a c X 4 w' h (by omega) (by decide)
   rw [show X*2 ^ 4=X*16 from rfl] at hsh
   have hof:=λw'=>zdl q w' (by omega)
   have hn16:nd 65536 (X*16) < 100000000:=by
    refine Nat.lt_of_le_of_lt (zak 65536 (X*16) (nd 65536 X+1) (by decide) ?_) (by omega)
    have:=zae 65536 X (by decide)
    rw [Nat.pow_succ]
    omega
   have hnq:nd 65536 q < 100000000:=Nat.lt_of_le_of_lt (zak 65536 q 1 (by decide) (by omega)) (by decide)
   have had:=λw' a1 c1 a2 c2 (h1:SlA w' a1 (refC (X*16))) (h2:SlA w' a2 (refC q))=>zkJ a1 a2 c1 c2 (X*16) q w' h1 h2 hn16 hnq
   rw [<-hti] at had
   generalize X*16=Y at *
   repeat' (first|refine s_0 ?_|(refine zK (id:=8) 8 [[],[0],[0,1],[0,1,2],[0,1,2,3],[0,1,2],[0,1,2],[0,1,2,5,6],[0,1,2,3,4,5,6,7],[0,1,2,3,4,5,6,7,8]] mixed ?_ ?_;kernel_rfl;refine zp ?_;refine ziR ?_;refine zp ?_;refine zp ?_;refine dc (λ_ _=>zad (s:=str hexT) (hv:=hs)) (k:=?_);refine zp ?_;refine zp ?_;refine dc (λ_ _=>zad (s:=str l) (u:=u) (hv:=hch)) (k:=?_);refine zU ?_;refine yv (zay (hr:=hne)) (k:=?_);refine zo ?_)|(refine za (id:=10) ?_;refine zb ?_;refine zX ?_)|(refine za (id:=12) ?_;refine zb ?_;(refine ys (zn (f:=138) (hc:=λw' X hk hh=>hsh w' (zu hh (by exact Has.append Has.go)))) (k:=?_);rintro _ _ ⟨R,rfl,a3,c3,rfl,rfl⟩);refine zb ?_;(refine ys (zn (f:=41) (hc:=λw' X hk hh=>hof w')) (k:=?_);rintro _ _ ⟨R,rfl,a4,c4,rfl,rfl⟩);(refine ys (zn (f:=137) (hc:=λw' X hk hh=>had w' _ _ _ _ (zu hh (by exact Has.append Has.go)) (zu hh (by exact Has.append Has.go)))) (k:=?_);rintro _ _ ⟨R,rfl,a5,c5,rfl,rfl⟩);refine zd ?_)|(refine za (id:=6) ?_;refine zb ?_;refine zY ?_;refine zd ?_)|fail)
   refine zy (i+1,a5,c5) ⟨by show i+1<=n;omega,λj hj=>?_⟩ ?_ ?_ ?_
   ·rcases Nat.lt_or_ge j i with h|h
    ·exact hok j h
    ·obtain rfl:j=i:=by omega
     exact ⟨u,q,hu,hd⟩
   ·show n - (i+1) < n - i;omega
   ·exact Sub.go
   ·exact SubR.go2
 obtain rfl:i=n:=by omega
 obtain ⟨r,hr⟩: ∃r,hexs l=some r:=by
  cases hh:hexs l with
  |some r=>exact ⟨r,rfl⟩
  |none=>
   obtain ⟨j,u,h1,h2,_⟩:=zfB hh
   have hj:j < l.length:=by
    rcases Nat.lt_or_ge j l.length with h|h
    ·exact h
    ·rw [List.getElem?_eq_none h] at h1;cases h1
   obtain ⟨v,d,h3,h4⟩:=hok j (by omega)
   rw [h1] at h3
   cases h3
   rw [h2] at h4;cases h4
 have htk:(hexd l).take i=hexd l:=List.take_of_length_le (by rw [hexd,List.length_map];omega)
 rw [hr,Option.map_some]
 dsimp only
 rw [htk,zk8 hr]
 rw [decide_eq_false hlt] at hlss
 generalize bev 16 (hexd l)=X at *
 repeat' (first|refine s_0 ?_|(refine za (id:=5) ?_;refine zb ?_;refine zb ?_;refine zq ?_;refine yv (zP (hr:=hlss)) (k:=?_))|(refine za (id:=13) ?_;refine zb ?_;refine zd ?_;refine zd ?_)|fail)
 exact ret2 rfl (resTmp rfl) (resTmp rfl) (by exact SubR.go) ⟨a,c,rfl,rfl⟩
end Go.Proofs.YtcpjfilcilcekaaGreatDoor
end
