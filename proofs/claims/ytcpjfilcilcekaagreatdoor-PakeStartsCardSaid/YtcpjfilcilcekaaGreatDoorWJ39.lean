/- The specification's numbers: Parse. -/
import Derived.Test.YtcpjfilcilcekaaGreatDoorWJ37
import Derived.Test.YtcpjfilcilcekaaGreatDoorWJ38
import Derived.Test.YtcpjfilcilcekaaGreatDoorWJ26
import Derived.Test.YtcpjfilcilcekaaGreatDoorWJ27
set_option linter.all false
section
namespace Go.Nt
open Go Go.Sy
theorem zly: ∀d:Fin 16,hexv (hexc d.1)=some d.1:=by decide +kernel
theorem zoP: ∀u:Fin 256,∀d:Fin 16,hexv (UInt8.ofNat u.1)=some d.1->hexc d.1=UInt8.ofNat u.1:=by decide +kernel
theorem zqv {u:UInt8}{d:Nat}(h:hexv u=some d):hexc d=u:=by
  have:=zoP ⟨u.toNat,u.toNat_lt⟩ ⟨d,zel h⟩
  rw [show UInt8.ofNat u.toNat=u from UInt8.ofNat_toNat] at this
  exact this h
theorem zpu {u:UInt8}{d q:Nat}(h:hexv u=some d) (hq:q < 16) (hn:q≠d):hexc q≠u:=λhe=>by
  have:=zly ⟨q,hq⟩
  rw [show hexc (⟨q,hq⟩:Fin 16).1=u from he,h] at this
  exact hn (Option.some.inj this).symm
theorem zlP {u:UInt8}{q:Nat}(h:hexv u=none) (hq:q < 16):hexc q≠u:=λhe=>by
  have:=zly ⟨q,hq⟩
  rw [show hexc (⟨q,hq⟩:Fin 16).1=u from he,h] at this
  cases this
theorem zoB {u v:UInt8}(h:u≠v):decide (Wd.n8 u≠Wd.n8 v)=true:=decide_eq_true (λe=>h (UInt8.toNat_inj.1 (Int.ofNat.inj e)))
def hexd (l:List UInt8):List Nat:=l.map (λu=>(hexv u).getD 0)
theorem zkd: ∀ {l:List UInt8}{r:List Nat},hexs l=some r->r=hexd l
  | [],_,h=>by cases h;rfl
  |u::l,r,h=>by
    unfold hexs at h
    split at h
    · rename_i d r' h1 h2
      cases h
      rw [zkd h2]
      simp only [hexd,List.map_cons,h1,Option.getD_some]
    · cases h
theorem znM {l:List UInt8}{i d:Nat}{u:UInt8}(h:l[i]?=some u) (hd:hexv u=some d):(hexd l)[i]?=some d:=by
  simp only [hexd,List.getElem?_map,h,Option.map_some,hd,Option.getD_some]
theorem zpt (l:List UInt8): ∀d∈hexd l,d < 16:=by
  intro d hd
  simp only [hexd,List.mem_map] at hd
  obtain ⟨u,-,rfl⟩:=hd
  cases h:hexv u with
  |none=>decide
  |some d=>exact zel h
theorem zo3 (l:List UInt8) (i:Nat):nd 65536 (bev 16 ((hexd l).take i))<=l.length:=by
  refine zak _ _ _ (by decide) ?_
  refine Nat.lt_of_lt_of_le (zcg 16 _ (λd hd=>zpt l d (List.mem_of_mem_take hd))) ?_
  refine Nat.le_trans (Nat.pow_le_pow_left (by decide) _) (Nat.pow_le_pow_right (by decide) ?_)
  rw [List.length_take,hexd,List.length_map]
  exact Nat.min_le_right _ _
end Go.Nt
namespace Go.Proofs.YtcpjfilcilcekaaGreatDoor
open Go Go.Sy Go.Nt Go.RowKit
theorem zmy:refC 0= []:=by unfold refC cd;rw [zbu];rfl
attribute [local irreducible] Sy SyL SyX Sy.Fn callFunc natC refC iC
set_option maxRecDepth 10000
set_option maxHeartbeats 1000000 in
theorem zmY (l:List UInt8) (w:World) (hx:l.length < 10000):
    Sy.Fn Tryz.prog 103 [.string (str l)] w No (λv R=>match parse l with
      |none=>v= .tuple #[.slice none 0 0,.bool false]/\R= []
      |some x=>∃a c,v= .tuple #[.slice a (nd 65536 x) c,.bool true]/\R= [.row (.slice a (nd 65536 x) c) 3 1 (nd 65536 x) (refC x)]):=by
  refine zk Tryz.func103 rfl Tryz.ntmps103 (by simp) Holds.nil ?_
  repeat' (first|refine s_0 ?_|(refine za (id:=0) ?_;refine zd ?_;refine zd ?_)|fail)
  refine zaJ (γ:=Unit) (λ_=>[(0,.string (str l)),(2,.slice none 0 0),(3,.bool false),(19,.bool (badS l))]) (λ_=>[]) (λ_=>True) ?_ ?_
  · cases l with
    |nil=>
      rw [show badS []=true from rfl]
      have hz:decide ((((str []).size:Nat):Int)=0)=true:=rfl
      repeat' (first|refine z4 ?_|refine zO ?_|(refine za (id:=1) ?_;refine zb ?_;refine zr ?_;refine yv (z9 (hr:=hz)) (k:=?_);refine zb ?_;refine zl rfl rfl rfl ?_;refine zl rfl rfl rfl ?_;refine zl rfl rfl rfl ?_;refine zl rfl rfl rfl ?_;refine zl rfl rfl rfl ?_;refine zl rfl rfl rfl ?_;refine zl rfl rfl rfl ?_;refine zl rfl rfl rfl ?_;refine zp ?_)|fail)
      exact zN () trivial (by exact Sub.go) (by exact SubR.go)
    |cons u r=>
      have hsz:(str (u::r)).size=r.length+1:=rfl
      have hz:decide ((((str (u::r)).size:Nat):Int)=0)=false:=decide_eq_false (by rw [hsz];omega)
      by_cases hu:u=48
      · have h48:decide (((u.toNat:Nat):Int)=48)=true:=decide_eq_true (by rw [hu];rfl)
        by_cases hr:0 < r.length
        · rw [show badS (u::r)=true by simp only [badS,hu,decide_true,hr,Bool.and_self]]
          have hg:decide (1 < (((str (u::r)).size:Nat):Int))=true:=decide_eq_true (by rw [hsz];omega)
          repeat' (first|refine z4 ?_|refine zO ?_|(refine za (id:=1) ?_;refine zb ?_;refine zr ?_;refine yv (z9 (hr:=hz)) (k:=?_);refine zb ?_;refine zb ?_;refine yv (z7 (s:=str (u::r)) (u:=u) (hv:=rfl)) (k:=?_);refine yv (z9 (hr:=h48)) (k:=?_);refine zb ?_;refine zb ?_;refine zr ?_;refine yv (zaq (hr:=hg)) (k:=?_);refine zp ?_;refine zp ?_)|fail)
          exact zN () trivial (by exact Sub.go) (by exact SubR.go)
        · rw [show badS (u::r)=false by simp only [badS,hr,decide_false,Bool.and_false]]
          have hg:decide (1 < (((str (u::r)).size:Nat):Int))=false:=decide_eq_false (by rw [hsz];omega)
          repeat' (first|refine z4 ?_|refine zO ?_|(refine za (id:=1) ?_;refine zb ?_;refine zr ?_;refine yv (z9 (hr:=hz)) (k:=?_);refine zb ?_;refine zb ?_;refine yv (z7 (s:=str (u::r)) (u:=u) (hv:=rfl)) (k:=?_);refine yv (z9 (hr:=h48)) (k:=?_);refine zb ?_;refine zb ?_;refine zr ?_;refine yv (zaq (hr:=hg)) (k:=?_);refine zp ?_;refine zp ?_)|fail)
          exact zN () trivial (by exact Sub.go) (by exact SubR.go)
      · rw [show badS (u::r)=false by simp only [badS,hu,decide_false,Bool.false_and]]
        have h48:decide (((u.toNat:Nat):Int)=48)=false:=decide_eq_false (λh=>hu (UInt8.toNat_inj.1 (show u.toNat=48 by omega)))
        repeat' (first|refine z4 ?_|refine zO ?_|(refine za (id:=1) ?_;refine zb ?_;refine zr ?_;refine yv (z9 (hr:=hz)) (k:=?_);refine zb ?_;refine zb ?_;refine yv (z7 (s:=str (u::r)) (u:=u) (hv:=rfl)) (k:=?_);refine yv (z9 (hr:=h48)) (k:=?_);refine zb ?_;refine zl rfl rfl rfl ?_;refine zl rfl rfl rfl ?_;refine zl rfl rfl rfl ?_;refine zp ?_;refine zp ?_)|fail)
        exact zN () trivial (by exact Sub.go) (by exact SubR.go)
  rintro - -
  unfold parse
  cases hb:badS l with
  |true=>
    rw [if_pos rfl]
    repeat' (first|refine s_0 ?_|(refine za (id:=2) ?_;refine zd ?_;refine zd ?_)|fail)
    exact ret2 rfl (resTmp rfl) (resTmp rfl) SubR.nil ⟨rfl,rfl⟩
  |false=>
  rw [if_neg (by decide)]
  repeat' (first|refine s_t ?_|(refine za (id:=3) ?_;refine zd ?_)|(refine za (id:=4) ?_;refine zd ?_)|fail)
  refine zbk (zaZ 3 1) ?_
  obtain ⟨n,hn⟩: ∃n,n=l.length:=⟨_,rfl⟩
  have hsz:(str l).size=n:=by rw [hn];rfl
  have hnd:=zo3 l
  rw [<-hn] at hx hnd
  refine zD (γ:=Nat×Option Addr×Nat) (λg=>[(0,.string (str l)),(4,.slice g.2.1 (nd 65536 (bev 16 ((hexd l).take g.1))) g.2.2),(5,.int .i64 g.1)])
    (λg=>[.row (.slice g.2.1 (nd 65536 (bev 16 ((hexd l).take g.1))) g.2.2) 3 1 (nd 65536 (bev 16 ((hexd l).take g.1))) (refC (bev 16 ((hexd l).take g.1)))])
    (λg=>g.1<=n/\ ∀j < g.1,∃v d,l[j]?=some v/\hexv v=some d) (λg=>n - g.1) (0,none,0) ⟨Nat.zero_le _,λj hj=>absurd hj (by omega)⟩ ?_ ?_ ?_
  · rw [show bev 16 ((hexd l).take 0)=0 from rfl,zbu]
    exact Sub.go
  · show SubR [.row (.slice none (nd 65536 (bev 16 ((hexd l).take 0))) 0) 3 1 (nd 65536 (bev 16 ((hexd l).take 0))) (refC (bev 16 ((hexd l).take 0)))] _
    rw [show bev 16 ((hexd l).take 0)=0 from rfl,zbu,zmy]
    exact SubR.go
  rintro ⟨i,a,c⟩ ⟨hi,hok⟩
  dsimp only at hi hok ⊢
  have hX:=hnd i
  have hlss:decide (((i:Nat):Int) < (((str l).size:Nat):Int))=decide (i < n):=decide_eq_decide.2 (by rw [hsz];omega)
  by_cases hlt:i < n
  · obtain ⟨u,hu⟩: ∃u,l[i]?=some u:=⟨l[i]'(by omega),List.getElem?_eq_getElem _⟩
    have hch:(str l).data[i]?=some u:=by
      show l.toArray[i]?=_
      rw [List.getElem?_toArray,hu]
    rw [decide_eq_true hlt] at hlss
    have hti:=λd (hd:hexv u=some d)=>ze6 16 (hexd l) i d (znM hu hd)
    have hX1:=hnd (i+1)
    generalize hXX:bev 16 ((hexd l).take i)=X at *
    repeat' (first|refine s_t ?_|(refine za (id:=5) ?_;refine zb ?_;refine zb ?_;refine zr ?_;refine yv (zT (hr:=hlss)) (k:=?_))|(refine za (id:=7) ?_;refine zd ?_)|fail)
    have hdat: ∀q < 16,(str hexT).data[q]?=some (hexc q):=λq hq=>by
      show hexT.toArray[q]?=_
      rw [List.getElem?_toArray]
      exact znt q hq
    cases hd:hexv u with
    |none=>
      have hnone:hexs l=none:=by
        cases hh:hexs l with
        |none=>rfl
        |some r=>
          obtain ⟨d,h1,_⟩:=zcU hh i u hu
          rw [hd] at h1;cases h1
      rw [hnone]
      refine zD (γ:=Nat) (λq=>[(0,.string (str l)),(5,.int .i64 i),(6,.int .i64 q)]) (λ_=>[]) (λq=>q<=16) (λq=>16 - q) 0 (Nat.zero_le _) ?_ ?_ ?_
      · exact Sub.go
      · exact SubR.nil
      intro q hq
      by_cases hq6:q < 16
      · have hs:=hdat q hq6
        have hne:=zoB (zlP hd hq6)
        repeat' (first|refine s_t ?_|(refine zJ (id:=8) 8 [[],[0],[0,1],[0,1,2],[0,1,2,3],[0,1,2],[0,1,2],[0,1,2,5,6],[0,1,2,3,4,5,6,7],[0,1,2,3,4,5,6,7,8]] mixed ?_ ?_;kernel_rfl;refine zo ?_;refine zio ?_;refine zo ?_;refine zo ?_;refine dc (λ_ _=>z7 (s:=str hexT) (hv:=hs)) (k:=?_);refine zo ?_;refine zo ?_;refine dc (λ_ _=>z7 (s:=str l) (u:=u) (hv:=hch)) (k:=?_);refine zS ?_;refine yv (zbb (hr:=hne)) (k:=?_);refine zp ?_)|(refine za (id:=9) ?_;refine zb ?_;refine zV ?_;refine zd ?_)|fail)
        refine zu (q+1) ?_ ?_ ?_ ?_
        · show q+1<=16;omega
        · show 16 - (q+1) < 16 - q;omega
        · exact Sub.go
        · exact SubR.nil
      obtain rfl:q=16:=by omega
      repeat' (first|refine s_0 ?_|(refine zJ (id:=8) 8 [[],[0],[0,1],[0,1,2],[0,1,2,3],[0,1,2],[0,1,2],[0,1,2,5,6],[0,1,2,3,4,5,6,7],[0,1,2,3,4,5,6,7,8]] mixed ?_ ?_;kernel_rfl;refine zo ?_;refine zio ?_;refine zo ?_;refine zbl (λ_=>rfl) rfl ?_;refine zbl (λ_=>rfl) rfl ?_;refine zbl (λ_=>rfl) rfl ?_;refine zbl (λ_=>rfl) rfl ?_;refine zbl (λ_=>rfl) rfl ?_;refine zS ?_;refine zl rfl rfl rfl ?_;refine zp ?_)|(refine za (id:=10) ?_;refine zb ?_;refine zZ ?_)|(refine za (id:=11) ?_;refine zd ?_;refine zd ?_)|fail)
      exact ret2 rfl (resTmp rfl) (resTmp rfl) SubR.nil ⟨rfl,rfl⟩
    |some d=>
      have hd16:=zel hd
      have hti:=hti d hd
      refine zD (γ:=Nat) (λq=>[(0,.string (str l)),(4,.slice a (nd 65536 X) c),(5,.int .i64 i),(6,.int .i64 q)]) (λ_=>[.row (.slice a (nd 65536 X) c) 3 1 (nd 65536 X) (refC X)]) (λq=>q<=d) (λq=>d - q) 0 (Nat.zero_le _) ?_ ?_ ?_
      · exact Sub.go
      · exact SubR.go
      intro q hq
      by_cases hqd:q < d
      · have hs:=hdat q (by omega)
        have hne:=zoB (zpu hd (show q < 16 by omega) (by omega))
        repeat' (first|refine s_t ?_|(refine zJ (id:=8) 8 [[],[0],[0,1],[0,1,2],[0,1,2,3],[0,1,2],[0,1,2],[0,1,2,5,6],[0,1,2,3,4,5,6,7],[0,1,2,3,4,5,6,7,8]] mixed ?_ ?_;kernel_rfl;refine zo ?_;refine zio ?_;refine zo ?_;refine zo ?_;refine dc (λ_ _=>z7 (s:=str hexT) (hv:=hs)) (k:=?_);refine zo ?_;refine zo ?_;refine dc (λ_ _=>z7 (s:=str l) (u:=u) (hv:=hch)) (k:=?_);refine zS ?_;refine yv (zbb (hr:=hne)) (k:=?_);refine zp ?_)|(refine za (id:=9) ?_;refine zb ?_;refine zV ?_;refine zd ?_)|fail)
        refine zu (q+1) ?_ ?_ ?_ ?_
        · show q+1<=d;omega
        · show d - (q+1) < d - q;omega
        · exact Sub.go
        · exact SubR.go
      obtain rfl:q=d:=by omega
      have hs:=hdat q hd16
      rw [zqv hd] at hs
      have hne:decide (Wd.n8 u≠Wd.n8 u)=false:=decide_eq_false (λh=>h rfl)
      have hsh:=λw' (h:SlA w' a (refC X))=>zmr a c X 4 w' h (by omega) (by decide)
      rw [show X*2 ^ 4=X*16 from rfl] at hsh
      have hof:=λw'=>zet q w' (by omega)
      have hn16:nd 65536 (X*16) < 100000000:=by
        refine Nat.lt_of_le_of_lt (zak 65536 (X*16) (nd 65536 X+1) (by decide) ?_) (by omega)
        have:=zaa 65536 X (by decide)
        rw [Nat.pow_succ]
        omega
      have hnq:nd 65536 q < 100000000:=Nat.lt_of_le_of_lt (zak 65536 q 1 (by decide) (by omega)) (by decide)
      have had:=λw' a1 c1 a2 c2 (h1:SlA w' a1 (refC (X*16))) (h2:SlA w' a2 (refC q))=>zpk a1 a2 c1 c2 (X*16) q w' h1 h2 hn16 hnq
      rw [<-hti] at had
      generalize X*16=Y at *
      repeat' (first|refine s_0 ?_|(refine zJ (id:=8) 8 [[],[0],[0,1],[0,1,2],[0,1,2,3],[0,1,2],[0,1,2],[0,1,2,5,6],[0,1,2,3,4,5,6,7],[0,1,2,3,4,5,6,7,8]] mixed ?_ ?_;kernel_rfl;refine zo ?_;refine zio ?_;refine zo ?_;refine zo ?_;refine dc (λ_ _=>z7 (s:=str hexT) (hv:=hs)) (k:=?_);refine zo ?_;refine zo ?_;refine dc (λ_ _=>z7 (s:=str l) (u:=u) (hv:=hch)) (k:=?_);refine zS ?_;refine yv (zbb (hr:=hne)) (k:=?_);refine zp ?_)|(refine za (id:=10) ?_;refine zb ?_;refine zZ ?_)|(refine za (id:=12) ?_;refine zb ?_;(refine ys (zn (f:=138) (hc:=λw' X hk hh=>hsh w' (zM hh (by exact Has.append Has.go)))) (k:=?_);rintro _ _ ⟨R,rfl,a3,c3,rfl,rfl⟩);refine zb ?_;(refine ys (zn (f:=41) (hc:=λw' X hk hh=>hof w')) (k:=?_);rintro _ _ ⟨R,rfl,a4,c4,rfl,rfl⟩);(refine ys (zn (f:=137) (hc:=λw' X hk hh=>had w' _ _ _ _ (zM hh (by exact Has.append Has.go)) (zM hh (by exact Has.append Has.go)))) (k:=?_);rintro _ _ ⟨R,rfl,a5,c5,rfl,rfl⟩);refine zd ?_)|(refine za (id:=6) ?_;refine zb ?_;refine zV ?_;refine zd ?_)|fail)
      refine zu (i+1,a5,c5) ⟨by show i+1<=n;omega,λj hj=>?_⟩ ?_ ?_ ?_
      · rcases Nat.lt_or_ge j i with h|h
        · exact hok j h
        · obtain rfl:j=i:=by omega
          exact ⟨u,q,hu,hd⟩
      · show n - (i+1) < n - i;omega
      · exact Sub.go
      · exact SubR.go2
  obtain rfl:i=n:=by omega
  obtain ⟨r,hr⟩: ∃r,hexs l=some r:=by
    cases hh:hexs l with
    |some r=>exact ⟨r,rfl⟩
    |none=>
      obtain ⟨j,u,h1,h2,_⟩:=zfz hh
      have hj:j < l.length:=by
        rcases Nat.lt_or_ge j l.length with h|h
        · exact h
        · rw [List.getElem?_eq_none h] at h1;cases h1
      obtain ⟨v,d,h3,h4⟩:=hok j (by omega)
      rw [h1] at h3
      cases h3
      rw [h2] at h4;cases h4
  have htk:(hexd l).take i=hexd l:=List.take_of_length_le (by rw [hexd,List.length_map];omega)
  rw [hr,Option.map_some]
  dsimp only
  rw [htk,zkd hr]
  rw [decide_eq_false hlt] at hlss
  generalize bev 16 (hexd l)=X at *
  repeat' (first|refine s_0 ?_|(refine za (id:=5) ?_;refine zb ?_;refine zb ?_;refine zr ?_;refine yv (zT (hr:=hlss)) (k:=?_))|(refine za (id:=13) ?_;refine zb ?_;refine zd ?_;refine zd ?_)|fail)
  exact ret2 rfl (resTmp rfl) (resTmp rfl) (by exact SubR.go) ⟨a,c,rfl,rfl⟩
end Go.Proofs.YtcpjfilcilcekaaGreatDoor
end
section
namespace Go.Sy
open Go
theorem Has.appR {A L:List Res}{r:Res}(h:Has L r):Has (A ++ L) r:=List.mem_append_right _ h
end Go.Sy
namespace Go.Nt
open Go Go.Sy
theorem w64k:18446744073709551616 ^ 16=65536 ^ 64:=zef 65536 16 64 rfl rfl
theorem ndW {x:Nat}(h:x < 18446744073709551616 ^ 16):nd 65536 x<=64:=zak _ _ _ (by decide) (by rw [<-w64k];exact h)
theorem zoV (i:Nat) (h0:1<=i) (h5:i<=4):(gP i - 1) / 2=gQ i:=by
  have:=zlx i h0 h5;omega
end Go.Nt
namespace Go.Proofs.YtcpjfilcilcekaaGreatDoor
open Go Go.Sy Go.Nt Go.RowKit
attribute [local irreducible] Sy SyL SyX Sy.Fn callFunc natC refC iC gP gQ gL memB
set_option maxRecDepth 10000
theorem zho (z:Int) (w:World):Sy.Fn Tryz.prog 21 [.int .i64 z] w No (Gives (.bool (decide (1<=z/\z<=4)))):=by
  refine zk Tryz.func21 rfl Tryz.ntmps21 (by simp) Holds.nil ?_
  by_cases h1:1<=z
  · have g1:decide (z>=1)=true:=decide_eq_true h1
    have g2:decide (z<=4)=decide (1<=z/\z<=4):=decide_eq_decide.2 ⟨λh=>⟨h1,h⟩,λh=>h.2⟩
    generalize decide (1<=z/\z<=4)=b at *
    repeat' (first|refine s_0 ?_|(refine za (id:=0) ?_;refine zd ?_)|(refine za (id:=1) ?_;refine zb ?_;refine yv (zaN (hr:=g1)) (k:=?_);refine zb ?_;refine zb ?_;refine yv (zb2 (hr:=g2)) (k:=?_);refine zp ?_;refine zd ?_)|fail)
    exact ret1 rfl (resTmp rfl) SubR.nil ⟨rfl,rfl⟩
  · have g1:decide (z>=1)=false:=decide_eq_false h1
    rw [show decide (1<=z/\z<=4)=false from decide_eq_false (λh=>h1 h.1)]
    repeat' (first|refine s_0 ?_|(refine za (id:=0) ?_;refine zd ?_)|(refine za (id:=1) ?_;refine zb ?_;refine yv (zaN (hr:=g1)) (k:=?_);refine zb ?_;refine zl rfl rfl rfl ?_;refine zl rfl rfl rfl ?_;refine zp ?_;refine zd ?_)|fail)
    exact ret1 rfl (resTmp rfl) SubR.nil ⟨rfl,rfl⟩
theorem zdg (i:Nat) (w:World) (h0:1<=i) (h5:i<=4):Sy.Fn Tryz.prog 64 [.int .i64 (i:Int)] w No (RefG (gP i)):=by
  refine zk Tryz.func64 rfl Tryz.ntmps64 (by simp) Holds.nil ?_
  have g3:IntKind.i64.wrap ((i:Int) - 1)=((i - 1:Nat):Int):=by rw [IntWalk.i64_in _ (by omega)];omega
  have hcell:=zg2 i h0 h5
  have hpa:=λw'=>zmY (gS i) w' (by have:=zmd i h0 h5;omega)
  rw [ziw i h0 h5] at hpa
  dsimp only at hpa
  unfold RefG
  repeat' (first|refine s_0 ?_|(refine za (id:=0) ?_;refine zd ?_)|fail)
  refine za (id:=1) ?_
  refine ys (zt (vs:=gCells)) (k:=?_)
  rintro _ _ ⟨b6,rfl,rfl⟩
  generalize gCells=GC at *
  generalize gS i=S at *
  repeat' (first|refine s_0 ?_|(refine za (id:=2) ?_;refine zb ?_;(refine ys (zn (f:=103) (hc:=λw' X hk hh=>hpa w')) (k:=?_);rintro _ _ ⟨R,rfl,a1,c1,rfl,rfl⟩);refine zb ?_;refine zh ?_;refine zh ?_;refine zd ?_;refine zd ?_)|(refine za (id:=3) ?_;refine zb ?_;refine zd ?_)|(refine zB ?_;first|refine yv (zI (hr:=g3)) (k:=?_)|refine yv (zca (j:=i - 1)) (k:=?_)|refine yv (zH (hv:=hcell)) (k:=?_)|refine zd ?_|refine zb ?_|fail)|fail)
  exact ret1 rfl (resTmp rfl) (by exact SubR.go2) ⟨_,_,rfl,rfl⟩
theorem zm6 (i:Nat) (w:World) (h0:1<=i) (h5:i<=4):Sy.Fn Tryz.prog 84 [.int .i64 (i:Int)] w No (RefG (gQ i)):=by
  refine zk Tryz.func84 rfl Tryz.ntmps84 (by simp) Holds.nil ?_
  have hW:=za8 i h0 h5
  have k0:=ndW hW
  have hp1:=zax i h0 h5
  have hp:=λw'=>zdg i w' h0 h5
  have h1:=λw'=>zet 1 w' (by decide)
  have h2:=λw'=>zet 2 w' (by decide)
  have n1:=zak 65536 1 1 (by decide) (by decide)
  have n2:=zak 65536 2 1 (by decide) (by decide)
  have n3:=zki 65536 (gP i - 1) (gP i) (by decide) (Nat.sub_le _ _)
  have hs:=λw' a c a' c' (h:SlA w' a (refC (gP i))) (h':SlA w' a' (refC 1))=>zhl a a' c c' (gP i) 1 w' h h' (by omega) (by omega)
  have hd:=λw' a c a' c' (h:SlA w' a (refC (gP i - 1))) (h':SlA w' a' (refC 2))=>zeS a a' c c' (gP i - 1) 2 w' h h' (by omega) (by omega) (by decide)
  rw [zoV i h0 h5] at hd
  unfold RefG at *
  generalize (gP i - 1) % 2=r at *
  generalize gP i - 1=p1 at *
  generalize gP i=p at *
  generalize gQ i=q at *
  repeat' (first|refine s_0 ?_|(refine za (id:=0) ?_;refine zd ?_)|(refine za (id:=1) ?_;refine zb ?_;(refine ys (zn (f:=64) (hc:=λw' X hk hh=>hp w')) (k:=?_);rintro _ _ ⟨R,rfl,a1,c1,rfl,rfl⟩);(refine ys (zn (f:=41) (hc:=λw' X hk hh=>h1 w')) (k:=?_);rintro _ _ ⟨R,rfl,a2,c2,rfl,rfl⟩);(refine ys (zn (f:=105) (hc:=λw' X hk hh=>hs w' _ _ _ _ (zM hh (by exact Has.append Has.go)) (zM hh (by exact Has.append Has.go)))) (k:=?_);rintro _ _ ⟨R,rfl,a3,c3,rfl,rfl⟩);(refine ys (zn (f:=41) (hc:=λw' X hk hh=>h2 w')) (k:=?_);rintro _ _ ⟨R,rfl,a4,c4,rfl,rfl⟩);(refine ys (zn (f:=65) (hc:=λw' X hk hh=>hd w' _ _ _ _ (zM hh (by exact Has.append Has.go)) (zM hh (by exact Has.append Has.go)))) (k:=?_);rintro _ _ ⟨R,rfl,a5,c5,a6,c6,rfl,rfl⟩);refine zb ?_;refine zh ?_;refine zh ?_;refine zd ?_;refine zd ?_)|(refine za (id:=2) ?_;refine zb ?_;refine zd ?_)|fail)
  exact ret1 rfl (resTmp rfl) (by exact SubR.go2) ⟨_,_,rfl,rfl⟩
theorem hasI (i:Nat) (h0:1<=i) (h5:i<=4):decide (1<=(i:Int)/\(i:Int)<=4)=true:=decide_eq_true ⟨by omega,by omega⟩
theorem zo9 (i:Nat) (w:World) (h0:1<=i) (h5:i<=4):Sy.Fn Tryz.prog 48 [.int .i64 (i:Int)] w No (Gives (.int .i64 ((gL i:Nat):Int))):=by
  refine zk Tryz.func48 rfl Tryz.ntmps48 (by simp) Holds.nil ?_
  have hh:=λw'=>zho (i:Int) w'
  rw [hasI i h0 h5] at hh
  have k0:=ndW (za8 i h0 h5)
  have hp:=λw'=>zdg i w' h0 h5
  have hb:=λw' a c (h:SlA w' a (refC (gP i)))=>zh8 a c (gP i) w' h (by omega)
  rw [zgX i h0 h5] at hb
  unfold RefG at hp
  generalize byt (gP i)=D at *
  generalize gP i=p at *
  generalize gL i=l at *
  repeat' (first|refine s_0 ?_|(refine za (id:=0) ?_;refine zd ?_)|(refine za (id:=1) ?_;refine zb ?_;refine yv (zf (hc:=λ_ _ _ _=>(hh _))) (k:=?_);refine zaw ?_)|(refine za (id:=3) ?_;refine zb ?_;(refine ys (zn (f:=64) (hc:=λw' X hk hh=>hp w')) (k:=?_);rintro _ _ ⟨R,rfl,a1,c1,rfl,rfl⟩);(refine ys (zn (f:=63) (hc:=λw' X hk hh=>hb w' _ _ (zM hh (by exact Has.append Has.go)))) (k:=?_);rintro _ _ ⟨R,rfl,a2,c2,rfl,rfl⟩);refine zr ?_;refine zd ?_)|fail)
  exact ret1 rfl (resTmp rfl) SubR.nil ⟨rfl,rfl⟩
theorem zko (i:Nat) (a b:Option Addr) (ca cb x e:Nat) (w:World) (h0:1<=i) (h5:i<=4) (ha:SlA w a (refC x)) (hb:SlA w b (refC e)) (hx:nd 65536 x < 20000) (he:nd 65536 e < 20000):
    Sy.Fn Tryz.prog 45 [.int .i64 (i:Int),.slice a (nd 65536 x) ca,.slice b (nd 65536 e) cb] w No (RefG (x ^ e % gP i)):=by
  refine zk Tryz.func45 rfl Tryz.ntmps45 (by simp) Holds.nil ?_
  have k0:=ndW (za8 i h0 h5)
  have hp1:=zax i h0 h5
  have hp:=λw'=>zdg i w' h0 h5
  have hq:=λw' d cd (hk:Keep No w w') (h:SlA w' d (refC (gP i)))=>zoL a b d ca cb cd x e (gP i) w' (ha.to hk (λ_ h=> .inr h)).sla (hb.to hk (λ_ h=> .inr h)).sla h hx he (by omega) (by omega)
  unfold RefG at *
  generalize x ^ e % gP i=r at *
  generalize gP i=p at *
  repeat' (first|refine s_t ?_|(apply zbh;(focus ((repeat (first|exact Rem.here|apply Rem.there));done));assumption)|(refine za (id:=0) ?_;try refine zd ?_)|(refine za (id:=1) ?_;try refine zb ?_;try refine zb ?_;try refine zb ?_;try (first|(refine ys (zn (f:=64) (hc:=λw' X hk hh=>hp w')) (k:=?_);rintro _ _ ⟨R,rfl,a1,c1,rfl,rfl⟩)|(refine ys (zn (f:=87) (hc:=λw' X hk hh=>hq w' _ _ hk (zM hh (by exact Has.append Has.go)))) (k:=?_);rintro _ _ ⟨R,rfl,a2,c2,rfl,rfl⟩)|fail);try (first|(refine ys (zn (f:=64) (hc:=λw' X hk hh=>hp w')) (k:=?_);rintro _ _ ⟨R,rfl,a1,c1,rfl,rfl⟩)|(refine ys (zn (f:=87) (hc:=λw' X hk hh=>hq w' _ _ hk (zM hh (by exact Has.append Has.go)))) (k:=?_);rintro _ _ ⟨R,rfl,a2,c2,rfl,rfl⟩)|fail);try refine zd ?_)|(refine zB ?_;first|(refine ys (zn (f:=64) (hc:=λw' X hk hh=>hp w')) (k:=?_);rintro _ _ ⟨R,rfl,a1,c1,rfl,rfl⟩)|(refine ys (zn (f:=87) (hc:=λw' X hk hh=>hq w' _ _ hk (zM hh (by exact Has.append Has.go)))) (k:=?_);rintro _ _ ⟨R,rfl,a2,c2,rfl,rfl⟩)|refine zd ?_|refine zb ?_|fail)|refine za ?_|fail)
  exact ret1 rfl (resTmp rfl) (by exact SubR.go2) ⟨_,_,rfl,rfl⟩
theorem zmB (i:Nat) (b:Option Addr) (cb e:Nat) (w:World) (h0:1<=i) (h5:i<=4) (hb:SlA w b (refC e)) (he:nd 65536 e < 20000):
    Sy.Fn Tryz.prog 44 [.int .i64 (i:Int),.slice b (nd 65536 e) cb] w No (RefG (4 ^ e % gP i)):=by
  refine zk Tryz.func44 rfl Tryz.ntmps44 (by simp) Holds.nil ?_
  have h4:=λw'=>zet 4 w' (by decide)
  have n4:=zak 65536 4 1 (by decide) (by decide)
  have hq:=λw' a ca (hk:Keep No w w') (h:SlA w' a (refC 4))=>zko i a b ca cb 4 e w' h0 h5 h (hb.to hk (λ_ h=> .inr h)).sla (by omega) he
  unfold RefG at *
  generalize 4 ^ e % gP i=r at *
  repeat' (first|refine s_t ?_|(apply zbh;(focus ((repeat (first|exact Rem.here|apply Rem.there));done));assumption)|(refine za (id:=0) ?_;try refine zd ?_)|(refine za (id:=1) ?_;try refine zb ?_;try (first|(refine ys (zn (f:=41) (hc:=λw' X hk hh=>h4 w')) (k:=?_);rintro _ _ ⟨R,rfl,a1,c1,rfl,rfl⟩)|(refine ys (zn (f:=45) (hc:=λw' X hk hh=>hq w' _ _ hk (zM hh (by exact Has.append Has.go)))) (k:=?_);rintro _ _ ⟨R,rfl,a2,c2,rfl,rfl⟩)|fail);try refine zb ?_;try (first|(refine ys (zn (f:=41) (hc:=λw' X hk hh=>h4 w')) (k:=?_);rintro _ _ ⟨R,rfl,a1,c1,rfl,rfl⟩)|(refine ys (zn (f:=45) (hc:=λw' X hk hh=>hq w' _ _ hk (zM hh (by exact Has.append Has.go)))) (k:=?_);rintro _ _ ⟨R,rfl,a2,c2,rfl,rfl⟩)|fail);try refine zd ?_)|(refine zB ?_;first|(refine ys (zn (f:=41) (hc:=λw' X hk hh=>h4 w')) (k:=?_);rintro _ _ ⟨R,rfl,a1,c1,rfl,rfl⟩)|(refine ys (zn (f:=45) (hc:=λw' X hk hh=>hq w' _ _ hk (zM hh (by exact Has.append Has.go)))) (k:=?_);rintro _ _ ⟨R,rfl,a2,c2,rfl,rfl⟩)|refine zd ?_|refine zb ?_|fail)|refine za ?_|fail)
  exact ret1 rfl (resTmp rfl) (by exact SubR.go2) ⟨_,_,rfl,rfl⟩
theorem zkD (i:Nat) (a b:Option Addr) (ca cb x y:Nat) (w:World) (h0:1<=i) (h5:i<=4) (ha:SlA w a (refC x)) (hb:SlA w b (refC y)) (hx:nd 65536 x < 20000) (hy:nd 65536 y < 20000):
    Sy.Fn Tryz.prog 43 [.int .i64 (i:Int),.slice a (nd 65536 x) ca,.slice b (nd 65536 y) cb] w No (RefG (x*y % gP i)):=by
  refine zk Tryz.func43 rfl Tryz.ntmps43 (by simp) Holds.nil ?_
  have k0:=ndW (za8 i h0 h5)
  have hp1:=zax i h0 h5
  have hq0:=zaI i h0 h5
  have hp:=λw'=>zdg i w' h0 h5
  have hq:=λw' d cd (hk:Keep No w w') (h:SlA w' d (refC (gP i)))=>zkI a b d ca cb cd x y (gP i) w' (ha.to hk (λ_ h=> .inr h)).sla (hb.to hk (λ_ h=> .inr h)).sla h (by omega) (by omega) (by omega) (by omega)
  unfold RefG at *
  generalize x*y % gP i=r at *
  generalize gP i=p at *
  repeat' (first|refine s_0 ?_|(refine za (id:=0) ?_;refine zd ?_)|(refine za (id:=1) ?_;refine zb ?_;refine zb ?_;refine zb ?_;(refine ys (zn (f:=64) (hc:=λw' X hk hh=>hp w')) (k:=?_);rintro _ _ ⟨R,rfl,a1,c1,rfl,rfl⟩);(refine ys (zn (f:=86) (hc:=λw' X hk hh=>hq w' _ _ hk (zM hh (by exact Has.append Has.go)))) (k:=?_);rintro _ _ ⟨R,rfl,a2,c2,rfl,rfl⟩);refine zd ?_)|fail)
  exact ret1 rfl (resTmp rfl) (by exact SubR.go2) ⟨_,_,rfl,rfl⟩
theorem zgM (i:Nat) (a:Option Addr) (n c:Nat) (bl:List UInt8) (w:World) (h0:1<=i) (h5:i<=4) (hl:bl.length=n) (ha:SlA w a (bl.map v8)) (hn:n < 80000):
    Sy.Fn Tryz.prog 39 [.int .i64 (i:Int),.slice a n c] w No (RefG (bev 256 (bn bl) % gQ i)):=by
  refine zk Tryz.func39 rfl Tryz.ntmps39 (by simp) Holds.nil ?_
  have k0:=ndW (zbq i h0 h5)
  have hq0:=zaI i h0 h5
  have hp:=λw'=>zm6 i w' h0 h5
  have hf:=λw' (hk:Keep No w w')=>zjW a n c bl w' hl (ha.to hk (λ_ h=> .inr h)).sla (by omega)
  have kx:nd 65536 (bev 256 (bn bl))<=n:=zak 65536 _ _ (by decide) (Nat.lt_of_lt_of_le (zcg 256 (bn bl) (zdX bl)) (by rw [show (bn bl).length=n by unfold bn;rw [List.length_map,hl]];exact Nat.pow_le_pow_left (by decide) _))
  have hq:=λw' d cd d' cd' (h:SlA w' d (refC (bev 256 (bn bl)))) (h':SlA w' d' (refC (gQ i)))=>zeX d d' cd cd' (bev 256 (bn bl)) (gQ i) w' h h' (by omega) (by omega) (by omega)
  unfold RefG at *
  generalize bev 256 (bn bl) % gQ i=r at *
  generalize bev 256 (bn bl)=x at *
  generalize gQ i=q at *
  repeat' (first|refine s_0 ?_|(refine za (id:=0) ?_;refine zd ?_)|(refine za (id:=1) ?_;refine zb ?_;(refine ys (zn (f:=47) (hc:=λw' X hk hh=>hf w' hk)) (k:=?_);rintro _ _ ⟨R,rfl,a0,c0,rfl,rfl⟩);refine zb ?_;(refine ys (zn (f:=84) (hc:=λw' X hk hh=>hp w')) (k:=?_);rintro _ _ ⟨R,rfl,a1,c1,rfl,rfl⟩);(refine ys (zn (f:=83) (hc:=λw' X hk hh=>hq w' _ _ _ _ (zM hh (by exact Has.append Has.go)) (zM hh (by exact Has.append Has.go)))) (k:=?_);rintro _ _ ⟨R,rfl,a2,c2,rfl,rfl⟩);refine zd ?_)|fail)
  exact ret1 rfl (resTmp rfl) (by exact SubR.go2) ⟨_,_,rfl,rfl⟩
theorem zh9 (i:Nat) (a:Option Addr) (ca x:Nat) (w:World) (h0:1<=i) (h5:i<=4) (ha:SlA w a (refC x)) (hx:nd 65536 x < 20000) (hn:nd 256 x<=gL i):
    Sy.Fn Tryz.prog 22 [.int .i64 (i:Int),.slice a (nd 65536 x) ca] w No (RowOf 5 (gL i) ((fixB (gL i) x).map v8)):=by
  refine zk Tryz.func22 rfl Tryz.ntmps22 (by simp) Holds.nil ?_
  have hl96:=(zdl i h0 h5).2
  have hle:=λw'=>zo9 i w' h0 h5
  have hby:=λw' (hk:Keep No w w')=>zh8 a ca x w' (ha.to hk (λ_ h=> .inr h)).sla (by omega)
  have hbl:=zdw x
  unfold RowOf fixB
  generalize byt x=D at *
  generalize nd 256 x=n at *
  generalize gL i=l at *
  repeat' (first|refine s_t ?_|(refine za (id:=0) ?_;refine zd ?_)|(refine za (id:=1) ?_;refine zb ?_;(refine ys (zn (f:=63) (hc:=λw' X hk hh=>hby w' hk)) (k:=?_);rintro _ _ ⟨R,rfl,a0,c0,rfl,rfl⟩);refine zd ?_)|fail)
  refine zD (γ:=Nat×Option Addr×Nat) (λg=>[(0,.int .i64 (i:Int)),(5,.slice g.2.1 (g.1+n) g.2.2)]) (λg=>[.row (.slice g.2.1 (g.1+n) g.2.2) 5 1 (g.1+n) ((List.replicate g.1 0 ++ D).map v8)])
    (λg=>g.1+n<=l) (λg=>l - g.1) (0,a0,c0) (by show 0+n<=l;omega) ?_ ?_ ?_
  · dsimp only
    rw [Nat.zero_add]
    exact Sub.go
  · dsimp only
    rw [Nat.zero_add,List.replicate_zero,List.nil_append]
    exact SubR.go2
  rintro ⟨j,aj,cj⟩ hj
  dsimp only at hj ⊢
  rcases Nat.lt_or_ge (j+n) l with h|h
  · have hlt:decide (((j+n:Nat):Int) < (l:Int))=true:=decide_eq_true (by omega)
    have hE:(List.replicate j (0:UInt8) ++ D).length=j+n:=by rw [List.length_append,List.length_replicate,hbl]
    have hY:List.replicate (j+1) (0:UInt8) ++ D=0::(List.replicate j 0 ++ D):=by rw [List.replicate_succ,List.cons_append]
    generalize List.replicate j (0:UInt8) ++ D=E at *
    refine zb7 (λw' hh=>(Row.none hh (a:=aj) (n:=j+n) (c:=cj) Has.here:aj=none->cj=0)) λhnil=>?_
    repeat' (first|refine s_t ?_|(refine za (id:=2) ?_;refine zb ?_;refine zr ?_;refine zb ?_;refine yv (zf (hc:=λ_ _ _ _=>(hle _))) (k:=?_);refine yv (zT (hr:=hlt)) (k:=?_))|(refine za (id:=3) ?_;(refine ys zt (k:=?_);rintro _ _ ⟨_,rfl,rfl⟩);refine zb ?_;(refine ys (zbz (xs:=[.int .u8 0]) (k:=1) (m:=j+n) (km:=j+1+n) (hxn:=rfl) (hr:=Rd.row Has.go) (hn:=by rw [List.length_map,hE,Nat.mul_one]) (hnil:=hnil) (hkm:=by omega) (hys:=rfl)) (k:=?_);rintro _ _ ⟨rfl,aN,cN,rfl⟩);refine zd ?_)|fail)
    refine zu (j+1,aN,cN) ?_ ?_ ?_ ?_
    · show j+1+n<=l;omega
    · show l - (j+1) < l - j;omega
    · exact Sub.go
    · dsimp only
      rw [hY]
      exact SubR.go2
  · obtain rfl:l=j+n:=by omega
    have hlt:decide (((j+n:Nat):Int) < ((j+n:Nat):Int))=false:=decide_eq_false (by omega)
    rw [show j+n - n=j by omega]
    repeat' (first|refine s_0 ?_|(refine za (id:=2) ?_;refine zb ?_;refine zr ?_;refine zb ?_;refine yv (zf (hc:=λ_ _ _ _=>(hle _))) (k:=?_);refine yv (zT (hr:=hlt)) (k:=?_))|(refine za (id:=4) ?_;refine zb ?_;refine zd ?_)|fail)
    exact ret1 rfl (resTmp rfl) (by exact SubR.go2) ⟨_,_,rfl,rfl⟩
end Go.Proofs.YtcpjfilcilcekaaGreatDoor
end
section
namespace Go.Nt
open Go Go.Sy
end Go.Nt
namespace Go.Sy
open Go
section
variable {P:Program}{ro:Option Nat}{N:Nat}{w0:World}{M:Nat->Prop}{ds:List Deferred}{fr:Fr}{L:List Res}
end
end Go.Sy
namespace Go.Proofs.YtcpjfilcilcekaaGreatDoor
open Go Go.Sy Go.Nt Go.RowKit
attribute [local irreducible] Sy SyL SyX Sy.Fn callFunc natC rowN refC iC gP gQ gL memB safeC
set_option maxRecDepth 10000
end Go.Proofs.YtcpjfilcilcekaaGreatDoor
end
section
namespace Go.Nt
open Go Go.Sy
theorem zre:gP 1=2879:=rfl
theorem zrd:gQ 1=1439:=rfl
theorem zrb:gL 1=2:=rfl
theorem zrc:gL 4=96:=rfl
end Go.Nt
namespace Go.Proofs.YtcpjfilcilcekaaGreatDoor
open Go Go.Sy Go.Nt Go.RowKit
attribute [local irreducible] Sy SyL SyX Sy.Fn callFunc natC rowN refC iC gP gQ gL memB safeC
set_option maxRecDepth 10000
end Go.Proofs.YtcpjfilcilcekaaGreatDoor
end
section
namespace Go.Proofs.YtcpjfilcilcekaaGreatDoor
open Go Go.Sy Go.Nt Go.RowKit
attribute [local irreducible] Sy SyL SyX Sy.Fn callFunc natC rowN refC iC gP gQ gL memB safeC fixB
set_option maxRecDepth 10000
end Go.Proofs.YtcpjfilcilcekaaGreatDoor
end
