/- The specification's numbers: order, sum, difference, numbers moved. -/
import Derived.Test.YtcpjfilcilcekaaGreatDoorYJ18
import Derived.Laws.Small
set_option linter.all false
section
namespace Go.Sy
open Go
section
variable {P:Program}{ro:Option Nat}{N:Nat}{w0:World}{M:Nat->Prop}{ds:List Deferred}{g:Nat->Option Value}{L:List Res}{o:Oper}
theorem zpm {x z:Operand}{ts:Array TypeId}{k k':IntKind}{a b c:Int}(hr:min a b=c) (ho:o.op= .call { callee:=.builtin .min,args:=#[x,z],argTypes:=ts } :=by exact rfl) (hx:ev g x=some (.int k a):=by exact rfl) (hz:ev g z=some (.int k' b):=by exact rfl):OpT P ro N w0 M ds o g L (Det (.int k c) L):=
 OpT.still (by rw [ho];rfl) λaa w X hs=>by
  have:(if b < a then b else a)=c:=by rw [<-hr];split <;> omega
  subst this
  simp [execOp,ho,hs.agr.eval hx,hs.agr.eval hz,resolve,invoke,builtin,run_min_int2]
theorem zqF {x z:Operand}{ts:Array TypeId}{k k':IntKind}{a b c:Int}(hr:max a b=c) (ho:o.op= .call { callee:=.builtin .max,args:=#[x,z],argTypes:=ts } :=by exact rfl) (hx:ev g x=some (.int k a):=by exact rfl) (hz:ev g z=some (.int k' b):=by exact rfl):OpT P ro N w0 M ds o g L (Det (.int k c) L):=
 OpT.still (by rw [ho];rfl) λaa w X hs=>by
  have:(if b > a then b else a)=c:=by rw [<-hr];split <;> omega
  subst this
  simp [execOp,ho,hs.agr.eval hx,hs.agr.eval hz,resolve,invoke,builtin,run_max_int2]
end
end Go.Sy
namespace Go.Nt
open Go Go.Sy
theorem shlI (d r:Nat) (k:IntKind) (h:r < 64) (hb:d*2 ^ r < 9223372036854775808):Op.shift .shl .i64 (d:Int) k (r:Int)=pure (.int .i64 ((d*2 ^ r:Nat):Int)):=by
 have h1: ¬((r:Int) < 0):=by omega
 have h2: ¬64<=r:=by omega
 simp [Op.shift,h1,h2,IntKind.bits]
 have e:(d:Int)*2 ^ r=((d*2 ^ r:Nat):Int):=by simp
 rw [e,IntWalk.i64_in _ (by omega)]
theorem znD (n:Nat): ∀d∈List.replicate n 0,d < 65536:=λd hd=>by rw [(List.mem_replicate.1 hd).2];decide
theorem zgG (n:Nat):List.replicate n (Value.int IntKind.i64 0)=iC (List.replicate n 0):=by unfold iC;rw [List.map_replicate];rfl
end Go.Nt
namespace Go.Proofs.YtcpjfilcilcekaaGreatDoor
open Go Go.Sy Go.Nt Go.RowKit
attribute [local irreducible] Sy SyL SyX Sy.Fn callFunc natC refC iC
set_option maxRecDepth 10000
theorem zbq (a b:Option Addr) (ca cb x y:Nat) (w:World) (ha:SlA w a (refC x)) (hb:SlA w b (refC y)) (hx:nd 65536 x < 100000000) (hy:nd 65536 y < 100000000):
  Sy.Fn Tryz.prog 50 [.slice a (nd 65536 x) ca,.slice b (nd 65536 y) cb] w No (Gives (.int .i64 (cmpI x y))):=by
 refine zk Tryz.func50 rfl Tryz.ntmps50 (by simp) Holds.nil ?_
 have dx:=λi w' (hk:Keep No w w')=>za7 a ca x i w' (ha.to hk (λ_ h=> .inr h)).sla
 have dy:=λi w' (hk:Keep No w w')=>za7 b cb y i w' (hb.to hk (λ_ h=> .inr h)).sla
 have hlx:=zae 65536 x (by decide)
 have hly:=zae 65536 y (by decide)
 generalize nd 65536 x=n at *
 generalize nd 65536 y=m at *
 obtain ⟨k,hk⟩: ∃k,k=max n m:=⟨_,rfl⟩
 have hxk:x < 65536 ^ k:=Nat.lt_of_lt_of_le hlx (Nat.pow_le_pow_right (by decide) (by omega))
 have hyk:y < 65536 ^ k:=Nat.lt_of_lt_of_le hly (Nat.pow_le_pow_right (by decide) (by omega))
 have hmx:max (n:Int) (m:Int)=((k:Nat):Int):=by omega
 have hs1:IntKind.i64.wrap ((k:Int) - 1)=(k:Int) - 1:=IntWalk.i64_in _ (by omega)
 repeat' (first|refine s_t ?_|(refine za (id:=0) ?_;refine zd ?_)|(refine za (id:=1) ?_;refine zb ?_;refine zq ?_;refine zb ?_;refine zq ?_;refine yv (zqF (hr:=hmx)) (k:=?_);refine yv (zJ (hr:=hs1)) (k:=?_);refine zd ?_)|fail)
 refine zE (γ:=Nat) (λi=>[(0,.slice a n ca),(1,.slice b m cb),(5,.int .i64 ((i:Int) - 1))]) (λ_=>[]) (λi=>i<=k/\x / 65536 ^ i=y / 65536 ^ i) (λi=>i) k ⟨Nat.le_refl _,by rw [Nat.div_eq_of_lt hxk,Nat.div_eq_of_lt hyk]⟩ ?_ ?_ ?_
 ·exact Sub.go
 ·exact SubR.go
 rintro i ⟨hi,he⟩
 rcases Nat.eq_zero_or_pos i with h0|h0
 ·subst h0
  rw [Nat.pow_zero,Nat.div_one,Nat.div_one] at he
  subst he
  rw [zcF]
  repeat' (first|refine s_0 ?_|(refine za (id:=2) ?_;refine zb ?_;refine zac ?_)|(refine za (id:=8) ?_;refine zd ?_)|fail)
  exact ret1 rfl (resTmp rfl) SubR.nil ⟨rfl,rfl⟩
 obtain ⟨i,rfl⟩: ∃j,i=j+1:=⟨i - 1,by omega⟩
 have hij:(((i+1:Nat):Int) - 1)=((i:Nat):Int):=by omega
 have hs2:IntKind.i64.wrap ((i:Int) - 1)=(i:Int) - 1:=IntWalk.i64_in _ (by omega)
 rw [hij]
 have dx:=λw' hk=>dx i w' hk
 have dy:=λw' hk=>dy i w' hk
 have hlt:=zdm 65536 x y i (by decide) he
 have hgt:=zdm 65536 y x i (by decide) he.symm
 have heq:=ziV 65536 x y i he
 generalize x / 65536 ^ i % 65536=d at *
 generalize y / 65536 ^ i % 65536=e at *
 rcases Nat.lt_trichotomy d e with h|h|h
 ·rw [zeI (hlt h)]
  repeat' (first|refine s_t ?_|(refine za (id:=2) ?_;refine zb ?_;refine zac ?_)|(refine za (id:=4) ?_;refine zb ?_;refine zb ?_;refine yv (zf (hc:=λw' _ hk _=>dx w' hk)) (k:=?_);refine zb ?_;refine zb ?_;refine yv (zf (hc:=λw' _ hk _=>dy w' hk)) (k:=?_);refine zN ?_)|(refine za (id:=5) ?_;refine zd ?_)|fail)
  exact ret1 rfl (resTmp rfl) SubR.nil ⟨rfl,rfl⟩
 ·subst h
  repeat' (first|refine s_t ?_|(refine za (id:=2) ?_;refine zb ?_;refine zac ?_)|(refine za (id:=4) ?_;refine zb ?_;refine zb ?_;refine yv (zf (hc:=λw' _ hk _=>dx w' hk)) (k:=?_);refine zb ?_;refine zb ?_;refine yv (zf (hc:=λw' _ hk _=>dy w' hk)) (k:=?_);refine zN ?_)|(refine za (id:=6) ?_;refine zb ?_;refine zb ?_;refine yv (zf (hc:=λw' _ hk _=>dx w' hk)) (k:=?_);refine zb ?_;refine zb ?_;refine yv (zf (hc:=λw' _ hk _=>dy w' hk)) (k:=?_);refine zaa ?_)|(refine za (id:=3) ?_;refine zb ?_;refine yv (zJ (hr:=hs2)) (k:=?_);refine zd ?_)|fail)
  refine zy i ⟨by omega,heq rfl⟩ ?_ ?_ ?_
  ·show i < i+1;omega
  ·exact Sub.go
  ·exact SubR.go
 ·rw [zdL (hgt h)]
  repeat' (first|refine s_t ?_|(refine za (id:=2) ?_;refine zb ?_;refine zac ?_)|(refine za (id:=4) ?_;refine zb ?_;refine zb ?_;refine yv (zf (hc:=λw' _ hk _=>dx w' hk)) (k:=?_);refine zb ?_;refine zb ?_;refine yv (zf (hc:=λw' _ hk _=>dy w' hk)) (k:=?_);refine zN ?_)|(refine za (id:=6) ?_;refine zb ?_;refine zb ?_;refine yv (zf (hc:=λw' _ hk _=>dx w' hk)) (k:=?_);refine zb ?_;refine zb ?_;refine yv (zf (hc:=λw' _ hk _=>dy w' hk)) (k:=?_);refine zaa ?_)|(refine za (id:=7) ?_;refine zd ?_)|fail)
  exact ret1 rfl (resTmp rfl) SubR.nil ⟨rfl,rfl⟩
theorem zkJ (a b:Option Addr) (ca cb x y:Nat) (w:World) (ha:SlA w a (refC x)) (hb:SlA w b (refC y)) (hx:nd 65536 x < 100000000) (hy:nd 65536 y < 100000000):
  Sy.Fn Tryz.prog 137 [.slice a (nd 65536 x) ca,.slice b (nd 65536 y) cb] w No (RefG (x+y)):=by
 refine zk Tryz.func137 rfl Tryz.ntmps137 (by simp) Holds.nil ?_
 have dx:=λi w' (hk:Keep No w w')=>za7 a ca x i w' (ha.to hk (λ_ h=> .inr h)).sla
 have dy:=λi w' (hk:Keep No w w')=>za7 b cb y i w' (hb.to hk (λ_ h=> .inr h)).sla
 have hlx:=zae 65536 x (by decide)
 have hly:=zae 65536 y (by decide)
 generalize nd 65536 x=n at *
 generalize nd 65536 y=m at *
 repeat' (first|refine s_t ?_|(refine za (id:=0) ?_;refine zd ?_)|(refine za (id:=1) ?_;refine zd ?_)|(refine za (id:=2) ?_;refine zd ?_)|(refine za (id:=3) ?_;refine zd ?_)|fail)
 refine zbh (zaU 3 1) ?_
 refine zE (γ:=Nat×List Nat×Nat×Option Addr×Nat) (λg=>[(0,.slice a n ca),(1,.slice b m cb),(5,.slice g.2.2.2.1 g.1 g.2.2.2.2),(6,.int .i64 ((g.2.2.1:Nat):Int)),(7,.int .i64 g.1)]) (λg=>[.row (.slice g.2.2.2.1 g.1 g.2.2.2.2) 3 1 g.1 (iC g.2.1)])
  (λg=>g.1<=max n m+1/\g.2.2.1<=1/\OutJ 65536 (x % 65536 ^ g.1+y % 65536 ^ g.1) g.1 g.2.1 g.2.2.1) (λg=>max n m+1 - g.1) (0,[],0,none,0) ⟨Nat.zero_le _,by decide,by
   have:=OutJ.start 65536
   rw [show x % 65536 ^ 0+y % 65536 ^ 0=0 by rw [Nat.pow_zero,Nat.mod_one,Nat.mod_one]];exact this⟩ ?_ ?_ ?_
 ·exact Sub.go
 ·show SubR [.row (.slice none 0 0) 3 1 0 (iC [])] _
  rw [zg9]
  exact SubR.go
 rintro ⟨i,l,c,a1,c1⟩ ⟨hi,hc,hJ⟩
 dsimp only at hi hc hJ ⊢
 have hsum:=hJ.sum
 have hll:=hJ.len
 by_cases hgo:i < n\/i < m\/0 < c
 ·have him:i < max n m+1:=by
   rcases Nat.lt_or_ge i (max n m+1) with h|h
   ·exact h
   ·exfalso
    have hxi:x < 65536 ^ (i - 1):=Nat.lt_of_lt_of_le hlx (Nat.pow_le_pow_right (by decide) (by omega))
    have hyi:y < 65536 ^ (i - 1):=Nat.lt_of_lt_of_le hly (Nat.pow_le_pow_right (by decide) (by omega))
    have hc0:0 < c:=by omega
    have hpw:65536 ^ i=65536 ^ (i - 1)*65536:=by rw [<-Nat.pow_succ,show (i - 1).succ=i by omega]
    have h1:=Nat.mod_le x (65536 ^ i)
    have h2:=Nat.mod_le y (65536 ^ i)
    have h3:65536 ^ i<=c*65536 ^ i:=Nat.le_mul_of_pos_left _ hc0
    omega
  have hstep:=λt=>OutJ.step (t:=t) hJ (by decide) (T':=x % 65536 ^ (i+1)+y % 65536 ^ (i+1))
  have hnext:=zn7 65536 x y i c
  have dx:=λw' hk=>dx i w' hk
  have dy:=λw' hk=>dy i w' hk
  have hdl:x / 65536 ^ i % 65536 < 65536:=Nat.mod_lt _ (by decide)
  have hel:y / 65536 ^ i % 65536 < 65536:=Nat.mod_lt _ (by decide)
  generalize x / 65536 ^ i % 65536=d at *
  generalize y / 65536 ^ i % 65536=e at *
  have hstep:=hstep (d+e+c) hnext
  have h1:IntKind.i64.wrap ((d:Int)+(e:Int))=((d+e:Nat):Int):=by rw [IntWalk.i64_in _ (by omega)];omega
  have h2:IntKind.i64.wrap (((d+e:Nat):Int)+(c:Int))=((d+e+c:Nat):Int):=by rw [IntWalk.i64_in _ (by omega)];omega
  have h3:((d+e+c:Nat):Int).tmod 65536=(((d+e+c) % 65536:Nat):Int):=remI _ 65536
  have h4:IntKind.i64.wrap (((d+e+c:Nat):Int).tdiv 65536)=(((d+e+c) / 65536:Nat):Int):=quoI (k:=65536) (by omega)
  have hc':(d+e+c) / 65536<=1:=by omega
  repeat refine za6 ?_
  refine zaJ (γ:=Unit) (λ_=>[(0,.slice a n ca),(1,.slice b m cb),(5,.slice a1 i c1),(6,.int .i64 ((c:Nat):Int)),(7,.int .i64 i),(22,.bool true)]) (λ_=>[.row (.slice a1 i c1) 3 1 i (iC l)]) (λ_=>True) ?_ ?_
  ·by_cases g1:i < n
   ·have n1:decide ((i:Int) < (n:Int))=true:=decide_eq_true (by omega)
    repeat' (first|refine z6 ?_|refine zR ?_|(refine za (id:=4) ?_;refine zb ?_;refine zb ?_;refine zq ?_;refine yv (zP (hr:=n1)) (k:=?_);refine zb ?_;refine zj rfl rfl rfl ?_;refine zj rfl rfl rfl ?_;refine zj rfl rfl rfl ?_;refine zj rfl rfl rfl ?_;refine zo ?_;refine zb ?_;refine zj rfl rfl rfl ?_;refine zj rfl rfl rfl ?_;refine zo ?_)|fail)
    exact zO () trivial (by exact Sub.go) (by exact SubR.go)
   ·have n1:decide ((i:Int) < (n:Int))=false:=decide_eq_false (by omega)
    by_cases g2:i < m
    ·have n2:decide ((i:Int) < (m:Int))=true:=decide_eq_true (by omega)
     repeat' (first|refine z6 ?_|refine zR ?_|(refine za (id:=4) ?_;refine zb ?_;refine zb ?_;refine zq ?_;refine yv (zP (hr:=n1)) (k:=?_);refine zb ?_;refine zb ?_;refine zb ?_;refine zq ?_;refine yv (zP (hr:=n2)) (k:=?_);refine zo ?_;refine zb ?_;refine zj rfl rfl rfl ?_;refine zj rfl rfl rfl ?_;refine zo ?_)|fail)
     exact zO () trivial (by exact Sub.go) (by exact SubR.go)
    ·have n2:decide ((i:Int) < (m:Int))=false:=decide_eq_false (by omega)
     have n3:decide ((0:Int) < (c:Int))=true:=decide_eq_true (by omega)
     repeat' (first|refine z6 ?_|refine zR ?_|(refine za (id:=4) ?_;refine zb ?_;refine zb ?_;refine zq ?_;refine yv (zP (hr:=n1)) (k:=?_);refine zb ?_;refine zb ?_;refine zb ?_;refine zq ?_;refine yv (zP (hr:=n2)) (k:=?_);refine zo ?_;refine zb ?_;refine zb ?_;refine yv (zaf (hr:=n3)) (k:=?_);refine zo ?_)|fail)
     exact zO () trivial (by exact Sub.go) (by exact SubR.go)
  rintro - -
  repeat' (first|refine s_t ?_|(refine za (id:=6) ?_;refine zb ?_;refine zb ?_;refine yv (zf (hc:=λw' _ hk _=>dx w' hk)) (k:=?_);refine zb ?_;refine zb ?_;refine yv (zf (hc:=λw' _ hk _=>dy w' hk)) (k:=?_);refine yv (zL (hr:=h1)) (k:=?_);refine zb ?_;refine yv (zL (hr:=h2)) (k:=?_);refine zd ?_)|(refine za (id:=7) ?_;refine zb ?_;refine zb ?_;refine yv (zau (hr:=h3)) (k:=?_);(refine ys zt (k:=?_);rintro _ _ ⟨_,rfl,rfl⟩);(refine ys (zaj (k:=i) (m:=1) (hn:=rfl) (hkm:=rfl) (hys:=zc2 l ((d+e+c) % 65536))) (k:=?_);rintro _ _ ⟨rfl,aN,cN,rfl⟩);refine zd ?_)|(refine za (id:=8) ?_;refine zb ?_;refine yv (zaS (hr:=h4)) (k:=?_);refine zd ?_)|(refine za (id:=5) ?_;refine zb ?_;refine zY ?_;refine zd ?_)|fail)
  refine zy (i+1,l ++ [(d+e+c) % 65536],(d+e+c) / 65536,aN,cN) ⟨by show i+1<=_;omega,hc',hstep⟩ ?_ ?_ ?_
  ·show max n m+1 - (i+1) < max n m+1 - i;omega
  ·exact Sub.go
  ·exact SubR.go
 ·obtain rfl:c=0:=by omega
  have hv:vl 65536 l=x+y:=by
   rw [Nat.mod_eq_of_lt (Nat.lt_of_lt_of_le hlx (Nat.pow_le_pow_right (by decide) (by omega))),Nat.mod_eq_of_lt (Nat.lt_of_lt_of_le hly (Nat.pow_le_pow_right (by decide) (by omega)))] at hsum
   omega
  rw [<-hv]
  refine zci (λw' hh=>(Row.cap hh Has.here:i<=c1)) λhcap=>?_
  have n1:decide ((i:Int) < (n:Int))=false:=decide_eq_false (by omega)
  have n2:decide ((i:Int) < (m:Int))=false:=decide_eq_false (by omega)
  repeat' (first|refine s_0 ?_|(refine za (id:=4) ?_;refine zb ?_;refine zb ?_;refine zq ?_;refine yv (zP (hr:=n1)) (k:=?_);refine zb ?_;refine zb ?_;refine zb ?_;refine zq ?_;refine yv (zP (hr:=n2)) (k:=?_);refine zo ?_;refine zb ?_;refine zb ?_;refine zaa ?_;refine zo ?_)|(refine za (id:=9) ?_;refine zb ?_;refine yv (zf (hc:=λw' _ _ hh=>zcv a1 i c1 l w' hll hcap hJ.low (zu hh (by exact Has.append Has.here)) (by omega))) (k:=?_);refine zd ?_)|fail)
  refine zbv (zcX Rem.here hll hJ.low) ?_
  exact ret1 rfl (resTmp rfl) (by exact SubR.go) ⟨_,_,rfl,rfl⟩
theorem zga (a b:Option Addr) (ca cb x y:Nat) (w:World) (ha:SlA w a (refC x)) (hb:SlA w b (refC y)) (hx:nd 65536 x < 100000000) (hyx:y<=x):
  Sy.Fn Tryz.prog 105 [.slice a (nd 65536 x) ca,.slice b (nd 65536 y) cb] w No (RefG (x - y)):=by
 refine zk Tryz.func105 rfl Tryz.ntmps105 (by simp) Holds.nil ?_
 have dx:=λi w' (hk:Keep No w w')=>za7 a ca x i w' (ha.to hk (λ_ h=> .inr h)).sla
 have dy:=λi w' (hk:Keep No w w')=>za7 b cb y i w' (hb.to hk (λ_ h=> .inr h)).sla
 have hlx:=zae 65536 x (by decide)
 generalize nd 65536 x=n at *
 generalize nd 65536 y=m at *
 repeat' (first|refine s_t ?_|(refine za (id:=0) ?_;refine zd ?_)|(refine za (id:=1) ?_;refine zd ?_)|(refine za (id:=2) ?_;refine zd ?_)|(refine za (id:=3) ?_;refine zd ?_)|fail)
 refine zbh (zaU 3 1) ?_
 refine zE (γ:=Nat×List Nat×Nat×Option Addr×Nat) (λg=>[(0,.slice a n ca),(1,.slice b m cb),(5,.slice g.2.2.2.1 g.1 g.2.2.2.2),(6,.int .i64 ((g.2.2.1:Nat):Int)),(7,.int .i64 g.1)]) (λg=>[.row (.slice g.2.2.2.1 g.1 g.2.2.2.2) 3 1 g.1 (iC g.2.1)])
  (λg=>g.1<=n/\OutS 65536 x y g.1 g.2.1 g.2.2.1) (λg=>n - g.1) (0,[],0,none,0) ⟨Nat.zero_le _,OutS.start 65536 x y⟩ ?_ ?_ ?_
 ·exact Sub.go
 ·show SubR [.row (.slice none 0 0) 3 1 0 (iC [])] _
  rw [zg9]
  exact SubR.go
 rintro ⟨i,l,c,a1,c1⟩ ⟨hi,hJ⟩
 dsimp only at hi hJ ⊢
 have hll:=hJ.len
 have hc:=hJ.bit
 by_cases hlt:i < n
 ·have hstep:=λt c'=>OutS.step (t:=t) (c':=c') hJ
  have dx:=λw' hk=>dx i w' hk
  have dy:=λw' hk=>dy i w' hk
  have hdl:x / 65536 ^ i % 65536 < 65536:=Nat.mod_lt _ (by decide)
  have hel:y / 65536 ^ i % 65536 < 65536:=Nat.mod_lt _ (by decide)
  generalize x / 65536 ^ i % 65536=d at *
  generalize y / 65536 ^ i % 65536=e at *
  have h1:IntKind.i64.wrap ((d:Int) - (e:Int))=(d:Int) - (e:Int):=IntWalk.i64_in _ (by omega)
  have h2:IntKind.i64.wrap ((d:Int) - (e:Int) - (c:Int))=(d:Int) - (e:Int) - (c:Int):=IntWalk.i64_in _ (by omega)
  by_cases hneg:d < e+c
  ·have h3:decide ((d:Int) - (e:Int) - (c:Int) < 0)=true:=decide_eq_true (by omega)
   have h4:IntKind.i64.wrap ((d:Int) - (e:Int) - (c:Int)+65536)=((d+65536 - e - c:Nat):Int):=by rw [IntWalk.i64_in _ (by omega)];omega
   repeat' (first|refine s_t ?_|(refine za (id:=4) ?_;refine zb ?_;refine zb ?_;refine zq ?_;refine zN ?_)|(refine za (id:=6) ?_;refine zb ?_;refine zb ?_;refine yv (zf (hc:=λw' _ hk _=>dx w' hk)) (k:=?_);refine zb ?_;refine zb ?_;refine yv (zf (hc:=λw' _ hk _=>dy w' hk)) (k:=?_);refine yv (zJ (hr:=h1)) (k:=?_);refine zb ?_;refine yv (zJ (hr:=h2)) (k:=?_);refine zd ?_)|(refine za (id:=7) ?_;refine zd ?_)|(refine za (id:=8) ?_;refine zb ?_;refine yv (zP (hr:=h3)) (k:=?_))|(refine za (id:=9) ?_;refine zb ?_;refine yv (zL (hr:=h4)) (k:=?_);refine zd ?_;refine zd ?_)|(refine za (id:=10) ?_;refine zb ?_;refine zb ?_;(refine ys zt (k:=?_);rintro _ _ ⟨_,rfl,rfl⟩);(refine ys (zaj (k:=i) (m:=1) (hn:=rfl) (hkm:=rfl) (hys:=zc2 l (d+65536 - e - c))) (k:=?_);rintro _ _ ⟨rfl,aN,cN,rfl⟩);refine zd ?_)|(refine za (id:=5) ?_;refine zb ?_;refine zY ?_;refine zd ?_)|fail)
   refine zy (i+1,l ++ [d+65536 - e - c],1,aN,cN) ⟨by show i+1<=n;omega,hstep _ 1 (by omega) (by omega) (by omega)⟩ ?_ ?_ ?_
   ·show n - (i+1) < n - i;omega
   ·exact Sub.go
   ·exact SubR.go
  ·have h3:decide ((d:Int) - (e:Int) - (c:Int) < 0)=false:=decide_eq_false (by omega)
   have h5:(d:Int) - (e:Int) - (c:Int)=((d - e - c:Nat):Int):=by omega
   have h2:=h2.trans h5
   rw [h5] at h3
   repeat' (first|refine s_t ?_|(refine za (id:=4) ?_;refine zb ?_;refine zb ?_;refine zq ?_;refine zN ?_)|(refine za (id:=6) ?_;refine zb ?_;refine zb ?_;refine yv (zf (hc:=λw' _ hk _=>dx w' hk)) (k:=?_);refine zb ?_;refine zb ?_;refine yv (zf (hc:=λw' _ hk _=>dy w' hk)) (k:=?_);refine yv (zJ (hr:=h1)) (k:=?_);refine zb ?_;refine yv (zJ (hr:=h2)) (k:=?_);refine zd ?_)|(refine za (id:=7) ?_;refine zd ?_)|(refine za (id:=8) ?_;refine zb ?_;refine yv (zP (hr:=h3)) (k:=?_))|(refine za (id:=10) ?_;refine zb ?_;refine zb ?_;(refine ys zt (k:=?_);rintro _ _ ⟨_,rfl,rfl⟩);(refine ys (zaj (k:=i) (m:=1) (hn:=rfl) (hkm:=rfl) (hys:=zc2 l (d - e - c))) (k:=?_);rintro _ _ ⟨rfl,aN,cN,rfl⟩);refine zd ?_)|(refine za (id:=5) ?_;refine zb ?_;refine zY ?_;refine zd ?_)|fail)
   refine zy (i+1,l ++ [d - e - c],0,aN,cN) ⟨by show i+1<=n;omega,hstep _ 0 (by omega) (by omega) (by omega)⟩ ?_ ?_ ?_
   ·show n - (i+1) < n - i;omega
   ·exact Sub.go
   ·exact SubR.go
 ·obtain rfl:i=n:=by omega
  have hv:=hJ.done hlx hyx
  rw [<-hv]
  refine zci (λw' hh=>(Row.cap hh Has.here:i<=c1)) λhcap=>?_
  repeat' (first|refine s_0 ?_|(refine za (id:=4) ?_;refine zb ?_;refine zb ?_;refine zq ?_;refine zN ?_)|(refine za (id:=11) ?_;refine zb ?_;refine yv (zf (hc:=λw' _ _ hh=>zcv a1 i c1 l w' hll hcap hJ.low (zu hh (by exact Has.append Has.here)) (by omega))) (k:=?_);refine zd ?_)|fail)
  refine zbv (zcX Rem.here hll hJ.low) ?_
  exact ret1 rfl (resTmp rfl) (by exact SubR.go) ⟨_,_,rfl,rfl⟩
end Go.Proofs.YtcpjfilcilcekaaGreatDoor
namespace Go.Nt
theorem zpt {b r:Nat}(hr:r < 16) (hb:b=65536):2 ^ r<=32768:=by
 have:2 ^ r<=2 ^ 15:=Nat.pow_le_pow_right (by decide) (by omega)
 exact this
end Go.Nt
namespace Go.Proofs.YtcpjfilcilcekaaGreatDoor
open Go Go.Sy Go.Nt Go.RowKit
attribute [local irreducible] Sy SyL SyX Sy.Fn callFunc natC refC iC
set_option maxRecDepth 10000
theorem zm3 (a:Option Addr) (ca x n:Nat) (w:World) (ha:SlA w a (refC x)) (hx:nd 65536 x < 100000000) (hn:n < 1000000000):
  Sy.Fn Tryz.prog 138 [.slice a (nd 65536 x) ca,.int .i64 n] w No (RefG (x*2 ^ n)):=by
 refine zk Tryz.func138 rfl Tryz.ntmps138 (by simp) Holds.nil ?_
 have dx:=λi w' (hk:Keep No w w')=>za7 a ca x i w' (ha.to hk (λ_ h=> .inr h)).sla
 have hlx:=zae 65536 x (by decide)
 generalize nd 65536 x=k at *
 obtain ⟨z,hz⟩: ∃z,z=n / 16:=⟨_,rfl⟩
 obtain ⟨r,hr⟩: ∃r,r=n % 16:=⟨_,rfl⟩
 have hr16:r < 16:=by omega
 have hrl:=zpt hr16 rfl
 have q1:IntKind.i64.wrap ((n:Int).tdiv 16)=((z:Nat):Int):=by rw [hz];exact quoI (k:=16) (by omega)
 have q2:(n:Int).tmod 16=((r:Nat):Int):=by rw [hr];exact remI n 16
 repeat' (first|refine s_t ?_|(refine za (id:=0) ?_;refine zd ?_)|(refine za (id:=1) ?_;refine zb ?_;refine yv (zaS (hr:=q1)) (k:=?_))|(refine za (id:=2) ?_;refine zd ?_)|(refine za (id:=3) ?_;refine zd ?_)|(refine ys zcd (k:=?_);rintro _ _ ⟨b5,rfl,rfl⟩)|(refine zC ?_;first|refine zd ?_|fail)|fail)
 refine zbh (zb6 (n:=z) (s:=1) Rem.here (by simp) (by unfold maxLen;omega)) ?_
 refine zE (γ:=Nat×List Nat×Nat×Option Addr×Nat) (λg=>[(0,.slice a k ca),(1,.int .i64 n),(5,.slice g.2.2.2.1 (z+g.1) g.2.2.2.2),(6,.int .i64 ((g.2.2.1:Nat):Int)),(7,.int .i64 g.1)]) (λg=>[.row (.slice g.2.2.2.1 (z+g.1) g.2.2.2.2) 3 1 (z+g.1) (iC (List.replicate z 0 ++ g.2.1))])
  (λg=>g.1<=k+1/\g.2.2.1 < 32768/\OutJ 65536 (x % 65536 ^ g.1*2 ^ r) g.1 g.2.1 g.2.2.1) (λg=>k+1 - g.1) (0,[],0,some ⟨b5,0,none⟩,z) ⟨Nat.zero_le _,by show 0 < 32768;decide,by
   have:=OutJ.start 65536
   rw [show x % 65536 ^ 0*2 ^ r=0 by rw [Nat.pow_zero,Nat.mod_one,Nat.zero_mul]];exact this⟩ ?_ ?_ ?_
 ·exact Sub.go
 ·show SubR [.row (.slice (some ⟨b5,0,none⟩) z z) 3 1 z (iC (List.replicate z 0 ++ []))] _
  rw [List.append_nil,<-zgG]
  exact SubR.go
 rintro ⟨i,l,c,a1,c1⟩ ⟨hi,hc,hJ⟩
 dsimp only at hi hc hJ ⊢
 have hsum:=hJ.sum
 have hll:=hJ.len
 by_cases hgo:i < k\/0 < c
 ·have him:i < k+1:=by
   rcases Nat.lt_or_ge i (k+1) with h|h
   ·exact h
   ·exfalso
    have hxi:x < 65536 ^ (i - 1):=Nat.lt_of_lt_of_le hlx (Nat.pow_le_pow_right (by decide) (by omega))
    have hc0:0 < c:=by omega
    have hpw:65536 ^ i=65536 ^ (i - 1)*65536:=by rw [<-Nat.pow_succ,show (i - 1).succ=i by omega]
    have h1:x % 65536 ^ i*2 ^ r<=x*32768:=Nat.mul_le_mul (Nat.mod_le _ _) hrl
    have h3:65536 ^ i<=c*65536 ^ i:=Nat.le_mul_of_pos_left _ hc0
    omega
  have hstep:=λt=>OutJ.step (t:=t) hJ (by decide) (T':=x % 65536 ^ (i+1)*2 ^ r)
  have hnext:=zo0 65536 x (2 ^ r) i c
  have dx:=λw' hk=>dx i w' hk
  have hdl:x / 65536 ^ i % 65536 < 65536:=Nat.mod_lt _ (by decide)
  generalize x / 65536 ^ i % 65536=d at *
  have hstep:=hstep (d*2 ^ r+c) hnext
  have hdr:d*2 ^ r<=65535*32768:=Nat.mul_le_mul (by omega) hrl
  have h1:=shlI d r .i64 (by omega) (by omega)
  have h2:IntKind.i64.wrap (((d*2 ^ r:Nat):Int)+(c:Int))=((d*2 ^ r+c:Nat):Int):=by rw [IntWalk.i64_in _ (by omega)];omega
  have h3:((d*2 ^ r+c:Nat):Int).tmod 65536=(((d*2 ^ r+c) % 65536:Nat):Int):=remI _ 65536
  have h4:IntKind.i64.wrap (((d*2 ^ r+c:Nat):Int).tdiv 65536)=(((d*2 ^ r+c) / 65536:Nat):Int):=quoI (k:=65536) (by omega)
  generalize d*2 ^ r=f at *
  repeat refine za6 ?_
  refine zaJ (γ:=Unit) (λ_=>[(0,.slice a k ca),(1,.int .i64 n),(5,.slice a1 (z+i) c1),(6,.int .i64 ((c:Nat):Int)),(7,.int .i64 i),(19,.bool true)]) (λ_=>[.row (.slice a1 (z+i) c1) 3 1 (z+i) (iC (List.replicate z 0 ++ l))]) (λ_=>True) ?_ ?_
  ·by_cases g1:i < k
   ·have n1:decide ((i:Int) < (k:Int))=true:=decide_eq_true (by omega)
    repeat' (first|refine z6 ?_|refine zR ?_|(refine za (id:=4) ?_;refine zb ?_;refine zb ?_;refine zq ?_;refine yv (zP (hr:=n1)) (k:=?_);refine zb ?_;refine zj rfl rfl rfl ?_;refine zj rfl rfl rfl ?_;refine zo ?_)|fail)
    exact zO () trivial (by exact Sub.go) (by exact SubR.go)
   ·have n1:decide ((i:Int) < (k:Int))=false:=decide_eq_false (by omega)
    have n3:decide ((0:Int) < (c:Int))=true:=decide_eq_true (by omega)
    repeat' (first|refine z6 ?_|refine zR ?_|(refine za (id:=4) ?_;refine zb ?_;refine zb ?_;refine zq ?_;refine yv (zP (hr:=n1)) (k:=?_);refine zb ?_;refine zb ?_;refine yv (zaf (hr:=n3)) (k:=?_);refine zo ?_)|fail)
    exact zO () trivial (by exact Sub.go) (by exact SubR.go)
  rintro - -
  have hys:iC (List.replicate z 0 ++ l) ++ [iv ((f+c) % 65536)]=iC (List.replicate z 0 ++ (l ++ [(f+c) % 65536])):=by rw [zc2,List.append_assoc]
  repeat' (first|refine s_t ?_|(refine za (id:=6) ?_;refine zb ?_;refine zb ?_;refine yv (zf (hc:=λw' _ hk _=>dx w' hk)) (k:=?_);refine zb ?_;refine yv (zau (hr:=q2)) (k:=?_);refine yv (zec (hr:=h1)) (k:=?_);refine zb ?_;refine yv (zL (hr:=h2)) (k:=?_);refine zd ?_)|(refine za (id:=7) ?_;refine zb ?_;refine zb ?_;refine yv (zau (hr:=h3)) (k:=?_);(refine ys zt (k:=?_);rintro _ _ ⟨_,rfl,rfl⟩);(refine ys (zaj (k:=z+i) (m:=1) (km:=z+(i+1)) (hn:=rfl) (hkm:=rfl) (hys:=hys)) (k:=?_);rintro _ _ ⟨rfl,aN,cN,rfl⟩);refine zd ?_)|(refine za (id:=8) ?_;refine zb ?_;refine yv (zaS (hr:=h4)) (k:=?_);refine zd ?_)|(refine za (id:=5) ?_;refine zb ?_;refine zY ?_;refine zd ?_)|fail)
  refine zy (i+1,l ++ [(f+c) % 65536],(f+c) / 65536,aN,cN) ⟨by show i+1<=_;omega,by show (f+c) / 65536 < 32768;omega,hstep⟩ ?_ ?_ ?_
  ·show k+1 - (i+1) < k+1 - i;omega
  ·exact Sub.go
  ·exact SubR.go
 ·obtain rfl:c=0:=by omega
  have hlow: ∀d∈List.replicate z 0 ++ l,d < 65536:=λd hd=>by
   rcases List.mem_append.1 hd with h|h
   ·exact znD z d h
   ·exact hJ.low d h
  have hlen:(List.replicate z 0 ++ l).length=z+i:=by rw [List.length_append,List.length_replicate,hll]
  have hv:vl 65536 (List.replicate z 0 ++ l)=x*2 ^ n:=by
   rw [Nat.mod_eq_of_lt (Nat.lt_of_lt_of_le hlx (Nat.pow_le_pow_right (by decide) (by omega)))] at hsum
   rw [zdz,zcu,List.length_replicate,Nat.zero_add,show vl 65536 l=x*2 ^ r by omega,two16,show n=16*z+r by omega,Nat.pow_add]
   ac_rfl
  rw [<-hv]
  refine zci (λw' hh=>(Row.cap hh Has.here:z+i<=c1)) λhcap=>?_
  have n1:decide ((i:Int) < (k:Int))=false:=decide_eq_false (by omega)
  generalize List.replicate z 0 ++ l=l' at *
  repeat' (first|refine s_0 ?_|(refine za (id:=4) ?_;refine zb ?_;refine zb ?_;refine zq ?_;refine yv (zP (hr:=n1)) (k:=?_);refine zb ?_;refine zb ?_;refine zaa ?_;refine zo ?_)|(refine za (id:=9) ?_;refine zb ?_;refine yv (zf (hc:=λw' _ _ hh=>zcv a1 (z+i) c1 l' w' hlen hcap hlow (zu hh (by exact Has.append Has.here)) (by omega))) (k:=?_);refine zd ?_)|fail)
  refine zbv (zcX Rem.here hlen hlow) ?_
  exact ret1 rfl (resTmp rfl) (by exact SubR.go) ⟨_,_,rfl,rfl⟩
set_option maxHeartbeats 1000000 in
theorem zkZ (a b:Option Addr) (ca cb x y:Nat) (w:World) (ha:SlA w a (refC x)) (hb:SlA w b (refC y)) (hx:nd 65536 x < 100000000) (hy:nd 65536 y < 100000000):
  Sy.Fn Tryz.prog 104 [.slice a (nd 65536 x) ca,.slice b (nd 65536 y) cb] w No (RefG (x*y)):=by
 refine zk Tryz.func104 rfl Tryz.ntmps104 (by simp) Holds.nil ?_
 have dy:=λi w' (hk:Keep No w w')=>za7 b cb y i w' (hb.to hk (λ_ h=> .inr h)).sla
 have hlx:=zae 65536 x (by decide)
 have hly:=zae 65536 y (by decide)
 have hgx:=ze0 x
 have hlenx:=zd3 x
 generalize nd 65536 x=n at *
 generalize nd 65536 y=m at *
 obtain ⟨k,hk⟩: ∃k,k=n+m+1:=⟨_,rfl⟩
 have h1:IntKind.i64.wrap ((n:Int)+(m:Int))=((n+m:Nat):Int):=by rw [IntWalk.i64_in _ (by omega)];omega
 have h2:IntKind.i64.wrap (((n+m:Nat):Int)+1)=((k:Nat):Int):=by rw [IntWalk.i64_in _ (by omega)];omega
 have hst:=MulK.start 65536 k x y (by decide)
 repeat' (first|refine s_t ?_|(refine za (id:=0) ?_;refine zd ?_)|(refine za (id:=1) ?_;refine zb ?_;refine zq ?_;refine zb ?_;refine zq ?_;refine yv (zL (hr:=h1)) (k:=?_);refine yv (zL (hr:=h2)) (k:=?_))|(refine za (id:=2) ?_;refine zd ?_)|(refine ys zcd (k:=?_);rintro _ _ ⟨b5,rfl,rfl⟩)|(refine zC ?_;first|refine zd ?_|fail)|fail)
 refine zE (γ:=Nat×List Nat) (λg=>[(0,.slice a n ca),(1,.slice b m cb),(5,.slice (some ⟨b5,0,none⟩) k k),(6,.int .i64 g.1)]) (λg=>[.blk b5 3 (iC g.2)])
  (λg=>g.1<=n/\MulK 65536 k x y g.1 0 g.2 0) (λg=>n - g.1) (0,List.replicate k 0) ⟨Nat.zero_le _,hst⟩ ?_ ?_ ?_
 ·exact Sub.go
 ·show SubR [.blk b5 3 (iC (List.replicate k 0))] _
  rw [<-zgG]
  exact SubR.go
 rintro ⟨i,l⟩ ⟨hi,hJ⟩
 dsimp only at hi hJ ⊢
 by_cases hlt:i < n
 ·obtain ⟨ba,oa,rfl,hra⟩:=zeG ha (by omega)
  have hca:=hra i _ (hgx i hlt)
  repeat' (first|refine s_t ?_|(refine za (id:=3) ?_;refine zb ?_;refine zb ?_;refine zq ?_;refine zN ?_)|(refine za (id:=5) ?_;refine zd ?_)|(refine za (id:=6) ?_;refine zd ?_)|fail)
  refine zE (γ:=Nat×List Nat×Nat) (λg=>[(0,.slice (some ⟨ba,oa,none⟩) n ca),(1,.slice b m cb),(5,.slice (some ⟨b5,0,none⟩) k k),(6,.int .i64 i),(7,.int .i64 ((g.2.2:Nat):Int)),(8,.int .i64 g.1)]) (λg=>[.blk b5 3 (iC g.2.1)])
   (λg=>g.1<=m+1/\MulK 65536 k x y i g.1 g.2.1 g.2.2) (λg=>m+1 - g.1) (0,l,0) ⟨Nat.zero_le _,hJ⟩ ?_ ?_ ?_
  ·exact Sub.go
  ·exact SubR.go
  clear hJ
  rintro ⟨j,l,c⟩ ⟨hj,hJ⟩
  dsimp only at hj hJ ⊢
  have hll:=hJ.len
  have hml:(iC l).length=k:=by rw [zeA,hll]
  have hcK:=hJ.car
  by_cases hgo:j < m\/0 < c
  ·have hjm:j<=m:=by
    rcases Nat.lt_or_ge j m with h|h
    ·omega
    ·exact hJ.place (by decide) hly h (by omega)
   obtain ⟨u,hu⟩: ∃u,l[i+j]?=some u:=⟨l[i+j]'(by omega),List.getElem?_eq_getElem _⟩
   have huK:=hJ.low u (List.mem_of_getElem? hu)
   have hu':=zjG hu
   have hstep:=λz c'=>hJ.step (z:=z) (c':=c') hu
   have dy:=λw' hk=>dy j w' hk
   have hdl:x / 65536 ^ i % 65536 < 65536:=Nat.mod_lt _ (by decide)
   have hel:y / 65536 ^ j % 65536 < 65536:=Nat.mod_lt _ (by decide)
   generalize x / 65536 ^ i % 65536=d at *
   generalize y / 65536 ^ j % 65536=e at *
   have hpl:=zoE hdl hel huK hcK
   have hde:d*e<=65535*65535:=Nat.mul_le_mul (by omega) (by omega)
   have hstep:=hstep ((u+d*e+c) % 65536) ((u+d*e+c) / 65536) (Nat.mod_lt _ (by decide)) hpl (by
    have:=Nat.mod_add_div (u+d*e+c) 65536
    omega)
   have a1:IntKind.i64.wrap ((i:Int)+(j:Int))=((i+j:Nat):Int):=by rw [IntWalk.i64_in _ (by omega)];omega
   have a2:IntKind.i64.wrap ((d:Int)*(e:Int))=((d*e:Nat):Int):=by
    rw [show ((d:Nat):Int)*((e:Nat):Int)=((d*e:Nat):Int) by simp,IntWalk.i64_in _ (by omega)]
   generalize d*e=f at *
   have a3:IntKind.i64.wrap ((u:Int)+(f:Int))=((u+f:Nat):Int):=by rw [IntWalk.i64_in _ (by omega)];omega
   have a4:IntKind.i64.wrap (((u+f:Nat):Int)+(c:Int))=((u+f+c:Nat):Int):=by rw [IntWalk.i64_in _ (by omega)];omega
   have a5:((u+f+c:Nat):Int).tmod 65536=(((u+f+c) % 65536:Nat):Int):=remI _ 65536
   have a6:IntKind.i64.wrap (((u+f+c:Nat):Int).tdiv 65536)=(((u+f+c) / 65536:Nat):Int):=quoI (k:=65536) (by omega)
   repeat refine za6 ?_
   refine zaJ (γ:=Unit) (λ_=>[(0,.slice (some ⟨ba,oa,none⟩) n ca),(1,.slice b m cb),(5,.slice (some ⟨b5,0,none⟩) k k),(6,.int .i64 i),(7,.int .i64 ((c:Nat):Int)),(8,.int .i64 j),(30,.bool true)]) (λ_=>[.blk b5 3 (iC l)]) (λ_=>True) ?_ ?_
   ·by_cases g1:j < m
    ·have n1:decide ((j:Int) < (m:Int))=true:=decide_eq_true (by omega)
     repeat' (first|refine z6 ?_|refine zR ?_|(refine za (id:=7) ?_;refine zb ?_;refine zb ?_;refine zq ?_;refine yv (zP (hr:=n1)) (k:=?_);refine zb ?_;refine zj rfl rfl rfl ?_;refine zj rfl rfl rfl ?_;refine zo ?_)|fail)
     exact zO () trivial (by exact Sub.go) (by exact SubR.go)
    ·have n1:decide ((j:Int) < (m:Int))=false:=decide_eq_false (by omega)
     have n3:decide ((0:Int) < (c:Int))=true:=decide_eq_true (by omega)
     repeat' (first|refine z6 ?_|refine zR ?_|(refine za (id:=7) ?_;refine zb ?_;refine zb ?_;refine zq ?_;refine yv (zP (hr:=n1)) (k:=?_);refine zb ?_;refine zb ?_;refine yv (zaf (hr:=n3)) (k:=?_);refine zo ?_)|fail)
     exact zO () trivial (by exact Sub.go) (by exact SubR.go)
   rintro - -
   repeat' (first|refine s_t ?_|(refine zK (id:=9) 16 [[],[],[],[1,2],[0,1,2,3],[0,1,2,3,4],[],[],[6,7],[6,7,8],[],[],[10,11],[6,7,8,9,10,11,12],[0,1,2,3,4,5,6,7,8,9,10,11,12,13],[],[0,1,2,3,4,5,6,7,8,9,10,11,12,13,14,15],[0,1,2,3,4,5,6,7,8,9,10,11,12,13,14,15,16]] mixed ?_ ?_;kernel_rfl;refine zp ?_;refine zp ?_;refine zp ?_;refine dc (λ_ _=>zL (hr:=a1)) (k:=?_);refine zH ?_;refine dc (λ_ _=>zw (hv:=hu')) (k:=?_);refine zp ?_;refine zp ?_;refine zH ?_;refine dc (λ_ _=>zx (hv:=hca)) (k:=?_);refine zp ?_;refine zp ?_;refine dc (λ_ _=>zf (hc:=λw' _ hk _=>dy w' hk)) (k:=?_);refine dc (λ_ _=>zan (hr:=a2)) (k:=?_);refine dc (λ_ _=>zL (hr:=a3)) (k:=?_);refine zp ?_;refine zU ?_;refine yv (zL (hr:=a4)) (k:=?_);refine zd ?_)|(refine za (id:=10) ?_;refine zb ?_;refine zb ?_;refine zb ?_;refine yv (zL (hr:=a1)) (k:=?_);refine zb ?_;refine yv (zau (hr:=a5)) (k:=?_);refine zr ?_;refine zB ?_)|(refine za (id:=11) ?_;refine zb ?_;refine yv (zaS (hr:=a6)) (k:=?_);refine zd ?_)|(refine za (id:=8) ?_;refine zb ?_;refine zY ?_;refine zd ?_)|fail)
   refine zy (j+1,l.set (i+j) ((u+f+c) % 65536),(u+f+c) / 65536) ⟨by show j+1<=_;omega,hstep⟩ ?_ ?_ ?_
   ·show m+1 - (j+1) < m+1 - j;omega
   ·exact Sub.go
   ·show SubR [.blk b5 3 (iC (l.set (i+j) ((u+f+c) % 65536)))] _
    rw [show iC (l.set (i+j) ((u+f+c) % 65536))=(iC l).set (i+j) (iv ((u+f+c) % 65536)) by unfold iC;rw [List.map_set]]
    exact SubR.go
  ·obtain rfl:c=0:=by omega
   have n1:decide ((j:Int) < (m:Int))=false:=decide_eq_false (by omega)
   repeat' (first|refine s_0 ?_|(refine za (id:=7) ?_;refine zb ?_;refine zb ?_;refine zq ?_;refine yv (zP (hr:=n1)) (k:=?_);refine zb ?_;refine zb ?_;refine zaa ?_;refine zo ?_)|(refine za (id:=4) ?_;refine zb ?_;refine zY ?_;refine zd ?_)|fail)
   refine zy (i+1,l) ⟨by show i+1<=n;omega,hJ.row (Nat.lt_of_lt_of_le hly (Nat.pow_le_pow_right (by decide) (by omega))) (by decide)⟩ ?_ ?_ ?_
   ·show n - (i+1) < n - i;omega
   ·exact Sub.go
   ·exact SubR.go
 ·obtain rfl:i=n:=by omega
  have hv:=hJ.done hlx
  have hll:=hJ.len
  rw [<-hv]
  repeat' (first|refine s_0 ?_|(refine za (id:=3) ?_;refine zb ?_;refine zb ?_;refine zq ?_;refine zN ?_)|(refine za (id:=12) ?_;refine zb ?_;refine yv (zf (hc:=λw' _ _ hh=>zcv (some ⟨b5,0,none⟩) k k l w' hll (Nat.le_refl _) hJ.low (.inr ⟨b5,0,rfl,zz (hh.has (by exact Has.append Has.here)) Seg.all⟩) (by omega))) (k:=?_);refine zd ?_)|fail)
  refine zbv (zb6 (n:=k) (s:=1) Rem.here (by rw [zeA];omega) (by unfold maxLen;omega)) ?_
  refine zbv (zcX Rem.here hll hJ.low) ?_
  exact ret1 rfl (resTmp rfl) (by exact SubR.go) ⟨_,_,rfl,rfl⟩
end Go.Proofs.YtcpjfilcilcekaaGreatDoor
end
