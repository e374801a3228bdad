/- The specification's numbers: order, sum, difference, numbers moved. -/
import Derived.Test.YtdnlngbjpdbffaaGreatDoorLJ17
import Derived.Laws.Small
set_option maxHeartbeats 1000000
set_option maxRecDepth 10000
set_option linter.all false
section
namespace Go.Sy
open Go
section
variable {P:Program}{ro:Option Nat}{N:Nat}{w0:World}{M:Nat->Prop}{ds:List Deferred}{g:Nat->Option Value}{L:List Res}{o:Oper}
theorem zp1 {x z:Operand}{ts:Array TypeId}{k k':IntKind}{a b c:Int}(hr:min a b=c) (ho:o.op= .call { callee:=.builtin .min,args:=#[x,z],argTypes:=ts } :=by exact rfl) (hx:ev g x=some (.int k a):=by exact rfl) (hz:ev g z=some (.int k' b):=by exact rfl):OpT P ro N w0 M ds o g L (Det (.int k c) L):=
 OpT.still (by rw [ho];rfl) λaa w X hs=>by
  have:(if b < a then b else a)=c:=by rw [<-hr];split <;> omega
  subst this;simp [execOp,ho,hs.agr.eval hx,hs.agr.eval hz,resolve,invoke,builtin,run_min_int2]
theorem zrs {x z:Operand}{ts:Array TypeId}{k k':IntKind}{a b c:Int}(hr:max a b=c) (ho:o.op= .call { callee:=.builtin .max,args:=#[x,z],argTypes:=ts } :=by exact rfl) (hx:ev g x=some (.int k a):=by exact rfl) (hz:ev g z=some (.int k' b):=by exact rfl):OpT P ro N w0 M ds o g L (Det (.int k c) L):=
 OpT.still (by rw [ho];rfl) λaa w X hs=>by
  have:(if b > a then b else a)=c:=by rw [<-hr];split <;> omega
  subst this;simp [execOp,ho,hs.agr.eval hx,hs.agr.eval hz,resolve,invoke,builtin,run_max_int2]
end
end Go.Sy
namespace Go.Nt
open Go Go.Sy
theorem shlI (d r:Nat) (k:IntKind) (h:r < 64) (hb:d*2 ^ r < 9223372036854775808):Op.shift .shl .i64 (d:Int) k (r:Int)=pure (.int .i64 ((d*2 ^ r:Nat):Int)):=by
 have h1: ¬((r:Int) < 0):=q_o;have h2: ¬64<=r:=q_o;simp [Op.shift,h1,h2,IntKind.bits];have e:(d:Int)*2 ^ r=((d*2 ^ r:Nat):Int):=by simp
 rw [e,IntWalk.i64_in _ q_o]
theorem zmU (n:Nat): ∀d∈List.replicate n 0,d < 65536:=λd hd=>by rw [(List.mem_replicate.1 hd).2];decide
theorem zgB (n:Nat):List.replicate n (Value.int IntKind.i64 0)=iC (List.replicate n 0):=by unfold iC;rw [List.map_replicate];rfl
end Go.Nt
namespace Go.Proofs.YtdnlngbjpdbffaaGreatDoor
open Go Go.Sy Go.Nt Go.RowKit
attribute [local irreducible] Sy SyL SyX Sy.Fn callFunc natC refC iC
theorem zce (a b:Option Addr) (ca cb x y:Nat) (w:World) (ha:SlA w a (refC x)) (hb:SlA w b (refC y)) (hx:nd 65536 x < 100000000) (hy:nd 65536 y < 100000000):
  Sy.Fn Tryz.prog 162 [.slice a (nd 65536 x) ca,.slice b (nd 65536 y) cb] w No (Gives (.int .i64 (cmpI x y))):=by
 refine zg Tryz.func162 rfl Tryz.ntmps162 q_p Holds.nil ?_;have dx:=λi w' (hk:Keep No w w')=>za8 a ca x i w' (ha.to hk (λ_ h=> .inr h)).sla;have dy:=λi w' (hk:Keep No w w')=>za8 b cb y i w' (hb.to hk (λ_ h=> .inr h)).sla;have hlx:=zai 65536 x q_e;have hly:=zai 65536 y q_e;generalize nd 65536 x=n at *;generalize nd 65536 y=m at *;obtain ⟨k,hk⟩: ∃k,k=max n m:=⟨_,rfl⟩;have hxk:x < 65536 ^ k:=Nat.lt_of_lt_of_le hlx (Nat.pow_le_pow_right q_e q_o);have hyk:y < 65536 ^ k:=Nat.lt_of_lt_of_le hly (Nat.pow_le_pow_right q_e q_o);have hmx:max (n:Int) (m:Int)=((k:Nat):Int):=q_o;have hs1:IntKind.i64.wrap ((k:Int) - 1)=(k:Int) - 1:=IntWalk.i64_in _ q_o;repeat' (first|refine s_t ?_|(refine zb 0 (za ?_))|(refine zb 1 (za ?_);refine yv (zrs (hr:=hmx)) (k:=?_);refine yv (zD (hr:=hs1)) (k:=za ?_)))
 refine zy (γ:=Nat) (λi=>[(0,.slice a n ca),(1,.slice b m cb),(5,.int .i64 ((i:Int) - 1))]) (λ_=>[]) (λi=>i<=k/\x / 65536 ^ i=y / 65536 ^ i) (λi=>i) k ⟨Nat.le_refl _,by rw [Nat.div_eq_of_lt hxk,Nat.div_eq_of_lt hyk]⟩ ?_ ?_ ?_
 ·exact q_h
 ·exact q_h
 rintro i ⟨hi,he⟩;rcases Nat.eq_zero_or_pos i with h0|h0
 ·subst h0;rw [Nat.pow_zero,Nat.div_one,Nat.div_one] at he;subst he;rw [zfp];repeat' (first|refine s_0 ?_|(refine zb 2 (za ?_);refine zad ?_)|(refine zb 8 (za ?_)))
  exact q_r
 obtain ⟨i,rfl⟩: ∃j,i=j+1:=⟨i - 1,by omega⟩;have hij:(((i+1:Nat):Int) - 1)=((i:Nat):Int):=q_o;have hs2:IntKind.i64.wrap ((i:Int) - 1)=(i:Int) - 1:=IntWalk.i64_in _ q_o;rw [hij];have dx:=λw' hk=>dx i w' hk;have dy:=λw' hk=>dy i w' hk;have hlt:=zde 65536 x y i q_e he;have hgt:=zde 65536 y x i q_e he.symm;have heq:=zjh 65536 x y i he;generalize x / 65536 ^ i % 65536=d at *;generalize y / 65536 ^ i % 65536=e at *;rcases Nat.lt_trichotomy d e with h|h|h
 ·rw [zeH (hlt h)];repeat' (first|refine s_t ?_|(refine zb 2 (za ?_);refine zad ?_)|(refine zb 4 (za ?_);refine yv (zd (hc:=zr dx)) (k:=?_);refine za ?_;refine yv (zd (hc:=zr dy)) (k:=?_);refine zL ?_)|(refine zb 5 (za ?_)))
  exact q_r
 ·subst h;repeat' (first|refine s_t ?_|(refine zb 2 (za ?_);refine zad ?_)|(refine zb 4 (za ?_);refine yv (zd (hc:=zr dx)) (k:=?_);refine za ?_;refine yv (zd (hc:=zr dy)) (k:=?_);refine zL ?_)|(refine zb 6 (za ?_);refine yv (zd (hc:=zr dx)) (k:=?_);refine za ?_;refine yv (zd (hc:=zr dy)) (k:=?_);refine zak ?_)|(refine zb 3 (za ?_);refine yv (zD (hr:=hs2)) (k:=za ?_)))
  refine zq i ⟨by omega,heq rfl⟩ ?_ ?_ ?_
  ·show i < i+1;omega
  ·exact q_h
  ·exact q_h
 ·rw [zfV (hgt h)];repeat' (first|refine s_t ?_|(refine zb 2 (za ?_);refine zad ?_)|(refine zb 4 (za ?_);refine yv (zd (hc:=zr dx)) (k:=?_);refine za ?_;refine yv (zd (hc:=zr dy)) (k:=?_);refine zL ?_)|(refine zb 6 (za ?_);refine yv (zd (hc:=zr dx)) (k:=?_);refine za ?_;refine yv (zd (hc:=zr dy)) (k:=?_);refine zak ?_)|(refine zb 7 (za ?_)))
  exact q_r
theorem zkY (a b:Option Addr) (ca cb x y:Nat) (w:World) (ha:SlA w a (refC x)) (hb:SlA w b (refC y)) (hx:nd 65536 x < 100000000) (hy:nd 65536 y < 100000000):
  Sy.Fn Tryz.prog 277 [.slice a (nd 65536 x) ca,.slice b (nd 65536 y) cb] w No (RefG (x+y)):=by
 refine zg Tryz.func277 rfl Tryz.ntmps277 q_p Holds.nil ?_;have dx:=λi w' (hk:Keep No w w')=>za8 a ca x i w' (ha.to hk (λ_ h=> .inr h)).sla;have dy:=λi w' (hk:Keep No w w')=>za8 b cb y i w' (hb.to hk (λ_ h=> .inr h)).sla;have hlx:=zai 65536 x q_e;have hly:=zai 65536 y q_e;generalize nd 65536 x=n at *;generalize nd 65536 y=m at *;repeat' (first|refine s_t ?_|(refine zB [0,1,2,3] ?_;refine za ?_))
 refine zaR (zaE 3 1) ?_;refine zy (γ:=Nat×List Nat×Nat×Option Addr×Nat) (λg=>[(0,.slice a n ca),(1,.slice b m cb),(5,.slice g.2.2.2.1 g.1 g.2.2.2.2),(6,.int .i64 ((g.2.2.1:Nat):Int)),(7,.int .i64 g.1)]) (λg=>[.row (.slice g.2.2.2.1 g.1 g.2.2.2.2) 3 1 g.1 (iC g.2.1)])
  (λg=>g.1<=max n m+1/\g.2.2.1<=1/\OutJ 65536 (x % 65536 ^ g.1+y % 65536 ^ g.1) g.1 g.2.1 g.2.2.1) (λg=>max n m+1 - g.1) (0,[],0,none,0) ⟨Nat.zero_le _,by decide,by
   have:=OutJ.start 65536;rw [show x % 65536 ^ 0+y % 65536 ^ 0=0 by rw [Nat.pow_zero,Nat.mod_one,Nat.mod_one]];exact this⟩ ?_ ?_ ?_
 ·exact q_h
 ·show SubR [.row (.slice none 0 0) 3 1 0 (iC [])] _;rw [zhs];exact q_h
 rintro ⟨i,l,c,a1,c1⟩ ⟨hi,hc,hJ⟩;dsimp only at hi hc hJ ⊢;have hsum:=hJ.sum;have hll:=hJ.len;by_cases hgo:i < n\/i < m\/0 < c
 ·have him:i < max n m+1:=by
   rcases Nat.lt_or_ge i (max n m+1) with h|h
   ·exact h
   ·exfalso;have hxi:x < 65536 ^ (i - 1):=Nat.lt_of_lt_of_le hlx (Nat.pow_le_pow_right q_e q_o);have hyi:y < 65536 ^ (i - 1):=Nat.lt_of_lt_of_le hly (Nat.pow_le_pow_right q_e q_o);have hc0:0 < c:=q_o;have hpw:65536 ^ i=65536 ^ (i - 1)*65536:=by rw [<-Nat.pow_succ,show (i - 1).succ=i by omega]
    have h1:=Nat.mod_le x (65536 ^ i);have h2:=Nat.mod_le y (65536 ^ i);have h3:65536 ^ i<=c*65536 ^ i:=Nat.le_mul_of_pos_left _ hc0;omega
  have hstep:=λt=>OutJ.step (t:=t) hJ q_e (T':=x % 65536 ^ (i+1)+y % 65536 ^ (i+1));have hnext:=zpj 65536 x y i c;have dx:=λw' hk=>dx i w' hk;have dy:=λw' hk=>dy i w' hk;have hdl:x / 65536 ^ i % 65536 < 65536:=Nat.mod_lt _ q_e;have hel:y / 65536 ^ i % 65536 < 65536:=Nat.mod_lt _ q_e;generalize x / 65536 ^ i % 65536=d at *;generalize y / 65536 ^ i % 65536=e at *;have hstep:=hstep (d+e+c) hnext;have h1:IntKind.i64.wrap ((d:Int)+(e:Int))=((d+e:Nat):Int):=q_w;have h2:IntKind.i64.wrap (((d+e:Nat):Int)+(c:Int))=((d+e+c:Nat):Int):=q_w;have h3:((d+e+c:Nat):Int).tmod 65536=(((d+e+c) % 65536:Nat):Int):=remI _ 65536;have h4:IntKind.i64.wrap (((d+e+c:Nat):Int).tdiv 65536)=(((d+e+c) / 65536:Nat):Int):=quoI (k:=65536) q_o;have hc':(d+e+c) / 65536<=1:=q_o;repeat refine zbC ?_
  refine zba (γ:=Unit) (λ_=>[(0,.slice a n ca),(1,.slice b m cb),(5,.slice a1 i c1),(6,.int .i64 ((c:Nat):Int)),(7,.int .i64 i),(22,.bool true)]) (λ_=>[.row (.slice a1 i c1) 3 1 i (iC l)]) (λ_=>True) ?_ ?_
  ·by_cases g1:i < n
   ·have n1:decide ((i:Int) < (n:Int))=true:=q_d;repeat' (first|refine zae ?_|refine zZ ?_|(refine zb 4 (za ?_);refine yv (zn (hr:=n1)) (k:=za ?_)))
    exact zT () trivial q_h q_h
   ·have n1:decide ((i:Int) < (n:Int))=false:=q_f;by_cases g2:i < m
    ·have n2:decide ((i:Int) < (m:Int))=true:=q_d;repeat' (first|refine zae ?_|refine zZ ?_|(refine zb 4 (za ?_);refine yv (zn (hr:=n1)) (k:=za ?_);refine yv (zn (hr:=n2)) (k:=za ?_)))
     exact zT () trivial q_h q_h
    ·have n2:decide ((i:Int) < (m:Int))=false:=q_f;have n3:decide ((0:Int) < (c:Int))=true:=q_d;repeat' (first|refine zae ?_|refine zZ ?_|(refine zb 4 (za ?_);refine yv (zn (hr:=n1)) (k:=za ?_);refine yv (zn (hr:=n2)) (k:=za ?_);refine yv (zU (hr:=n3)) (k:=za ?_)))
     exact zT () trivial q_h q_h
  rintro - -;repeat' (first|refine s_t ?_|(refine zb 6 (za ?_);refine yv (zd (hc:=zr dx)) (k:=?_);refine za ?_;refine yv (zd (hc:=zr dy)) (k:=?_);refine yv (zu (hr:=h1)) (k:=za ?_);refine yv (zu (hr:=h2)) (k:=za ?_))|(refine zb 7 (za ?_);refine yv (zap (hr:=h3)) (k:=?_);(refine ys zt (k:=?_);rintro _ _ ⟨_,rfl,rfl⟩);(refine ys (z9 (k:=i) (m:=1) (hn:=rfl) (hkm:=rfl) (hys:=zc5 l ((d+e+c) % 65536))) (k:=?_);rintro _ _ ⟨rfl,aN,cN,rfl⟩);refine za ?_)|(refine zb 8 (za ?_);refine yv (zaz (hr:=h4)) (k:=za ?_))|(refine zb 5 (za ?_);refine zaj ?_;refine za ?_))
  refine zq (i+1,l ++ [(d+e+c) % 65536],(d+e+c) / 65536,aN,cN) ⟨by show i+1<=_;omega,hc',hstep⟩ ?_ ?_ ?_
  ·show max n m+1 - (i+1) < max n m+1 - i;omega
  ·exact q_h
  ·exact q_h
 ·obtain rfl:c=0:=q_o;have hv:vl 65536 l=x+y:=by
   rw [Nat.mod_eq_of_lt (Nat.lt_of_lt_of_le hlx (Nat.pow_le_pow_right q_e q_o)),Nat.mod_eq_of_lt (Nat.lt_of_lt_of_le hly (Nat.pow_le_pow_right q_e q_o))] at hsum;omega
  rw [<-hv];refine zcA (λw' hh=>(Row.cap hh Has.here:i<=c1)) λhcap=>?_;have n1:decide ((i:Int) < (n:Int))=false:=q_f;have n2:decide ((i:Int) < (m:Int))=false:=q_f;repeat' (first|refine s_0 ?_|(refine zb 4 (za ?_);refine yv (zn (hr:=n1)) (k:=za ?_);refine yv (zn (hr:=n2)) (k:=za ?_);refine zak ?_;refine za ?_)|(refine zb 9 (za ?_);refine yv (zd (hc:=λw' _ _ hh=>zcq a1 i c1 l w' hll hcap hJ.low (zJ hh (by exact Has.append Has.here)) q_o)) (k:=?_);refine za ?_))
  refine zbm (zc4 Rem.here hll hJ.low) ?_;exact q_r
theorem zf8 (a b:Option Addr) (ca cb x y:Nat) (w:World) (ha:SlA w a (refC x)) (hb:SlA w b (refC y)) (hx:nd 65536 x < 100000000) (hyx:y<=x):
  Sy.Fn Tryz.prog 157 [.slice a (nd 65536 x) ca,.slice b (nd 65536 y) cb] w No (RefG (x - y)):=by
 refine zg Tryz.func157 rfl Tryz.ntmps157 q_p Holds.nil ?_;have dx:=λi w' (hk:Keep No w w')=>za8 a ca x i w' (ha.to hk (λ_ h=> .inr h)).sla;have dy:=λi w' (hk:Keep No w w')=>za8 b cb y i w' (hb.to hk (λ_ h=> .inr h)).sla;have hlx:=zai 65536 x q_e;generalize nd 65536 x=n at *;generalize nd 65536 y=m at *;repeat' (first|refine s_t ?_|(refine zB [0,1,2,3] ?_;refine za ?_))
 refine zaR (zaE 3 1) ?_;refine zy (γ:=Nat×List Nat×Nat×Option Addr×Nat) (λg=>[(0,.slice a n ca),(1,.slice b m cb),(5,.slice g.2.2.2.1 g.1 g.2.2.2.2),(6,.int .i64 ((g.2.2.1:Nat):Int)),(7,.int .i64 g.1)]) (λg=>[.row (.slice g.2.2.2.1 g.1 g.2.2.2.2) 3 1 g.1 (iC g.2.1)])
  (λg=>g.1<=n/\OutS 65536 x y g.1 g.2.1 g.2.2.1) (λg=>n - g.1) (0,[],0,none,0) ⟨Nat.zero_le _,OutS.start 65536 x y⟩ ?_ ?_ ?_
 ·exact q_h
 ·show SubR [.row (.slice none 0 0) 3 1 0 (iC [])] _;rw [zhs];exact q_h
 rintro ⟨i,l,c,a1,c1⟩ ⟨hi,hJ⟩;dsimp only at hi hJ ⊢;have hll:=hJ.len;have hc:=hJ.bit;by_cases hlt:i < n
 ·have hstep:=λt c'=>OutS.step (t:=t) (c':=c') hJ;have dx:=λw' hk=>dx i w' hk;have dy:=λw' hk=>dy i w' hk;have hdl:x / 65536 ^ i % 65536 < 65536:=Nat.mod_lt _ q_e;have hel:y / 65536 ^ i % 65536 < 65536:=Nat.mod_lt _ q_e;generalize x / 65536 ^ i % 65536=d at *;generalize y / 65536 ^ i % 65536=e at *;have h1:IntKind.i64.wrap ((d:Int) - (e:Int))=(d:Int) - (e:Int):=IntWalk.i64_in _ q_o;have h2:IntKind.i64.wrap ((d:Int) - (e:Int) - (c:Int))=(d:Int) - (e:Int) - (c:Int):=IntWalk.i64_in _ q_o;by_cases hneg:d < e+c
  ·have h3:decide ((d:Int) - (e:Int) - (c:Int) < 0)=true:=q_d;have h4:IntKind.i64.wrap ((d:Int) - (e:Int) - (c:Int)+65536)=((d+65536 - e - c:Nat):Int):=q_w;repeat' (first|refine s_t ?_|(refine zb 4 (za ?_);refine zL ?_)|(refine zb 6 (za ?_);refine yv (zd (hc:=zr dx)) (k:=?_);refine za ?_;refine yv (zd (hc:=zr dy)) (k:=?_);refine yv (zD (hr:=h1)) (k:=za ?_);refine yv (zD (hr:=h2)) (k:=za ?_))|(refine zb 7 (za ?_))|(refine zb 8 (za ?_);refine yv (zn (hr:=h3)) (k:=?_))|(refine zb 9 (za ?_);refine yv (zu (hr:=h4)) (k:=za ?_))|(refine zb 10 (za ?_);(refine ys zt (k:=?_);rintro _ _ ⟨_,rfl,rfl⟩);(refine ys (z9 (k:=i) (m:=1) (hn:=rfl) (hkm:=rfl) (hys:=zc5 l (d+65536 - e - c))) (k:=?_);rintro _ _ ⟨rfl,aN,cN,rfl⟩);refine za ?_)|(refine zb 5 (za ?_);refine zaj ?_;refine za ?_))
   refine zq (i+1,l ++ [d+65536 - e - c],1,aN,cN) ⟨by show i+1<=n;omega,hstep _ 1 q_o q_o q_o⟩ ?_ ?_ ?_
   ·show n - (i+1) < n - i;omega
   ·exact q_h
   ·exact q_h
  ·have h3:decide ((d:Int) - (e:Int) - (c:Int) < 0)=false:=q_f;have h5:(d:Int) - (e:Int) - (c:Int)=((d - e - c:Nat):Int):=q_o;have h2:=h2.trans h5;rw [h5] at h3;repeat' (first|refine s_t ?_|(refine zb 4 (za ?_);refine zL ?_)|(refine zb 6 (za ?_);refine yv (zd (hc:=zr dx)) (k:=?_);refine za ?_;refine yv (zd (hc:=zr dy)) (k:=?_);refine yv (zD (hr:=h1)) (k:=za ?_);refine yv (zD (hr:=h2)) (k:=za ?_))|(refine zb 7 (za ?_))|(refine zb 8 (za ?_);refine yv (zn (hr:=h3)) (k:=?_))|(refine zb 10 (za ?_);(refine ys zt (k:=?_);rintro _ _ ⟨_,rfl,rfl⟩);(refine ys (z9 (k:=i) (m:=1) (hn:=rfl) (hkm:=rfl) (hys:=zc5 l (d - e - c))) (k:=?_);rintro _ _ ⟨rfl,aN,cN,rfl⟩);refine za ?_)|(refine zb 5 (za ?_);refine zaj ?_;refine za ?_))
   refine zq (i+1,l ++ [d - e - c],0,aN,cN) ⟨by show i+1<=n;omega,hstep _ 0 q_o q_o q_o⟩ ?_ ?_ ?_
   ·show n - (i+1) < n - i;omega
   ·exact q_h
   ·exact q_h
 ·obtain rfl:i=n:=q_o;have hv:=hJ.done hlx hyx;rw [<-hv];refine zcA (λw' hh=>(Row.cap hh Has.here:i<=c1)) λhcap=>?_;repeat' (first|refine s_0 ?_|(refine zb 4 (za ?_);refine zL ?_)|(refine zb 11 (za ?_);refine yv (zd (hc:=λw' _ _ hh=>zcq a1 i c1 l w' hll hcap hJ.low (zJ hh (by exact Has.append Has.here)) q_o)) (k:=?_);refine za ?_))
  refine zbm (zc4 Rem.here hll hJ.low) ?_;exact q_r
end Go.Proofs.YtdnlngbjpdbffaaGreatDoor
namespace Go.Nt
theorem zq0 {b r:Nat}(hr:r < 16) (hb:b=65536):2 ^ r<=32768:=by
 have:2 ^ r<=2 ^ 15:=Nat.pow_le_pow_right q_e q_o;exact this
end Go.Nt
namespace Go.Proofs.YtdnlngbjpdbffaaGreatDoor
open Go Go.Sy Go.Nt Go.RowKit
attribute [local irreducible] Sy SyL SyX Sy.Fn callFunc natC refC iC
theorem znv (a:Option Addr) (ca x n:Nat) (w:World) (ha:SlA w a (refC x)) (hx:nd 65536 x < 100000000) (hn:n < 1000000000):
  Sy.Fn Tryz.prog 312 [.slice a (nd 65536 x) ca,.int .i64 n] w No (RefG (x*2 ^ n)):=by
 refine zg Tryz.func312 rfl Tryz.ntmps312 q_p Holds.nil ?_;have dx:=λi w' (hk:Keep No w w')=>za8 a ca x i w' (ha.to hk (λ_ h=> .inr h)).sla;have hlx:=zai 65536 x q_e;generalize nd 65536 x=k at *;obtain ⟨z,hz⟩: ∃z,z=n / 16:=⟨_,rfl⟩;obtain ⟨r,hr⟩: ∃r,r=n % 16:=⟨_,rfl⟩;have hr16:r < 16:=q_o;have hrl:=zq0 hr16 rfl;have q1:IntKind.i64.wrap ((n:Int).tdiv 16)=((z:Nat):Int):=by rw [hz];exact quoI (k:=16) q_o
 have q2:(n:Int).tmod 16=((r:Nat):Int):=by rw [hr];exact remI n 16
 repeat' (first|refine s_t ?_|(refine zB [0,2,3] ?_;refine za ?_)|(refine zb 1 (za ?_);refine yv (zaz (hr:=q1)) (k:=?_))|(refine ys zcu (k:=?_);rintro _ _ ⟨b5,rfl,rfl⟩)|(refine zP ?_;first|refine zx ?_|fail)|fail)
 refine zaR (zb7 (n:=z) (s:=1) Rem.here q_p (by unfold maxLen;omega)) ?_;refine zy (γ:=Nat×List Nat×Nat×Option Addr×Nat) (λg=>[(0,.slice a k ca),(1,.int .i64 n),(5,.slice g.2.2.2.1 (z+g.1) g.2.2.2.2),(6,.int .i64 ((g.2.2.1:Nat):Int)),(7,.int .i64 g.1)]) (λg=>[.row (.slice g.2.2.2.1 (z+g.1) g.2.2.2.2) 3 1 (z+g.1) (iC (List.replicate z 0 ++ g.2.1))])
  (λg=>g.1<=k+1/\g.2.2.1 < 32768/\OutJ 65536 (x % 65536 ^ g.1*2 ^ r) g.1 g.2.1 g.2.2.1) (λg=>k+1 - g.1) (0,[],0,some ⟨b5,0,none⟩,z) ⟨Nat.zero_le _,by show 0 < 32768;decide,by
   have:=OutJ.start 65536;rw [show x % 65536 ^ 0*2 ^ r=0 by rw [Nat.pow_zero,Nat.mod_one,Nat.zero_mul]];exact this⟩ ?_ ?_ ?_
 ·exact q_h
 ·show SubR [.row (.slice (some ⟨b5,0,none⟩) z z) 3 1 z (iC (List.replicate z 0 ++ []))] _;rw [List.append_nil,<-zgB];exact q_h
 rintro ⟨i,l,c,a1,c1⟩ ⟨hi,hc,hJ⟩;dsimp only at hi hc hJ ⊢;have hsum:=hJ.sum;have hll:=hJ.len;by_cases hgo:i < k\/0 < c
 ·have him:i < k+1:=by
   rcases Nat.lt_or_ge i (k+1) with h|h
   ·exact h
   ·exfalso;have hxi:x < 65536 ^ (i - 1):=Nat.lt_of_lt_of_le hlx (Nat.pow_le_pow_right q_e q_o);have hc0:0 < c:=q_o;have hpw:65536 ^ i=65536 ^ (i - 1)*65536:=by rw [<-Nat.pow_succ,show (i - 1).succ=i by omega]
    have h1:x % 65536 ^ i*2 ^ r<=x*32768:=Nat.mul_le_mul (Nat.mod_le _ _) hrl;have h3:65536 ^ i<=c*65536 ^ i:=Nat.le_mul_of_pos_left _ hc0;omega
  have hstep:=λt=>OutJ.step (t:=t) hJ q_e (T':=x % 65536 ^ (i+1)*2 ^ r);have hnext:=zph 65536 x (2 ^ r) i c;have dx:=λw' hk=>dx i w' hk;have hdl:x / 65536 ^ i % 65536 < 65536:=Nat.mod_lt _ q_e;generalize x / 65536 ^ i % 65536=d at *;have hstep:=hstep (d*2 ^ r+c) hnext;have hdr:d*2 ^ r<=65535*32768:=Nat.mul_le_mul q_o hrl;have h1:=shlI d r .i64 q_o q_o;have h2:IntKind.i64.wrap (((d*2 ^ r:Nat):Int)+(c:Int))=((d*2 ^ r+c:Nat):Int):=q_w;have h3:((d*2 ^ r+c:Nat):Int).tmod 65536=(((d*2 ^ r+c) % 65536:Nat):Int):=remI _ 65536;have h4:IntKind.i64.wrap (((d*2 ^ r+c:Nat):Int).tdiv 65536)=(((d*2 ^ r+c) / 65536:Nat):Int):=quoI (k:=65536) q_o;generalize d*2 ^ r=f at *;repeat refine zbC ?_
  refine zba (γ:=Unit) (λ_=>[(0,.slice a k ca),(1,.int .i64 n),(5,.slice a1 (z+i) c1),(6,.int .i64 ((c:Nat):Int)),(7,.int .i64 i),(19,.bool true)]) (λ_=>[.row (.slice a1 (z+i) c1) 3 1 (z+i) (iC (List.replicate z 0 ++ l))]) (λ_=>True) ?_ ?_
  ·by_cases g1:i < k
   ·have n1:decide ((i:Int) < (k:Int))=true:=q_d;repeat' (first|refine zae ?_|refine zZ ?_|(refine zb 4 (za ?_);refine yv (zn (hr:=n1)) (k:=za ?_)))
    exact zT () trivial q_h q_h
   ·have n1:decide ((i:Int) < (k:Int))=false:=q_f;have n3:decide ((0:Int) < (c:Int))=true:=q_d;repeat' (first|refine zae ?_|refine zZ ?_|(refine zb 4 (za ?_);refine yv (zn (hr:=n1)) (k:=za ?_);refine yv (zU (hr:=n3)) (k:=za ?_)))
    exact zT () trivial q_h q_h
  rintro - -;have hys:iC (List.replicate z 0 ++ l) ++ [iv ((f+c) % 65536)]=iC (List.replicate z 0 ++ (l ++ [(f+c) % 65536])):=by rw [zc5,List.append_assoc]
  repeat' (first|refine s_t ?_|(refine zb 6 (za ?_);refine yv (zd (hc:=zr dx)) (k:=?_);refine za ?_;refine yv (zap (hr:=q2)) (k:=?_);refine yv (zdW (hr:=h1)) (k:=za ?_);refine yv (zu (hr:=h2)) (k:=za ?_))|(refine zb 7 (za ?_);refine yv (zap (hr:=h3)) (k:=?_);(refine ys zt (k:=?_);rintro _ _ ⟨_,rfl,rfl⟩);(refine ys (z9 (k:=z+i) (m:=1) (km:=z+(i+1)) (hn:=rfl) (hkm:=rfl) (hys:=hys)) (k:=?_);rintro _ _ ⟨rfl,aN,cN,rfl⟩);refine za ?_)|(refine zb 8 (za ?_);refine yv (zaz (hr:=h4)) (k:=za ?_))|(refine zb 5 (za ?_);refine zaj ?_;refine za ?_))
  refine zq (i+1,l ++ [(f+c) % 65536],(f+c) / 65536,aN,cN) ⟨by show i+1<=_;omega,by show (f+c) / 65536 < 32768;omega,hstep⟩ ?_ ?_ ?_
  ·show k+1 - (i+1) < k+1 - i;omega
  ·exact q_h
  ·exact q_h
 ·obtain rfl:c=0:=q_o;have hlow: ∀d∈List.replicate z 0 ++ l,d < 65536:=λd hd=>by
   rcases List.mem_append.1 hd with h|h
   ·exact zmU z d h
   ·exact hJ.low d h
  have hlen:(List.replicate z 0 ++ l).length=z+i:=by rw [List.length_append,List.length_replicate,hll]
  have hv:vl 65536 (List.replicate z 0 ++ l)=x*2 ^ n:=by
   rw [Nat.mod_eq_of_lt (Nat.lt_of_lt_of_le hlx (Nat.pow_le_pow_right q_e q_o))] at hsum;rw [zdv,zcw,List.length_replicate,Nat.zero_add,show vl 65536 l=x*2 ^ r by omega,two16,show n=16*z+r by omega,Nat.pow_add]
   ac_rfl
  rw [<-hv];refine zcA (λw' hh=>(Row.cap hh Has.here:z+i<=c1)) λhcap=>?_;have n1:decide ((i:Int) < (k:Int))=false:=q_f;generalize List.replicate z 0 ++ l=l' at *;repeat' (first|refine s_0 ?_|(refine zb 4 (za ?_);refine yv (zn (hr:=n1)) (k:=za ?_);refine zak ?_;refine za ?_)|(refine zb 9 (za ?_);refine yv (zd (hc:=λw' _ _ hh=>zcq a1 (z+i) c1 l' w' hlen hcap hlow (zJ hh (by exact Has.append Has.here)) q_o)) (k:=?_);refine za ?_))
  refine zbm (zc4 Rem.here hlen hlow) ?_;exact q_r
theorem zle (a b:Option Addr) (ca cb x y:Nat) (w:World) (ha:SlA w a (refC x)) (hb:SlA w b (refC y)) (hx:nd 65536 x < 100000000) (hy:nd 65536 y < 100000000):
  Sy.Fn Tryz.prog 278 [.slice a (nd 65536 x) ca,.slice b (nd 65536 y) cb] w No (RefG (x*y)):=by
 refine zg Tryz.func278 rfl Tryz.ntmps278 q_p Holds.nil ?_;have dy:=λi w' (hk:Keep No w w')=>za8 b cb y i w' (hb.to hk (λ_ h=> .inr h)).sla;have hlx:=zai 65536 x q_e;have hly:=zai 65536 y q_e;have hgx:=zeX x;have hlenx:=zdY x;generalize nd 65536 x=n at *;generalize nd 65536 y=m at *;obtain ⟨k,hk⟩: ∃k,k=n+m+1:=⟨_,rfl⟩;have h1:IntKind.i64.wrap ((n:Int)+(m:Int))=((n+m:Nat):Int):=q_w;have h2:IntKind.i64.wrap (((n+m:Nat):Int)+1)=((k:Nat):Int):=q_w;have hst:=MulK.start 65536 k x y q_e;repeat' (first|refine s_t ?_|(refine zB [0,2] ?_;refine za ?_)|(refine zb 1 (za ?_);refine yv (zu (hr:=h1)) (k:=?_);refine yv (zu (hr:=h2)) (k:=?_))|(refine ys zcu (k:=?_);rintro _ _ ⟨b5,rfl,rfl⟩)|(refine zP ?_;first|refine zx ?_|fail)|fail)
 refine zy (γ:=Nat×List Nat) (λg=>[(0,.slice a n ca),(1,.slice b m cb),(5,.slice (some ⟨b5,0,none⟩) k k),(6,.int .i64 g.1)]) (λg=>[.blk b5 3 (iC g.2)])
  (λg=>g.1<=n/\MulK 65536 k x y g.1 0 g.2 0) (λg=>n - g.1) (0,List.replicate k 0) ⟨Nat.zero_le _,hst⟩ ?_ ?_ ?_
 ·exact q_h
 ·show SubR [.blk b5 3 (iC (List.replicate k 0))] _;rw [<-zgB];exact q_h
 rintro ⟨i,l⟩ ⟨hi,hJ⟩;dsimp only at hi hJ ⊢;by_cases hlt:i < n
 ·obtain ⟨ba,oa,rfl,hra⟩:=zeE ha q_o;have hca:=hra i _ (hgx i hlt);repeat' (first|refine s_t ?_|(refine zb 3 (za ?_);refine zL ?_)|(refine zB [5,6] ?_;refine za ?_))
  refine zy (γ:=Nat×List Nat×Nat) (λg=>[(0,.slice (some ⟨ba,oa,none⟩) n ca),(1,.slice b m cb),(5,.slice (some ⟨b5,0,none⟩) k k),(6,.int .i64 i),(7,.int .i64 ((g.2.2:Nat):Int)),(8,.int .i64 g.1)]) (λg=>[.blk b5 3 (iC g.2.1)])
   (λg=>g.1<=m+1/\MulK 65536 k x y i g.1 g.2.1 g.2.2) (λg=>m+1 - g.1) (0,l,0) ⟨Nat.zero_le _,hJ⟩ ?_ ?_ ?_
  ·exact q_h
  ·exact q_h
  clear hJ;rintro ⟨j,l,c⟩ ⟨hj,hJ⟩;dsimp only at hj hJ ⊢;have hll:=hJ.len;have hml:(iC l).length=k:=by rw [zex,hll]
  have hcK:=hJ.car;by_cases hgo:j < m\/0 < c
  ·have hjm:j<=m:=by
    rcases Nat.lt_or_ge j m with h|h
    ·omega
    ·exact hJ.place q_e hly h q_o
   obtain ⟨u,hu⟩: ∃u,l[i+j]?=some u:=⟨l[i+j]'q_o,List.getElem?_eq_getElem _⟩;have huK:=hJ.low u (List.mem_of_getElem? hu);have hu':=zi8 hu;have hstep:=λz c'=>hJ.step (z:=z) (c':=c') hu;have dy:=λw' hk=>dy j w' hk;have hdl:x / 65536 ^ i % 65536 < 65536:=Nat.mod_lt _ q_e;have hel:y / 65536 ^ j % 65536 < 65536:=Nat.mod_lt _ q_e;generalize x / 65536 ^ i % 65536=d at *;generalize y / 65536 ^ j % 65536=e at *;have hpl:=zpC hdl hel huK hcK;have hde:d*e<=65535*65535:=Nat.mul_le_mul q_o q_o;have hstep:=hstep ((u+d*e+c) % 65536) ((u+d*e+c) / 65536) (Nat.mod_lt _ q_e) hpl (by
    have:=Nat.mod_add_div (u+d*e+c) 65536;omega)
   have a1:IntKind.i64.wrap ((i:Int)+(j:Int))=((i+j:Nat):Int):=q_w;have a2:IntKind.i64.wrap ((d:Int)*(e:Int))=((d*e:Nat):Int):=by
    rw [show ((d:Nat):Int)*((e:Nat):Int)=((d*e:Nat):Int) by simp,IntWalk.i64_in _ q_o]
   generalize d*e=f at *;have a3:IntKind.i64.wrap ((u:Int)+(f:Int))=((u+f:Nat):Int):=q_w;have a4:IntKind.i64.wrap (((u+f:Nat):Int)+(c:Int))=((u+f+c:Nat):Int):=q_w;have a5:((u+f+c:Nat):Int).tmod 65536=(((u+f+c) % 65536:Nat):Int):=remI _ 65536;have a6:IntKind.i64.wrap (((u+f+c:Nat):Int).tdiv 65536)=(((u+f+c) / 65536:Nat):Int):=quoI (k:=65536) q_o;repeat refine zbC ?_
   refine zba (γ:=Unit) (λ_=>[(0,.slice (some ⟨ba,oa,none⟩) n ca),(1,.slice b m cb),(5,.slice (some ⟨b5,0,none⟩) k k),(6,.int .i64 i),(7,.int .i64 ((c:Nat):Int)),(8,.int .i64 j),(30,.bool true)]) (λ_=>[.blk b5 3 (iC l)]) (λ_=>True) ?_ ?_
   ·by_cases g1:j < m
    ·have n1:decide ((j:Int) < (m:Int))=true:=q_d;repeat' (first|refine zae ?_|refine zZ ?_|(refine zb 7 (za ?_);refine yv (zn (hr:=n1)) (k:=za ?_)))
     exact zT () trivial q_h q_h
    ·have n1:decide ((j:Int) < (m:Int))=false:=q_f;have n3:decide ((0:Int) < (c:Int))=true:=q_d;repeat' (first|refine zae ?_|refine zZ ?_|(refine zb 7 (za ?_);refine yv (zn (hr:=n1)) (k:=za ?_);refine yv (zU (hr:=n3)) (k:=za ?_)))
     exact zT () trivial q_h q_h
   rintro - -;repeat' (first|refine s_t ?_|(refine zM (id:=9) 16 [[],[],[],[1,2],[0,1,2,3],[0,1,2,3,4],[],[],[6,7],[6,7,8],[],[],[10,11],[6,7,8,9,10,11,12],[0,1,2,3,4,5,6,7,8,9,10,11,12,13],[],[0,1,2,3,4,5,6,7,8,9,10,11,12,13,14,15],[0,1,2,3,4,5,6,7,8,9,10,11,12,13,14,15,16]] mixed ?_ ?_;kernel_rfl;refine zk ?_;refine zk ?_;refine zk ?_;refine dc (λ_ _=>zu (hr:=a1)) (k:=?_);refine zK ?_;refine dc (λ_ _=>zC (hv:=hu')) (k:=?_);refine zk ?_;refine zk ?_;refine zK ?_;refine dc (λ_ _=>zl (hv:=hca)) (k:=?_);refine zk ?_;refine zk ?_;refine dc (λ_ _=>zd (hc:=λw' _ hk _=>dy w' hk)) (k:=?_);refine dc (λ_ _=>zah (hr:=a2)) (k:=?_);refine dc (λ_ _=>zu (hr:=a3)) (k:=?_);refine zk ?_;refine zY ?_;refine yv (zu (hr:=a4)) (k:=?_);refine zx ?_)|(refine zb 10 (za ?_);refine yv (zu (hr:=a1)) (k:=za ?_);refine yv (zap (hr:=a5)) (k:=?_);refine zw ?_;refine zI ?_)|(refine zb 11 (za ?_);refine yv (zaz (hr:=a6)) (k:=za ?_))|(refine zb 8 (za ?_);refine zaj ?_;refine za ?_))
   refine zq (j+1,l.set (i+j) ((u+f+c) % 65536),(u+f+c) / 65536) ⟨by show j+1<=_;omega,hstep⟩ ?_ ?_ ?_
   ·show m+1 - (j+1) < m+1 - j;omega
   ·exact q_h
   ·show SubR [.blk b5 3 (iC (l.set (i+j) ((u+f+c) % 65536)))] _;rw [show iC (l.set (i+j) ((u+f+c) % 65536))=(iC l).set (i+j) (iv ((u+f+c) % 65536)) by unfold iC;rw [List.map_set]];exact q_h
  ·obtain rfl:c=0:=q_o;have n1:decide ((j:Int) < (m:Int))=false:=q_f;repeat' (first|refine s_0 ?_|(refine zb 7 (za ?_);refine yv (zn (hr:=n1)) (k:=za ?_);refine zak ?_;refine za ?_)|(refine zb 4 (za ?_);refine zaj ?_;refine za ?_))
   refine zq (i+1,l) ⟨by show i+1<=n;omega,hJ.row (Nat.lt_of_lt_of_le hly (Nat.pow_le_pow_right q_e q_o)) q_e⟩ ?_ ?_ ?_
   ·show n - (i+1) < n - i;omega
   ·exact q_h
   ·exact q_h
 ·obtain rfl:i=n:=q_o;have hv:=hJ.done hlx;have hll:=hJ.len;rw [<-hv];repeat' (first|refine s_0 ?_|(refine zb 3 (za ?_);refine zL ?_)|(refine zb 12 (za ?_);refine yv (zd (hc:=λw' _ _ hh=>zcq (some ⟨b5,0,none⟩) k k l w' hll (Nat.le_refl _) hJ.low (.inr ⟨b5,0,rfl,zp (hh.has (by exact Has.append Has.here)) Seg.all⟩) q_o)) (k:=?_);refine za ?_))
  refine zbm (zb7 (n:=k) (s:=1) Rem.here (by rw [zex];omega) (by unfold maxLen;omega)) ?_;refine zbm (zc4 Rem.here hll hJ.low) ?_;exact q_r
end Go.Proofs.YtdnlngbjpdbffaaGreatDoor
end
