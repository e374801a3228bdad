/- The specification's numbers: digits, bits, ints. -/
import Derived.Test.YtdnlngbjpdbffaaGreatDoorLJ07
import Derived.Test.YtdnlngbjpdbffaaGreatDoorLJ13
import Derived.Test.YtdnlngbjpdbffaaGreatDoorLJ12
import Derived.Test.YtdnlngbjpdbffaaGreatDoorLJ03
import Derived.Lib.AppendZerosOnto
set_option maxRecDepth 10000
set_option linter.all false
section
namespace Go.Sy
open Go
theorem znQ {N:Nat}{w0:World}{M:Nat->Prop}{ds:List Deferred}{L L1:List Res}{a:Option Addr}{E s n n' c:Nat}{xs:List Value}(hr:Rem L (.row (.slice a n c) E s n xs) L1) (hn:n'<=n):Conv N w0 M ds L (.row (.slice a n' c) E s n' (xs.take (n'*s))::L1):=by
 intro g w0' w X hs;have hp:=hs.perm (hr.perm.append_right X);have hb:w.ownsRow 0 E s (.slice a n c) n xs:=hp.hold.all _ List.mem_cons_self;have hown: ∀b,(Value.slice a n' c).ownBlock=some b->(Value.slice a n c).ownBlock=some b:=λb hb=>by
  cases a with
  |none=>cases hb
  |some a=>exact hb
 refine ⟨hp.size,hp.agr,hp.keep,hp.hold.tail.cons ?_ (λr hr' b' hb'=>?_) (λb' hb'=>hp.hold.mine _ List.mem_cons_self b' (hown b' hb'))⟩
 ·obtain ⟨h1,⟨h2,h3⟩|⟨g',cap,cur,h2,h3,h4,h5,h6,h7,h8⟩⟩:=hb
  ·subst h3;obtain rfl:n'=0:=q_o;cases h2;exact ⟨by simp,.inl ⟨rfl,rfl⟩⟩
  ·cases h2;have hm:n'*s<=n*s:=Nat.mul_le_mul_right s hn;exact ⟨by rw [List.length_take];omega,.inr ⟨g',c,cur,rfl,h3,h4,by omega,h6,h7,by rw [<-h8,List.take_take,Nat.min_eq_left hm]⟩⟩
 ·exact (List.pairwise_cons.1 hp.hold.apart).1 r hr' b' (hown b' hb')
end Go.Sy
namespace Go.Nt
open Go Go.Sy
theorem shrI (d r:Nat) (k:IntKind) (h:r < 64):Op.shift .shr .i64 (d:Int) k (r:Int)=pure (.int .i64 ((d / 2 ^ r:Nat):Int)):=by
 have h1: ¬((r:Int) < 0):=q_o;have h2: ¬64<=r:=q_o;simp [Op.shift,h1,h2,IntKind.bits]
def iC (l:List Nat):List Value:=l.map iv
theorem zex (l:List Nat):(iC l).length=l.length:=List.length_map _
theorem zi8 {l:List Nat}{i d:Nat}(h:l[i]?=some d):(iC l)[i]?=some (iv d):=by unfold iC;rw [List.getElem?_map,h];rfl
theorem zrI (l:List Nat):(iC l).all (·.oneCell')=true:=zrF l
theorem zc7 (x:Nat):refC x=iC (cd 65536 x):=rfl
theorem zdY (x:Nat):(refC x).length=nd 65536 x:=by rw [zc7,zex,zfm]
theorem zeX (x i:Nat) (h:i < nd 65536 x):(refC x)[i]?=some (iv (x / 65536 ^ i % 65536)):=by
 rw [zc7];exact zi8 (by unfold cd;exact zcL _ _ _ _ h)
theorem zeE {w:World}{a:Option Addr}{B:List Value}(h:SlA w a B) (hne:0 < B.length): ∃b o,a=some ⟨b,o,none⟩/\w.rangeAt b o B:=by
 rcases h with h|h
 ·rw [h] at hne;exact absurd hne q_e
 ·exact h
theorem two16 (n:Nat):65536 ^ n=2 ^ (16*n):=by rw [show (65536:Nat)=2 ^ 16 from rfl,<-Nat.pow_mul]
end Go.Nt
namespace Go.Proofs.YtdnlngbjpdbffaaGreatDoor
open Go Go.Sy Go.Nt Go.RowKit
def RefG (x:Nat) (v:Value) (R:List Res):Prop:=∃a c,v= .slice a (nd 65536 x) c/\R= [.row (.slice a (nd 65536 x) c) 3 1 (nd 65536 x) (refC x)]
attribute [local irreducible] Sy SyL SyX Sy.Fn callFunc natC refC iC
theorem za8 (a:Option Addr) (c x i:Nat) (w:World) (hs:SlA w a (refC x)):
  Sy.Fn Tryz.prog 231 [.slice a (nd 65536 x) c,.int .i64 i] w No (Gives (iv (x / 65536 ^ i % 65536))):=by
 refine zg Tryz.func231 rfl Tryz.ntmps231 q_p Holds.nil ?_;have hlen:=zdY x;have hget:=zeX x i;have hlt:=zai 65536 x q_e;generalize nd 65536 x=n at *;by_cases h:i < n
 ·obtain ⟨b,o,rfl,hr⟩:=zeE hs q_o;have hc:=hr i _ (hget h);generalize x / 65536 ^ i % 65536=d at *;repeat' (first|refine s_0 ?_|(refine zb 0 (za ?_))|(refine zb 1 (za ?_);refine zL ?_;refine za ?_;refine zad ?_;refine za ?_)|(refine zb 3 (za ?_);refine zw ?_;refine yv (zl (hv:=hc)) (k:=za ?_)))
  exact q_r
 ·have hz:x / 65536 ^ i=0:=Nat.div_eq_of_lt (Nat.lt_of_lt_of_le hlt (Nat.pow_le_pow_right q_e q_o));rw [hz];repeat' (first|refine s_0 ?_|(refine zB [0,2] ?_;refine za ?_)|(refine zb 1 (za ?_);refine zL ?_;refine za ?_;refine zad ?_;refine za ?_))
  exact q_r
theorem znK (a:Option Addr) (n c:Nat) (i:Int) (w:World) (hi:i < 0):
  Sy.Fn Tryz.prog 231 [.slice a n c,.int .i64 i] w No (Gives (iv 0)):=by
 refine zg Tryz.func231 rfl Tryz.ntmps231 q_p Holds.nil ?_;repeat' (first|refine s_0 ?_|(refine zB [0,2] ?_;refine za ?_)|(refine zb 1 (za ?_);refine zL ?_;refine za ?_))
 exact q_r
theorem zk1 (a:Option Addr) (c x i:Nat) (w:World) (hs:SlA w a (refC x)) (hi:i < 9223372036854775808):
  Sy.Fn Tryz.prog 274 [.slice a (nd 65536 x) c,.int .i64 i] w No (Gives (iv (x / 2 ^ i % 2))):=by
 refine zg Tryz.func274 rfl Tryz.ntmps274 q_p Holds.nil ?_;have hd:=λw' (hk:Keep No w w')=>za8 a c x (i / 16) w' (hs.to hk (λ_ h=> .inr h)).sla;have h2:=zgx 2 16 x (i / 16) (i % 16) (Nat.mod_lt _ q_e);rw [show 16*(i / 16)+i % 16=i by omega,show (2:Nat) ^ 16=65536 from rfl] at h2;have hdl:x / 65536 ^ (i / 16) % 65536 < 65536:=Nat.mod_lt _ q_e;generalize x / 65536 ^ (i / 16) % 65536=d at *;have q1:IntKind.i64.wrap ((i:Int).tdiv 16)=((i / 16:Nat):Int):=quoI (k:=16) hi;have q2:(i:Int).tmod 16=((i % 16:Nat):Int):=remI i 16;have q3:=shrI d (i % 16) .i64 q_o;have q4:((d / 2 ^ (i % 16):Nat):Int).tmod 2=((x / 2 ^ i % 2:Nat):Int):=by rw [<-h2];exact remI _ 2
 repeat' (first|refine s_0 ?_|(refine zb 0 (za ?_))|(refine zb 1 (za ?_);refine zL ?_)|(refine zb 3 (za ?_);refine yv (zaz (hr:=q1)) (k:=?_);refine yv (zd (hc:=zr hd)) (k:=?_);refine za ?_;refine yv (zap (hr:=q2)) (k:=?_);refine yv (zaJ (hr:=q3)) (k:=?_);refine yv (zap (hr:=q4)) (k:=za ?_)))
 exact q_r
theorem zhb (a:Option Addr) (c x:Nat) (w:World) (hs:SlA w a (refC x)) (hx:nd 65536 x < 1000000000):
  Sy.Fn Tryz.prog 221 [.slice a (nd 65536 x) c] w No (Gives (.int .i64 ((nd 2 x:Nat):Int))):=by
 refine zg Tryz.func221 rfl Tryz.ntmps221 q_p Holds.nil ?_;have hb:=λi w' (hk:Keep No w w') (hi:i < 9223372036854775808)=>zk1 a c x i w' (hs.to hk (λ_ h=> .inr h)).sla hi;have hlt:=zai 65536 x q_e;rw [two16] at hlt;generalize nd 65536 x=n at *;have hm:IntKind.i64.wrap (16*(n:Int))=((16*n:Nat):Int):=q_w;repeat' (first|refine s_t ?_|(refine zb 0 (za ?_))|(refine zb 1 (za ?_);refine yv (zah (hr:=hm)) (k:=za ?_)))
 refine zy (γ:=Nat) (λi=>[(0,.slice a n c),(3,.int .i64 i)]) (λ_=>[]) (λi=>i<=16*n/\x < 2 ^ i) (λi=>i) (16*n) ⟨Nat.le_refl _,hlt⟩ ?_ ?_ ?_
 ·exact q_h
 ·exact q_h
 rintro i ⟨hi,hxi⟩;rcases Nat.eq_zero_or_pos i with h0|h0
 ·subst h0;have:nd 2 x=0:=zbh 2 x 0 q_e hxi (λh=>absurd h q_e);rw [this];repeat' (first|refine s_0 ?_|(refine zb 2 (za ?_);refine zak ?_;refine za ?_)|(refine zb 4 (za ?_)))
  exact q_r
 have hs1:IntKind.i64.wrap ((i:Int) - 1)=((i - 1:Nat):Int):=q_w;have hb:=λw' hk=>hb (i - 1) w' hk q_o;have hdm:=Nat.div_add_mod x (2 ^ (i - 1));have hml:=Nat.mod_lt x (show 0 < 2 ^ (i - 1) from Nat.pow_pos q_e);have hpw:2 ^ i=2 ^ (i - 1)*2:=by rw [<-Nat.pow_succ,show (i - 1).succ=i by omega]
 have hq:x / 2 ^ (i - 1) < 2:=by
  rw [Nat.div_lt_iff_lt_mul (Nat.pow_pos q_e),Nat.mul_comm,<-hpw];exact hxi
 by_cases hz:x / 2 ^ (i - 1)=0
 ·rw [hz] at hb;repeat' (first|refine s_t ?_|(refine zb 2 (za ?_);refine zak ?_;refine za ?_;refine yv (zD (hr:=hs1)) (k:=?_);refine yv (zd (hc:=zr hb)) (k:=?_);refine zan ?_;refine za ?_)|(refine zb 3 (za ?_);refine yv (zD (hr:=hs1)) (k:=za ?_)))
  refine zq (i - 1) ⟨by omega,?_⟩ ?_ ?_ ?_
  ·rw [hz,Nat.mul_zero,Nat.zero_add] at hdm;omega
  ·show i - 1 < i;omega
  ·exact q_h
  ·exact q_h
 ·have h1:x / 2 ^ (i - 1)=1:=by
   revert hq hz
   generalize x / 2 ^ (i - 1)=q;intro hq hz;omega
  rw [h1] at hb hdm;have:nd 2 x=i:=zbh 2 x i q_e hxi (λ_=>by omega);rw [this];repeat' (first|refine s_0 ?_|(refine zb 2 (za ?_);refine zak ?_;refine za ?_;refine yv (zD (hr:=hs1)) (k:=?_);refine yv (zd (hc:=zr hb)) (k:=?_);refine zan ?_;refine za ?_)|(refine zb 4 (za ?_)))
  exact q_r
end Go.Proofs.YtdnlngbjpdbffaaGreatDoor
namespace Go.Nt
open Go Go.Sy
section
variable {N:Nat}{w0:World}{M:Nat->Prop}{ds:List Deferred}{L L1:List Res}
theorem zpi {l:List Nat}(hl: ∀d∈l,d < 65536):nd 65536 (vl 65536 l)<=l.length/\(iC l).take (nd 65536 (vl 65536 l)*1)=refC (vl 65536 l):=by
 have h1:=zao 65536 (vl 65536 l) l.length q_e (zcS 65536 l hl);refine ⟨h1,?_⟩;rw [Nat.mul_one,zc7];unfold iC cd;rw [<-List.map_take];congr 1;have h2:=zef 65536 l hl;rw [<-zpY 65536 l.length (nd 65536 (vl 65536 l)) (vl 65536 l) h1,h2]
theorem zc4 {a:Option Addr}{E k c:Nat}{l:List Nat}(hr:Rem L (.row (.slice a k c) E 1 k (iC l)) L1) (hk:l.length=k) (hl: ∀d∈l,d < 65536):
  Conv N w0 M ds L (.row (.slice a (nd 65536 (vl 65536 l)) c) E 1 (nd 65536 (vl 65536 l)) (refC (vl 65536 l))::L1):=by
 obtain ⟨h1,h2⟩:=zpi hl;have:=znQ (N:=N) (w0:=w0) (M:=M) (ds:=ds) (n':=nd 65536 (vl 65536 l)) hr q_o;rw [h2] at this;exact this
end
theorem zhs:iC []= []:=rfl
theorem zc5 (l:List Nat) (d:Nat):iC l ++ [iv d]=iC (l ++ [d]):=by unfold iC;rw [List.map_append];rfl
theorem zJ {B0:Nat}{w:World}{M:Nat->Prop}{E n m c:Nat}{a:Option Addr}{xs:List Value}{L:List Res}(hh:Holds B0 M L w) (hL:Has L (.row (.slice a m c) E 1 n xs)):SlA w a xs:=(SlF.row (Mi:=No) hh hL (λ_ h=>h.elim)).sla
end Go.Nt
namespace Go.Proofs.YtdnlngbjpdbffaaGreatDoor
open Go Go.Sy Go.Nt Go.RowKit
attribute [local irreducible] Sy SyL SyX Sy.Fn callFunc natC refC iC
theorem zcq (a:Option Addr) (k c:Nat) (l:List Nat) (w:World) (hk:l.length=k) (hkc:k<=c) (hl: ∀d∈l,d < 65536) (hs:SlA w a (iC l)) (hb:k < 1000000000):
  Sy.Fn Tryz.prog 230 [.slice a k c] w No (Gives (.slice a (nd 65536 (vl 65536 l)) c)):=by
 refine zg Tryz.func230 rfl Tryz.ntmps230 q_p Holds.nil ?_;repeat' (first|refine s_t ?_|(refine zB [0,1] ?_;refine za ?_))
 refine zy (γ:=Nat) (λn=>[(0,.slice a k c),(3,.int .i64 n)]) (λ_=>[]) (λn=>n<=k/\ ∀p,n<=p->p < k->l[p]?=some 0) (λn=>n) k ⟨Nat.le_refl _,λp h1 h2=>absurd h2 q_o⟩ ?_ ?_ ?_
 ·exact q_h
 ·exact q_h
 rintro n ⟨hn,hz⟩;rcases Nat.eq_zero_or_pos n with h0|h0
 ·subst h0;have he:=(ziT 65536 q_e l 0 hl q_o (λp h1 h2=>hz p h1 q_o) (.inl rfl)).1;rw [he];repeat' (first|refine s_0 ?_|(refine zb 2 (za ?_);refine zak ?_;refine za ?_)|(refine zb 4 (za ?_);refine yv (za0 (l:=0) (h:=0) (n':=0) (c':=c)) (k:=za ?_)))
  exact q_r
 have hs1:IntKind.i64.wrap ((n:Int) - 1)=((n - 1:Nat):Int):=q_w;obtain ⟨b,o,rfl,hr⟩:=zeE hs (by rw [zex];omega);obtain ⟨d,hd⟩: ∃d,l[n - 1]?=some d:=⟨l[n - 1]'q_o,List.getElem?_eq_getElem _⟩;have hc:=hr (n - 1) _ (zi8 hd);by_cases hd0:d=0
 ·subst hd0;repeat' (first|refine s_t ?_|(refine zb 2 (za ?_);refine zak ?_;refine za ?_;refine yv (zD (hr:=hs1)) (k:=?_);refine zw ?_;refine yv (zl (hv:=hc)) (k:=?_);refine zan ?_;refine za ?_)|(refine zb 3 (za ?_);refine yv (zD (hr:=hs1)) (k:=za ?_)))
  refine zq (n - 1) ⟨by omega,λp h1 h2=>?_⟩ ?_ ?_ ?_
  ·rcases Nat.lt_or_ge p n with h|h
   ·obtain rfl:p=n - 1:=q_o;exact hd
   ·exact hz p h h2
  ·show n - 1 < n;omega
  ·exact q_h
  ·exact q_h
 ·have he:=(ziT 65536 q_e l n hl q_o (λp h1 h2=>hz p h1 q_o) (.inr ⟨d,hd,hd0⟩)).1;rw [he];have hne:decide (((d:Nat):Int)=0)=false:=q_f;repeat' (first|refine s_0 ?_|(refine zb 2 (za ?_);refine zak ?_;refine za ?_;refine yv (zD (hr:=hs1)) (k:=?_);refine zw ?_;refine yv (zl (hv:=hc)) (k:=?_);refine yv (zX (hr:=hne)) (k:=za ?_))|(refine zb 4 (za ?_);refine yv (za0 (l:=0) (h:=n) (n':=n) (c':=c)) (k:=za ?_)))
  exact q_r
theorem zeN (v:Nat) (w:World) (hv:v < 9223372036854775808):
  Sy.Fn Tryz.prog 159 [.int .i64 v] w No (RefG v):=by
 refine zg Tryz.func159 rfl Tryz.ntmps159 q_p Holds.nil ?_;have hn4:=zao 65536 v 4 q_e q_o;have hsp:=zbh 65536 v;repeat' (first|refine s_t ?_|(refine zB [0,1] ?_;refine za ?_))
 refine zaR (zaE 3 1) ?_;refine zy (γ:=Nat×Option Addr×Nat) (λg=>[(0,.int .i64 ((v / 65536 ^ g.1:Nat):Int)),(3,.slice g.2.1 g.1 g.2.2)]) (λg=>[.row (.slice g.2.1 g.1 g.2.2) 3 1 g.1 (iC (dg 65536 g.1 v))])
  (λg=>g.1<=nd 65536 v) (λg=>nd 65536 v - g.1) (0,none,0) (Nat.zero_le _) ?_ ?_ ?_
 ·(repeat' (first|exact Sub.nil|refine Sub.cons rfl ?_ ?_|rfl))
  rw [Nat.pow_zero,Nat.div_one]
 ·show SubR [.row (.slice none 0 0) 3 1 0 (iC [])] _;rw [zhs];exact q_h
 rintro ⟨i,a,c⟩ hi;dsimp only at hi ⊢;by_cases hlt:i < nd 65536 v
 ·have hpos:0 < v / 65536 ^ i:=by
   have h1:=(zbZ 65536 q_e v).2 q_o;exact Nat.div_pos (Nat.le_trans (Nat.pow_le_pow_right q_e q_o) h1) (Nat.pow_pos q_e)
  have hdle:=Nat.div_le_self v (65536 ^ i);have hys:iC (dg 65536 i v) ++ [iv (v / 65536 ^ i % 65536)]=iC (dg 65536 (i+1) v):=by
   rw [zc5,zfO];simp only [dg]
  have hnx:v / 65536 ^ i / 65536=v / 65536 ^ (i+1):=by rw [Nat.div_div_eq_div_mul,<-Nat.pow_succ]
  generalize v / 65536 ^ i=y at *;have q2:(y:Int).tmod 65536=((y % 65536:Nat):Int):=remI y 65536;have q1:IntKind.i64.wrap ((y:Int).tdiv 65536)=((y / 65536:Nat):Int):=quoI (k:=65536) q_o;generalize hyd:y % 65536=d at *;repeat' (first|refine s_t ?_|(refine zb 2 (za ?_);refine zak ?_)|(refine zb 3 (za ?_);refine yv (zap (hr:=q2)) (k:=?_);(refine ys zt (k:=?_);rintro _ _ ⟨_,rfl,rfl⟩);(refine ys (z9 (k:=i) (m:=1) (hn:=rfl) (hkm:=rfl) (hys:=hys)) (k:=?_);rintro _ _ ⟨rfl,aN,cN,rfl⟩);refine za ?_)|(refine zb 4 (za ?_);refine yv (zaz (hr:=q1)) (k:=za ?_)))
  refine zq (i+1,aN,cN) (by show i+1<=_;omega) ?_ ?_ ?_
  ·show nd 65536 v - (i+1) < nd 65536 v - i;omega
  ·rw [hnx];exact q_h
  ·exact q_h
 ·obtain rfl:i=nd 65536 v:=q_o;have hz:v / 65536 ^ nd 65536 v=0:=Nat.div_eq_of_lt (zai 65536 v q_e);rw [hz,show iC (dg 65536 (nd 65536 v) v)=refC v from (zc7 v).symm];repeat' (first|refine s_0 ?_|(refine zb 2 (za ?_);refine zak ?_)|(refine zb 5 (za ?_)))
  exact q_r
theorem zf7 (a:Option Addr) (len c:Nat) (bl:List UInt8) (w:World) (hl:bl.length=len) (hb:SlA w a (bl.map v8)) (hx:len < 100000000):
  Sy.Fn Tryz.prog 155 [.slice a len c] w No (RefG (bev 256 (bn bl))):=by
 refine zg Tryz.func155 rfl Tryz.ntmps155 q_p Holds.nil ?_;have hbl:(bn bl).length=len:=by unfold bn;rw [List.length_map,hl]
 have hs0:IntKind.i64.wrap ((len:Int) - 1)=(len:Int) - 1:=IntWalk.i64_in _ q_o;repeat' (first|refine s_t ?_|(refine zB [0,1] ?_;refine za ?_)|(refine zb 2 (za ?_);refine yv (zD (hr:=hs0)) (k:=za ?_)))
 refine zaR (zaE 3 1) ?_;refine zy (γ:=List Nat×Option Addr×Nat) (λg=>[(0,.slice a len c),(3,.slice g.2.1 g.1.length g.2.2),(4,.int .i64 ((len:Int) - 1 - 2*(g.1.length:Int)))])
  (λg=>[.row (.slice g.2.1 g.1.length g.2.2) 3 1 g.1.length (iC g.1)])
  (λg=>2*g.1.length<=len+1/\(∀d∈g.1,d < 65536)/\vl 65536 g.1=bev 256 ((bn bl).drop (len - 2*g.1.length))) (λg=>len+1 - 2*g.1.length) ([],none,0)
  ⟨by show 2*0<=_;omega,(λd hd=>by cases hd),by show 0=bev 256 ((bn bl).drop (len - 2*0));rw [List.drop_eq_nil_of_le q_o];rfl⟩ ?_ ?_ ?_
 ·(repeat' (first|exact Sub.nil|refine Sub.cons rfl ?_ ?_|rfl))
  show Value.int .i64 ((len:Int) - 1)= .int .i64 ((len:Int) - 1 - 2*((0:Nat):Int));congr 1;omega
 ·show SubR [.row (.slice none 0 0) 3 1 0 (iC [])] _;rw [zhs];exact q_h
 rintro ⟨l,a1,c1⟩ ⟨hq,hlow,hv⟩;dsimp only at hq hlow hv ⊢;obtain ⟨q,hqe⟩: ∃q,q=l.length:=⟨_,rfl⟩;rw [<-hqe] at hq hv ⊢;by_cases hlt:2*q+1<=len
 ·obtain ⟨b,o,rfl,hr⟩:=zeE hb (by rw [List.length_map];omega);obtain ⟨i,hi⟩: ∃i,i=len - 1 - 2*q:=⟨_,rfl⟩;have hii:((len:Int) - 1 - 2*(q:Int))=((i:Nat):Int):=q_o;have hi2:IntKind.i64.wrap ((i:Int) - 2)=(i:Int) - 2:=IntWalk.i64_in _ q_o;have hnx:(i:Int) - 2=(len:Int) - 1 - 2*((q+1:Nat):Int):=q_o;obtain ⟨u,hu⟩: ∃u,bl[i]?=some u:=⟨bl[i]'q_o,List.getElem?_eq_getElem _⟩;have hcu:w.cell? ⟨b,o+i,none⟩=some (v8 u):=hr i (v8 u) (by rw [List.getElem?_map,hu];rfl);have hu':(bn bl)[i]?=some u.toNat:=by unfold bn;rw [List.getElem?_map,hu];rfl
  have hul:=u.toNat_lt;have hcv:IntKind.i64.wrap (Wd.n8 u)=((u.toNat:Nat):Int):=IntWalk.i64_in _ (by have:=Wd.n8_lt u;have:=Wd.n8_nonneg u;omega);rw [hii];by_cases h0:i=0
  ·have hstep:=zmt (bn bl) u.toNat l (by rw [<-h0];exact hu') q_o (by rw [hv];congr 2;omega);have hng:decide ((0:Int) < (i:Int))=false:=q_f;repeat' (first|refine s_t ?_|(refine zb 3 (za ?_);refine zad ?_)|(refine zb 5 (za ?_);refine zw ?_;refine yv (zl (hv:=hcu)) (k:=?_);refine yv (z5 (hr:=hcv)) (k:=za ?_))|(refine zb 6 (za ?_);refine yv (zU (hr:=hng)) (k:=?_))|(refine zb 8 (za ?_);(refine ys zt (k:=?_);rintro _ _ ⟨_,rfl,rfl⟩);(refine ys (z9 (k:=q) (m:=1) (hn:=rfl) (hkm:=rfl) (hys:=zc5 l u.toNat)) (k:=?_);rintro _ _ ⟨rfl,aN,cN,rfl⟩);refine za ?_)|(refine zb 4 (za ?_);refine yv (zD (hr:=hi2)) (k:=za ?_)))
   have hl1:(l ++ [u.toNat]).length=q+1:=by rw [List.length_append,<-hqe];rfl
   refine zq (l ++ [u.toNat],aN,cN) ⟨by dsimp only;omega,zeV hlow q_o,?_⟩ ?_ ?_ ?_
   ·dsimp only;rw [hstep,hl1,show len - 2*(q+1)=0 by omega];rfl
   ·dsimp only;omega
   ·dsimp only;rw [hl1,<-hnx];exact q_h
   ·dsimp only;rw [hl1];exact q_h
  ·obtain ⟨v,hvv⟩: ∃v,bl[i - 1]?=some v:=⟨bl[i - 1]'q_o,List.getElem?_eq_getElem _⟩;have hcv':w.cell? ⟨b,o+(i - 1),none⟩=some (v8 v):=hr (i - 1) (v8 v) (by rw [List.getElem?_map,hvv];rfl);have hv':(bn bl)[i - 1]?=some v.toNat:=by unfold bn;rw [List.getElem?_map,hvv];rfl
   have hvl:=v.toNat_lt;have hcw:IntKind.i64.wrap (Wd.n8 v)=((v.toNat:Nat):Int):=IntWalk.i64_in _ (by have:=Wd.n8_lt v;have:=Wd.n8_nonneg v;omega);have hm1:IntKind.i64.wrap ((i:Int) - 1)=((i - 1:Nat):Int):=q_w;have hm2:IntKind.i64.wrap (256*((v.toNat:Nat):Int))=((256*v.toNat:Nat):Int):=q_w;have hm3:IntKind.i64.wrap (((u.toNat:Nat):Int)+((256*v.toNat:Nat):Int))=((u.toNat+256*v.toNat:Nat):Int):=q_w;have hstep:=znP (bn bl) (i - 1) u.toNat v.toNat l (by rw [show i - 1+1=i by omega];exact hu') hv' q_o (by rw [hv];congr 2;omega);have hng:decide ((0:Int) < (i:Int))=true:=q_d;repeat' (first|refine s_t ?_|(refine zb 3 (za ?_);refine zad ?_)|(refine zb 5 (za ?_);refine zw ?_;refine yv (zl (hv:=hcu)) (k:=?_);refine yv (z5 (hr:=hcv)) (k:=za ?_))|(refine zb 6 (za ?_);refine yv (zU (hr:=hng)) (k:=?_))|(refine zb 7 (za ?_);refine yv (zD (hr:=hm1)) (k:=?_);refine zw ?_;refine yv (zl (hv:=hcv')) (k:=?_);refine yv (z5 (hr:=hcw)) (k:=?_);refine yv (zah (hr:=hm2)) (k:=?_);refine yv (zu (hr:=hm3)) (k:=za ?_))|(refine zb 8 (za ?_);(refine ys zt (k:=?_);rintro _ _ ⟨_,rfl,rfl⟩);(refine ys (z9 (k:=q) (m:=1) (hn:=rfl) (hkm:=rfl) (hys:=zc5 l (u.toNat+256*v.toNat))) (k:=?_);rintro _ _ ⟨rfl,aN,cN,rfl⟩);refine za ?_)|(refine zb 4 (za ?_);refine yv (zD (hr:=hi2)) (k:=za ?_)))
   have hl1:(l ++ [u.toNat+256*v.toNat]).length=q+1:=by rw [List.length_append,<-hqe];rfl
   refine zq (l ++ [u.toNat+256*v.toNat],aN,cN) ⟨by dsimp only;omega,zeV hlow q_o,?_⟩ ?_ ?_ ?_
   ·dsimp only;rw [hstep,hl1];congr 2;omega
   ·dsimp only;omega
   ·dsimp only;rw [hl1,<-hnx];exact q_h
   ·dsimp only;rw [hl1];exact q_h
 ·have hng:decide ((0:Int)<=(len:Int) - 1 - 2*(q:Int))=false:=q_f;rw [show len - 2*q=0 by omega,List.drop_zero] at hv;rw [<-hv];refine zcA (λw' hh=>(Row.cap hh Has.here:q<=c1)) λhcap=>?_;repeat' (first|refine s_0 ?_|(refine zb 3 (za ?_);refine yv (zab (hr:=hng)) (k:=?_))|(refine zb 9 (za ?_);refine yv (zd (hc:=λw' _ _ hh=>zcq a1 q c1 l w' hqe.symm hcap hlow (zJ hh (by exact Has.append Has.here)) q_o)) (k:=?_);refine za ?_))
  refine zbm (zc4 Rem.here hqe.symm hlow) ?_;exact q_r
end Go.Proofs.YtdnlngbjpdbffaaGreatDoor
namespace Go.Nt
open Go Go.Sy
section
variable {P:Program}{ro:Option Nat}{N:Nat}{w0:World}{M:Nat->Prop}{ds:List Deferred}{g:Nat->Option Value}{L:List Res}{o:Oper}
end
end Go.Nt
namespace Go.Proofs.YtdnlngbjpdbffaaGreatDoor
open Go Go.Sy Go.Nt Go.RowKit
attribute [local irreducible] Sy SyL SyX Sy.Fn callFunc natC refC iC
theorem zif (a:Option Addr) (c x:Nat) (w:World) (hs:SlA w a (refC x)) (hx:nd 65536 x < 100000000):
  Sy.Fn Tryz.prog 223 [.slice a (nd 65536 x) c] w No (λv R=>∃a1 c1,v= .slice a1 (nd 256 x) c1/\R= [.row (.slice a1 (nd 256 x) c1) 5 1 (nd 256 x) ((byt x).map v8)]):=by
 refine zg Tryz.func223 rfl Tryz.ntmps223 q_p Holds.nil ?_;have hbit:=λw' (hk:Keep No w w')=>zhb a c x w' (hs.to hk (λ_ h=> .inr h)).sla q_o;have hdig:=λi w' (hk:Keep No w w')=>za8 a c x i w' (hs.to hk (λ_ h=> .inr h)).sla;have hnp:=zjs 8 x q_e;rw [show (2:Nat) ^ 8=256 from rfl] at hnp;have hm:nd 2 x<=16*nd 65536 x:=zao 2 x _ q_e (by rw [<-two16];exact zai 65536 x q_e);have hbl:=zdO x;have hbg:=zmG 256 x;generalize nd 65536 x=k at *;have hq0:IntKind.i64.wrap (((nd 2 x:Nat):Int)+7)=((nd 2 x+7:Nat):Int):=q_w;have hq:IntKind.i64.wrap ((((nd 2 x+7:Nat):Int)).tdiv 8)=((nd 256 x:Nat):Int):=by rw [hnp];exact quoI (k:=8) q_o
 have hnb:nd 256 x<=400000000:=q_o;generalize nd 2 x=m at *;generalize nd 256 x=n at *;obtain ⟨l,hl⟩: ∃l,l=byt x:=⟨_,rfl⟩;have hlg: ∀i,i < n->l[i]?=some (UInt8.ofNat (x / 256 ^ (n - 1 - i) % 256)):=λi hi=>by
  rw [hl];unfold byt;rw [List.getElem?_map,hbg i hi];rfl
 rw [<-hl] at hbl ⊢;repeat' (first|refine s_t ?_|(refine zB [0,2] ?_;refine za ?_)|(refine zb 1 (za ?_);refine yv (zd (hc:=zr hbit)) (k:=?_);refine yv (zu (hr:=hq0)) (k:=?_);refine yv (zaz (hr:=hq)) (k:=za ?_))|(refine zb 3 (za ?_);refine zdc ?_;refine za ?_))
 refine zaR (zaE 5 1) ?_;refine zy (γ:=Nat×Option Addr×Nat) (λg=>[(0,.slice a k c),(4,.slice g.2.1 g.1 g.2.2),(5,.int .i64 ((n:Int) - 1 - (g.1:Int)))]) (λg=>[.row (.slice g.2.1 g.1 g.2.2) 5 1 g.1 ((l.take g.1).map v8)])
  (λg=>g.1<=n) (λg=>n - g.1) (0,none,0) (Nat.zero_le _) ?_ ?_ ?_
 ·(repeat' (first|exact Sub.nil|refine Sub.cons rfl ?_ ?_|rfl))
  show Value.int .i64 ((n:Int) - 1)= .int .i64 ((n:Int) - 1 - ((0:Nat):Int));congr 1;omega
 ·exact q_h
 rintro ⟨q,a1,c1⟩ hq1;dsimp only at hq1 ⊢;by_cases hlt:q < n
 ·obtain ⟨p,hp⟩: ∃p,p=n - 1 - q:=⟨_,rfl⟩;have hpi:(n:Int) - 1 - (q:Int)=((p:Nat):Int):=q_o;have hpn:IntKind.i64.wrap ((p:Int) - 1)=(n:Int) - 1 - ((q+1:Nat):Int):=q_w;have hu:=hlg q hlt;rw [<-hp] at hu;have hdg:=λw' hk=>hdig (p / 2) w' hk;have hdo:=zgx 256 2 x (p / 2) (p % 2) (Nat.mod_lt _ q_e);rw [show 2*(p / 2)+p % 2=p by omega,show (256:Nat) ^ 2=65536 from rfl,show (256:Nat) ^ (p % 2)=2 ^ (8*(p % 2)) by rw [show (256:Nat)=2 ^ 8 from rfl,<-Nat.pow_mul]] at hdo;have hdl:x / 65536 ^ (p / 2) % 65536 < 65536:=Nat.mod_lt _ q_e;generalize x / 65536 ^ (p / 2) % 65536=d at *;have q1:IntKind.i64.wrap ((p:Int).tdiv 2)=((p / 2:Nat):Int):=quoI (k:=2) q_o;have q2:(p:Int).tmod 2=((p % 2:Nat):Int):=remI p 2;have q3:IntKind.i64.wrap (8*((p % 2:Nat):Int))=((8*(p % 2):Nat):Int):=q_w;have q4:=shrI d (8*(p % 2)) .i64 q_o;have q5:((d / 2 ^ (8*(p % 2)):Nat):Int).tmod 256=((x / 256 ^ p % 256:Nat):Int):=by rw [<-hdo];exact remI _ 256
  have hel:x / 256 ^ p % 256 < 256:=Nat.mod_lt _ q_e;generalize x / 256 ^ p % 256=e at *;have q6:IntKind.u8.wrap ((e:Nat):Int)=Wd.n8 (UInt8.ofNat e):=by rw [Wd.wrap_u8_nat,Wd.n8_of_nat]
  generalize UInt8.ofNat e=u at *;have hys:(l.take q).map v8 ++ [v8 u]=(l.take (q+1)).map v8:=by
   rw [List.take_succ,hu,List.map_append];rfl
  rw [hpi];repeat' (first|refine s_t ?_|(refine zb 4 (za ?_);refine zad ?_)|(refine zb 6 (za ?_);refine yv (zaz (hr:=q1)) (k:=?_);refine yv (zd (hc:=zr hdg)) (k:=?_);refine za ?_;refine yv (zap (hr:=q2)) (k:=?_);refine yv (zah (hr:=q3)) (k:=?_);refine yv (zaJ (hr:=q4)) (k:=?_);refine yv (zap (hr:=q5)) (k:=?_);refine yv (z5 (hr:=q6)) (k:=?_);(refine ys zt (k:=?_);rintro _ _ ⟨_,rfl,rfl⟩);(refine ys (z9 (k:=q) (m:=1) (hn:=rfl) (hkm:=rfl) (hys:=hys)) (k:=?_);rintro _ _ ⟨rfl,aN,cN,rfl⟩);refine za ?_)|(refine zb 5 (za ?_);refine yv (zD (hr:=hpn)) (k:=za ?_)))
  refine zq (q+1,aN,cN) (by show q+1<=n;omega) ?_ ?_ ?_
  ·show n - (q+1) < n - q;omega
  ·exact q_h
  ·exact q_h
 obtain rfl:q=n:=q_o;have hge:decide ((0:Int)<=(q:Int) - 1 - (q:Int))=false:=q_f;rw [<-hbl,List.take_length];rw [<-hbl] at hge;repeat' (first|refine s_0 ?_|(refine zb 4 (za ?_);refine yv (zab (hr:=hge)) (k:=?_))|(refine zb 7 (za ?_)))
 exact q_r
end Go.Proofs.YtdnlngbjpdbffaaGreatDoor
end
section
namespace Go.Sy
open Go
theorem zfd (z0:Value) (n:Nat):(Builtin.zeroCells #[z0] n).toList=List.replicate n z0:=by
 unfold Builtin.zeroCells;apply List.ext_getElem?;intro i;simp [List.getElem?_replicate];by_cases h:i < n
 ·simp [h,Nat.mod_one]
 ·simp [h]
section
variable {P:Program}
theorem zgD (w:World) {t tn ty e bytes:Nat}{i:TypeInfo}{zv z0:Value}{kq kn:IntKind}(hd:P.underlying t=some (.slice e)) (htn:P.underlying tn=some (.int kn)) (hi:P.info? e=some i) (hz:i.zero=some zv) (hsz:i.size=1) (hby:i.bytes=bytes) (hzc:zv.cells= #[z0]) (hone:z0.oneCell'=true)
  {v:Value}{k m:Nat}{xs:List Value}(hown:w.ownsRow 0 e 1 v k xs) (b1:k+m<=maxLen) (b2:(k+m)*bytes<=140737488355328):
  ∃v' w',(Builtin.append_ #[t,tn] ty #[v,.int kq (m:Int)]).run P w= .ok v' w'/\w'.ownsRow 0 e 1 v' (k+m) (xs ++ List.replicate m z0)/\w.grownBy w' v.ownBlock/\ ∀b,v'.ownBlock=some b->v.ownBlock=some b\/w.heap.size<=b:=by
 subst hby
 have hsmall:k+m<=9223372036854775807:=by simp only [maxLen] at b1;omega
 have hlen:(xs ++ List.replicate m z0).length=(k+m)*1:=by rw [List.length_append,hown.1,List.length_replicate];omega
 have hmb:m*i.bytes<=281474976710656:=by have:m*i.bytes<=(k+m)*i.bytes:=Nat.mul_le_mul_right _ q_o;omega
 have hw:IntKind.i64.wrap (m:Int)=m:=by rw [IntKind.wrap_i64];omega
 have hneg: ¬((m:Int) < 0):=q_o;have h48i: ¬(281474976710656 < (m:Int)*(i.bytes:Int)):=by rw [<-Int.natCast_mul];omega
 have grown: ∀(old:Nat),old < k+m-> ∀(row:Option Nat),
   (w.drew.alloc (.cells (xs.toArray ++ Builtin.zeroCells zv.cells m ++ Builtin.zeroCells zv.cells (grownCap w (k+m) old e - (k+m))) e)).ownsRow 0 e 1
    (.slice (some ⟨w.heap.size,0,none⟩) (k+m) (grownCap w (k+m) old e)) (k+m) (xs ++ List.replicate m z0)/\
   w.grownBy (w.drew.alloc (.cells (xs.toArray ++ Builtin.zeroCells zv.cells m ++ Builtin.zeroCells zv.cells (grownCap w (k+m) old e - (k+m))) e)) row:=by
  intro old ho row;have hge:=grownCap_ge w (k+m) old e;have hcm:grownCap w (k+m) old e<=maxLen:=grownCap_le_maxLen w (k+m) old e b1;refine ⟨⟨hlen,.inr ⟨w.heap.size,_,_,rfl,Nat.zero_le _,heap_alloc_new w.drew _,hge,hcm,?_,?_⟩⟩,⟨rfl,rfl,rfl,by simp,λj hj _=>heap_alloc_old w.drew _ hj⟩⟩
  ·simp only [Array.size_append,List.size_toArray,size_zeroCells,hzc,hown.1];simp;omega
  ·simp only [Array.toList_append,hzc,zfd];rw [<-hlen];exact List.take_left
 rcases hown.2 with ⟨rfl,rfl⟩|⟨g,cap,cur,rfl,hbg,hg,hnc,hcm,hcs,htake⟩
 ·have hx:xs= []:=List.eq_nil_of_length_eq_zero (by simpa using hown.1);subst hx;by_cases hm:m=0
  ·subst hm;refine ⟨.slice none 0 0,w,?_,World.ownsRow_nil w 0 e 1,⟨rfl,rfl,rfl,Nat.le_refl _,λ_ _ _=>rfl⟩,λb hb=> .inl hb⟩;simp [Builtin.append_,run_underlying hd,run_underlying htn,sizeOf,typeInfo,hi,asInt,asIntOf,IntKind.wrap_i64]
  ·have hr:=Lib.run_append_grow_zeros (P:=P) w t tn ty e i zv kq kn hd htn hi hz none 0 0 [] (by simp [Builtin.firstCells]) m q_o q_o q_o q_o hmb (growslice_fits q_o b2);obtain ⟨h1,h2⟩:=grown 0 q_o (Value.ownBlock (.slice none 0 0));exact ⟨_,_,hr,h1,h2,λb hb=> .inr (by simp [Value.ownBlock] at hb;omega)⟩
 ·by_cases hroom:k+m<=cap
  ·have hfit:k+m<=cur.size:=by rw [hcs];omega
   have hst:=run_storeCells_at P g (k*1) e (List.replicate m z0) 0 cur w hg (by simp;omega) (by intro u hu;rw [List.eq_of_mem_replicate hu];exact hone);simp only [Nat.add_zero] at hst;refine ⟨.slice (some ⟨g,0,none⟩) (k+m) cap,w.setRow g (cur.toList.take (k*1) ++ List.replicate m z0 ++ cur.toList.drop (k*1+(List.replicate m z0).length)).toArray,?_,⟨hlen,.inr ⟨g,cap,_,rfl,hbg,setRow_heap w g cur _ e _ hg,hroom,hcm,?_,?_⟩⟩,⟨rfl,rfl,rfl,by simp,λj _ hj=>setRow_other w g j _ (λe=>hj (by simp [Value.ownBlock,e]))⟩,λb hb=> .inl hb⟩
   ·by_cases hm:m=0
    ·subst hm;simp only [List.replicate_zero,List.append_nil,List.length_nil,Nat.add_zero,List.take_append_drop] at hst ⊢;simp [Builtin.append_,run_underlying hd,run_underlying htn,sizeOf,typeInfo,hi,asInt,asIntOf,IntKind.wrap_i64,hnc,hsz,Addr.add_lit];have hst':Sem.run P (storeCells { block:=g,off:=k } []) w=Result.ok () (w.setRow g cur):=by simpa using hst
     rw [hst'];rfl
    ·have hz':(Builtin.zeroCells zv.cells m).toList=List.replicate m z0:=by rw [hzc,zfd]
     have hns: ¬(m*i.size=0):=by rw [hsz];omega
     simp [Builtin.append_,run_underlying hd,run_underlying htn,sizeOf,typeInfo,zeroValue,hi,hz,asInt,asIntOf,hw,hneg,h48i,hroom,hns,Addr.add_lit,hz',hsz,hm];have hst':Sem.run P (storeCells { block:=g,off:=k } (List.replicate m z0)) w=Result.ok () (w.setRow g (List.take k cur.toList ++ (List.replicate m z0 ++ List.drop (k+m) cur.toList)).toArray):=by simpa using hst
     rw [hst'];rfl
   ·simp only [List.size_toArray,List.length_append,List.length_take,List.length_drop,List.length_replicate,Array.length_toList];omega
   ·rw [htake,<-hlen];exact List.take_left
  ·have holds: ∀j u,xs[j]?=some u->w.cell? ((⟨g,0,none⟩:Addr).add j)=some u:=hown.cells (g:=g) rfl;have hf:=run_firstCells_some (P:=P) w.drew i.size k ⟨g,0,none⟩ k cap xs (by rw [hsz];exact hown.1) holds;have hr:=Lib.run_append_grow_zeros (P:=P) w t tn ty e i zv kq kn hd htn hi hz (some ⟨g,0,none⟩) k cap xs hf m q_o q_o q_o q_o hmb (growslice_fits q_o b2);obtain ⟨h1,h2⟩:=grown cap q_o (Value.ownBlock (.slice (some ⟨g,0,none⟩) k cap));exact ⟨_,_,hr,h1,h2,λb hb=> .inr (by simp [Value.ownBlock] at hb;omega)⟩
end
section
variable {P:Program}{ro:Option Nat}{N:Nat}{w0:World}{M:Nat->Prop}{ds:List Deferred}{g:Nat->Option Value}{L:List Res}{o:Oper}{t tn:TypeId}{y ye:Ty}
theorem zha {k m e:Nat}{v z0:Value}{kq kn:IntKind}{xs:List Value}{L1:List Res}{xo so:Operand}{l:Int}(hm:l=(m:Int)) (hL:Rem L (.row v e 1 k xs) L1) (ho:o.op= .call { callee:=.builtin .append,args:=#[so,xo],argTypes:=#[t,tn] } :=by exact rfl)
  (hs:ev g so=some v:=by exact rfl) (hx:ev g xo=some (.int kq l):=by exact rfl) (ht:tyOf P t=some y:=by exact ty rfl) (hy:y.desc= .slice e:=by exact rfl) (htn:P.underlying tn=some (.int kn):=by exact tyI rfl rfl) (he:tyOf P e=some ye:=by exact ty rfl) (hsz:ye.size=1:=by exact rfl) (hz:zeroC P e=some [z0]:=by exact zc rfl) (hone:z0.oneCell'=true:=by exact rfl) (b1:k+m<=maxLen:=by first|(unfold maxLen;omega)|fail) (b2:(k+m)*ye.bytes<=140737488355328:=by first|(dsimp only;omega)|omega|fail) {km:Nat}{ys:List Value}(hkm:k+m=km:=by exact rfl) (hys:xs ++ List.replicate m z0=ys:=by exact rfl):
  OpT P ro N w0 M ds o g L (λv' L'=>L'= .row v' e 1 km ys::L1/\ ∃a c,v'= .slice a km c):=by
 subst hkm;subst hys;subst hm;refine OpT.run (by rw [ho];rfl) λa w X hst=>?_;obtain ⟨d,i',hd,hi',hs',_⟩:=zN ht;rw [hy] at hs';have:=zaF hs';subst this;obtain ⟨de,ie,hde,hie,_,hez,heb,_⟩:=zN he;unfold zeroC at hz;rw [hie] at hz;simp only [Option.bind_some,Option.map_eq_some_iff] at hz;obtain ⟨zv,hzv,hze⟩:=hz;have hp:=hst.perm (hL.append (X:=X)).perm;have hrow:w.ownsRow 0 e 1 v k xs:=hp.hold.all _ List.mem_cons_self;have hmine:=λb hb=>hp.hold.mine (.row v e 1 k xs) List.mem_cons_self b hb;obtain ⟨v',w',hrun,hown,hgr,hnew⟩:=zgD (P:=P) (ty:=o.type) (kq:=kq) w hd htn hie hzv (hez.trans hsz) heb (Array.toList_inj.1 hze) hone hrow b1 b2;have hkw:Keep (λb=>v.ownBlock=some b) w w':=Keep.grown hgr;have hkeep:Keep M w0 w':=hst.keep.trans hkw (λb hb=>hmine b hb);refine ⟨.value v',v',w',_,?_,.inl rfl,⟨rfl,?_⟩,hkeep,?_⟩
 ·have e1: #[so,xo].map a.eval= #[v,.int kq (m:Int)]:=by simp [hst.agr.eval hs,hst.agr.eval hx]
  simp only [execOp,ho,resolve,invoke,builtin,e1,Sem.run_bind,Sem.run_pure,Result.andThen_ok,hrun]
 ·obtain ⟨_,⟨h2,h3⟩|⟨b,c,cur,hv,_⟩⟩:=hown
  ·exact ⟨none,0,by rw [h2,h3]⟩
  ·exact ⟨_,c,hv⟩
 ·have ht:=hp.hold.tail;refine Holds.cons (L:=L1 ++ X) (ht.keep hkw (λr hr' b hb hb'=>(List.pairwise_cons.1 hp.hold.apart).1 r hr' b hb' hb)) hown (λr hr' b hb hb'=>?_) (λb hb=>?_)
  ·rcases hnew b hb with h|h
   ·exact (List.pairwise_cons.1 hp.hold.apart).1 r hr' b h hb'
   ·have:=Res.own_lt (ht.all r hr') hb';omega
  ·rcases hnew b hb with h|h
   ·exact hmine b h
   ·exact .inl (Nat.le_trans hst.keep.size h)
end
end Go.Sy
end
