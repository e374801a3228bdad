/- The specification's numbers: digits, bits, ints. -/
import Derived.Test.YtcpjfilcilcekaaGreatDoorYJ06
import Derived.Test.YtcpjfilcilcekaaGreatDoorYJ13
import Derived.Test.YtcpjfilcilcekaaGreatDoorYJ12
set_option linter.all false
section
namespace Go.Sy
open Go
theorem zmG {N:Nat}{w0:World}{M:Nat->Prop}{ds:List Deferred}{L L1:List Res}{a:Option Addr}{E s n n' c:Nat}{xs:List Value}(hr:Rem L (.row (.slice a n c) E s n xs) L1) (hn:n'<=n):Conv N w0 M ds L (.row (.slice a n' c) E s n' (xs.take (n'*s))::L1):=by
 intro g w0' w X hs
 have hp:=hs.perm (hr.perm.append_right X)
 have hb:w.ownsRow 0 E s (.slice a n c) n xs:=hp.hold.all _ List.mem_cons_self
 have hown: ∀b,(Value.slice a n' c).ownBlock=some b->(Value.slice a n c).ownBlock=some b:=λb hb=>by
  cases a with
  |none=>cases hb
  |some a=>exact hb
 refine ⟨hp.size,hp.agr,hp.keep,hp.hold.tail.cons ?_ (λr hr' b' hb'=>?_) (λb' hb'=>hp.hold.mine _ List.mem_cons_self b' (hown b' hb'))⟩
 ·obtain ⟨h1,⟨h2,h3⟩|⟨g',cap,cur,h2,h3,h4,h5,h6,h7,h8⟩⟩:=hb
  ·subst h3
   obtain rfl:n'=0:=by omega
   cases h2
   exact ⟨by simp,.inl ⟨rfl,rfl⟩⟩
  ·cases h2
   have hm:n'*s<=n*s:=Nat.mul_le_mul_right s hn
   exact ⟨by rw [List.length_take];omega,.inr ⟨g',c,cur,rfl,h3,h4,by omega,h6,h7,by rw [<-h8,List.take_take,Nat.min_eq_left hm]⟩⟩
 ·exact (List.pairwise_cons.1 hp.hold.apart).1 r hr' b' (hown b' hb')
end Go.Sy
namespace Go.Nt
open Go Go.Sy
theorem shrI (d r:Nat) (k:IntKind) (h:r < 64):Op.shift .shr .i64 (d:Int) k (r:Int)=pure (.int .i64 ((d / 2 ^ r:Nat):Int)):=by
 have h1: ¬((r:Int) < 0):=by omega
 have h2: ¬64<=r:=by omega
 simp [Op.shift,h1,h2,IntKind.bits]
def iC (l:List Nat):List Value:=l.map iv
theorem zeA (l:List Nat):(iC l).length=l.length:=List.length_map _
theorem zjG {l:List Nat}{i d:Nat}(h:l[i]?=some d):(iC l)[i]?=some (iv d):=by unfold iC;rw [List.getElem?_map,h];rfl
theorem zqP (l:List Nat):(iC l).all (·.oneCell')=true:=zqN l
theorem zdc (x:Nat):refC x=iC (cd 65536 x):=rfl
theorem zd3 (x:Nat):(refC x).length=nd 65536 x:=by rw [zdc,zeA,zfW]
theorem ze0 (x i:Nat) (h:i < nd 65536 x):(refC x)[i]?=some (iv (x / 65536 ^ i % 65536)):=by
 rw [zdc];exact zjG (by unfold cd;exact zcJ _ _ _ _ h)
theorem zeG {w:World}{a:Option Addr}{B:List Value}(h:SlA w a B) (hne:0 < B.length): ∃b o,a=some ⟨b,o,none⟩/\w.rangeAt b o B:=by
 rcases h with h|h
 ·rw [h] at hne;exact absurd hne (by decide)
 ·exact h
theorem two16 (n:Nat):65536 ^ n=2 ^ (16*n):=by rw [show (65536:Nat)=2 ^ 16 from rfl,<-Nat.pow_mul]
end Go.Nt
namespace Go.Proofs.YtcpjfilcilcekaaGreatDoor
open Go Go.Sy Go.Nt Go.RowKit
def RefG (x:Nat) (v:Value) (R:List Res):Prop:=∃a c,v= .slice a (nd 65536 x) c/\R= [.row (.slice a (nd 65536 x) c) 3 1 (nd 65536 x) (refC x)]
attribute [local irreducible] Sy SyL SyX Sy.Fn callFunc natC refC iC
set_option maxRecDepth 10000
theorem za7 (a:Option Addr) (c x i:Nat) (w:World) (hs:SlA w a (refC x)):
  Sy.Fn Tryz.prog 89 [.slice a (nd 65536 x) c,.int .i64 i] w No (Gives (iv (x / 65536 ^ i % 65536))):=by
 refine zk Tryz.func89 rfl Tryz.ntmps89 (by simp) Holds.nil ?_
 have hlen:=zd3 x
 have hget:=ze0 x i
 have hlt:=zae 65536 x (by decide)
 generalize nd 65536 x=n at *
 by_cases h:i < n
 ·obtain ⟨b,o,rfl,hr⟩:=zeG hs (by omega)
  have hc:=hr i _ (hget h)
  generalize x / 65536 ^ i % 65536=d at *
  repeat' (first|refine s_0 ?_|(refine za (id:=0) ?_;refine zd ?_)|(refine za (id:=1) ?_;refine zb ?_;refine zN ?_;refine zb ?_;refine zb ?_;refine zb ?_;refine zq ?_;refine zac ?_;refine zo ?_)|(refine za (id:=3) ?_;refine zb ?_;refine zb ?_;refine zr ?_;refine yv (zx (hv:=hc)) (k:=?_);refine zd ?_)|fail)
  exact ret1 rfl (resTmp rfl) SubR.nil ⟨rfl,rfl⟩
 ·have hz:x / 65536 ^ i=0:=Nat.div_eq_of_lt (Nat.lt_of_lt_of_le hlt (Nat.pow_le_pow_right (by decide) (by omega)))
  rw [hz]
  repeat' (first|refine s_0 ?_|(refine za (id:=0) ?_;refine zd ?_)|(refine za (id:=1) ?_;refine zb ?_;refine zN ?_;refine zb ?_;refine zb ?_;refine zb ?_;refine zq ?_;refine zac ?_;refine zo ?_)|(refine za (id:=2) ?_;refine zd ?_)|fail)
  exact ret1 rfl (resTmp rfl) SubR.nil ⟨rfl,rfl⟩
theorem zmC (a:Option Addr) (n c:Nat) (i:Int) (w:World) (hi:i < 0):
  Sy.Fn Tryz.prog 89 [.slice a n c,.int .i64 i] w No (Gives (iv 0)):=by
 refine zk Tryz.func89 rfl Tryz.ntmps89 (by simp) Holds.nil ?_
 repeat' (first|refine s_0 ?_|(refine za (id:=0) ?_;refine zd ?_)|(refine za (id:=1) ?_;refine zb ?_;refine zN ?_;refine zb ?_;refine zj rfl rfl rfl ?_;refine zj rfl rfl rfl ?_;refine zj rfl rfl rfl ?_;refine zj rfl rfl rfl ?_;refine zo ?_)|(refine za (id:=2) ?_;refine zd ?_)|fail)
 exact ret1 rfl (resTmp rfl) SubR.nil ⟨rfl,rfl⟩
theorem zkw (a:Option Addr) (c x i:Nat) (w:World) (hs:SlA w a (refC x)) (hi:i < 9223372036854775808):
  Sy.Fn Tryz.prog 125 [.slice a (nd 65536 x) c,.int .i64 i] w No (Gives (iv (x / 2 ^ i % 2))):=by
 refine zk Tryz.func125 rfl Tryz.ntmps125 (by simp) Holds.nil ?_
 have hd:=λw' (hk:Keep No w w')=>za7 a c x (i / 16) w' (hs.to hk (λ_ h=> .inr h)).sla
 have h2:=zgV 2 16 x (i / 16) (i % 16) (Nat.mod_lt _ (by decide))
 rw [show 16*(i / 16)+i % 16=i by omega,show (2:Nat) ^ 16=65536 from rfl] at h2
 have hdl:x / 65536 ^ (i / 16) % 65536 < 65536:=Nat.mod_lt _ (by decide)
 generalize x / 65536 ^ (i / 16) % 65536=d at *
 have q1:IntKind.i64.wrap ((i:Int).tdiv 16)=((i / 16:Nat):Int):=quoI (k:=16) hi
 have q2:(i:Int).tmod 16=((i % 16:Nat):Int):=remI i 16
 have q3:=shrI d (i % 16) .i64 (by omega)
 have q4:((d / 2 ^ (i % 16):Nat):Int).tmod 2=((x / 2 ^ i % 2:Nat):Int):=by rw [<-h2];exact remI _ 2
 repeat' (first|refine s_0 ?_|(refine za (id:=0) ?_;refine zd ?_)|(refine za (id:=1) ?_;refine zb ?_;refine zN ?_)|(refine za (id:=3) ?_;refine zb ?_;refine zb ?_;refine yv (zaS (hr:=q1)) (k:=?_);refine yv (zf (hc:=λw' _ hk _=>hd w' hk)) (k:=?_);refine zb ?_;refine yv (zau (hr:=q2)) (k:=?_);refine yv (zat (hr:=q3)) (k:=?_);refine yv (zau (hr:=q4)) (k:=?_);refine zd ?_)|fail)
 exact ret1 rfl (resTmp rfl) SubR.nil ⟨rfl,rfl⟩
theorem zg3 (a:Option Addr) (c x:Nat) (w:World) (hs:SlA w a (refC x)) (hx:nd 65536 x < 1000000000):
  Sy.Fn Tryz.prog 102 [.slice a (nd 65536 x) c] w No (Gives (.int .i64 ((nd 2 x:Nat):Int))):=by
 refine zk Tryz.func102 rfl Tryz.ntmps102 (by simp) Holds.nil ?_
 have hb:=λi w' (hk:Keep No w w') (hi:i < 9223372036854775808)=>zkw a c x i w' (hs.to hk (λ_ h=> .inr h)).sla hi
 have hlt:=zae 65536 x (by decide)
 rw [two16] at hlt
 generalize nd 65536 x=n at *
 have hm:IntKind.i64.wrap (16*(n:Int))=((16*n:Nat):Int):=by rw [IntWalk.i64_in _ (by omega)];omega
 repeat' (first|refine s_t ?_|(refine za (id:=0) ?_;refine zd ?_)|(refine za (id:=1) ?_;refine zb ?_;refine zq ?_;refine yv (zan (hr:=hm)) (k:=?_);refine zd ?_)|fail)
 refine zE (γ:=Nat) (λi=>[(0,.slice a n c),(3,.int .i64 i)]) (λ_=>[]) (λi=>i<=16*n/\x < 2 ^ i) (λi=>i) (16*n) ⟨Nat.le_refl _,hlt⟩ ?_ ?_ ?_
 ·exact Sub.go
 ·exact SubR.go
 rintro i ⟨hi,hxi⟩
 rcases Nat.eq_zero_or_pos i with h0|h0
 ·subst h0
  have:nd 2 x=0:=zbz 2 x 0 (by decide) hxi (λh=>absurd h (by decide))
  rw [this]
  repeat' (first|refine s_0 ?_|(refine za (id:=2) ?_;refine zb ?_;refine zaa ?_;refine zb ?_;refine zj rfl rfl rfl ?_;refine zj rfl rfl rfl ?_;refine zj rfl rfl rfl ?_;refine zj rfl rfl rfl ?_;refine zj rfl rfl rfl ?_;refine zo ?_)|(refine za (id:=4) ?_;refine zb ?_;refine zd ?_)|fail)
  exact ret1 rfl (resTmp rfl) SubR.nil ⟨rfl,rfl⟩
 have hs1:IntKind.i64.wrap ((i:Int) - 1)=((i - 1:Nat):Int):=by rw [IntWalk.i64_in _ (by omega)];omega
 have hb:=λw' hk=>hb (i - 1) w' hk (by omega)
 have hdm:=Nat.div_add_mod x (2 ^ (i - 1))
 have hml:=Nat.mod_lt x (show 0 < 2 ^ (i - 1) from Nat.pow_pos (by decide))
 have hpw:2 ^ i=2 ^ (i - 1)*2:=by rw [<-Nat.pow_succ,show (i - 1).succ=i by omega]
 have hq:x / 2 ^ (i - 1) < 2:=by
  rw [Nat.div_lt_iff_lt_mul (Nat.pow_pos (by decide)),Nat.mul_comm,<-hpw];exact hxi
 by_cases hz:x / 2 ^ (i - 1)=0
 ·rw [hz] at hb
  repeat' (first|refine s_t ?_|(refine za (id:=2) ?_;refine zb ?_;refine zaa ?_;refine zb ?_;refine zb ?_;refine zb ?_;refine yv (zJ (hr:=hs1)) (k:=?_);refine yv (zf (hc:=λw' _ hk _=>hb w' hk)) (k:=?_);refine zX ?_;refine zo ?_)|(refine za (id:=3) ?_;refine zb ?_;refine yv (zJ (hr:=hs1)) (k:=?_);refine zd ?_)|fail)
  refine zy (i - 1) ⟨by omega,?_⟩ ?_ ?_ ?_
  ·rw [hz,Nat.mul_zero,Nat.zero_add] at hdm;omega
  ·show i - 1 < i;omega
  ·exact Sub.go
  ·exact SubR.go
 ·have h1:x / 2 ^ (i - 1)=1:=by
   revert hq hz
   generalize x / 2 ^ (i - 1)=q
   intro hq hz
   omega
  rw [h1] at hb hdm
  have:nd 2 x=i:=zbz 2 x i (by decide) hxi (λ_=>by omega)
  rw [this]
  repeat' (first|refine s_0 ?_|(refine za (id:=2) ?_;refine zb ?_;refine zaa ?_;refine zb ?_;refine zb ?_;refine zb ?_;refine yv (zJ (hr:=hs1)) (k:=?_);refine yv (zf (hc:=λw' _ hk _=>hb w' hk)) (k:=?_);refine zX ?_;refine zo ?_)|(refine za (id:=4) ?_;refine zb ?_;refine zd ?_)|fail)
  exact ret1 rfl (resTmp rfl) SubR.nil ⟨rfl,rfl⟩
end Go.Proofs.YtcpjfilcilcekaaGreatDoor
namespace Go.Nt
open Go Go.Sy
section
variable {N:Nat}{w0:World}{M:Nat->Prop}{ds:List Deferred}{L L1:List Res}
theorem znI {l:List Nat}(hl: ∀d∈l,d < 65536):nd 65536 (vl 65536 l)<=l.length/\(iC l).take (nd 65536 (vl 65536 l)*1)=refC (vl 65536 l):=by
 have h1:=zak 65536 (vl 65536 l) l.length (by decide) (zcO 65536 l hl)
 refine ⟨h1,?_⟩
 rw [Nat.mul_one,zdc]
 unfold iC cd
 rw [<-List.map_take]
 congr 1
 have h2:=zek 65536 l hl
 rw [<-zp7 65536 l.length (nd 65536 (vl 65536 l)) (vl 65536 l) h1,h2]
theorem zcX {a:Option Addr}{E k c:Nat}{l:List Nat}(hr:Rem L (.row (.slice a k c) E 1 k (iC l)) L1) (hk:l.length=k) (hl: ∀d∈l,d < 65536):
  Conv N w0 M ds L (.row (.slice a (nd 65536 (vl 65536 l)) c) E 1 (nd 65536 (vl 65536 l)) (refC (vl 65536 l))::L1):=by
 obtain ⟨h1,h2⟩:=znI hl
 have:=zmG (N:=N) (w0:=w0) (M:=M) (ds:=ds) (n':=nd 65536 (vl 65536 l)) hr (by omega)
 rw [h2] at this
 exact this
end
theorem zg9:iC []= []:=rfl
theorem zc2 (l:List Nat) (d:Nat):iC l ++ [iv d]=iC (l ++ [d]):=by unfold iC;rw [List.map_append];rfl
theorem zu {B0:Nat}{w:World}{M:Nat->Prop}{E n m c:Nat}{a:Option Addr}{xs:List Value}{L:List Res}(hh:Holds B0 M L w) (hL:Has L (.row (.slice a m c) E 1 n xs)):SlA w a xs:=(SlF.row (Mi:=No) hh hL (λ_ h=>h.elim)).sla
end Go.Nt
namespace Go.Proofs.YtcpjfilcilcekaaGreatDoor
open Go Go.Sy Go.Nt Go.RowKit
attribute [local irreducible] Sy SyL SyX Sy.Fn callFunc natC refC iC
set_option maxRecDepth 10000
theorem zcv (a:Option Addr) (k c:Nat) (l:List Nat) (w:World) (hk:l.length=k) (hkc:k<=c) (hl: ∀d∈l,d < 65536) (hs:SlA w a (iC l)) (hb:k < 1000000000):
  Sy.Fn Tryz.prog 88 [.slice a k c] w No (Gives (.slice a (nd 65536 (vl 65536 l)) c)):=by
 refine zk Tryz.func88 rfl Tryz.ntmps88 (by simp) Holds.nil ?_
 repeat' (first|refine s_t ?_|(refine za (id:=0) ?_;refine zd ?_)|(refine za (id:=1) ?_;refine zb ?_;refine zq ?_;refine zd ?_)|fail)
 refine zE (γ:=Nat) (λn=>[(0,.slice a k c),(3,.int .i64 n)]) (λ_=>[]) (λn=>n<=k/\ ∀p,n<=p->p < k->l[p]?=some 0) (λn=>n) k ⟨Nat.le_refl _,λp h1 h2=>absurd h2 (by omega)⟩ ?_ ?_ ?_
 ·exact Sub.go
 ·exact SubR.go
 rintro n ⟨hn,hz⟩
 rcases Nat.eq_zero_or_pos n with h0|h0
 ·subst h0
  have he:=(zjE 65536 (by decide) l 0 hl (by omega) (λp h1 h2=>hz p h1 (by omega)) (.inl rfl)).1
  rw [he]
  repeat' (first|refine s_0 ?_|(refine za (id:=2) ?_;refine zb ?_;refine zaa ?_;refine zb ?_;refine zj rfl rfl rfl ?_;refine zj rfl rfl rfl ?_;refine zj rfl rfl rfl ?_;refine zj rfl rfl rfl ?_;refine zj rfl rfl rfl ?_;refine zj rfl rfl rfl ?_;refine zo ?_)|(refine za (id:=4) ?_;refine zb ?_;refine zb ?_;refine yv (zbp (l:=0) (h:=0) (n':=0) (c':=c)) (k:=?_);refine zd ?_)|fail)
  exact ret1 rfl (resTmp rfl) SubR.nil ⟨rfl,rfl⟩
 have hs1:IntKind.i64.wrap ((n:Int) - 1)=((n - 1:Nat):Int):=by rw [IntWalk.i64_in _ (by omega)];omega
 obtain ⟨b,o,rfl,hr⟩:=zeG hs (by rw [zeA];omega)
 obtain ⟨d,hd⟩: ∃d,l[n - 1]?=some d:=⟨l[n - 1]'(by omega),List.getElem?_eq_getElem _⟩
 have hc:=hr (n - 1) _ (zjG hd)
 by_cases hd0:d=0
 ·subst hd0
  repeat' (first|refine s_t ?_|(refine za (id:=2) ?_;refine zb ?_;refine zaa ?_;refine zb ?_;refine zb ?_;refine zb ?_;refine yv (zJ (hr:=hs1)) (k:=?_);refine zr ?_;refine yv (zx (hv:=hc)) (k:=?_);refine zX ?_;refine zo ?_)|(refine za (id:=3) ?_;refine zb ?_;refine yv (zJ (hr:=hs1)) (k:=?_);refine zd ?_)|fail)
  refine zy (n - 1) ⟨by omega,λp h1 h2=>?_⟩ ?_ ?_ ?_
  ·rcases Nat.lt_or_ge p n with h|h
   ·obtain rfl:p=n - 1:=by omega
    exact hd
   ·exact hz p h h2
  ·show n - 1 < n;omega
  ·exact Sub.go
  ·exact SubR.go
 ·have he:=(zjE 65536 (by decide) l n hl (by omega) (λp h1 h2=>hz p h1 (by omega)) (.inr ⟨d,hd,hd0⟩)).1
  rw [he]
  have hne:decide (((d:Nat):Int)=0)=false:=decide_eq_false (by omega)
  repeat' (first|refine s_0 ?_|(refine za (id:=2) ?_;refine zb ?_;refine zaa ?_;refine zb ?_;refine zb ?_;refine zb ?_;refine yv (zJ (hr:=hs1)) (k:=?_);refine zr ?_;refine yv (zx (hv:=hc)) (k:=?_);refine yv (z8 (hr:=hne)) (k:=?_);refine zo ?_)|(refine za (id:=4) ?_;refine zb ?_;refine zb ?_;refine yv (zbp (l:=0) (h:=n) (n':=n) (c':=c)) (k:=?_);refine zd ?_)|fail)
  exact ret1 rfl (resTmp rfl) SubR.nil ⟨rfl,rfl⟩
theorem zdl (v:Nat) (w:World) (hv:v < 9223372036854775808):
  Sy.Fn Tryz.prog 41 [.int .i64 v] w No (RefG v):=by
 refine zk Tryz.func41 rfl Tryz.ntmps41 (by simp) Holds.nil ?_
 have hn4:=zak 65536 v 4 (by decide) (by omega)
 have hsp:=zbz 65536 v
 repeat' (first|refine s_t ?_|(refine za (id:=0) ?_;refine zd ?_)|(refine za (id:=1) ?_;refine zd ?_)|fail)
 refine zbh (zaU 3 1) ?_
 refine zE (γ:=Nat×Option Addr×Nat) (λg=>[(0,.int .i64 ((v / 65536 ^ g.1:Nat):Int)),(3,.slice g.2.1 g.1 g.2.2)]) (λg=>[.row (.slice g.2.1 g.1 g.2.2) 3 1 g.1 (iC (dg 65536 g.1 v))])
  (λg=>g.1<=nd 65536 v) (λg=>nd 65536 v - g.1) (0,none,0) (Nat.zero_le _) ?_ ?_ ?_
 ·(repeat' (first|exact Sub.nil|refine Sub.cons rfl ?_ ?_|rfl))
  rw [Nat.pow_zero,Nat.div_one]
 ·show SubR [.row (.slice none 0 0) 3 1 0 (iC [])] _
  rw [zg9]
  exact SubR.go
 rintro ⟨i,a,c⟩ hi
 dsimp only at hi ⊢
 by_cases hlt:i < nd 65536 v
 ·have hpos:0 < v / 65536 ^ i:=by
   have h1:=(zb0 65536 (by decide) v).2 (by omega)
   exact Nat.div_pos (Nat.le_trans (Nat.pow_le_pow_right (by decide) (by omega)) h1) (Nat.pow_pos (by decide))
  have hdle:=Nat.div_le_self v (65536 ^ i)
  have hys:iC (dg 65536 i v) ++ [iv (v / 65536 ^ i % 65536)]=iC (dg 65536 (i+1) v):=by
   rw [zc2,zeh];simp only [dg]
  have hnx:v / 65536 ^ i / 65536=v / 65536 ^ (i+1):=by rw [Nat.div_div_eq_div_mul,<-Nat.pow_succ]
  generalize v / 65536 ^ i=y at *
  have q2:(y:Int).tmod 65536=((y % 65536:Nat):Int):=remI y 65536
  have q1:IntKind.i64.wrap ((y:Int).tdiv 65536)=((y / 65536:Nat):Int):=quoI (k:=65536) (by omega)
  generalize hyd:y % 65536=d at *
  repeat' (first|refine s_t ?_|(refine za (id:=2) ?_;refine zb ?_;refine zaa ?_)|(refine za (id:=3) ?_;refine zb ?_;refine zb ?_;refine yv (zau (hr:=q2)) (k:=?_);(refine ys zt (k:=?_);rintro _ _ ⟨_,rfl,rfl⟩);(refine ys (zaj (k:=i) (m:=1) (hn:=rfl) (hkm:=rfl) (hys:=hys)) (k:=?_);rintro _ _ ⟨rfl,aN,cN,rfl⟩);refine zd ?_)|(refine za (id:=4) ?_;refine zb ?_;refine yv (zaS (hr:=q1)) (k:=?_);refine zd ?_)|fail)
  refine zy (i+1,aN,cN) (by show i+1<=_;omega) ?_ ?_ ?_
  ·show nd 65536 v - (i+1) < nd 65536 v - i;omega
  ·rw [hnx]
   exact Sub.go
  ·exact SubR.go
 ·obtain rfl:i=nd 65536 v:=by omega
  have hz:v / 65536 ^ nd 65536 v=0:=Nat.div_eq_of_lt (zae 65536 v (by decide))
  rw [hz,show iC (dg 65536 (nd 65536 v) v)=refC v from (zdc v).symm]
  repeat' (first|refine s_0 ?_|(refine za (id:=2) ?_;refine zb ?_;refine zaa ?_)|(refine za (id:=5) ?_;refine zb ?_;refine zd ?_)|fail)
  exact ret1 rfl (resTmp rfl) (by exact SubR.go) ⟨_,_,rfl,rfl⟩
theorem zge (a:Option Addr) (len c:Nat) (bl:List UInt8) (w:World) (hl:bl.length=len) (hb:SlA w a (bl.map v8)) (hx:len < 100000000):
  Sy.Fn Tryz.prog 47 [.slice a len c] w No (RefG (bev 256 (bn bl))):=by
 refine zk Tryz.func47 rfl Tryz.ntmps47 (by simp) Holds.nil ?_
 have hbl:(bn bl).length=len:=by unfold bn;rw [List.length_map,hl]
 have hs0:IntKind.i64.wrap ((len:Int) - 1)=(len:Int) - 1:=IntWalk.i64_in _ (by omega)
 repeat' (first|refine s_t ?_|(refine za (id:=0) ?_;refine zd ?_)|(refine za (id:=1) ?_;refine zd ?_)|(refine za (id:=2) ?_;refine zb ?_;refine zq ?_;refine yv (zJ (hr:=hs0)) (k:=?_);refine zd ?_)|fail)
 refine zbh (zaU 3 1) ?_
 refine zE (γ:=List Nat×Option Addr×Nat) (λg=>[(0,.slice a len c),(3,.slice g.2.1 g.1.length g.2.2),(4,.int .i64 ((len:Int) - 1 - 2*(g.1.length:Int)))])
  (λg=>[.row (.slice g.2.1 g.1.length g.2.2) 3 1 g.1.length (iC g.1)])
  (λg=>2*g.1.length<=len+1/\(∀d∈g.1,d < 65536)/\vl 65536 g.1=bev 256 ((bn bl).drop (len - 2*g.1.length))) (λg=>len+1 - 2*g.1.length) ([],none,0)
  ⟨by show 2*0<=_;omega,(λd hd=>by cases hd),by show 0=bev 256 ((bn bl).drop (len - 2*0));rw [List.drop_eq_nil_of_le (by omega)];rfl⟩ ?_ ?_ ?_
 ·(repeat' (first|exact Sub.nil|refine Sub.cons rfl ?_ ?_|rfl))
  show Value.int .i64 ((len:Int) - 1)= .int .i64 ((len:Int) - 1 - 2*((0:Nat):Int))
  congr 1;omega
 ·show SubR [.row (.slice none 0 0) 3 1 0 (iC [])] _
  rw [zg9]
  exact SubR.go
 rintro ⟨l,a1,c1⟩ ⟨hq,hlow,hv⟩
 dsimp only at hq hlow hv ⊢
 obtain ⟨q,hqe⟩: ∃q,q=l.length:=⟨_,rfl⟩
 rw [<-hqe] at hq hv ⊢
 by_cases hlt:2*q+1<=len
 ·obtain ⟨b,o,rfl,hr⟩:=zeG hb (by rw [List.length_map];omega)
  obtain ⟨i,hi⟩: ∃i,i=len - 1 - 2*q:=⟨_,rfl⟩
  have hii:((len:Int) - 1 - 2*(q:Int))=((i:Nat):Int):=by omega
  have hi2:IntKind.i64.wrap ((i:Int) - 2)=(i:Int) - 2:=IntWalk.i64_in _ (by omega)
  have hnx:(i:Int) - 2=(len:Int) - 1 - 2*((q+1:Nat):Int):=by omega
  obtain ⟨u,hu⟩: ∃u,bl[i]?=some u:=⟨bl[i]'(by omega),List.getElem?_eq_getElem _⟩
  have hcu:w.cell? ⟨b,o+i,none⟩=some (v8 u):=hr i (v8 u) (by rw [List.getElem?_map,hu];rfl)
  have hu':(bn bl)[i]?=some u.toNat:=by unfold bn;rw [List.getElem?_map,hu];rfl
  have hul:=u.toNat_lt
  have hcv:IntKind.i64.wrap (Wd.n8 u)=((u.toNat:Nat):Int):=IntWalk.i64_in _ (by have:=Wd.n8_lt u;have:=Wd.n8_nonneg u;omega)
  rw [hii]
  by_cases h0:i=0
  ·have hstep:=znr (bn bl) u.toNat l (by rw [<-h0];exact hu') (by omega) (by rw [hv];congr 2;omega)
   have hng:decide ((0:Int) < (i:Int))=false:=decide_eq_false (by omega)
   repeat' (first|refine s_t ?_|(refine za (id:=3) ?_;refine zb ?_;refine zac ?_)|(refine za (id:=5) ?_;refine zb ?_;refine zb ?_;refine zr ?_;refine yv (zx (hv:=hcu)) (k:=?_);refine yv (zZ (hr:=hcv)) (k:=?_);refine zd ?_)|(refine za (id:=6) ?_;refine zb ?_;refine yv (zaf (hr:=hng)) (k:=?_))|(refine za (id:=8) ?_;refine zb ?_;refine zb ?_;(refine ys zt (k:=?_);rintro _ _ ⟨_,rfl,rfl⟩);(refine ys (zaj (k:=q) (m:=1) (hn:=rfl) (hkm:=rfl) (hys:=zc2 l u.toNat)) (k:=?_);rintro _ _ ⟨rfl,aN,cN,rfl⟩);refine zd ?_)|(refine za (id:=4) ?_;refine zb ?_;refine yv (zJ (hr:=hi2)) (k:=?_);refine zd ?_)|fail)
   have hl1:(l ++ [u.toNat]).length=q+1:=by rw [List.length_append,<-hqe];rfl
   refine zy (l ++ [u.toNat],aN,cN) ⟨by dsimp only;omega,zeZ hlow (by omega),?_⟩ ?_ ?_ ?_
   ·dsimp only;rw [hstep,hl1,show len - 2*(q+1)=0 by omega];rfl
   ·dsimp only;omega
   ·dsimp only
    rw [hl1,<-hnx]
    exact Sub.go
   ·dsimp only
    rw [hl1]
    exact SubR.go
  ·obtain ⟨v,hvv⟩: ∃v,bl[i - 1]?=some v:=⟨bl[i - 1]'(by omega),List.getElem?_eq_getElem _⟩
   have hcv':w.cell? ⟨b,o+(i - 1),none⟩=some (v8 v):=hr (i - 1) (v8 v) (by rw [List.getElem?_map,hvv];rfl)
   have hv':(bn bl)[i - 1]?=some v.toNat:=by unfold bn;rw [List.getElem?_map,hvv];rfl
   have hvl:=v.toNat_lt
   have hcw:IntKind.i64.wrap (Wd.n8 v)=((v.toNat:Nat):Int):=IntWalk.i64_in _ (by have:=Wd.n8_lt v;have:=Wd.n8_nonneg v;omega)
   have hm1:IntKind.i64.wrap ((i:Int) - 1)=((i - 1:Nat):Int):=by rw [IntWalk.i64_in _ (by omega)];omega
   have hm2:IntKind.i64.wrap (256*((v.toNat:Nat):Int))=((256*v.toNat:Nat):Int):=by rw [IntWalk.i64_in _ (by omega)];omega
   have hm3:IntKind.i64.wrap (((u.toNat:Nat):Int)+((256*v.toNat:Nat):Int))=((u.toNat+256*v.toNat:Nat):Int):=by rw [IntWalk.i64_in _ (by omega)];omega
   have hstep:=zmU (bn bl) (i - 1) u.toNat v.toNat l (by rw [show i - 1+1=i by omega];exact hu') hv' (by omega) (by rw [hv];congr 2;omega)
   have hng:decide ((0:Int) < (i:Int))=true:=decide_eq_true (by omega)
   repeat' (first|refine s_t ?_|(refine za (id:=3) ?_;refine zb ?_;refine zac ?_)|(refine za (id:=5) ?_;refine zb ?_;refine zb ?_;refine zr ?_;refine yv (zx (hv:=hcu)) (k:=?_);refine yv (zZ (hr:=hcv)) (k:=?_);refine zd ?_)|(refine za (id:=6) ?_;refine zb ?_;refine yv (zaf (hr:=hng)) (k:=?_))|(refine za (id:=7) ?_;refine zb ?_;refine zb ?_;refine zb ?_;refine yv (zJ (hr:=hm1)) (k:=?_);refine zr ?_;refine yv (zx (hv:=hcv')) (k:=?_);refine yv (zZ (hr:=hcw)) (k:=?_);refine yv (zan (hr:=hm2)) (k:=?_);refine yv (zL (hr:=hm3)) (k:=?_);refine zd ?_)|(refine za (id:=8) ?_;refine zb ?_;refine zb ?_;(refine ys zt (k:=?_);rintro _ _ ⟨_,rfl,rfl⟩);(refine ys (zaj (k:=q) (m:=1) (hn:=rfl) (hkm:=rfl) (hys:=zc2 l (u.toNat+256*v.toNat))) (k:=?_);rintro _ _ ⟨rfl,aN,cN,rfl⟩);refine zd ?_)|(refine za (id:=4) ?_;refine zb ?_;refine yv (zJ (hr:=hi2)) (k:=?_);refine zd ?_)|fail)
   have hl1:(l ++ [u.toNat+256*v.toNat]).length=q+1:=by rw [List.length_append,<-hqe];rfl
   refine zy (l ++ [u.toNat+256*v.toNat],aN,cN) ⟨by dsimp only;omega,zeZ hlow (by omega),?_⟩ ?_ ?_ ?_
   ·dsimp only;rw [hstep,hl1];congr 2;omega
   ·dsimp only;omega
   ·dsimp only
    rw [hl1,<-hnx]
    exact Sub.go
   ·dsimp only
    rw [hl1]
    exact SubR.go
 ·have hng:decide ((0:Int)<=(len:Int) - 1 - 2*(q:Int))=false:=decide_eq_false (by omega)
  rw [show len - 2*q=0 by omega,List.drop_zero] at hv
  rw [<-hv]
  refine zci (λw' hh=>(Row.cap hh Has.here:q<=c1)) λhcap=>?_
  repeat' (first|refine s_0 ?_|(refine za (id:=3) ?_;refine zb ?_;refine yv (zaH (hr:=hng)) (k:=?_))|(refine za (id:=9) ?_;refine zb ?_;refine yv (zf (hc:=λw' _ _ hh=>zcv a1 q c1 l w' hqe.symm hcap hlow (zu hh (by exact Has.append Has.here)) (by omega))) (k:=?_);refine zd ?_)|fail)
  refine zbv (zcX Rem.here hqe.symm hlow) ?_
  exact ret1 rfl (resTmp rfl) (by exact SubR.go) ⟨_,_,rfl,rfl⟩
end Go.Proofs.YtcpjfilcilcekaaGreatDoor
namespace Go.Nt
open Go Go.Sy
section
variable {P:Program}{ro:Option Nat}{N:Nat}{w0:World}{M:Nat->Prop}{ds:List Deferred}{g:Nat->Option Value}{L:List Res}{o:Oper}
end
end Go.Nt
namespace Go.Proofs.YtcpjfilcilcekaaGreatDoor
open Go Go.Sy Go.Nt Go.RowKit
attribute [local irreducible] Sy SyL SyX Sy.Fn callFunc natC refC iC
set_option maxRecDepth 10000
theorem ziu (a:Option Addr) (c x:Nat) (w:World) (hs:SlA w a (refC x)) (hx:nd 65536 x < 100000000):
  Sy.Fn Tryz.prog 63 [.slice a (nd 65536 x) c] w No (λv R=>∃a1 c1,v= .slice a1 (nd 256 x) c1/\R= [.row (.slice a1 (nd 256 x) c1) 5 1 (nd 256 x) ((byt x).map v8)]):=by
 refine zk Tryz.func63 rfl Tryz.ntmps63 (by simp) Holds.nil ?_
 have hbit:=λw' (hk:Keep No w w')=>zg3 a c x w' (hs.to hk (λ_ h=> .inr h)).sla (by omega)
 have hdig:=λi w' (hk:Keep No w w')=>za7 a c x i w' (hs.to hk (λ_ h=> .inr h)).sla
 have hnp:=zjf 8 x (by decide)
 rw [show (2:Nat) ^ 8=256 from rfl] at hnp
 have hm:nd 2 x<=16*nd 65536 x:=zak 2 x _ (by decide) (by rw [<-two16];exact zae 65536 x (by decide))
 have hbl:=zdK x
 have hbg:=zmk 256 x
 generalize nd 65536 x=k at *
 have hq0:IntKind.i64.wrap (((nd 2 x:Nat):Int)+7)=((nd 2 x+7:Nat):Int):=by rw [IntWalk.i64_in _ (by omega)];omega
 have hq:IntKind.i64.wrap ((((nd 2 x+7:Nat):Int)).tdiv 8)=((nd 256 x:Nat):Int):=by rw [hnp];exact quoI (k:=8) (by omega)
 have hnb:nd 256 x<=400000000:=by omega
 generalize nd 2 x=m at *
 generalize nd 256 x=n at *
 obtain ⟨l,hl⟩: ∃l,l=byt x:=⟨_,rfl⟩
 have hlg: ∀i,i < n->l[i]?=some (UInt8.ofNat (x / 256 ^ (n - 1 - i) % 256)):=λi hi=>by
  rw [hl];unfold byt;rw [List.getElem?_map,hbg i hi];rfl
 rw [<-hl] at hbl ⊢
 repeat' (first|refine s_t ?_|(refine za (id:=0) ?_;refine zd ?_)|(refine za (id:=1) ?_;refine zb ?_;refine yv (zf (hc:=λw' _ hk _=>hbit w' hk)) (k:=?_);refine yv (zL (hr:=hq0)) (k:=?_);refine yv (zaS (hr:=hq)) (k:=?_);refine zd ?_)|(refine za (id:=2) ?_;refine zd ?_)|(refine za (id:=3) ?_;refine zb ?_;refine zdf ?_;refine zd ?_)|fail)
 refine zbh (zaU 5 1) ?_
 refine zE (γ:=Nat×Option Addr×Nat) (λg=>[(0,.slice a k c),(4,.slice g.2.1 g.1 g.2.2),(5,.int .i64 ((n:Int) - 1 - (g.1:Int)))]) (λg=>[.row (.slice g.2.1 g.1 g.2.2) 5 1 g.1 ((l.take g.1).map v8)])
  (λg=>g.1<=n) (λg=>n - g.1) (0,none,0) (Nat.zero_le _) ?_ ?_ ?_
 ·(repeat' (first|exact Sub.nil|refine Sub.cons rfl ?_ ?_|rfl))
  show Value.int .i64 ((n:Int) - 1)= .int .i64 ((n:Int) - 1 - ((0:Nat):Int))
  congr 1;omega
 ·exact SubR.go
 rintro ⟨q,a1,c1⟩ hq1
 dsimp only at hq1 ⊢
 by_cases hlt:q < n
 ·obtain ⟨p,hp⟩: ∃p,p=n - 1 - q:=⟨_,rfl⟩
  have hpi:(n:Int) - 1 - (q:Int)=((p:Nat):Int):=by omega
  have hpn:IntKind.i64.wrap ((p:Int) - 1)=(n:Int) - 1 - ((q+1:Nat):Int):=by rw [IntWalk.i64_in _ (by omega)];omega
  have hu:=hlg q hlt
  rw [<-hp] at hu
  have hdg:=λw' hk=>hdig (p / 2) w' hk
  have hdo:=zgV 256 2 x (p / 2) (p % 2) (Nat.mod_lt _ (by decide))
  rw [show 2*(p / 2)+p % 2=p by omega,show (256:Nat) ^ 2=65536 from rfl,show (256:Nat) ^ (p % 2)=2 ^ (8*(p % 2)) by rw [show (256:Nat)=2 ^ 8 from rfl,<-Nat.pow_mul]] at hdo
  have hdl:x / 65536 ^ (p / 2) % 65536 < 65536:=Nat.mod_lt _ (by decide)
  generalize x / 65536 ^ (p / 2) % 65536=d at *
  have q1:IntKind.i64.wrap ((p:Int).tdiv 2)=((p / 2:Nat):Int):=quoI (k:=2) (by omega)
  have q2:(p:Int).tmod 2=((p % 2:Nat):Int):=remI p 2
  have q3:IntKind.i64.wrap (8*((p % 2:Nat):Int))=((8*(p % 2):Nat):Int):=by rw [IntWalk.i64_in _ (by omega)];omega
  have q4:=shrI d (8*(p % 2)) .i64 (by omega)
  have q5:((d / 2 ^ (8*(p % 2)):Nat):Int).tmod 256=((x / 256 ^ p % 256:Nat):Int):=by rw [<-hdo];exact remI _ 256
  have hel:x / 256 ^ p % 256 < 256:=Nat.mod_lt _ (by decide)
  generalize x / 256 ^ p % 256=e at *
  have q6:IntKind.u8.wrap ((e:Nat):Int)=Wd.n8 (UInt8.ofNat e):=by rw [Wd.wrap_u8_nat,Wd.n8_of_nat]
  generalize UInt8.ofNat e=u at *
  have hys:(l.take q).map v8 ++ [v8 u]=(l.take (q+1)).map v8:=by
   rw [List.take_succ,hu,List.map_append];rfl
  rw [hpi]
  repeat' (first|refine s_t ?_|(refine za (id:=4) ?_;refine zb ?_;refine zac ?_)|(refine za (id:=6) ?_;refine zb ?_;refine zb ?_;refine zb ?_;refine yv (zaS (hr:=q1)) (k:=?_);refine yv (zf (hc:=λw' _ hk _=>hdg w' hk)) (k:=?_);refine zb ?_;refine yv (zau (hr:=q2)) (k:=?_);refine yv (zan (hr:=q3)) (k:=?_);refine yv (zat (hr:=q4)) (k:=?_);refine yv (zau (hr:=q5)) (k:=?_);refine yv (zZ (hr:=q6)) (k:=?_);(refine ys zt (k:=?_);rintro _ _ ⟨_,rfl,rfl⟩);(refine ys (zaj (k:=q) (m:=1) (hn:=rfl) (hkm:=rfl) (hys:=hys)) (k:=?_);rintro _ _ ⟨rfl,aN,cN,rfl⟩);refine zd ?_)|(refine za (id:=5) ?_;refine zb ?_;refine yv (zJ (hr:=hpn)) (k:=?_);refine zd ?_)|fail)
  refine zy (q+1,aN,cN) (by show q+1<=n;omega) ?_ ?_ ?_
  ·show n - (q+1) < n - q;omega
  ·exact Sub.go
  ·exact SubR.go
 obtain rfl:q=n:=by omega
 have hge:decide ((0:Int)<=(q:Int) - 1 - (q:Int))=false:=decide_eq_false (by omega)
 rw [<-hbl,List.take_length]
 rw [<-hbl] at hge
 repeat' (first|refine s_0 ?_|(refine za (id:=4) ?_;refine zb ?_;refine yv (zaH (hr:=hge)) (k:=?_))|(refine za (id:=7) ?_;refine zb ?_;refine zd ?_)|fail)
 exact ret1 rfl (resTmp rfl) (by exact SubR.go) ⟨_,_,rfl,rfl⟩
end Go.Proofs.YtcpjfilcilcekaaGreatDoor
end
