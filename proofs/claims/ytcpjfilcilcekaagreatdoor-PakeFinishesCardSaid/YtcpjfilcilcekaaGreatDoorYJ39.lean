/- The specification of layer modular, walked. -/
import Derived.Test.YtcpjfilcilcekaaGreatDoorYJ18
import Derived.Test.YtcpjfilcilcekaaGreatDoorYJ37
import Derived.Test.YtcpjfilcilcekaaGreatDoorYJ38
import Derived.Test.YtcpjfilcilcekaaGreatDoorYJ07
set_option linter.all false
section
namespace Go.Nt
theorem zl4 (b x y n:Nat) (hb:2<=b) (hx:nd b x<=n) (hy:nd b y<=n):nd b (x+y)<=n+1:=by
 refine zak b _ _ hb ?_
 have h1:=Nat.lt_of_lt_of_le (zae b x hb) (Nat.pow_le_pow_right (by omega) hx)
 have h2:=Nat.lt_of_lt_of_le (zae b y hb) (Nat.pow_le_pow_right (by omega) hy)
 rw [Nat.pow_succ]
 have:=Nat.mul_le_mul_left (b ^ n) hb
 omega
theorem zl2 (b x y:Nat) (hb:2<=b):nd b (x*y)<=nd b x+nd b y:=by
 refine zak b _ _ hb ?_
 rw [Nat.pow_add]
 exact Nat.mul_lt_mul'' (zae b x hb) (zae b y hb)
theorem zdP (b x y:Nat) (hb:2<=b) (h:x<=y):nd b x<=nd b y:=zak b _ _ hb (Nat.lt_of_le_of_lt h (zae b y hb))
theorem zeD (b x m:Nat) (hb:2<=b) (h:0 < m):nd b (x % m)<=nd b m:=zdP b _ _ hb (Nat.le_of_lt (Nat.mod_lt _ h))
theorem znY (e i:Nat):e / 2 ^ i=2*(e / 2 ^ (i+1))+e / 2 ^ i % 2:=by
 have:=Nat.div_add_mod (e / 2 ^ i) 2
 rw [Nat.div_div_eq_div_mul,<-Nat.pow_succ] at this
 exact this.symm
theorem zp6 (a m k:Nat):a ^ k % m*(a ^ k % m) % m=a ^ (2*k) % m:=by rw [<-Nat.mul_mod,<-Nat.pow_add,Nat.two_mul]
theorem zmw (a m k:Nat):a ^ k % m*a % m=a ^ (k+1) % m:=by rw [Nat.mod_mul_mod,Nat.pow_succ]
end Go.Nt
namespace Go.Proofs.YtcpjfilcilcekaaGreatDoor
open Go Go.Sy Go.Nt Go.RowKit
theorem nd1:nd 65536 1=1:=zbz 65536 1 1 (by decide) (by decide) (λ_=>by decide)
theorem refC1: [Value.int IntKind.i64 1]=refC 1:=by
 rw [zdc];unfold cd;rw [nd1];rfl
attribute [local irreducible] Sy SyL SyX Sy.Fn callFunc natC refC iC
set_option maxRecDepth 10000
theorem zbE (a b:Option Addr) (ca cb x m:Nat) (w:World) (ha:SlA w a (refC x)) (hb:SlA w b (refC m)) (hx:nd 65536 x < 90000) (hm:nd 65536 m < 90000) (h0:0 < m):
  Sy.Fn Tryz.prog 83 [.slice a (nd 65536 x) ca,.slice b (nd 65536 m) cb] w No (RefG (x % m)):=by
 refine zk Tryz.func83 rfl Tryz.ntmps83 (by simp) Holds.nil ?_
 have hd:=λw' (hk:Keep No w w')=>zcN a b ca cb x m w' (ha.to hk (λ_ h=> .inr h)).sla (hb.to hk (λ_ h=> .inr h)).sla (by omega) (by omega) h0
 unfold RefG
 generalize x / m=q at *
 generalize x % m=r at *
 repeat' (first|refine s_0 ?_|(refine za (id:=0) ?_;refine zd ?_)|(refine za (id:=1) ?_;refine zb ?_;refine zb ?_;(refine ys (zn (f:=65) (hc:=λw' X hk hh=>hd w' hk)) (k:=?_);rintro _ _ ⟨R,rfl,a5,c5,a6,c6,rfl,rfl⟩);refine zb ?_;refine zh ?_;refine zh ?_;refine zd ?_;refine zd ?_)|(refine za (id:=2) ?_;refine zb ?_;refine zd ?_)|fail)
 exact ret1 rfl (resTmp rfl) (by exact SubR.go2) ⟨_,_,rfl,rfl⟩
theorem zgg (a b d:Option Addr) (ca cb cd x y m:Nat) (w:World) (ha:SlA w a (refC x)) (hb:SlA w b (refC y)) (hd:SlA w d (refC m)) (hx:nd 65536 x < 40000) (hy:nd 65536 y < 40000) (hm:nd 65536 m < 40000) (h0:0 < m):
  Sy.Fn Tryz.prog 86 [.slice a (nd 65536 x) ca,.slice b (nd 65536 y) cb,.slice d (nd 65536 m) cd] w No (RefG (x*y % m)):=by
 refine zk Tryz.func86 rfl Tryz.ntmps86 (by simp) Holds.nil ?_
 have hs:=zl2 65536 x y (by decide)
 have hA:=λw' (hk:Keep No w w')=>zkZ a b ca cb x y w' (ha.to hk (λ_ h=> .inr h)).sla (hb.to hk (λ_ h=> .inr h)).sla (by omega) (by omega)
 have hR:=λw' a1 c1 (hk:Keep No w w') (h:SlA w' a1 (refC (x*y)))=>zbE a1 d c1 cd (x*y) m w' h (hd.to hk (λ_ h=> .inr h)).sla (by omega) (by omega) h0
 generalize x*y=s at *
 unfold RefG at *
 generalize s % m=r at *
 repeat' (first|refine s_0 ?_|(refine za (id:=0) ?_;refine zd ?_)|(refine za (id:=1) ?_;refine zb ?_;refine zb ?_;(refine ys (zn (f:=104) (hc:=λw' X hk hh=>hA w' hk)) (k:=?_);rintro _ _ ⟨R,rfl,a5,c5,rfl,rfl⟩);refine zb ?_;(refine ys (zn (f:=83) (hc:=λw' X hk hh=>hR w' _ _ hk (zu hh (by exact Has.append Has.go)))) (k:=?_);rintro _ _ ⟨R,rfl,a6,c6,rfl,rfl⟩);refine zd ?_)|fail)
 exact ret1 rfl (resTmp rfl) (by exact SubR.go2) ⟨_,_,rfl,rfl⟩
theorem zkW (a b d:Option Addr) (ca cb cd x y m:Nat) (w:World) (ha:SlA w a (refC x)) (hb:SlA w b (refC y)) (hd:SlA w d (refC m)) (hx:nd 65536 x < 40000) (hy:nd 65536 y < 40000) (hm:nd 65536 m < 40000) (h0:0 < m):
  Sy.Fn Tryz.prog 126 [.slice a (nd 65536 x) ca,.slice b (nd 65536 y) cb,.slice d (nd 65536 m) cd] w No (RefG (dm m x y)):=by
 refine zk Tryz.func126 rfl Tryz.ntmps126 (by simp) Holds.nil ?_
 have n1:=zeD 65536 x m (by decide) h0
 have n2:=zeD 65536 y m (by decide) h0
 have l1:=Nat.mod_lt x h0
 have l2:=Nat.mod_lt y h0
 have n3:=zl4 65536 (x % m) m (nd 65536 m) (by decide) n1 (Nat.le_refl _)
 have n4:=zdP 65536 (x % m+m - y % m) (x % m+m) (by decide) (Nat.sub_le _ _)
 have he:(x % m+m - y % m) % m=dm m x y:=by
  unfold dm
  rw [Nat.add_sub_assoc (Nat.le_of_lt l2),Nat.mod_add_mod]
 have hX:=λw' (hk:Keep No w w')=>zbE a d ca cd x m w' (ha.to hk (λ_ h=> .inr h)).sla (hd.to hk (λ_ h=> .inr h)).sla (by omega) (by omega) h0
 have hY:=λw' (hk:Keep No w w')=>zbE b d cb cd y m w' (hb.to hk (λ_ h=> .inr h)).sla (hd.to hk (λ_ h=> .inr h)).sla (by omega) (by omega) h0
 have hA:=λw' a1 c1 (hk:Keep No w w') (h:SlA w' a1 (refC (x % m)))=>zkJ a1 d c1 cd (x % m) m w' h (hd.to hk (λ_ h=> .inr h)).sla (by omega) (by omega)
 have hS:=λw' a1 c1 a2 c2 (h:SlA w' a1 (refC (x % m+m))) (h':SlA w' a2 (refC (y % m)))=>zga a1 a2 c1 c2 (x % m+m) (y % m) w' h h' (by omega) (by omega)
 have hR:=λw' a1 c1 (hk:Keep No w w') (h:SlA w' a1 (refC (x % m+m - y % m)))=>zbE a1 d c1 cd (x % m+m - y % m) m w' h (hd.to hk (λ_ h=> .inr h)).sla (by omega) (by omega) h0
 rw [he] at hR
 generalize dm m x y=r at *
 clear he
 generalize x % m+m - y % m=u at *
 generalize x % m+m=s at *
 generalize x % m=x' at *
 generalize y % m=y' at *
 unfold RefG at *
 repeat' (first|refine s_0 ?_|(refine za (id:=0) ?_;refine zd ?_)|(refine za (id:=1) ?_;refine zb ?_;refine zb ?_;(refine ys (zn (f:=83) (hc:=λw' X hk hh=>hX w' hk)) (k:=?_);rintro _ _ ⟨R,rfl,a5,c5,rfl,rfl⟩);refine zb ?_;(refine ys (zn (f:=137) (hc:=λw' X hk hh=>hA w' _ _ hk (zu hh (by exact Has.append Has.go)))) (k:=?_);rintro _ _ ⟨R,rfl,a6,c6,rfl,rfl⟩);refine zb ?_;refine zb ?_;(refine ys (zn (f:=83) (hc:=λw' X hk hh=>hY w' hk)) (k:=?_);rintro _ _ ⟨R,rfl,a7,c7,rfl,rfl⟩);(refine ys (zn (f:=105) (hc:=λw' X hk hh=>hS w' _ _ _ _ (zu hh (by exact Has.append Has.go)) (zu hh (by exact Has.append Has.go)))) (k:=?_);rintro _ _ ⟨R,rfl,a8,c8,rfl,rfl⟩);refine zb ?_;(refine ys (zn (f:=83) (hc:=λw' X hk hh=>hR w' _ _ hk (zu hh (by exact Has.append Has.go)))) (k:=?_);rintro _ _ ⟨R,rfl,a9,c9,rfl,rfl⟩);refine zd ?_)|fail)
 exact ret1 rfl (resTmp rfl) (by exact SubR.go2) ⟨_,_,rfl,rfl⟩
set_option maxHeartbeats 1000000 in
theorem zkI (a b d:Option Addr) (ca cb cd x e m:Nat) (w:World) (ha:SlA w a (refC x)) (hb:SlA w b (refC e)) (hd:SlA w d (refC m)) (hx:nd 65536 x < 20000) (he:nd 65536 e < 20000) (hm:nd 65536 m < 20000) (h0:0 < m):
  Sy.Fn Tryz.prog 87 [.slice a (nd 65536 x) ca,.slice b (nd 65536 e) cb,.slice d (nd 65536 m) cd] w No (RefG (x ^ e % m)):=by
 refine zk Tryz.func87 rfl Tryz.ntmps87 (by simp) Holds.nil ?_
 have hR:=λw' b1 c1 (hk:Keep No w w') (h:SlA w' b1 (refC 1))=>zbE b1 d c1 cd 1 m w' h (hd.to hk (λ_ h=> .inr h)).sla (by rw [nd1];omega) (by omega) h0
 rw [nd1,<-refC1] at hR
 have hbl:=λw' (hk:Keep No w w')=>zg3 b cb e w' (hb.to hk (λ_ h=> .inr h)).sla (by omega)
 have he2:=zae 2 e (by decide)
 have hbn:nd 2 e<=16*nd 65536 e:=zak 2 e _ (by decide) (by rw [<-two16];exact zae 65536 e (by decide))
 have hM: ∀(w':World) a1 c1 a2 c2 u v,Keep No w w'->SlA w' a1 (refC u)->SlA w' a2 (refC v)->nd 65536 u < 20000->nd 65536 v < 20000->Sy.Fn Tryz.prog 86 [.slice a1 (nd 65536 u) c1,.slice a2 (nd 65536 v) c2,.slice d (nd 65536 m) cd] w' No (RefG (u*v % m)):=
  λw' a1 c1 a2 c2 u v hk h1 h2 h3 h4=>zgg a1 a2 d c1 c2 cd u v m w' h1 h2 (hd.to hk (λ_ h=> .inr h)).sla (by omega) (by omega) (by omega) h0
 have hnd: ∀k,nd 65536 (x ^ k % m) < 20000:=λk=>Nat.lt_of_le_of_lt (zeD 65536 _ m (by decide) h0) hm
 have hbit:=λw' i (hk:Keep No w w') (hi:i < 9223372036854775808)=>zkw b cb e i w' (hb.to hk (λ_ h=> .inr h)).sla hi
 generalize hn0:nd 2 e=n0 at *
 have hs0:IntKind.i64.wrap ((n0:Int) - 1)=(n0:Int) - 1:=IntWalk.i64_in _ (by omega)
 have hx0:1 % m=x ^ (e / 2 ^ n0) % m:=by rw [Nat.div_eq_of_lt he2,Nat.pow_zero]
 rw [hx0] at hR
 unfold RefG at hR
 repeat' (first|refine s_t ?_|(refine za (id:=0) ?_;refine zd ?_)|(refine za (id:=1) ?_;(refine ys zt (k:=?_);rintro _ _ ⟨_,rfl,rfl⟩);refine zb ?_;(refine ys (zn (f:=83) (hc:=λw' X hk hh=>hR w' _ _ hk (.inr ⟨_,0,rfl,zz (hh.has (by exact Has.append Has.here)) Seg.all⟩))) (k:=?_);rintro _ _ ⟨R,rfl,a6,c6,rfl,rfl⟩);refine zd ?_)|(refine za (id:=2) ?_;refine zb ?_;refine yv (zf (f:=102) (hc:=λw' _ hk _=>hbl w' hk)) (k:=?_);refine yv (zJ (hr:=hs0)) (k:=?_);refine zd ?_)|fail)
 refine zE (γ:=Nat×Option Addr×Nat) (λg=>[(0,.slice a (nd 65536 x) ca),(1,.slice b (nd 65536 e) cb),(2,.slice d (nd 65536 m) cd),(7,.slice g.2.1 (nd 65536 (x ^ (e / 2 ^ g.1) % m)) g.2.2),(8,.int .i64 ((g.1:Int) - 1))])
  (λg=>[.row (.slice g.2.1 (nd 65536 (x ^ (e / 2 ^ g.1) % m)) g.2.2) 3 1 (nd 65536 (x ^ (e / 2 ^ g.1) % m)) (refC (x ^ (e / 2 ^ g.1) % m))])
  (λg=>g.1<=n0) (λg=>g.1) (n0,a6,c6) (Nat.le_refl _) ?_ ?_ ?_
 ·exact Sub.go
 ·exact SubR.go2
 rintro ⟨i,ao,co⟩ hi
 dsimp only at hi ⊢
 rcases Nat.eq_zero_or_pos i with h|h
 ·subst h
  rw [Nat.pow_zero,Nat.div_one]
  have hge:decide (((0:Nat):Int) - 1>=0)=false:=decide_eq_false (by omega)
  repeat' (first|refine s_0 ?_|(refine za (id:=3) ?_;refine zb ?_;refine yv (zaH (hr:=hge)) (k:=?_))|(refine za (id:=8) ?_;refine zb ?_;refine zd ?_)|fail)
  exact ret1 rfl (resTmp rfl) (by exact SubR.go2) ⟨_,_,rfl,rfl⟩
 ·obtain ⟨i,rfl⟩: ∃j,i=j+1:=⟨i - 1,by omega⟩
  have hij:(((i+1:Nat):Int) - 1)=((i:Nat):Int):=by omega
  have hs1:IntKind.i64.wrap ((i:Int) - 1)=(i:Int) - 1:=IntWalk.i64_in _ (by omega)
  rw [hij]
  have hge:decide (((i:Nat):Int)>=0)=true:=decide_eq_true (by omega)
  have hsq:=zp6 x m (e / 2 ^ (i+1))
  have hbs:=znY e i
  have hM1:=λw' (hk:Keep No w w') (h1:SlA w' ao (refC (x ^ (e / 2 ^ (i+1)) % m)))=>hM w' ao co ao co _ _ hk h1 h1 (hnd _) (hnd _)
  rw [hsq] at hM1
  have hbit1:=λw' (hk:Keep No w w')=>hbit w' i hk (by omega)
  rcases (show e / 2 ^ i % 2=0\/e / 2 ^ i % 2=1 by omega) with hb0|hb0
  ·rw [hb0] at hbit1
   rw [hb0,Nat.add_zero] at hbs
   rw [<-hbs] at hM1
   have heq:decide (((0:Nat):Int)=1)=false:=decide_eq_false (by omega)
   unfold RefG at hM1
   repeat' (first|refine s_t ?_|(refine za (id:=3) ?_;refine zb ?_;refine yv (zaH (hr:=hge)) (k:=?_))|(refine za (id:=5) ?_;refine zb ?_;refine zb ?_;refine zb ?_;(refine ys (zn (f:=86) (hc:=λw' X hk hh=>hM1 w' hk (zu hh (by exact Has.append Has.go)))) (k:=?_);rintro _ _ ⟨R,rfl,a7,c7,rfl,rfl⟩);refine zd ?_)|(refine za (id:=6) ?_;refine zb ?_;refine zb ?_;refine yv (zf (f:=125) (hc:=λw' _ hk _=>hbit1 w' hk)) (k:=?_);refine yv (z8 (hr:=heq)) (k:=?_))|(refine za (id:=4) ?_;refine zb ?_;refine yv (zJ (hr:=hs1)) (k:=?_);refine zd ?_)|fail)
   refine zy (i,a7,c7) (by show i<=n0;omega) ?_ ?_ ?_
   ·show i < i+1;omega
   ·exact Sub.go
   ·exact SubR.go2
  ·rw [hb0] at hbit1
   rw [hb0] at hbs
   have hM2:=λw' a1 c1 (hk:Keep No w w') (h1:SlA w' a1 (refC (x ^ (2*(e / 2 ^ (i+1))) % m)))=>hM w' a1 c1 a ca _ x hk h1 (ha.to hk (λ_ h=> .inr h)).sla (hnd _) hx
   rw [zmw,<-hbs] at hM2
   have heq:decide (((1:Nat):Int)=1)=true:=rfl
   unfold RefG at hM1 hM2
   repeat' (first|refine s_t ?_|(refine za (id:=3) ?_;refine zb ?_;refine yv (zaH (hr:=hge)) (k:=?_))|(refine za (id:=5) ?_;refine zb ?_;refine zb ?_;refine zb ?_;(refine ys (zn (f:=86) (hc:=λw' X hk hh=>hM1 w' hk (zu hh (by exact Has.append Has.go)))) (k:=?_);rintro _ _ ⟨R,rfl,a7,c7,rfl,rfl⟩);refine zd ?_)|(refine za (id:=6) ?_;refine zb ?_;refine zb ?_;refine yv (zf (f:=125) (hc:=λw' _ hk _=>hbit1 w' hk)) (k:=?_);refine yv (z8 (hr:=heq)) (k:=?_))|(refine za (id:=7) ?_;refine zb ?_;refine zb ?_;refine zb ?_;(refine ys (zn (f:=86) (hc:=λw' X hk hh=>hM2 w' _ _ hk (zu hh (by exact Has.append Has.go)))) (k:=?_);rintro _ _ ⟨R,rfl,a8,c8,rfl,rfl⟩);refine zd ?_)|(refine za (id:=4) ?_;refine zb ?_;refine yv (zJ (hr:=hs1)) (k:=?_);refine zd ?_)|fail)
   refine zy (i,a8,c8) (by show i<=n0;omega) ?_ ?_ ?_
   ·show i < i+1;omega
   ·exact Sub.go
   ·exact SubR.go2
theorem zdw {x y:Nat}(h:cmpI x y=0):x=y:=by
 unfold cmpI at h
 split at h
 ·omega
 ·split at h <;> omega
def InvG (m x:Nat) (v:Value) (R:List Res):Prop:=
 if (inv m x).1=1 then ∃a c,v= .tuple #[.slice a (nd 65536 (inv m x).2) c,.bool true]/\(R= [.row (.slice a (nd 65536 (inv m x).2) c) 3 1 (nd 65536 (inv m x).2) (refC (inv m x).2)]\/(R= []/\(inv m x).2=0))
 else v= .tuple #[.slice none 0 0,.bool false]/\R= []
set_option maxHeartbeats 2000000 in
theorem zqk (a d:Option Addr) (ca cd x0 m:Nat) (w:World) (ha:SlA w a (refC x0)) (hd:SlA w d (refC m)) (hx:nd 65536 x0 < 20000) (hm:nd 65536 m < 20000) (h0:0 < m):
  Sy.Fn Tryz.prog 90 [.slice a (nd 65536 x0) ca,.slice d (nd 65536 m) cd] w No (InvG m x0):=by
 refine zk Tryz.func90 rfl Tryz.ntmps90 (by simp) Holds.nil ?_
 have hS:=λw' (hk:Keep No w w')=>zbE a d ca cd x0 m w' (ha.to hk (λ_ h=> .inr h)).sla (hd.to hk (λ_ h=> .inr h)).sla (by omega) (by omega) h0
 have hY:=λw' b1 c1 (hk:Keep No w w') (h:SlA w' b1 (refC 1))=>zbE b1 d c1 cd 1 m w' h (hd.to hk (λ_ h=> .inr h)).sla (by rw [nd1];omega) (by omega) h0
 rw [nd1,<-refC1] at hY
 have l1:=Nat.mod_lt x0 h0
 have l2:=Nat.mod_lt 1 h0
 have hnd: ∀x,x<=m->nd 65536 x < 20000:=λx h=>Nat.lt_of_le_of_lt (zdP 65536 x m (by decide) h) hm
 unfold RefG at hS hY
 unfold InvG
 repeat' (first|refine s_t ?_|(refine za (id:=0) ?_;refine zd ?_;refine zd ?_)|(refine za (id:=1) ?_;refine zb ?_;refine zb ?_;refine zb ?_;(refine ys (zn (f:=83) (hc:=λw' X hk hh=>hS w' hk)) (k:=?_);rintro _ _ ⟨R,rfl,a7,c7,rfl,rfl⟩);refine zd ?_;refine zd ?_)|(refine za (id:=2) ?_;(refine ys zbu (k:=?_);rintro _ _ ⟨_,rfl,rfl⟩);(refine ys zt (k:=?_);rintro _ _ ⟨_,rfl,rfl⟩);refine zb ?_;(refine ys (zn (f:=83) (hc:=λw' X hk hh=>hY w' _ _ hk (.inr ⟨_,0,rfl,zz (hh.has (by exact Has.append Has.here)) Seg.all⟩))) (k:=?_);rintro _ _ ⟨R,rfl,a9,c9,rfl,rfl⟩);refine zd ?_;refine zd ?_)|fail)
 rename_i b8 b1
 refine zE (γ:=(Nat×Nat×Nat×Nat)×(Option Addr×Nat)×(Option Addr×Nat)×(Option Addr×Nat)×(Option Addr×Nat)×List Res×List Res)
  (λg=>[(0,.slice a (nd 65536 x0) ca),(1,.slice d (nd 65536 m) cd),(6,.slice g.2.1.1 (nd 65536 g.1.1) g.2.1.2),(7,.slice g.2.2.1.1 (nd 65536 g.1.2.1) g.2.2.1.2),(8,.slice g.2.2.2.1.1 (nd 65536 g.1.2.2.1) g.2.2.2.1.2),(9,.slice g.2.2.2.2.1.1 (nd 65536 g.1.2.2.2) g.2.2.2.2.1.2)])
  (λg=>g.2.2.2.2.2.1 ++ (g.2.2.2.2.2.2 ++ [.row (.slice g.2.2.1.1 (nd 65536 g.1.2.1) g.2.2.1.2) 3 1 (nd 65536 g.1.2.1) (refC g.1.2.1),.row (.slice g.2.2.2.2.1.1 (nd 65536 g.1.2.2.2) g.2.2.2.2.1.2) 3 1 (nd 65536 g.1.2.2.2) (refC g.1.2.2.2)]))
  (λg=>((g.2.2.2.2.2.1= []/\g.2.2.2.2.2.2= []/\SlA w g.2.1.1 (refC g.1.1)/\g.1.2.2.1=0)\/(g.2.2.2.2.2.1= [.row (.slice g.2.1.1 (nd 65536 g.1.1) g.2.1.2) 3 1 (nd 65536 g.1.1) (refC g.1.1)]/\g.2.2.2.2.2.2= [.row (.slice g.2.2.2.1.1 (nd 65536 g.1.2.2.1) g.2.2.2.1.2) 3 1 (nd 65536 g.1.2.2.1) (refC g.1.2.2.1)]))
   /\euc m g.1.1 g.1.2.1 g.1.2.2.1 g.1.2.2.2=euc m m (x0 % m) 0 (1 % m)/\g.1.1<=m/\g.1.2.1<=m/\g.1.2.2.1 < m/\g.1.2.2.2 < m)
  (λg=>g.1.2.1) ((m,x0 % m,0,1 % m),(d,cd),(a7,c7),(some ⟨b8,0,none⟩,0),(a9,c9),[],[]) ⟨.inl ⟨rfl,rfl,hd,rfl⟩,rfl,Nat.le_refl _,Nat.le_of_lt l1,h0,l2⟩ ?_ ?_ ?_
 ·dsimp only
  rw [zaY]
  exact Sub.go
 ·dsimp only [List.nil_append]
  exact SubR.go2
 rintro ⟨⟨r,s,x,y⟩,⟨ar,cr⟩,⟨aS,cs⟩,⟨ax,cx⟩,⟨ay,cy⟩,Rr,Rx⟩ ⟨hsrc,hI,hr,hs,hx',hy⟩
 dsimp only at hsrc hI hr hs hx' hy ⊢
 have n1:=hnd r hr
 have n2:=hnd s hs
 have n3:=hnd x (Nat.le_of_lt hx')
 have n4:=hnd y (Nat.le_of_lt hy)
 rcases hsrc with ⟨rfl,rfl,hSr,rfl⟩|⟨rfl,rfl⟩
 ·dsimp only [List.nil_append]
  rcases Nat.eq_zero_or_pos s with h|h
  ·subst h
   rw [zdW] at hI
   have hgt:decide ((0:Int) < ((nd 65536 0:Nat):Int))=false:=decide_eq_false (by rw [zaY];omega)
   have hcm:=λw' a1 c1 (h1:SlA w' ar (refC r)) (h2:SlA w' a1 (refC 1))=>zbq ar a1 cr c1 r 1 w' h1 h2 (by omega) (by rw [nd1];omega)
   rw [nd1,<-refC1] at hcm
   have i1:(inv m x0).1=r:=by unfold inv;rw [<-hI]
   have i2:(inv m x0).2=0:=by unfold inv;rw [<-hI]
   rw [i1,i2]
   by_cases hr1:r=1
   ·simp only [if_pos hr1]
    have hne:decide (cmpI r 1≠0)=false:=by rw [hr1,zcF];rfl
    repeat' (first|refine s_0 ?_|(refine za (id:=3) ?_;refine zb ?_;refine zq ?_;refine yv (zaf (hr:=hgt)) (k:=?_))|(refine za (id:=8) ?_;refine zb ?_;(refine ys zt (k:=?_);rintro _ _ ⟨_,rfl,rfl⟩);refine yv (zf (f:=50) (hc:=λw' X hk hh=>hcm w' _ _ (hSr.to hk (λ_ h=> .inr h)).sla (.inr ⟨_,0,rfl,zz (hh.has (by exact Has.append Has.here)) Seg.all⟩))) (k:=?_);refine yv (zay (hr:=hne)) (k:=?_))|(refine za (id:=10) ?_;refine zb ?_;refine zd ?_;refine zd ?_)|fail)
    exact ret2 rfl (resTmp rfl) (resTmp rfl) (by exact SubR.go2) ⟨_,_,rfl,.inr (by simp)⟩
   ·simp only [if_neg hr1]
    have hne:decide (cmpI r 1≠0)=true:=decide_eq_true (λh=>hr1 (zdw h))
    repeat' (first|refine s_0 ?_|(refine za (id:=3) ?_;refine zb ?_;refine zq ?_;refine yv (zaf (hr:=hgt)) (k:=?_))|(refine za (id:=8) ?_;refine zb ?_;(refine ys zt (k:=?_);rintro _ _ ⟨_,rfl,rfl⟩);refine yv (zf (f:=50) (hc:=λw' X hk hh=>hcm w' _ _ (hSr.to hk (λ_ h=> .inr h)).sla (.inr ⟨_,0,rfl,zz (hh.has (by exact Has.append Has.here)) Seg.all⟩))) (k:=?_);refine yv (zay (hr:=hne)) (k:=?_))|(refine za (id:=9) ?_;refine zd ?_;refine zd ?_)|fail)
    exact ret2 rfl (resTmp rfl) (resTmp rfl) SubR.nil ⟨rfl,rfl⟩
  ·have hnz:0 < nd 65536 s:=by
    have:=(zdC 65536 s (by decide)).1
    omega
   have hgt:decide ((0:Int) < ((nd 65536 s:Nat):Int))=true:=decide_eq_true (by omega)
   rw [zeC m r s 0 y h] at hI
   have hrs:=Nat.mod_lt r h
   have hq:=zdP 65536 (r / s) r (by decide) (Nat.div_le_self r s)
   have hp:=zeD 65536 (r / s*y) m (by decide) h0
   have hn:=ziS 0 (r / s*y % m) h0
   have hdv:=λw' (h1:SlA w' ar (refC r)) (h2:SlA w' aS (refC s))=>zcN ar aS cr cs r s w' h1 h2 (by omega) (by omega) h
   have hml:=λw' a1 c1 (hk:Keep No w w') (h1:SlA w' a1 (refC (r / s))) (h2:SlA w' ay (refC y))=>zgg a1 ay d c1 cy cd (r / s) y m w' h1 h2 (hd.to hk (λ_ h=> .inr h)).sla (by omega) (by omega) (by omega) h0
   have hsb:=λw' a1 c1 (hk:Keep No w w') (h1:SlA w' ax (refC 0)) (h2:SlA w' a1 (refC (r / s*y % m)))=>zkW ax a1 d cx c1 cd 0 (r / s*y % m) m w' h1 h2 (hd.to hk (λ_ h=> .inr h)).sla (by omega) (by omega) (by omega) h0
   generalize dm m 0 (r / s*y % m)=z at *
   generalize r / s*y % m=pr at *
   generalize r / s=q at *
   generalize r % s=t at *
   unfold RefG at hml hsb
   repeat' (first|refine s_t ?_|(refine za (id:=3) ?_;refine zb ?_;refine zq ?_;refine yv (zaf (hr:=hgt)) (k:=?_))|(refine za (id:=4) ?_;refine zb ?_;refine zb ?_;(refine ys (zn (f:=65) (hc:=λw' X hk hh=>hdv w' (hSr.to hk (λ_ h=> .inr h)).sla (zu hh (by exact Has.append Has.go)))) (k:=?_);rintro _ _ ⟨R,rfl,a5,c5,a6,c6,rfl,rfl⟩);refine zb ?_;refine zh ?_;refine zh ?_;refine zd ?_;refine zd ?_)|(refine za (id:=5) ?_;refine zb ?_;refine zb ?_;refine zb ?_;refine zb ?_;(refine ys (zn (f:=86) (hc:=λw' X hk hh=>hml w' _ _ hk (zu hh (by exact Has.append Has.go)) (zu hh (by exact Has.append Has.go)))) (k:=?_);rintro _ _ ⟨R,rfl,a7,c7,rfl,rfl⟩);refine zb ?_;(refine ys (zn (f:=126) (hc:=λw' X hk hh=>hsb w' _ _ hk (.inl (by rw [zix])) (zu hh (by exact Has.append Has.go)))) (k:=?_);rintro _ _ ⟨R,rfl,a8,c8,rfl,rfl⟩);refine zd ?_)|(refine za (id:=6) ?_;refine zb ?_;refine zb ?_;refine zd ?_;refine zd ?_)|(refine za (id:=7) ?_;refine zb ?_;refine zb ?_;refine zd ?_;refine zd ?_)|fail)
   refine zy ((s,t,y,z),(aS,cs),(a6,c6),(ay,cy),(a8,c8),[.row (.slice aS (nd 65536 s) cs) 3 1 (nd 65536 s) (refC s)],[.row (.slice ay (nd 65536 y) cy) 3 1 (nd 65536 y) (refC y)]) ⟨.inr ⟨rfl,rfl⟩,hI,hs,Nat.le_of_lt (Nat.lt_of_lt_of_le hrs hs),hy,hn⟩ ?_ ?_ ?_
   ·show t < s;exact hrs
   ·exact Sub.go
   ·dsimp only [List.cons_append,List.nil_append]
    exact SubR.go2
 ·dsimp only [List.cons_append,List.nil_append]
  rcases Nat.eq_zero_or_pos s with h|h
  ·subst h
   rw [zdW] at hI
   have hgt:decide ((0:Int) < ((nd 65536 0:Nat):Int))=false:=decide_eq_false (by rw [zaY];omega)
   have hcm:=λw' a1 c1 (h1:SlA w' ar (refC r)) (h2:SlA w' a1 (refC 1))=>zbq ar a1 cr c1 r 1 w' h1 h2 (by omega) (by rw [nd1];omega)
   rw [nd1,<-refC1] at hcm
   have i1:(inv m x0).1=r:=by unfold inv;rw [<-hI]
   have i2:(inv m x0).2=x:=by unfold inv;rw [<-hI]
   rw [i1,i2]
   by_cases hr1:r=1
   ·simp only [if_pos hr1]
    have hne:decide (cmpI r 1≠0)=false:=by rw [hr1,zcF];rfl
    repeat' (first|refine s_0 ?_|(refine za (id:=3) ?_;refine zb ?_;refine zq ?_;refine yv (zaf (hr:=hgt)) (k:=?_))|(refine za (id:=8) ?_;refine zb ?_;(refine ys zt (k:=?_);rintro _ _ ⟨_,rfl,rfl⟩);refine yv (zf (f:=50) (hc:=λw' X hk hh=>hcm w' _ _ (zu hh (by exact Has.append Has.go)) (.inr ⟨_,0,rfl,zz (hh.has (by exact Has.append Has.here)) Seg.all⟩))) (k:=?_);refine yv (zay (hr:=hne)) (k:=?_))|(refine za (id:=10) ?_;refine zb ?_;refine zd ?_;refine zd ?_)|fail)
    exact ret2 rfl (resTmp rfl) (resTmp rfl) (by exact SubR.go2) ⟨_,_,rfl,.inl rfl⟩
   ·simp only [if_neg hr1]
    have hne:decide (cmpI r 1≠0)=true:=decide_eq_true (λh=>hr1 (zdw h))
    repeat' (first|refine s_0 ?_|(refine za (id:=3) ?_;refine zb ?_;refine zq ?_;refine yv (zaf (hr:=hgt)) (k:=?_))|(refine za (id:=8) ?_;refine zb ?_;(refine ys zt (k:=?_);rintro _ _ ⟨_,rfl,rfl⟩);refine yv (zf (f:=50) (hc:=λw' X hk hh=>hcm w' _ _ (zu hh (by exact Has.append Has.go)) (.inr ⟨_,0,rfl,zz (hh.has (by exact Has.append Has.here)) Seg.all⟩))) (k:=?_);refine yv (zay (hr:=hne)) (k:=?_))|(refine za (id:=9) ?_;refine zd ?_;refine zd ?_)|fail)
    exact ret2 rfl (resTmp rfl) (resTmp rfl) SubR.nil ⟨rfl,rfl⟩
  ·have hnz:0 < nd 65536 s:=by
    have:=(zdC 65536 s (by decide)).1
    omega
   have hgt:decide ((0:Int) < ((nd 65536 s:Nat):Int))=true:=decide_eq_true (by omega)
   rw [zeC m r s x y h] at hI
   have hrs:=Nat.mod_lt r h
   have hq:=zdP 65536 (r / s) r (by decide) (Nat.div_le_self r s)
   have hp:=zeD 65536 (r / s*y) m (by decide) h0
   have hn:=ziS x (r / s*y % m) h0
   have hdv:=λw' (h1:SlA w' ar (refC r)) (h2:SlA w' aS (refC s))=>zcN ar aS cr cs r s w' h1 h2 (by omega) (by omega) h
   have hml:=λw' a1 c1 (hk:Keep No w w') (h1:SlA w' a1 (refC (r / s))) (h2:SlA w' ay (refC y))=>zgg a1 ay d c1 cy cd (r / s) y m w' h1 h2 (hd.to hk (λ_ h=> .inr h)).sla (by omega) (by omega) (by omega) h0
   have hsb:=λw' a1 c1 (hk:Keep No w w') (h1:SlA w' ax (refC x)) (h2:SlA w' a1 (refC (r / s*y % m)))=>zkW ax a1 d cx c1 cd x (r / s*y % m) m w' h1 h2 (hd.to hk (λ_ h=> .inr h)).sla (by omega) (by omega) (by omega) h0
   generalize dm m x (r / s*y % m)=z at *
   generalize r / s*y % m=pr at *
   generalize r / s=q at *
   generalize r % s=t at *
   unfold RefG at hml hsb
   repeat' (first|refine s_t ?_|(refine za (id:=3) ?_;refine zb ?_;refine zq ?_;refine yv (zaf (hr:=hgt)) (k:=?_))|(refine za (id:=4) ?_;refine zb ?_;refine zb ?_;(refine ys (zn (f:=65) (hc:=λw' X hk hh=>hdv w' (zu hh (by exact Has.append Has.go)) (zu hh (by exact Has.append Has.go)))) (k:=?_);rintro _ _ ⟨R,rfl,a5,c5,a6,c6,rfl,rfl⟩);refine zb ?_;refine zh ?_;refine zh ?_;refine zd ?_;refine zd ?_)|(refine za (id:=5) ?_;refine zb ?_;refine zb ?_;refine zb ?_;refine zb ?_;(refine ys (zn (f:=86) (hc:=λw' X hk hh=>hml w' _ _ hk (zu hh (by exact Has.append Has.go)) (zu hh (by exact Has.append Has.go)))) (k:=?_);rintro _ _ ⟨R,rfl,a7,c7,rfl,rfl⟩);refine zb ?_;(refine ys (zn (f:=126) (hc:=λw' X hk hh=>hsb w' _ _ hk (zu hh (by exact Has.append Has.go)) (zu hh (by exact Has.append Has.go)))) (k:=?_);rintro _ _ ⟨R,rfl,a8,c8,rfl,rfl⟩);refine zd ?_)|(refine za (id:=6) ?_;refine zb ?_;refine zb ?_;refine zd ?_;refine zd ?_)|(refine za (id:=7) ?_;refine zb ?_;refine zb ?_;refine zd ?_;refine zd ?_)|fail)
   refine zy ((s,t,y,z),(aS,cs),(a6,c6),(ay,cy),(a8,c8),[.row (.slice aS (nd 65536 s) cs) 3 1 (nd 65536 s) (refC s)],[.row (.slice ay (nd 65536 y) cy) 3 1 (nd 65536 y) (refC y)]) ⟨.inr ⟨rfl,rfl⟩,hI,hs,Nat.le_of_lt (Nat.lt_of_lt_of_le hrs hs),hy,hn⟩ ?_ ?_ ?_
   ·show t < s;exact hrs
   ·exact Sub.go
   ·dsimp only [List.cons_append,List.nil_append]
    exact SubR.go2
end Go.Proofs.YtcpjfilcilcekaaGreatDoor
end
