/- The specification's numbers: division. -/
import Derived.Test.YtcpjfilcilcekaaGreatDoorYJ37
import Derived.Test.YtcpjfilcilcekaaGreatDoorYJ15
set_option linter.all false
section
namespace Go.Nt
open Go Go.Sy
theorem zix:refC 0= []:=by rw [zdc];unfold cd;rw [zaY];rfl
theorem znS (x:Nat):(refC x).all (·.oneCell')=true:=by rw [zdc];exact zqP _
theorem Row.none {B0:Nat}{w:World}{M:Nat->Prop}{E n c s:Nat}{a:Option Addr}{xs:List Value}{L:List Res}(hh:Holds B0 M L w) (hL:Has L (.row (.slice a n c) E s n xs)):a=none->c=0:=by
 have hrow:w.ownsRow 0 E s (.slice a n c) n xs:=hh.has hL
 obtain ⟨h1,⟨hv,h2⟩|⟨b,cc,cur,hv,_,h3,h4,h5,h6,h7⟩⟩:=hrow
 ·cases hv;exact λ_=>rfl
 ·cases hv;exact λh=>by cases h
theorem zhs (e r:Nat):vl 65536 (e::cd 65536 r)=r*65536+e:=by
 simp only [vl,zo8 65536 r (by decide)];omega
theorem zgo {e r:Nat}(he:e < 65536): ∀d∈e::cd 65536 r,d < 65536:=by
 intro d hd
 rcases List.mem_cons.1 hd with rfl|h
 ·exact he
 ·unfold cd at h;exact zen 65536 (by decide) _ _ d h
theorem zqr (e r:Nat): [iv e] ++ refC r=iC (e::cd 65536 r):=rfl
theorem zjJ {y g:Nat}(hg:g < 65536):nd 65536 (y*g)<=nd 65536 y+1:=by
 refine zak _ _ _ (by decide) ?_
 have h1:=zae 65536 y (by decide)
 rw [Nat.pow_succ]
 rcases Nat.eq_zero_or_pos g with h|h
 ·subst h;rw [Nat.mul_zero];exact Nat.mul_pos (Nat.pow_pos (by decide)) (by decide)
 ·exact Nat.lt_of_lt_of_le (Nat.mul_lt_mul_of_pos_right h1 h) (Nat.mul_le_mul_left _ (Nat.le_of_lt hg))
theorem zkb {b r y:Nat}(hy:0 < y) (h:r < y*b):r / y < b:=Nat.div_lt_of_lt_mul h
theorem zon {b r e y:Nat}(he:e < b) (hr:r < y):r*b+e < y*b:=by
 have:=Nat.mul_le_mul_right b (show r+1<=y from hr)
 rw [Nat.add_mul,Nat.one_mul] at this
 omega
theorem zpI {r y n:Nat}(hn:n=nd 65536 y) (hy:0 < y) (hr:r < y*65536) (z2 w2:Nat) (hz:(2<=n->z2=r / 65536 ^ (n - 2) % 65536)/\(n=1->z2=0)) (hw:(2<=n->w2=y / 65536 ^ (n - 2) % 65536)/\(n=1->w2=0)):
  0 < y / 65536 ^ (n - 1) % 65536*65536+w2/\r / y<=((r / 65536 ^ n % 65536*65536+r / 65536 ^ (n - 1) % 65536)*65536+z2) / (y / 65536 ^ (n - 1) % 65536*65536+w2):=by
 have h1:=zae 65536 y (by decide)
 have h2:=(zb0 65536 (by decide) y).2
 rw [<-hn] at h1 h2
 have hn0:0 < n:=by
  rcases Nat.eq_zero_or_pos n with h|h
  ·subst h;rw [Nat.pow_zero] at h1;omega
  ·exact h
 have h2:=h2 hn0
 have hpn:0 < 65536 ^ (n - 1):=Nat.pow_pos (by decide)
 have hyt:0 < y / 65536 ^ (n - 1):=Nat.div_pos h2 hpn
 have hyl:y / 65536 ^ (n - 1) < 65536:=by
  rw [Nat.div_lt_iff_lt_mul hpn,Nat.mul_comm,<-Nat.pow_succ,show (n - 1).succ=n by omega];exact h1
 have hrn:r < 65536 ^ n*65536:=Nat.lt_of_lt_of_le hr (Nat.mul_le_mul_right _ (Nat.le_of_lt h1))
 have hrd:r / 65536 ^ n < 65536:=by
  rw [Nat.div_lt_iff_lt_mul (Nat.pow_pos (by decide)),Nat.mul_comm];exact hrn
 rcases Nat.lt_or_ge n 2 with h|h
 ·obtain rfl:n=1:=by omega
  rw [hz.2 rfl,hw.2 rfl]
  rw [Nat.sub_self,Nat.pow_zero,Nat.div_one,Nat.pow_one,Nat.div_one] at *
  have e1:r / 65536 % 65536*65536+r % 65536=r:=by
   rw [Nat.mod_eq_of_lt hrd];omega
  have e2:y % 65536=y:=Nat.mod_eq_of_lt hyl
  rw [e1,e2,Nat.add_zero,Nat.add_zero]
  exact ⟨by omega,by rw [Nat.mul_div_mul_right _ _ (show 0 < 65536 by decide)];exact Nat.le_refl _⟩
 ·rw [hz.1 h,hw.1 h]
  have e1:=zfo 65536 r n h (by decide) hrd
  have e2:=zhv 65536 y n h (by decide) h1
  rw [e1,e2]
  have hd:0 < y / 65536 ^ (n - 2):=Nat.div_pos (Nat.le_trans (Nat.pow_le_pow_right (by decide) (by omega)) h2) (Nat.pow_pos (by decide))
  exact ⟨hd,zlK hd rfl rfl (by decide)⟩
end Go.Nt
namespace Go.Proofs.YtcpjfilcilcekaaGreatDoor
open Go Go.Sy Go.Nt Go.RowKit
attribute [local irreducible] Sy SyL SyX Sy.Fn callFunc natC refC iC
set_option maxRecDepth 10000
theorem zl1 (n:Nat): ∃f:Nat->Nat,(∀x,(2<=n->f x=x / 65536 ^ (n - 2) % 65536)/\(n=1->f x=0))/\
  ∀(a:Option Addr) (c x:Nat) (w:World),0 < n->SlA w a (refC x)->Sy.Fn Tryz.prog 89 [.slice a (nd 65536 x) c,.int .i64 ((n:Int) - 2)] w No (Gives (iv (f x))):=by
 rcases Nat.lt_or_ge n 2 with h|h
 ·refine ⟨λ_=>0,λx=>⟨λh'=>absurd h' (by omega),λ_=>rfl⟩,λa c x w h0 hs=>?_⟩
  exact zmC a _ c _ w (by omega)
 ·refine ⟨λx=>x / 65536 ^ (n - 2) % 65536,λx=>⟨λ_=>rfl,λh'=>absurd h' (by omega)⟩,λa c x w h0 hs=>?_⟩
  have e:(n:Int) - 2=((n - 2:Nat):Int):=by omega
  rw [e]
  exact za7 a c x (n - 2) w hs
set_option maxHeartbeats 2000000 in
theorem zcN (a b:Option Addr) (ca cb x y:Nat) (w:World) (ha:SlA w a (refC x)) (hb:SlA w b (refC y)) (hx:nd 65536 x < 100000) (hy:nd 65536 y < 100000) (hy0:0 < y):
  Sy.Fn Tryz.prog 65 [.slice a (nd 65536 x) ca,.slice b (nd 65536 y) cb] w No (λv R=>∃a1 c1 a2 c2,v= .tuple #[.slice a1 (nd 65536 (x / y)) c1,.slice a2 (nd 65536 (x % y)) c2]/\
   R= [.row (.slice a1 (nd 65536 (x / y)) c1) 3 1 (nd 65536 (x / y)) (refC (x / y)),.row (.slice a2 (nd 65536 (x % y)) c2) 3 1 (nd 65536 (x % y)) (refC (x % y))]):=by
 refine zk Tryz.func65 rfl Tryz.ntmps65 (by simp) Holds.nil ?_
 have hlx:=zae 65536 x (by decide)
 have hgx:=ze0 x
 have hlenx:=zd3 x
 generalize hnx:nd 65536 x=k at *
 generalize hny:nd 65536 y=n at *
 have hr0:refC 0= []:=zix
 repeat' (first|refine s_t ?_|(refine za (id:=0) ?_;refine zd ?_;refine zd ?_)|(refine za (id:=1) ?_;refine zd ?_)|(refine za (id:=2) ?_;refine zb ?_;refine zq ?_)|(refine za (id:=3) ?_;refine zb ?_;refine zq ?_;refine zd ?_)|(refine za (id:=4) ?_;refine zb ?_;refine zq ?_;refine zdf ?_;refine zd ?_)|(refine ys zcd (k:=?_);rintro _ _ ⟨b7,rfl,rfl⟩)|(refine zC ?_;first|refine zd ?_|fail)|fail)
 refine zbh (zaU 3 1) ?_
 refine zE (γ:=Nat×Option Addr×Nat) (λg=>[(0,.slice a k ca),(1,.slice b n cb),(6,.slice g.2.1 (nd 65536 (x / 65536 ^ g.1 % y)) g.2.2),(7,.slice (some ⟨b7,0,none⟩) k k),(8,.int .i64 n),(9,.int .i64 ((g.1:Int) - 1))])
  (λg=>[.row (.slice g.2.1 (nd 65536 (x / 65536 ^ g.1 % y)) g.2.2) 3 1 (nd 65536 (x / 65536 ^ g.1 % y)) (refC (x / 65536 ^ g.1 % y)),.blk b7 3 (iC (dg 65536 k (x / 65536 ^ g.1 / y*65536 ^ g.1)))])
  (λg=>g.1<=k) (λg=>g.1) (k,none,0) (Nat.le_refl _) ?_ ?_ ?_
 ·dsimp only
  rw [Nat.div_eq_of_lt hlx,Nat.zero_mod,zaY]
  exact Sub.go
 ·dsimp only
  rw [Nat.div_eq_of_lt hlx,Nat.zero_mod,Nat.zero_div,Nat.zero_mul,zaY,zc4,<-zgG,hr0]
  exact SubR.go
 rintro ⟨i,a6,c6⟩ hi
 dsimp only at hi ⊢
 rcases Nat.eq_zero_or_pos i with h0|h0
 ·subst h0
  rw [Nat.pow_zero,Nat.div_one,Nat.mul_one]
  have hlow: ∀d∈dg 65536 k (x / y),d < 65536:=zen 65536 (by decide) _ _
  have hvl:vl 65536 (dg 65536 k (x / y))=x / y:=zb8 _ _ _ (Nat.lt_of_le_of_lt (Nat.div_le_self _ _) hlx)
  have hdl:=za4 65536 k (x / y)
  have htr:=λw' (h:SlA w' (some ⟨b7,0,none⟩) (iC (dg 65536 k (x / y))))=>zcv (some ⟨b7,0,none⟩) k k _ w' hdl (Nat.le_refl _) hlow h (by omega)
  repeat' (first|refine s_0 ?_|(refine za (id:=5) ?_;refine zb ?_;refine zac ?_)|(refine za (id:=17) ?_;refine zb ?_;refine yv (zf (f:=88) (hc:=λw' _ _ hh=>htr w' (.inr ⟨b7,0,rfl,zz (hh.has (by exact Has.append (Has.there Has.here))) Seg.all⟩))) (k:=?_);refine zb ?_;refine zd ?_;refine zd ?_)|fail)
  refine zbv (zb6 (n:=k) (s:=1) (Rem.there Rem.here) (by rw [zeA,hdl];omega) (by unfold maxLen;omega)) ?_
  refine zbv (zcX Rem.here hdl hlow) ?_
  rw [hvl]
  exact ret2 rfl (resTmp rfl) (resTmp rfl) (by exact SubR.go) ⟨_,_,_,_,rfl,rfl⟩
 obtain ⟨i,rfl⟩: ∃j,i=j+1:=⟨i - 1,by omega⟩
 have hij:(((i+1:Nat):Int) - 1)=((i:Nat):Int):=by omega
 have hs2:IntKind.i64.wrap ((i:Int) - 1)=(i:Int) - 1:=IntWalk.i64_in _ (by omega)
 rw [hij]
 obtain ⟨e1,e2⟩:=ziB 65536 x y i hy0
 have hly:=zae 65536 y (by decide)
 rw [hny] at hly
 have hry:=Nat.mod_lt (x / 65536 ^ (i+1)) hy0
 obtain ⟨ba,oa,rfl,hra⟩:=zeG ha (by omega)
 have hcx:=hra i _ (hgx i (by omega))
 have heK:x / 65536 ^ i % 65536 < 65536:=Nat.mod_lt _ (by decide)
 have hlow0: ∀(A:Nat),(dg 65536 k A).length=k:=λA=>za4 _ _ _
 generalize x / 65536 ^ (i+1) % y=r at *
 generalize x / 65536 ^ (i+1) / y=A at *
 generalize x / 65536 ^ i % 65536=e at *
 generalize hQ':x / 65536 ^ i / y=Q' at *
 generalize hR':x / 65536 ^ i % y=R' at *
 obtain ⟨r',hr'⟩: ∃r',r'=r*65536+e:=⟨_,rfl⟩
 rw [<-hr'] at e1 e2
 have hr'y:r' < y*65536:=by rw [hr'];exact zon heK hry
 have hqK:=zkb hy0 hr'y
 have hnr:=zak 65536 r n (by decide) (Nat.lt_trans hry hly)
 have hnr':=zak 65536 r' (n+1) (by decide) (by
  rw [Nat.pow_succ]
  exact Nat.lt_of_lt_of_le hr'y (Nat.mul_le_mul_right _ (Nat.le_of_lt hly)))
 refine zci (λw' hh=>(Row.none hh Has.here:a6=none->c6=0)) λhnil=>?_
 repeat' (first|refine s_t ?_|(refine za (id:=5) ?_;refine zb ?_;refine zac ?_)|(refine za (id:=7) ?_;refine zb ?_;refine zb ?_;refine zr ?_;refine yv (zx (hv:=hcx)) (k:=?_);(refine ys zt (k:=?_);rintro _ _ ⟨_,rfl,rfl⟩);refine zb ?_;(refine ys (zba (k:=1) (m:=nd 65536 r) (xs:=[iv e]) (news:=refC r) (km:=1+nd 65536 r) (hn:=by rw [zd3,Nat.mul_one]) (h1:=znS r) (hkm:=rfl) (hys:=zqr e r)) (k:=?_);rintro _ _ ⟨rfl,aN,cN,rfl⟩))|fail)
 refine zjL (λw' hh=>(Row.cap hh Has.here:1+nd 65536 r<=cN)) λhcap=>?_
 have hlen1:(e::cd 65536 r).length=1+nd 65536 r:=by rw [List.length_cons,zfW,Nat.add_comm]
 have htr:=λw' (h:SlA w' aN (iC (e::cd 65536 r)))=>zcv aN (1+nd 65536 r) cN (e::cd 65536 r) w' hlen1 hcap (zgo heK) h (by omega)
 rw [zhs,<-hr'] at htr
 repeat' (first|refine s_0 ?_|(refine zC ?_;first|refine yv (zf (f:=88) (hc:=λw' _ _ hh=>htr w' (zu hh (by exact Has.append Has.here)))) (k:=?_)|refine zd ?_|fail)|fail)
 refine zbh (zcX Rem.here hlen1 (zgo heK)) ?_
 rw [zhs,<-hr']
 have hn0:0 < n:=by
  rcases Nat.eq_zero_or_pos n with h|h
  ·subst h;rw [Nat.pow_zero] at hly;omega
  ·exact h
 obtain ⟨f,hf1,hf2⟩:=zl1 n
 have hfl: ∀x,f x < 65536:=λx=>by
  rcases Nat.lt_or_ge n 2 with h|h
  ·rw [(hf1 x).2 (by omega)];decide
  ·rw [(hf1 x).1 h];exact Nat.mod_lt _ (by decide)
 obtain ⟨hDd,hest⟩:=zpI hny.symm hy0 hr'y (f r') (f y) (hf1 r') (hf1 y)
 have hd1:=λw' (h:SlA w' aN (refC r'))=>za7 aN cN r' n w' h
 have hd2:=λw' (h:SlA w' aN (refC r'))=>za7 aN cN r' (n - 1) w' h
 have hd3:=λw' (h:SlA w' aN (refC r'))=>hf2 aN cN r' w' hn0 h
 have hd4:=λw' (hk:Keep No w w')=>hf2 b cb y w' hn0 (hb.to hk (λ_ h=> .inr h)).sla
 rw [hny] at hd4
 obtain ⟨bb,ob,rfl,hrb⟩:=zeG hb (by rw [zd3,hny];exact hn0)
 have hcy:=hrb (n - 1) _ (ze0 y (n - 1) (by rw [hny];omega))
 have b1:r' / 65536 ^ n % 65536 < 65536:=Nat.mod_lt _ (by decide)
 have b2:r' / 65536 ^ (n - 1) % 65536 < 65536:=Nat.mod_lt _ (by decide)
 have b3:=hfl r'
 have b4:=hfl y
 have b5:y / 65536 ^ (n - 1) % 65536 < 65536:=Nat.mod_lt _ (by decide)
 generalize r' / 65536 ^ n % 65536=D1 at *
 generalize r' / 65536 ^ (n - 1) % 65536=D2 at *
 generalize f r'=D3 at *
 generalize y / 65536 ^ (n - 1) % 65536=E1 at *
 generalize f y=E2 at *
 have s1:IntKind.i64.wrap ((n:Int) - 1)=((n - 1:Nat):Int):=by rw [IntWalk.i64_in _ (by omega)];omega
 have s2:IntKind.i64.wrap ((n:Int) - 2)=(n:Int) - 2:=IntWalk.i64_in _ (by omega)
 obtain ⟨T1,hT1⟩: ∃T1,T1=D1*65536:=⟨_,rfl⟩
 obtain ⟨T2,hT2⟩: ∃T2,T2=T1+D2:=⟨_,rfl⟩
 obtain ⟨T3,hT3⟩: ∃T3,T3=T2*65536:=⟨_,rfl⟩
 obtain ⟨T4,hT4⟩: ∃T4,T4=T3+D3:=⟨_,rfl⟩
 obtain ⟨U1,hU1⟩: ∃U1,U1=E1*65536:=⟨_,rfl⟩
 obtain ⟨U2,hU2⟩: ∃U2,U2=U1+E2:=⟨_,rfl⟩
 rw [<-hT1,<-hT2,<-hT3,<-hT4,<-hU1,<-hU2] at hest
 rw [<-hU1,<-hU2] at hDd
 obtain ⟨G,hG⟩: ∃G,G=T4 / U2:=⟨_,rfl⟩
 rw [<-hG] at hest
 have m1:IntKind.i64.wrap ((D1:Int)*65536)=((T1:Nat):Int):=by rw [IntWalk.i64_in _ (by omega)];omega
 have m2:IntKind.i64.wrap ((T1:Int)+(D2:Int))=((T2:Nat):Int):=by rw [IntWalk.i64_in _ (by omega)];omega
 have m3:IntKind.i64.wrap ((T2:Int)*65536)=((T3:Nat):Int):=by rw [IntWalk.i64_in _ (by omega)];omega
 have m4:IntKind.i64.wrap ((T3:Int)+(D3:Int))=((T4:Nat):Int):=by rw [IntWalk.i64_in _ (by omega)];omega
 have m5:IntKind.i64.wrap ((E1:Int)*65536)=((U1:Nat):Int):=by rw [IntWalk.i64_in _ (by omega)];omega
 have m6:IntKind.i64.wrap ((U1:Int)+(E2:Int))=((U2:Nat):Int):=by rw [IntWalk.i64_in _ (by omega)];omega
 have m7:IntKind.i64.wrap ((T4:Int).tdiv (U2:Int))=((G:Nat):Int):=by rw [hG];exact quoI (by omega)
 have m8:(U2:Int)≠0:=by omega
 obtain ⟨g0,hg0⟩: ∃g0,g0=min G 65535:=⟨_,rfl⟩
 have m9:min (G:Int) 65535=((g0:Nat):Int):=by omega
 have hg0q:r' / y<=g0/\g0<=65535:=by
  revert hest hqK
  generalize r' / y=q
  intro hest hqK
  omega
 have hof:=λw'=>zdl g0 w' (by omega)
 have hndg:=zak 65536 g0 1 (by decide) (by omega)
 have hmul:=λw' a2 c2 (h1:SlA w' (some ⟨bb,ob,none⟩) (refC y)) (h2:SlA w' a2 (refC g0))=>zkZ (some ⟨bb,ob,none⟩) a2 cb c2 y g0 w' h1 h2 (by omega) (by omega)
 rw [hny] at hmul
 repeat' (first|refine s_0 ?_|(refine za (id:=8) ?_;refine zb ?_;refine zb ?_;refine yv (zf (f:=89) (hc:=λw' _ _ hh=>hd1 w' (zu hh (by exact Has.append Has.here)))) (k:=?_);refine yv (zan (hr:=m1)) (k:=?_);refine zb ?_;refine zb ?_;refine yv (zJ (hr:=s1)) (k:=?_);refine yv (zf (f:=89) (hc:=λw' _ _ hh=>hd2 w' (zu hh (by exact Has.append Has.here)))) (k:=?_);refine yv (zL (hr:=m2)) (k:=?_);refine yv (zan (hr:=m3)) (k:=?_);refine zb ?_;refine zb ?_;refine yv (zJ (hr:=s2)) (k:=?_);refine yv (zf (f:=89) (hc:=λw' _ _ hh=>hd3 w' (zu hh (by exact Has.append Has.here)))) (k:=?_);refine yv (zL (hr:=m4)) (k:=?_);refine zd ?_)|(refine zK (id:=9) 10 [[],[],[1],[0,1,2],[0,1,2,3],[0,1,2,3,4],[],[],[7],[6,7,8],[0,1,2,3,4,5,6,7,8,9],[0,1,2,3,4,5,6,7,8,9,10]] mixed ?_ ?_;kernel_rfl;refine zp ?_;refine zp ?_;refine dc (λ_ _=>zJ (hr:=s1)) (k:=?_);refine zH ?_;refine dc (λ_ _=>zx (hv:=hcy)) (k:=?_);refine dc (λ_ _=>zan (hr:=m5)) (k:=?_);refine zp ?_;refine zp ?_;refine dc (λ_ _=>zJ (hr:=s2)) (k:=?_);refine dc (λ_ _=>zf (f:=89) (hc:=λw' _ hk _=>hd4 w' hk)) (k:=?_);refine zU ?_;refine yv (zL (hr:=m6)) (k:=?_);refine zd ?_)|(refine za (id:=10) ?_;refine zb ?_;refine zb ?_;refine yv (zaS (hb:=m8) (hr:=m7)) (k:=?_);refine yv (zpm m9) (k:=?_);refine zd ?_)|(refine za (id:=11) ?_;refine zb ?_;refine zb ?_;(refine ys (zn (f:=41) (hc:=λw' X hk hh=>hof w')) (k:=?_);rintro _ _ ⟨R,rfl,a2,c2,rfl,rfl⟩);(refine ys (zn (f:=104) (hc:=λw' X hk hh=>hmul w' _ _ (hb.to hk (λ_ h=> .inr h)).sla (zu hh (by exact Has.append Has.go)))) (k:=?_);rintro _ _ ⟨R,rfl,a3,c3,rfl,rfl⟩);refine zd ?_)|fail)
 refine Sy.weaken (fr':=[(0,.slice (some ⟨ba,oa,none⟩) k ca),(1,.slice (some ⟨bb,ob,none⟩) n cb),(6,.slice aN (nd 65536 r') cN),(7,.slice (some ⟨b7,0,none⟩) k k),(8,.int .i64 n),(9,.int .i64 i),(12,.int .i64 g0),(13,.slice a3 (nd 65536 (y*g0)) c3)])
  (L':=[.row (.slice aN (nd 65536 r') cN) 3 1 (nd 65536 r') (refC r'),.row (.slice a3 (nd 65536 (y*g0)) c3) 3 1 (nd 65536 (y*g0)) (refC (y*g0)),.blk b7 3 (iC (dg 65536 k (A*65536 ^ (i+1))))]) ?_ (by exact Sub.go) (by exact SubR.go2)
 have hset:(iC (dg 65536 k (A*65536 ^ (i+1)))).set i (iv (r' / y))=iC (dg 65536 k (Q'*65536 ^ i)):=by
  have hz:A*65536 ^ (i+1) / 65536 ^ i % 65536=0:=by
   rw [Nat.pow_succ,Nat.mul_comm (65536 ^ i),<-Nat.mul_assoc,Nat.mul_div_cancel _ (Nat.pow_pos (by decide))]
   exact Nat.mul_mod_left _ _
  have h:=ze2 65536 k (A*65536 ^ (i+1)) i (r' / y)
  rw [hz,Nat.zero_add] at h
  have h:=h hqK
  rw [e1,show (A*65536+r' / y)*65536 ^ i=A*65536 ^ (i+1)+r' / y*65536 ^ i by rw [Nat.add_mul,Nat.pow_succ,Nat.mul_comm (65536 ^ i),<-Nat.mul_assoc],<-h]
  unfold iC
  rw [List.map_set]
 have hml:(iC (dg 65536 k (A*65536 ^ (i+1)))).length=k:=by rw [zeA,za4]
 clear hof hmul hd1 hd2 hd3 hd4 m1 m2 m3 m4 m5 m6 m7 m8 m9 hcx hcy hra
 repeat' (first|refine zbL ?_|fail)
 refine zE (γ:=Nat×Option Addr×Nat) (λg=>[(0,.slice (some ⟨ba,oa,none⟩) k ca),(1,.slice (some ⟨bb,ob,none⟩) n cb),(6,.slice aN (nd 65536 r') cN),(7,.slice (some ⟨b7,0,none⟩) k k),(8,.int .i64 n),(9,.int .i64 i),(12,.int .i64 g.1),(13,.slice g.2.1 (nd 65536 (y*g.1)) g.2.2)])
  (λg=>[.row (.slice aN (nd 65536 r') cN) 3 1 (nd 65536 r') (refC r'),.row (.slice g.2.1 (nd 65536 (y*g.1)) g.2.2) 3 1 (nd 65536 (y*g.1)) (refC (y*g.1)),.blk b7 3 (iC (dg 65536 k (A*65536 ^ (i+1))))])
  (λg=>r' / y<=g.1/\g.1<=65535) (λg=>g.1) (g0,a3,c3) hg0q ?_ ?_ ?_
 ·exact Sub.go
 ·exact SubR.go
 rintro ⟨g,a4,c4⟩ ⟨hg1,hg2⟩
 dsimp only at hg1 hg2 ⊢
 have hq0:0<=r' / y:=Nat.zero_le _
 have hnp:=zjJ (y:=y) (g:=g) (by omega)
 rw [hny] at hnp
 have hcmp:=λw' (h1:SlA w' a4 (refC (y*g))) (h2:SlA w' aN (refC r'))=>zbq a4 aN c4 cN (y*g) r' w' h1 h2 (by omega) (by omega)
 by_cases hgo:r' / y < g
 ·have hlt:r' < y*g:=by rw [Nat.mul_comm];exact (Nat.div_lt_iff_lt_mul hy0).1 hgo
  rw [zdL hlt] at hcmp
  obtain ⟨h,rfl⟩: ∃h,g=h+1:=⟨g - 1,by omega⟩
  have hsub:=λw' (h1:SlA w' a4 (refC (y*(h+1)))) (h2:SlA w' (some ⟨bb,ob,none⟩) (refC y))=>zga a4 (some ⟨bb,ob,none⟩) c4 cb (y*(h+1)) y w' h1 h2 (by omega) (by rw [Nat.mul_succ];omega)
  rw [hny,show y*(h+1) - y=y*h by rw [Nat.mul_succ,Nat.add_sub_cancel]] at hsub
  have hd:IntKind.i64.wrap (((h+1:Nat):Int) - 1)=((h:Nat):Int):=by rw [IntWalk.i64_in _ (by omega)];omega
  repeat' (first|refine s_t ?_|(refine za (id:=12) ?_;refine zb ?_;refine zb ?_;refine yv (zf (f:=50) (hc:=λw' _ _ hh=>hcmp w' (zu hh (by exact Has.append Has.go)) (zu hh (by exact Has.append Has.go)))) (k:=?_);refine zaa ?_)|(refine za (id:=13) ?_;refine zb ?_;refine yv (zJ (hr:=hd)) (k:=?_);refine zd ?_)|(refine za (id:=14) ?_;refine zb ?_;refine zb ?_;(refine ys (zn (f:=105) (hc:=λw' X hk hh=>hsub w' (zu hh (by exact Has.append Has.go)) (hb.to hk (λ_ h=> .inr h)).sla)) (k:=?_);rintro _ _ ⟨R,rfl,a5,c5,rfl,rfl⟩);refine zd ?_)|fail)
  refine zy (h,a5,c5) ⟨by show r' / y<=h;omega,by show h<=65535;omega⟩ ?_ ?_ ?_
  ·show h < h+1;omega
  ·exact Sub.go
  ·exact SubR.go2
 ·obtain rfl:g=r' / y:=by omega
  have hle:y*(r' / y)<=r':=Nat.mul_div_le r' y
  have hng:decide ((0:Int) < cmpI (y*(r' / y)) r')=false:=decide_eq_false (by unfold cmpI;split <;> (try split) <;> omega)
  generalize cmpI (y*(r' / y)) r'=cq at *
  have hsub:=λw' (h1:SlA w' aN (refC r')) (h2:SlA w' a4 (refC (y*(r' / y))))=>zga aN a4 cN c4 r' (y*(r' / y)) w' h1 h2 (by omega) hle
  rw [show r' - y*(r' / y)=R' by rw [e2,Nat.mod_def]] at hsub
  generalize r' / y=q at *
  repeat' (first|refine s_0 ?_|(refine za (id:=12) ?_;refine zb ?_;refine zb ?_;refine yv (zf (f:=50) (hc:=λw' _ _ hh=>hcmp w' (zu hh (by exact Has.append Has.go)) (zu hh (by exact Has.append Has.go)))) (k:=?_);refine yv (zaf (hr:=hng)) (k:=?_))|(refine za (id:=15) ?_;refine zb ?_;refine zb ?_;refine zb ?_;refine zr ?_;refine zB ?_)|(refine za (id:=16) ?_;refine zb ?_;refine zb ?_;(refine ys (zn (f:=105) (hc:=λw' X hk hh=>hsub w' (zu hh (by exact Has.append Has.go)) (zu hh (by exact Has.append Has.go)))) (k:=?_);rintro _ _ ⟨R,rfl,a5,c5,rfl,rfl⟩);refine zd ?_)|(refine za (id:=6) ?_;refine zb ?_;refine yv (zJ (hr:=hs2)) (k:=?_);refine zd ?_)|fail)
  refine zy (i,a5,c5) ?_ ?_ ?_ ?_
  ·show i<=k;omega
  ·show i < i+1;omega
  ·dsimp only
   rw [hR']
   exact Sub.go
  ·dsimp only
   rw [hR',hQ',<-hset]
   exact SubR.go2
end Go.Proofs.YtcpjfilcilcekaaGreatDoor
end
