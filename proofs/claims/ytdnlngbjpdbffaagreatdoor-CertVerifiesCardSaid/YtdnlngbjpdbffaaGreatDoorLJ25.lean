/- The specification's numbers: division. -/
import Derived.Test.YtdnlngbjpdbffaaGreatDoorLJ24
import Derived.Test.YtdnlngbjpdbffaaGreatDoorLJ15
import Derived.Test.YtdnlngbjpdbffaaGreatDoorLJ17
import Derived.Test.YtdnlngbjpdbffaaGreatDoorLJ08
set_option maxHeartbeats 2000000
set_option maxRecDepth 10000
set_option linter.all false
section
namespace Go.Nt
open Go Go.Sy
theorem zfz:refC 0= []:=by rw [zc7];unfold cd;rw [zaT];rfl
theorem zoF (x:Nat):(refC x).all (·.oneCell')=true:=by rw [zc7];exact zrI _
theorem Row.none {B0:Nat}{w:World}{M:Nat->Prop}{E n c s:Nat}{a:Option Addr}{xs:List Value}{L:List Res}(hh:Holds B0 M L w) (hL:Has L (.row (.slice a n c) E s n xs)):a=none->c=0:=by
 have hrow:w.ownsRow 0 E s (.slice a n c) n xs:=hh.has hL;obtain ⟨h1,⟨hv,h2⟩|⟨b,cc,cur,hv,_,h3,h4,h5,h6,h7⟩⟩:=hrow
 ·cases hv;exact λ_=>rfl
 ·cases hv;exact λh=>by cases h
theorem zhq (e r:Nat):vl 65536 (e::cd 65536 r)=r*65536+e:=by
 simp only [vl,zpD 65536 r q_e];omega
theorem zge {e r:Nat}(he:e < 65536): ∀d∈e::cd 65536 r,d < 65536:=by
 intro d hd;rcases List.mem_cons.1 hd with rfl|h
 ·exact he
 ·unfold cd at h;exact zei 65536 q_e _ _ d h
theorem zqA (e r:Nat): [iv e] ++ refC r=iC (e::cd 65536 r):=rfl
theorem zjl {y g:Nat}(hg:g < 65536):nd 65536 (y*g)<=nd 65536 y+1:=by
 refine zao _ _ _ q_e ?_;have h1:=zai 65536 y q_e;rw [Nat.pow_succ];rcases Nat.eq_zero_or_pos g with h|h
 ·subst h;rw [Nat.mul_zero];exact Nat.mul_pos (Nat.pow_pos q_e) q_e
 ·exact Nat.lt_of_lt_of_le (Nat.mul_lt_mul_of_pos_right h1 h) (Nat.mul_le_mul_left _ (Nat.le_of_lt hg))
theorem zkw {b r y:Nat}(hy:0 < y) (h:r < y*b):r / y < b:=Nat.div_lt_of_lt_mul h
theorem zpt {b r e y:Nat}(he:e < b) (hr:r < y):r*b+e < y*b:=by
 have:=Nat.mul_le_mul_right b (show r+1<=y from hr);rw [Nat.add_mul,Nat.one_mul] at this;omega
theorem zqH {r y n:Nat}(hn:n=nd 65536 y) (hy:0 < y) (hr:r < y*65536) (z2 w2:Nat) (hz:(2<=n->z2=r / 65536 ^ (n - 2) % 65536)/\(n=1->z2=0)) (hw:(2<=n->w2=y / 65536 ^ (n - 2) % 65536)/\(n=1->w2=0)):
  0 < y / 65536 ^ (n - 1) % 65536*65536+w2/\r / y<=((r / 65536 ^ n % 65536*65536+r / 65536 ^ (n - 1) % 65536)*65536+z2) / (y / 65536 ^ (n - 1) % 65536*65536+w2):=by
 have h1:=zai 65536 y q_e;have h2:=(zbZ 65536 q_e y).2;rw [<-hn] at h1 h2;have hn0:0 < n:=by
  rcases Nat.eq_zero_or_pos n with h|h
  ·subst h;rw [Nat.pow_zero] at h1;omega
  ·exact h
 have h2:=h2 hn0;have hpn:0 < 65536 ^ (n - 1):=Nat.pow_pos q_e;have hyt:0 < y / 65536 ^ (n - 1):=Nat.div_pos h2 hpn;have hyl:y / 65536 ^ (n - 1) < 65536:=by
  rw [Nat.div_lt_iff_lt_mul hpn,Nat.mul_comm,<-Nat.pow_succ,show (n - 1).succ=n by omega];exact h1
 have hrn:r < 65536 ^ n*65536:=Nat.lt_of_lt_of_le hr (Nat.mul_le_mul_right _ (Nat.le_of_lt h1));have hrd:r / 65536 ^ n < 65536:=by
  rw [Nat.div_lt_iff_lt_mul (Nat.pow_pos q_e),Nat.mul_comm];exact hrn
 rcases Nat.lt_or_ge n 2 with h|h
 ·obtain rfl:n=1:=q_o;rw [hz.2 rfl,hw.2 rfl];rw [Nat.sub_self,Nat.pow_zero,Nat.div_one,Nat.pow_one,Nat.div_one] at *;have e1:r / 65536 % 65536*65536+r % 65536=r:=by
   rw [Nat.mod_eq_of_lt hrd];omega
  have e2:y % 65536=y:=Nat.mod_eq_of_lt hyl;rw [e1,e2,Nat.add_zero,Nat.add_zero];exact ⟨by omega,by rw [Nat.mul_div_mul_right _ _ (show 0 < 65536 by decide)];exact Nat.le_refl _⟩
 ·rw [hz.1 h,hw.1 h];have e1:=zft 65536 r n h q_e hrd;have e2:=zhm 65536 y n h q_e h1;rw [e1,e2];have hd:0 < y / 65536 ^ (n - 2):=Nat.div_pos (Nat.le_trans (Nat.pow_le_pow_right q_e q_o) h2) (Nat.pow_pos q_e);exact ⟨hd,zmc hd rfl rfl q_e⟩
end Go.Nt
namespace Go.Proofs.YtdnlngbjpdbffaaGreatDoor
open Go Go.Sy Go.Nt Go.RowKit
attribute [local irreducible] Sy SyL SyX Sy.Fn callFunc natC refC iC
theorem znu (n:Nat): ∃f:Nat->Nat,(∀x,(2<=n->f x=x / 65536 ^ (n - 2) % 65536)/\(n=1->f x=0))/\
  ∀(a:Option Addr) (c x:Nat) (w:World),0 < n->SlA w a (refC x)->Sy.Fn Tryz.prog 231 [.slice a (nd 65536 x) c,.int .i64 ((n:Int) - 2)] w No (Gives (iv (f x))):=by
 rcases Nat.lt_or_ge n 2 with h|h
 ·refine ⟨λ_=>0,λx=>⟨λh'=>absurd h' q_o,λ_=>rfl⟩,λa c x w h0 hs=>?_⟩;exact znK a _ c _ w q_o
 ·refine ⟨λx=>x / 65536 ^ (n - 2) % 65536,λx=>⟨λ_=>rfl,λh'=>absurd h' q_o⟩,λa c x w h0 hs=>?_⟩;have e:(n:Int) - 2=((n - 2:Nat):Int):=q_o;rw [e];exact za8 a c x (n - 2) w hs
theorem zhe (a b:Option Addr) (ca cb x y:Nat) (w:World) (ha:SlA w a (refC x)) (hb:SlA w b (refC y)) (hx:nd 65536 x < 100000) (hy:nd 65536 y < 100000) (hy0:0 < y):
  Sy.Fn Tryz.prog 232 [.slice a (nd 65536 x) ca,.slice b (nd 65536 y) cb] w No (λv R=>∃a1 c1 a2 c2,v= .tuple #[.slice a1 (nd 65536 (x / y)) c1,.slice a2 (nd 65536 (x % y)) c2]/\
   R= [.row (.slice a1 (nd 65536 (x / y)) c1) 3 1 (nd 65536 (x / y)) (refC (x / y)),.row (.slice a2 (nd 65536 (x % y)) c2) 3 1 (nd 65536 (x % y)) (refC (x % y))]):=by
 refine zg Tryz.func232 rfl Tryz.ntmps232 q_p Holds.nil ?_;have hlx:=zai 65536 x q_e;have hgx:=zeX x;have hlenx:=zdY x;generalize hnx:nd 65536 x=k at *;generalize hny:nd 65536 y=n at *;have hr0:refC 0= []:=zfz;repeat' (first|refine s_t ?_|(refine zB [0,1,2,3] ?_;refine za ?_)|(refine zb 4 (za ?_);refine zdc ?_;refine za ?_)|(refine ys zcu (k:=?_);rintro _ _ ⟨b7,rfl,rfl⟩)|(refine zP ?_;first|refine zx ?_|fail)|fail)
 refine zaR (zaE 3 1) ?_;refine zy (γ:=Nat×Option Addr×Nat) (λg=>[(0,.slice a k ca),(1,.slice b n cb),(6,.slice g.2.1 (nd 65536 (x / 65536 ^ g.1 % y)) g.2.2),(7,.slice (some ⟨b7,0,none⟩) k k),(8,.int .i64 n),(9,.int .i64 ((g.1:Int) - 1))])
  (λg=>[.row (.slice g.2.1 (nd 65536 (x / 65536 ^ g.1 % y)) g.2.2) 3 1 (nd 65536 (x / 65536 ^ g.1 % y)) (refC (x / 65536 ^ g.1 % y)),.blk b7 3 (iC (dg 65536 k (x / 65536 ^ g.1 / y*65536 ^ g.1)))])
  (λg=>g.1<=k) (λg=>g.1) (k,none,0) (Nat.le_refl _) ?_ ?_ ?_
 ·dsimp only;rw [Nat.div_eq_of_lt hlx,Nat.zero_mod,zaT];exact q_h
 ·dsimp only;rw [Nat.div_eq_of_lt hlx,Nat.zero_mod,Nat.zero_div,Nat.zero_mul,zaT,zdF,<-zgB,hr0];exact q_h
 rintro ⟨i,a6,c6⟩ hi;dsimp only at hi ⊢;rcases Nat.eq_zero_or_pos i with h0|h0
 ·subst h0;rw [Nat.pow_zero,Nat.div_one,Nat.mul_one];have hlow: ∀d∈dg 65536 k (x / y),d < 65536:=zei 65536 q_e _ _;have hvl:vl 65536 (dg 65536 k (x / y))=x / y:=zb2 _ _ _ (Nat.lt_of_le_of_lt (Nat.div_le_self _ _) hlx);have hdl:=zbo 65536 k (x / y);have htr:=λw' (h:SlA w' (some ⟨b7,0,none⟩) (iC (dg 65536 k (x / y))))=>zcq (some ⟨b7,0,none⟩) k k _ w' hdl (Nat.le_refl _) hlow h q_o;repeat' (first|refine s_0 ?_|(refine zb 5 (za ?_);refine zad ?_)|(refine zb 17 (za ?_);refine yv (zd (f:=230) (hc:=λw' _ _ hh=>htr w' (.inr ⟨b7,0,rfl,zp (hh.has (by exact Has.append (Has.there Has.here))) Seg.all⟩))) (k:=?_);refine za ?_))
  refine zbm (zb7 (n:=k) (s:=1) (Rem.there Rem.here) (by rw [zex,hdl];omega) (by unfold maxLen;omega)) ?_;refine zbm (zc4 Rem.here hdl hlow) ?_;rw [hvl];exact ret2 rfl (resTmp rfl) (resTmp rfl) q_h ⟨_,_,_,_,rfl,rfl⟩
 obtain ⟨i,rfl⟩: ∃j,i=j+1:=⟨i - 1,by omega⟩;have hij:(((i+1:Nat):Int) - 1)=((i:Nat):Int):=q_o;have hs2:IntKind.i64.wrap ((i:Int) - 1)=(i:Int) - 1:=IntWalk.i64_in _ q_o;rw [hij];obtain ⟨e1,e2⟩:=zhU 65536 x y i hy0;have hly:=zai 65536 y q_e;rw [hny] at hly;have hry:=Nat.mod_lt (x / 65536 ^ (i+1)) hy0;obtain ⟨ba,oa,rfl,hra⟩:=zeE ha q_o;have hcx:=hra i _ (hgx i q_o);have heK:x / 65536 ^ i % 65536 < 65536:=Nat.mod_lt _ q_e;have hlow0: ∀(A:Nat),(dg 65536 k A).length=k:=λA=>zbo _ _ _;generalize x / 65536 ^ (i+1) % y=r at *;generalize x / 65536 ^ (i+1) / y=A at *;generalize x / 65536 ^ i % 65536=e at *;generalize hQ':x / 65536 ^ i / y=Q' at *;generalize hR':x / 65536 ^ i % y=R' at *;obtain ⟨r',hr'⟩: ∃r',r'=r*65536+e:=⟨_,rfl⟩;rw [<-hr'] at e1 e2;have hr'y:r' < y*65536:=by rw [hr'];exact zpt heK hry
 have hqK:=zkw hy0 hr'y;have hnr:=zao 65536 r n q_e (Nat.lt_trans hry hly);have hnr':=zao 65536 r' (n+1) q_e (by
  rw [Nat.pow_succ];exact Nat.lt_of_lt_of_le hr'y (Nat.mul_le_mul_right _ (Nat.le_of_lt hly)))
 refine zcA (λw' hh=>(Row.none hh Has.here:a6=none->c6=0)) λhnil=>?_;repeat' (first|refine s_t ?_|(refine zb 5 (za ?_);refine zad ?_)|(refine zb 7 (za ?_);refine zw ?_;refine yv (zl (hv:=hcx)) (k:=?_);(refine ys zt (k:=?_);rintro _ _ ⟨_,rfl,rfl⟩);refine za ?_;(refine ys (zaW (k:=1) (m:=nd 65536 r) (xs:=[iv e]) (news:=refC r) (km:=1+nd 65536 r) (hn:=by rw [zdY,Nat.mul_one]) (h1:=zoF r) (hkm:=rfl) (hys:=zqA e r)) (k:=?_);rintro _ _ ⟨rfl,aN,cN,rfl⟩)))
 refine ze3 (λw' hh=>(Row.cap hh Has.here:1+nd 65536 r<=cN)) λhcap=>?_;have hlen1:(e::cd 65536 r).length=1+nd 65536 r:=by rw [List.length_cons,zfm,Nat.add_comm]
 have htr:=λw' (h:SlA w' aN (iC (e::cd 65536 r)))=>zcq aN (1+nd 65536 r) cN (e::cd 65536 r) w' hlen1 hcap (zge heK) h q_o;rw [zhq,<-hr'] at htr;repeat' (first|refine s_0 ?_|(refine zP ?_;first|refine yv (zd (f:=230) (hc:=λw' _ _ hh=>htr w' (zJ hh (by exact Has.append Has.here)))) (k:=?_)|refine zx ?_|fail)|fail)
 refine zaR (zc4 Rem.here hlen1 (zge heK)) ?_;rw [zhq,<-hr'];have hn0:0 < n:=by
  rcases Nat.eq_zero_or_pos n with h|h
  ·subst h;rw [Nat.pow_zero] at hly;omega
  ·exact h
 obtain ⟨f,hf1,hf2⟩:=znu n;have hfl: ∀x,f x < 65536:=λx=>by
  rcases Nat.lt_or_ge n 2 with h|h
  ·rw [(hf1 x).2 q_o];decide
  ·rw [(hf1 x).1 h];exact Nat.mod_lt _ q_e
 obtain ⟨hDd,hest⟩:=zqH hny.symm hy0 hr'y (f r') (f y) (hf1 r') (hf1 y);have hd1:=λw' (h:SlA w' aN (refC r'))=>za8 aN cN r' n w' h;have hd2:=λw' (h:SlA w' aN (refC r'))=>za8 aN cN r' (n - 1) w' h;have hd3:=λw' (h:SlA w' aN (refC r'))=>hf2 aN cN r' w' hn0 h;have hd4:=λw' (hk:Keep No w w')=>hf2 b cb y w' hn0 (hb.to hk (λ_ h=> .inr h)).sla;rw [hny] at hd4;obtain ⟨bb,ob,rfl,hrb⟩:=zeE hb (by rw [zdY,hny];exact hn0);have hcy:=hrb (n - 1) _ (zeX y (n - 1) (by rw [hny];omega));have b1:r' / 65536 ^ n % 65536 < 65536:=Nat.mod_lt _ q_e;have b2:r' / 65536 ^ (n - 1) % 65536 < 65536:=Nat.mod_lt _ q_e;have b3:=hfl r';have b4:=hfl y;have b5:y / 65536 ^ (n - 1) % 65536 < 65536:=Nat.mod_lt _ q_e;generalize r' / 65536 ^ n % 65536=D1 at *;generalize r' / 65536 ^ (n - 1) % 65536=D2 at *;generalize f r'=D3 at *;generalize y / 65536 ^ (n - 1) % 65536=E1 at *;generalize f y=E2 at *;have s1:IntKind.i64.wrap ((n:Int) - 1)=((n - 1:Nat):Int):=q_w;have s2:IntKind.i64.wrap ((n:Int) - 2)=(n:Int) - 2:=IntWalk.i64_in _ q_o;obtain ⟨T1,hT1⟩: ∃T1,T1=D1*65536:=⟨_,rfl⟩;obtain ⟨T2,hT2⟩: ∃T2,T2=T1+D2:=⟨_,rfl⟩;obtain ⟨T3,hT3⟩: ∃T3,T3=T2*65536:=⟨_,rfl⟩;obtain ⟨T4,hT4⟩: ∃T4,T4=T3+D3:=⟨_,rfl⟩;obtain ⟨U1,hU1⟩: ∃U1,U1=E1*65536:=⟨_,rfl⟩;obtain ⟨U2,hU2⟩: ∃U2,U2=U1+E2:=⟨_,rfl⟩;rw [<-hT1,<-hT2,<-hT3,<-hT4,<-hU1,<-hU2] at hest;rw [<-hU1,<-hU2] at hDd;obtain ⟨G,hG⟩: ∃G,G=T4 / U2:=⟨_,rfl⟩;rw [<-hG] at hest;have m1:IntKind.i64.wrap ((D1:Int)*65536)=((T1:Nat):Int):=q_w;have m2:IntKind.i64.wrap ((T1:Int)+(D2:Int))=((T2:Nat):Int):=q_w;have m3:IntKind.i64.wrap ((T2:Int)*65536)=((T3:Nat):Int):=q_w;have m4:IntKind.i64.wrap ((T3:Int)+(D3:Int))=((T4:Nat):Int):=q_w;have m5:IntKind.i64.wrap ((E1:Int)*65536)=((U1:Nat):Int):=q_w;have m6:IntKind.i64.wrap ((U1:Int)+(E2:Int))=((U2:Nat):Int):=q_w;have m7:IntKind.i64.wrap ((T4:Int).tdiv (U2:Int))=((G:Nat):Int):=by rw [hG];exact quoI q_o
 have m8:(U2:Int)≠0:=q_o;obtain ⟨g0,hg0⟩: ∃g0,g0=min G 65535:=⟨_,rfl⟩;have m9:min (G:Int) 65535=((g0:Nat):Int):=q_o;have hg0q:r' / y<=g0/\g0<=65535:=by
  revert hest hqK
  generalize r' / y=q;intro hest hqK;omega
 have hof:=λw'=>zeN g0 w' q_o;have hndg:=zao 65536 g0 1 q_e q_o;have hmul:=λw' a2 c2 (h1:SlA w' (some ⟨bb,ob,none⟩) (refC y)) (h2:SlA w' a2 (refC g0))=>zle (some ⟨bb,ob,none⟩) a2 cb c2 y g0 w' h1 h2 q_o q_o;rw [hny] at hmul;repeat' (first|refine s_0 ?_|(refine zb 8 (za ?_);refine yv (zd (f:=231) (hc:=λw' _ _ hh=>hd1 w' (zJ hh (by exact Has.append Has.here)))) (k:=?_);refine yv (zah (hr:=m1)) (k:=za ?_);refine yv (zD (hr:=s1)) (k:=?_);refine yv (zd (f:=231) (hc:=λw' _ _ hh=>hd2 w' (zJ hh (by exact Has.append Has.here)))) (k:=?_);refine yv (zu (hr:=m2)) (k:=?_);refine yv (zah (hr:=m3)) (k:=za ?_);refine yv (zD (hr:=s2)) (k:=?_);refine yv (zd (f:=231) (hc:=λw' _ _ hh=>hd3 w' (zJ hh (by exact Has.append Has.here)))) (k:=?_);refine yv (zu (hr:=m4)) (k:=za ?_))|(refine zM (id:=9) 10 [[],[],[1],[0,1,2],[0,1,2,3],[0,1,2,3,4],[],[],[7],[6,7,8],[0,1,2,3,4,5,6,7,8,9],[0,1,2,3,4,5,6,7,8,9,10]] mixed ?_ ?_;kernel_rfl;refine zk ?_;refine zk ?_;refine dc (λ_ _=>zD (hr:=s1)) (k:=?_);refine zK ?_;refine dc (λ_ _=>zl (hv:=hcy)) (k:=?_);refine dc (λ_ _=>zah (hr:=m5)) (k:=?_);refine zk ?_;refine zk ?_;refine dc (λ_ _=>zD (hr:=s2)) (k:=?_);refine dc (λ_ _=>zd (f:=231) (hc:=λw' _ hk _=>hd4 w' hk)) (k:=?_);refine zY ?_;refine yv (zu (hr:=m6)) (k:=?_);refine zx ?_)|(refine zb 10 (za ?_);refine yv (zaz (hb:=m8) (hr:=m7)) (k:=?_);refine yv (zp1 m9) (k:=za ?_))|(refine zb 11 (za ?_);(refine ys (zh (f:=159) (hc:=λw' X hk hh=>hof w')) (k:=?_);rintro _ _ ⟨R,rfl,a2,c2,rfl,rfl⟩);(refine ys (zh (f:=278) (hc:=λw' X hk hh=>hmul w' _ _ (hb.to hk (λ_ h=> .inr h)).sla (zJ hh q_h))) (k:=?_);rintro _ _ ⟨R,rfl,a3,c3,rfl,rfl⟩);refine za ?_))
 refine Sy.weaken (fr':=[(0,.slice (some ⟨ba,oa,none⟩) k ca),(1,.slice (some ⟨bb,ob,none⟩) n cb),(6,.slice aN (nd 65536 r') cN),(7,.slice (some ⟨b7,0,none⟩) k k),(8,.int .i64 n),(9,.int .i64 i),(12,.int .i64 g0),(13,.slice a3 (nd 65536 (y*g0)) c3)])
  (L':=[.row (.slice aN (nd 65536 r') cN) 3 1 (nd 65536 r') (refC r'),.row (.slice a3 (nd 65536 (y*g0)) c3) 3 1 (nd 65536 (y*g0)) (refC (y*g0)),.blk b7 3 (iC (dg 65536 k (A*65536 ^ (i+1))))]) ?_ q_h q_h
 have hset:(iC (dg 65536 k (A*65536 ^ (i+1)))).set i (iv (r' / y))=iC (dg 65536 k (Q'*65536 ^ i)):=by
  have hz:A*65536 ^ (i+1) / 65536 ^ i % 65536=0:=by
   rw [Nat.pow_succ,Nat.mul_comm (65536 ^ i),<-Nat.mul_assoc,Nat.mul_div_cancel _ (Nat.pow_pos q_e)];exact Nat.mul_mod_left _ _
  have h:=zeQ 65536 k (A*65536 ^ (i+1)) i (r' / y);rw [hz,Nat.zero_add] at h;have h:=h hqK;rw [e1,show (A*65536+r' / y)*65536 ^ i=A*65536 ^ (i+1)+r' / y*65536 ^ i by rw [Nat.add_mul,Nat.pow_succ,Nat.mul_comm (65536 ^ i),<-Nat.mul_assoc],<-h];unfold iC;rw [List.map_set]
 have hml:(iC (dg 65536 k (A*65536 ^ (i+1)))).length=k:=by rw [zex,zbo]
 clear hof hmul hd1 hd2 hd3 hd4 m1 m2 m3 m4 m5 m6 m7 m8 m9 hcx hcy hra;repeat' (first|refine zcv ?_|fail)
 refine zy (γ:=Nat×Option Addr×Nat) (λg=>[(0,.slice (some ⟨ba,oa,none⟩) k ca),(1,.slice (some ⟨bb,ob,none⟩) n cb),(6,.slice aN (nd 65536 r') cN),(7,.slice (some ⟨b7,0,none⟩) k k),(8,.int .i64 n),(9,.int .i64 i),(12,.int .i64 g.1),(13,.slice g.2.1 (nd 65536 (y*g.1)) g.2.2)])
  (λg=>[.row (.slice aN (nd 65536 r') cN) 3 1 (nd 65536 r') (refC r'),.row (.slice g.2.1 (nd 65536 (y*g.1)) g.2.2) 3 1 (nd 65536 (y*g.1)) (refC (y*g.1)),.blk b7 3 (iC (dg 65536 k (A*65536 ^ (i+1))))])
  (λg=>r' / y<=g.1/\g.1<=65535) (λg=>g.1) (g0,a3,c3) hg0q ?_ ?_ ?_
 ·exact q_h
 ·exact q_h
 rintro ⟨g,a4,c4⟩ ⟨hg1,hg2⟩;dsimp only at hg1 hg2 ⊢;have hq0:0<=r' / y:=Nat.zero_le _;have hnp:=zjl (y:=y) (g:=g) q_o;rw [hny] at hnp;have hcmp:=λw' (h1:SlA w' a4 (refC (y*g))) (h2:SlA w' aN (refC r'))=>zce a4 aN c4 cN (y*g) r' w' h1 h2 q_o q_o;by_cases hgo:r' / y < g
 ·have hlt:r' < y*g:=by rw [Nat.mul_comm];exact (Nat.div_lt_iff_lt_mul hy0).1 hgo
  rw [zfV hlt] at hcmp;obtain ⟨h,rfl⟩: ∃h,g=h+1:=⟨g - 1,by omega⟩;have hsub:=λw' (h1:SlA w' a4 (refC (y*(h+1)))) (h2:SlA w' (some ⟨bb,ob,none⟩) (refC y))=>zf8 a4 (some ⟨bb,ob,none⟩) c4 cb (y*(h+1)) y w' h1 h2 q_o (by rw [Nat.mul_succ];omega);rw [hny,show y*(h+1) - y=y*h by rw [Nat.mul_succ,Nat.add_sub_cancel]] at hsub;have hd:IntKind.i64.wrap (((h+1:Nat):Int) - 1)=((h:Nat):Int):=q_w;repeat' (first|refine s_t ?_|(refine zb 12 (za ?_);refine yv (zd (f:=162) (hc:=λw' _ _ hh=>hcmp w' (zJ hh q_h) (zJ hh q_h))) (k:=?_);refine zak ?_)|(refine zb 13 (za ?_);refine yv (zD (hr:=hd)) (k:=za ?_))|(refine zb 14 (za ?_);(refine ys (zh (f:=157) (hc:=λw' X hk hh=>hsub w' (zJ hh q_h) (hb.to hk (λ_ h=> .inr h)).sla)) (k:=?_);rintro _ _ ⟨R,rfl,a5,c5,rfl,rfl⟩);refine za ?_))
  refine zq (h,a5,c5) ⟨by show r' / y<=h;omega,by show h<=65535;omega⟩ ?_ ?_ ?_
  ·show h < h+1;omega
  ·exact q_h
  ·exact q_h
 ·obtain rfl:g=r' / y:=q_o;have hle:y*(r' / y)<=r':=Nat.mul_div_le r' y;have hng:decide ((0:Int) < cmpI (y*(r' / y)) r')=false:=decide_eq_false (by unfold cmpI;split <;> (try split) <;> omega);generalize cmpI (y*(r' / y)) r'=cq at *;have hsub:=λw' (h1:SlA w' aN (refC r')) (h2:SlA w' a4 (refC (y*(r' / y))))=>zf8 aN a4 cN c4 r' (y*(r' / y)) w' h1 h2 q_o hle;rw [show r' - y*(r' / y)=R' by rw [e2,Nat.mod_def]] at hsub;generalize r' / y=q at *;repeat' (first|refine s_0 ?_|(refine zb 12 (za ?_);refine yv (zd (f:=162) (hc:=λw' _ _ hh=>hcmp w' (zJ hh q_h) (zJ hh q_h))) (k:=?_);refine yv (zU (hr:=hng)) (k:=?_))|(refine zb 15 (za ?_);refine zw ?_;refine zI ?_)|(refine zb 16 (za ?_);(refine ys (zh (f:=157) (hc:=λw' X hk hh=>hsub w' (zJ hh q_h) (zJ hh q_h))) (k:=?_);rintro _ _ ⟨R,rfl,a5,c5,rfl,rfl⟩);refine za ?_)|(refine zb 6 (za ?_);refine yv (zD (hr:=hs2)) (k:=za ?_)))
  refine zq (i,a5,c5) ?_ ?_ ?_ ?_
  ·show i<=k;omega
  ·show i < i+1;omega
  ·dsimp only;rw [hR'];exact q_h
  ·dsimp only;rw [hR',hQ',<-hset];exact q_h
end Go.Proofs.YtdnlngbjpdbffaaGreatDoor
end
section
namespace Go.Nt
theorem zmX (b x y n:Nat) (hb:2<=b) (hx:nd b x<=n) (hy:nd b y<=n):nd b (x+y)<=n+1:=by
 refine zao b _ _ hb ?_;have h1:=Nat.lt_of_lt_of_le (zai b x hb) (Nat.pow_le_pow_right q_o hx);have h2:=Nat.lt_of_lt_of_le (zai b y hb) (Nat.pow_le_pow_right q_o hy);rw [Nat.pow_succ];have:=Nat.mul_le_mul_left (b ^ n) hb;omega
theorem zms (b x y:Nat) (hb:2<=b):nd b (x*y)<=nd b x+nd b y:=by
 refine zao b _ _ hb ?_;rw [Nat.pow_add];exact Nat.mul_lt_mul'' (zai b x hb) (zai b y hb)
theorem zlb (b x y:Nat) (hb:2<=b) (h:x<=y):nd b x<=nd b y:=zao b _ _ hb (Nat.lt_of_le_of_lt h (zai b y hb))
theorem zmV (b x m:Nat) (hb:2<=b) (h:0 < m):nd b (x % m)<=nd b m:=zlb b _ _ hb (Nat.le_of_lt (Nat.mod_lt _ h))
theorem zoE (e i:Nat):e / 2 ^ i=2*(e / 2 ^ (i+1))+e / 2 ^ i % 2:=by
 have:=Nat.div_add_mod (e / 2 ^ i) 2;rw [Nat.div_div_eq_div_mul,<-Nat.pow_succ] at this;exact this.symm
theorem zqb (a m k:Nat):a ^ k % m*(a ^ k % m) % m=a ^ (2*k) % m:=by rw [<-Nat.mul_mod,<-Nat.pow_add,Nat.two_mul]
theorem zmR (a m k:Nat):a ^ k % m*a % m=a ^ (k+1) % m:=by rw [Nat.mod_mul_mod,Nat.pow_succ]
end Go.Nt
namespace Go.Proofs.YtdnlngbjpdbffaaGreatDoor
open Go Go.Sy Go.Nt Go.RowKit
theorem nd1:nd 65536 1=1:=zbh 65536 1 1 q_e q_e (λ_=>by decide)
theorem refC1: [Value.int IntKind.i64 1]=refC 1:=by
 rw [zc7];unfold cd;rw [nd1];rfl
attribute [local irreducible] Sy SyL SyX Sy.Fn callFunc natC refC iC
theorem zdB (a b:Option Addr) (ca cb x m:Nat) (w:World) (ha:SlA w a (refC x)) (hb:SlA w b (refC m)) (hx:nd 65536 x < 90000) (hm:nd 65536 m < 90000) (h0:0 < m):
  Sy.Fn Tryz.prog 222 [.slice a (nd 65536 x) ca,.slice b (nd 65536 m) cb] w No (RefG (x % m)):=by
 refine zg Tryz.func222 rfl Tryz.ntmps222 q_p Holds.nil ?_;have hd:=λw' (hk:Keep No w w')=>zhe a b ca cb x m w' (ha.to hk (λ_ h=> .inr h)).sla (hb.to hk (λ_ h=> .inr h)).sla q_o q_o h0;unfold RefG;generalize x / m=q at *;generalize x % m=r at *;repeat' (first|refine s_0 ?_|(refine zB [0,2] ?_;refine za ?_)|(refine zb 1 (za ?_);(refine ys (zh (f:=232) (hc:=zr hd)) (k:=?_);rintro _ _ ⟨R,rfl,a5,c5,a6,c6,rfl,rfl⟩);refine za ?_))
 exact q_r
theorem zqW (a b d:Option Addr) (ca cb cd x y m:Nat) (w:World) (ha:SlA w a (refC x)) (hb:SlA w b (refC y)) (hd:SlA w d (refC m)) (hx:nd 65536 x < 40000) (hy:nd 65536 y < 40000) (hm:nd 65536 m < 40000) (h0:0 < m):
  Sy.Fn Tryz.prog 225 [.slice a (nd 65536 x) ca,.slice b (nd 65536 y) cb,.slice d (nd 65536 m) cd] w No (RefG ((x+y) % m)):=by
 refine zg Tryz.func225 rfl Tryz.ntmps225 q_p Holds.nil ?_;have hs:=zmX 65536 x y 40000 q_e q_o q_o;have hA:=λw' (hk:Keep No w w')=>zkY a b ca cb x y w' (ha.to hk (λ_ h=> .inr h)).sla (hb.to hk (λ_ h=> .inr h)).sla q_o q_o;have hR:=λw' a1 c1 (hk:Keep No w w') (h:SlA w' a1 (refC (x+y)))=>zdB a1 d c1 cd (x+y) m w' h (hd.to hk (λ_ h=> .inr h)).sla q_o q_o h0;generalize x+y=s at *;unfold RefG at *;generalize s % m=r at *;repeat' (first|refine s_0 ?_|(refine zb 0 (za ?_))|(refine zb 1 (za ?_);(refine ys (zh (f:=277) (hc:=zr hA)) (k:=?_);rintro _ _ ⟨R,rfl,a5,c5,rfl,rfl⟩);refine za ?_;(refine ys (zh (f:=222) (hc:=λw' X hk hh=>hR w' _ _ hk (zJ hh q_h))) (k:=?_);rintro _ _ ⟨R,rfl,a6,c6,rfl,rfl⟩);refine za ?_))
 exact q_r
theorem zlD (a b d:Option Addr) (ca cb cd x y m:Nat) (w:World) (ha:SlA w a (refC x)) (hb:SlA w b (refC y)) (hd:SlA w d (refC m)) (hx:nd 65536 x < 40000) (hy:nd 65536 y < 40000) (hm:nd 65536 m < 40000) (h0:0 < m):
  Sy.Fn Tryz.prog 226 [.slice a (nd 65536 x) ca,.slice b (nd 65536 y) cb,.slice d (nd 65536 m) cd] w No (RefG (x*y % m)):=by
 refine zg Tryz.func226 rfl Tryz.ntmps226 q_p Holds.nil ?_;have hs:=zms 65536 x y q_e;have hA:=λw' (hk:Keep No w w')=>zle a b ca cb x y w' (ha.to hk (λ_ h=> .inr h)).sla (hb.to hk (λ_ h=> .inr h)).sla q_o q_o;have hR:=λw' a1 c1 (hk:Keep No w w') (h:SlA w' a1 (refC (x*y)))=>zdB a1 d c1 cd (x*y) m w' h (hd.to hk (λ_ h=> .inr h)).sla q_o q_o h0;generalize x*y=s at *;unfold RefG at *;generalize s % m=r at *;repeat' (first|refine s_0 ?_|(refine zb 0 (za ?_))|(refine zb 1 (za ?_);(refine ys (zh (f:=278) (hc:=zr hA)) (k:=?_);rintro _ _ ⟨R,rfl,a5,c5,rfl,rfl⟩);refine za ?_;(refine ys (zh (f:=222) (hc:=λw' X hk hh=>hR w' _ _ hk (zJ hh q_h))) (k:=?_);rintro _ _ ⟨R,rfl,a6,c6,rfl,rfl⟩);refine za ?_))
 exact q_r
theorem zkX (a b d:Option Addr) (ca cb cd x e m:Nat) (w:World) (ha:SlA w a (refC x)) (hb:SlA w b (refC e)) (hd:SlA w d (refC m)) (hx:nd 65536 x < 20000) (he:nd 65536 e < 20000) (hm:nd 65536 m < 20000) (h0:0 < m):
  Sy.Fn Tryz.prog 233 [.slice a (nd 65536 x) ca,.slice b (nd 65536 e) cb,.slice d (nd 65536 m) cd] w No (RefG (x ^ e % m)):=by
 refine zg Tryz.func233 rfl Tryz.ntmps233 q_p Holds.nil ?_;have hR:=λw' b1 c1 (hk:Keep No w w') (h:SlA w' b1 (refC 1))=>zdB b1 d c1 cd 1 m w' h (hd.to hk (λ_ h=> .inr h)).sla (by rw [nd1];omega) q_o h0;rw [nd1,<-refC1] at hR;have hbl:=λw' (hk:Keep No w w')=>zhb b cb e w' (hb.to hk (λ_ h=> .inr h)).sla q_o;have he2:=zai 2 e q_e;have hbn:nd 2 e<=16*nd 65536 e:=zao 2 e _ q_e (by rw [<-two16];exact zai 65536 e q_e);have hM: ∀(w':World) a1 c1 a2 c2 u v,Keep No w w'->SlA w' a1 (refC u)->SlA w' a2 (refC v)->nd 65536 u < 20000->nd 65536 v < 20000->Sy.Fn Tryz.prog 226 [.slice a1 (nd 65536 u) c1,.slice a2 (nd 65536 v) c2,.slice d (nd 65536 m) cd] w' No (RefG (u*v % m)):=
  λw' a1 c1 a2 c2 u v hk h1 h2 h3 h4=>zlD a1 a2 d c1 c2 cd u v m w' h1 h2 (hd.to hk (λ_ h=> .inr h)).sla q_o q_o q_o h0
 have hnd: ∀k,nd 65536 (x ^ k % m) < 20000:=λk=>Nat.lt_of_le_of_lt (zmV 65536 _ m q_e h0) hm;have hbit:=λw' i (hk:Keep No w w') (hi:i < 9223372036854775808)=>zk1 b cb e i w' (hb.to hk (λ_ h=> .inr h)).sla hi;generalize hn0:nd 2 e=n0 at *;have hs0:IntKind.i64.wrap ((n0:Int) - 1)=(n0:Int) - 1:=IntWalk.i64_in _ q_o;have hx0:1 % m=x ^ (e / 2 ^ n0) % m:=by rw [Nat.div_eq_of_lt he2,Nat.pow_zero]
 rw [hx0] at hR;unfold RefG at hR;repeat' (first|refine s_t ?_|(refine zb 0 (za ?_))|(refine zb 1 ?_;(refine ys zt (k:=?_);rintro _ _ ⟨_,rfl,rfl⟩);refine za ?_;(refine ys (zh (f:=222) (hc:=λw' X hk hh=>hR w' _ _ hk (.inr ⟨_,0,rfl,zp (hh.has (by exact Has.append Has.here)) Seg.all⟩))) (k:=?_);rintro _ _ ⟨R,rfl,a6,c6,rfl,rfl⟩);refine za ?_)|(refine zb 2 (za ?_);refine yv (zd (f:=221) (hc:=zr hbl)) (k:=?_);refine yv (zD (hr:=hs0)) (k:=za ?_)))
 refine zy (γ:=Nat×Option Addr×Nat) (λg=>[(0,.slice a (nd 65536 x) ca),(1,.slice b (nd 65536 e) cb),(2,.slice d (nd 65536 m) cd),(7,.slice g.2.1 (nd 65536 (x ^ (e / 2 ^ g.1) % m)) g.2.2),(8,.int .i64 ((g.1:Int) - 1))])
  (λg=>[.row (.slice g.2.1 (nd 65536 (x ^ (e / 2 ^ g.1) % m)) g.2.2) 3 1 (nd 65536 (x ^ (e / 2 ^ g.1) % m)) (refC (x ^ (e / 2 ^ g.1) % m))])
  (λg=>g.1<=n0) (λg=>g.1) (n0,a6,c6) (Nat.le_refl _) ?_ ?_ ?_
 ·exact q_h
 ·exact q_h
 rintro ⟨i,ao,co⟩ hi;dsimp only at hi ⊢;rcases Nat.eq_zero_or_pos i with h|h
 ·subst h;rw [Nat.pow_zero,Nat.div_one];have hge:decide (((0:Nat):Int) - 1>=0)=false:=q_f;repeat' (first|refine s_0 ?_|(refine zb 3 (za ?_);refine yv (zab (hr:=hge)) (k:=?_))|(refine zb 8 (za ?_)))
  exact q_r
 ·obtain ⟨i,rfl⟩: ∃j,i=j+1:=⟨i - 1,by omega⟩;have hij:(((i+1:Nat):Int) - 1)=((i:Nat):Int):=q_o;have hs1:IntKind.i64.wrap ((i:Int) - 1)=(i:Int) - 1:=IntWalk.i64_in _ q_o;rw [hij];have hge:decide (((i:Nat):Int)>=0)=true:=q_d;have hsq:=zqb x m (e / 2 ^ (i+1));have hbs:=zoE e i;have hM1:=λw' (hk:Keep No w w') (h1:SlA w' ao (refC (x ^ (e / 2 ^ (i+1)) % m)))=>hM w' ao co ao co _ _ hk h1 h1 (hnd _) (hnd _);rw [hsq] at hM1;have hbit1:=λw' (hk:Keep No w w')=>hbit w' i hk q_o;rcases (show e / 2 ^ i % 2=0\/e / 2 ^ i % 2=1 by omega) with hb0|hb0
  ·rw [hb0] at hbit1;rw [hb0,Nat.add_zero] at hbs;rw [<-hbs] at hM1;have heq:decide (((0:Nat):Int)=1)=false:=q_f;unfold RefG at hM1;repeat' (first|refine s_t ?_|(refine zb 3 (za ?_);refine yv (zab (hr:=hge)) (k:=?_))|(refine zb 5 (za ?_);(refine ys (zh (f:=226) (hc:=λw' X hk hh=>hM1 w' hk (zJ hh q_h))) (k:=?_);rintro _ _ ⟨R,rfl,a7,c7,rfl,rfl⟩);refine za ?_)|(refine zb 6 (za ?_);refine yv (zd (f:=274) (hc:=zr hbit1)) (k:=?_);refine yv (zX (hr:=heq)) (k:=?_))|(refine zb 4 (za ?_);refine yv (zD (hr:=hs1)) (k:=za ?_)))
   refine zq (i,a7,c7) (by show i<=n0;omega) ?_ ?_ ?_
   ·show i < i+1;omega
   ·exact q_h
   ·exact q_h
  ·rw [hb0] at hbit1;rw [hb0] at hbs;have hM2:=λw' a1 c1 (hk:Keep No w w') (h1:SlA w' a1 (refC (x ^ (2*(e / 2 ^ (i+1))) % m)))=>hM w' a1 c1 a ca _ x hk h1 (ha.to hk (λ_ h=> .inr h)).sla (hnd _) hx;rw [zmR,<-hbs] at hM2;have heq:decide (((1:Nat):Int)=1)=true:=rfl;unfold RefG at hM1 hM2;repeat' (first|refine s_t ?_|(refine zb 3 (za ?_);refine yv (zab (hr:=hge)) (k:=?_))|(refine zb 5 (za ?_);(refine ys (zh (f:=226) (hc:=λw' X hk hh=>hM1 w' hk (zJ hh q_h))) (k:=?_);rintro _ _ ⟨R,rfl,a7,c7,rfl,rfl⟩);refine za ?_)|(refine zb 6 (za ?_);refine yv (zd (f:=274) (hc:=zr hbit1)) (k:=?_);refine yv (zX (hr:=heq)) (k:=?_))|(refine zb 7 (za ?_);(refine ys (zh (f:=226) (hc:=λw' X hk hh=>hM2 w' _ _ hk (zJ hh q_h))) (k:=?_);rintro _ _ ⟨R,rfl,a8,c8,rfl,rfl⟩);refine za ?_)|(refine zb 4 (za ?_);refine yv (zD (hr:=hs1)) (k:=za ?_)))
   refine zq (i,a8,c8) (by show i<=n0;omega) ?_ ?_ ?_
   ·show i < i+1;omega
   ·exact q_h
   ·exact q_h
theorem znI {x y:Nat}(h:cmpI x y=0):x=y:=by
 unfold cmpI at h;split at h
 ·omega
 ·split at h <;> omega
end Go.Proofs.YtdnlngbjpdbffaaGreatDoor
end
