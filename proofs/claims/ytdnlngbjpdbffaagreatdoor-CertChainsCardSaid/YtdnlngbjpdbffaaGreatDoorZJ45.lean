/- Lemmas. -/
import Derived.Test.YtdnlngbjpdbffaaGreatDoorZJ44
set_option maxHeartbeats 2000000
set_option maxRecDepth 10000
set_option linter.all false
namespace Go.Proofs.YtdnlngbjpdbffaaGreatDoor
open Sy Ct RowKit
attribute [local irreducible] Sy SyL SyX SyC SyF SyG SyH Sy.Fn Sy.FnP callFunc
def ziE(e:Int):Value:=.iface 26 (.int .i64 e)
theorem zeK:∃d,Tryz.prog.underlying 26=some d/\∀j,d≠ .interface j:=zmF (by kernel_rfl)
def ER{α:Type}(s:Bs)(i:Nat)(rd:List UInt8->Option (α×List UInt8))(v:Value)(R:List Res):Prop:=rd (s.l.drop i)=none/\(∃e:Int,e≠0/\v=ziE e)/\R= []
theorem zlY(v:Value)(w:World):q_G 261 [v,.int .i64 0] w v:=by
 refine zt Tryz.func261 Tryz.ntmps261 ?_;repeat' first|refine s_0 ?_|refine zA [0,3] ?_;refine zb ?_|refine q_k 1 ?_;refine q_v (zad (hr:=rfl)) ?_
 exact q_r
theorem zqV(v:Value)(e:Int)(he:e≠0)(w:World):FnP Tryz.prog 261 [v,.int .i64 e] w No (λ_ _=>False) (λu R=>u=ziE e/\R= []):=by
 refine zaI Tryz.func261 rfl Tryz.ntmps261 q_p FU ?_;obtain⟨d,j,m⟩:=zeK;have g:decide (e≠0)=true:=decide_eq_true he;repeat' first|refine s_0 ?_|refine zA [0,2] ?_;refine zb ?_|refine q_k 1 ?_;refine q_v (zad (hr:=g)) ?_|refine q_v (zbr j m) ?_|refine zb5 ?_|refine zJ ?_|fail
 exact zau Ev ⟨rfl,rfl⟩
theorem zl4(v:Value)(w:World):q_G 259 [v,.int .i64 0] w v:=by
 refine zt Tryz.func259 Tryz.ntmps259 ?_;repeat' first|refine s_0 ?_|refine zA [0,3] ?_;refine zb ?_|refine q_k 1 ?_;refine q_v (zad (hr:=rfl)) ?_
 exact q_r
theorem zp8(v:Value)(e:Int)(he:e≠0)(w:World):FnP Tryz.prog 259 [v,.int .i64 e] w No (λ_ _=>False) (λu R=>u=ziE e/\R= []):=by
 refine zaI Tryz.func259 rfl Tryz.ntmps259 q_p FU ?_;obtain⟨d,j,m⟩:=zeK;have g:decide (e≠0)=true:=decide_eq_true he;repeat' first|refine s_0 ?_|refine zA [0,2] ?_;refine zb ?_|refine q_k 1 ?_;refine q_v (zad (hr:=g)) ?_|refine q_v (zbr j m) ?_|refine zb5 ?_|refine zJ ?_|fail
 exact zau Ev ⟨rfl,rfl⟩
theorem zsn(r:Nat)(s:Bs)(i n t:Nat)(w:World)(ht:t=160+n)(hn:n<=30)(hL:Holds w.heap.size (OwnOf [zj r s i]) [zj r s i] w)(V:BsF w (OwnOf [zj r s i]) s)(hi:i<=s.n)(hb:s.n<1000000000):
  FnP Tryz.prog 263 [.pointer (some ⟨r,0,none⟩),.int .i64 (n:Int),.func (.func 262) #[] #[]] w (OwnOf [zj r s i]) (RP r s i (rdW t (zaZ 27)) (λx v R=>v=zT x/\R= [])) (ER s i (rdW t (zaZ 27))):=by
 subst ht;refine zaI Tryz.func263 rfl Tryz.ntmps263 q_p hL ?_;obtain⟨d,S,F⟩:=zeK;have O:=λj (B:Keep (OwnOf [zj r s i]) w j) (I:∀b,OwnOf [zj r s i] b->w.heap.size<=b\/OwnOf [zj r s i] b) (q:Holds j.heap.size (OwnOf [zj r s i]) [zj r s i] j)=>zjr r s i n j q (V.to B I) hi hb hn;unfold zpx at O;repeat' first|refine s_t ?_|refine q_k 0 ?_|refine q_k 1 ?_;(refine q_s (za2 (f:=254) (C:=[zj r s i]) (F0 (by exact Eu) rfl F2) (hc:=λj B U q=>O j B U q)) ?_;rintro _ _ ⟨R,rfl,(⟨cc,W,k,E,A,H,h2,h3,N,T,h6,rfl,rfl⟩|⟨H,rfl,rfl⟩|⟨H,e,u,L,rfl,rfl⟩)⟩);refine zb ?_|(refine zx ?_;first|refine zw ?_|refine zZ ?_|refine zaU ?_|fail)|fail
 ·have G:=N _ _ V;have M:=G.len;have J:=λj (B:Keep (OwnOf [zj r s i]) w j) (I:∀b,OwnOf [zj E A 0] b->w.heap.size<=b\/OwnOf [zj r s i] b) (q:Holds j.heap.size (OwnOf [zj E A 0]) [zj E A 0] j)=>zqn E A 0 j q (G.to B I) (AA _) q_o;unfold zbC at J;rw[zfK,BL,T] at J;repeat' first|refine s_0 ?_|refine q_k 2 ?_;refine q_x (zad (hr:=rfl)) ?_|refine q_k 4 ?_;refine zI ?_;refine zb ?_|refine q_k 6 ?_;refine zI ?_;refine zb ?_
  repeat' first|refine q_k 8 ?_;(refine q_s (za2 (f:=262) (C:=[zj E A 0]) (F0 (r':=zj E A 0) (by repeat (first|exact Eu|apply Ew)) rfl F2) (hc:=λj B U q=>J j B U q)) ?_;rintro _ _ ⟨R,rfl,(⟨x,a6,K,u,R',Q,Y,Z,⟨rfl,rfl⟩,rfl,rfl⟩|⟨Q,e,u,L,rfl,rfl⟩)⟩);refine zb ?_|(refine zx ?_;first|refine zZ ?_|fail)|fail
  ·by_cases hd0:A.n-K=0
   ·have m:=λj hr=>zdZ E A K j hr Y G.cap;rw[hd0] at m;have g:decide (((0:Nat):Int)>0)=false:=rfl;repeat' first|refine s_0 ?_|refine q_k 9 ?_;refine q_v (za (hc:=λj X B q=>m j (zp (q.has (r:=zj E A K) q_h) Ex))) ?_;refine q_v (zH (hr:=g)) ?_|refine q_k 11 ?_|(refine zx ?_;first|refine q_v (za (hc:=λ_ _ _ _=>(zlY _ _))) ?_|refine zw ?_|fail)|fail
    exact zd8 rfl (zh rfl) q_h ⟨x,W,k,_,zib H Q (by rw[<-Z,<-T];exact(za4 M).2 hd0),h2,h3,⟨rfl,rfl⟩,rfl⟩
   ·have m:=λj hr=>zdZ E A K j hr Y G.cap;have g:decide (((A.n-K:Nat):Int)>0)=true:=q_d;repeat' first|refine s_0 ?_|refine q_k 9 ?_;refine q_v (za (hc:=λj X B q=>m j (zp (q.has (r:=zj E A K) q_h) Ex))) ?_;refine q_v (zH (hr:=g)) ?_|refine zf 10 ?_|refine q_v (zbr S F) ?_|refine zb5 ?_|refine zJ ?_|(refine zx ?_;first|refine q_v (za (hc:=λ_ _ _ _=>(zlY _ _))) ?_|refine zw ?_|fail)|fail
    exact zau Ev ⟨zg9 H Q (by rw[<-Z,<-T];exact λh=>hd0 ((za4 M).1 h)),⟨6,by decide,rfl⟩,rfl⟩
  ·repeat' first|refine zJ ?_|(refine zx ?_;first|refine zbi (hc:=λj _ _ _=>zqV u e L j) ?_|fail)|fail
   exact zau Ev ⟨zhe H Q,⟨e,L,rfl⟩,rfl⟩
 ·have m:=λj hr=>zdZ r s i j hr hi V.cap;have P:=zec (rd:=zaZ 27) H;by_cases hd0:s.n-i=0
  ·rw[hd0] at m;have g:decide (((0:Nat):Int)=0)=true:=rfl;repeat' first|refine s_0 ?_|refine q_k 2 ?_;refine q_x (zad (hr:=rfl)) ?_|refine q_k 4 ?_;refine zI ?_;refine zb ?_;refine q_v (za (hc:=λj X B q=>m j (zp (q.has (r:=zj r s i) q_h) Ex))) ?_;refine q_x (zS (hr:=g)) ?_|refine zf 5 ?_|refine q_v (zbr S F) ?_|refine zb5 ?_|refine zJ ?_|refine zb8 ?_|fail
   exact zau Ev ⟨P,⟨4,by decide,rfl⟩,rfl⟩
  ·have g:decide (((s.n-i:Nat):Int)=0)=false:=q_f;repeat' first|refine s_0 ?_|refine q_k 2 ?_;refine q_x (zad (hr:=rfl)) ?_|refine q_k 4 ?_;refine zI ?_;refine zb ?_;refine q_v (za (hc:=λj X B q=>m j (zp (q.has (r:=zj r s i) q_h) Ex))) ?_;refine q_x (zS (hr:=g)) ?_|refine q_k 6 ?_;refine zI ?_;refine zb ?_|refine zf 7 ?_|refine q_v (zbr S F) ?_|refine zb5 ?_|refine zJ ?_|refine zb8 ?_|fail
   exact zau Ev ⟨P,⟨6,by decide,rfl⟩,rfl⟩
 ·have g:decide (e≠0)=true:=decide_eq_true L;repeat' first|refine s_0 ?_|refine q_k 2 ?_;refine q_x (zad (hr:=g)) ?_|refine q_k 3 ?_|refine q_v (zbr S F) ?_|refine zb5 ?_|refine zJ ?_|refine zb8 ?_|fail
  exact zau Ev ⟨zec H,⟨e,L,rfl⟩,rfl⟩
theorem zts(r:Nat)(s:Bs)(i n t:Nat)(w:World)(ht:t=160+n)(hn:n<=30)(hL:Holds w.heap.size (OwnOf [zj r s i]) [zj r s i] w)(V:BsF w (OwnOf [zj r s i]) s)(hi:i<=s.n)(hb:s.n<1000000000):
  FnP Tryz.prog 260 [.pointer (some ⟨r,0,none⟩),.int .i64 (n:Int),.func (.func 177) #[] #[]] w (OwnOf [zj r s i]) (RP r s i (rdW t (zaZ 48)) (λx v R=>zgd s x v R)) (ER s i (rdW t (zaZ 48))):=by
 subst ht;refine zaI Tryz.func260 rfl Tryz.ntmps260 q_p hL ?_;obtain⟨d,S,F⟩:=zeK;have O:=λj (B:Keep (OwnOf [zj r s i]) w j) (J:∀b,OwnOf [zj r s i] b->w.heap.size<=b\/OwnOf [zj r s i] b) (q:Holds j.heap.size (OwnOf [zj r s i]) [zj r s i] j)=>zjr r s i n j q (V.to B J) hi hb hn;unfold zpx at O;repeat' first|refine s_t ?_|refine q_k 0 ?_|refine q_k 1 ?_;(refine q_s (za2 (f:=254) (C:=[zj r s i]) (F0 (by exact Eu) rfl F2) (hc:=λj B U q=>O j B U q)) ?_;rintro _ _ ⟨R,rfl,(⟨cc,W,k,E,A,I,h2,h3,H,T,h6,rfl,rfl⟩|⟨I,rfl,rfl⟩|⟨I,e,u,M,rfl,rfl⟩)⟩);refine zb ?_|(refine zx ?_;first|refine zw ?_|refine zZ ?_|refine zaU ?_|fail)|fail
 ·have G:=H _ _ V;have N:=G.len;have K:=λj (B:Keep (OwnOf [zj r s i]) w j) (J:∀b,OwnOf [zj E A 0] b->w.heap.size<=b\/OwnOf [zj r s i] b) (q:Holds j.heap.size (OwnOf [zj E A 0]) [zj E A 0] j)=>zl0 E A 0 j q (G.to B J) (AA _) q_o;unfold zbC zgd at K;rw[zfK,BL,T] at K;repeat' first|refine s_0 ?_|refine q_k 2 ?_;refine q_x (zad (hr:=rfl)) ?_|refine q_k 4 ?_;refine zI ?_;refine zb ?_|refine q_k 6 ?_;refine zI ?_;refine zb ?_
  repeat' first|refine q_k 8 ?_;(refine q_s (za2 (f:=177) (C:=[zj E A 0]) (F0 (r':=zj E A 0) (by repeat (first|exact Eu|apply Ew)) rfl F2) (hc:=λj B U q=>K j B U q)) ?_;rintro _ _ ⟨R,rfl,(⟨x,a6,L,u,R',Q,Y,Z,⟨b2,s2,rfl,rfl,q1,q2,q3⟩,rfl,rfl⟩|⟨Q,e,u,M,rfl,rfl⟩)⟩);refine zb ?_|(refine zx ?_;first|refine zZ ?_|fail)|fail
  ·by_cases hd0:A.n-L=0
   ·have m:=λj hr=>zdZ E A L j hr Y G.cap;rw[hd0] at m;have g:decide (((0:Nat):Int)>0)=false:=rfl;repeat' first|refine s_0 ?_|refine q_k 9 ?_;refine q_v (za (hc:=λj X B q=>m j (zp (q.has (r:=zj E A L) q_h) Ex))) ?_;refine q_v (zH (hr:=g)) ?_|refine q_k 11 ?_|(refine zx ?_;first|refine q_v (za (hc:=λ_ _ _ _=>(zl4 _ _))) ?_|refine zw ?_|fail)|fail
    exact zd8 rfl (zh rfl) q_h ⟨x,W,k,_,zib I Q (by rw[<-Z,<-T];exact(za4 N).2 hd0),h2,h3,⟨b2,s2,rfl,rfl,H.trans q1,q2,by omega⟩,rfl⟩
   ·have m:=λj hr=>zdZ E A L j hr Y G.cap;have g:decide (((A.n-L:Nat):Int)>0)=true:=q_d;repeat' first|refine s_0 ?_|refine q_k 9 ?_;refine q_v (za (hc:=λj X B q=>m j (zp (q.has (r:=zj E A L) q_h) Ex))) ?_;refine q_v (zH (hr:=g)) ?_|refine zf 10 ?_|refine q_v (zbr S F) ?_|refine zb5 ?_|refine zJ ?_|(refine zx ?_;first|refine q_v (za (hc:=λ_ _ _ _=>(zl4 _ _))) ?_|refine zw ?_|fail)|fail
    exact zau Ev ⟨zg9 I Q (by rw[<-Z,<-T];exact λh=>hd0 ((za4 N).1 h)),⟨6,by decide,rfl⟩,rfl⟩
  ·repeat' first|refine zJ ?_|(refine zx ?_;first|refine zbi (hc:=λj _ _ _=>zp8 u e M j) ?_|fail)|fail
   exact zau Ev ⟨zhe I Q,⟨e,M,rfl⟩,rfl⟩
 ·have m:=λj hr=>zdZ r s i j hr hi V.cap;have P:=zec (rd:=zaZ 48) I;by_cases hd0:s.n-i=0
  ·rw[hd0] at m;have g:decide (((0:Nat):Int)=0)=true:=rfl;repeat' first|refine s_0 ?_|refine q_k 2 ?_;refine q_x (zad (hr:=rfl)) ?_|refine q_k 4 ?_;refine zI ?_;refine zb ?_;refine q_v (za (hc:=λj X B q=>m j (zp (q.has (r:=zj r s i) q_h) Ex))) ?_;refine q_x (zS (hr:=g)) ?_|refine zf 5 ?_|refine q_v (zbr S F) ?_|refine zb5 ?_|refine zJ ?_|refine zb8 ?_|fail
   exact zau Ev ⟨P,⟨4,by decide,rfl⟩,rfl⟩
  ·have g:decide (((s.n-i:Nat):Int)=0)=false:=q_f;repeat' first|refine s_0 ?_|refine q_k 2 ?_;refine q_x (zad (hr:=rfl)) ?_|refine q_k 4 ?_;refine zI ?_;refine zb ?_;refine q_v (za (hc:=λj X B q=>m j (zp (q.has (r:=zj r s i) q_h) Ex))) ?_;refine q_x (zS (hr:=g)) ?_|refine q_k 6 ?_;refine zI ?_;refine zb ?_|refine zf 7 ?_|refine q_v (zbr S F) ?_|refine zb5 ?_|refine zJ ?_|refine zb8 ?_|fail
   exact zau Ev ⟨P,⟨6,by decide,rfl⟩,rfl⟩
 ·have g:decide (e≠0)=true:=decide_eq_true M;repeat' first|refine s_0 ?_|refine q_k 2 ?_;refine q_x (zad (hr:=g)) ?_|refine q_k 3 ?_|refine q_v (zbr S F) ?_|refine zb5 ?_|refine zJ ?_|refine zb8 ?_|fail
  exact zau Ev ⟨zec I,⟨e,M,rfl⟩,rfl⟩
theorem zuj(r:Nat)(s:Bs)(i:Nat)(w:World)(hr:w.rangeAt r 0 (rdC s i)):Sy.Fn Tryz.prog 257 [.pointer (some ⟨r,0,none⟩)] w No (λv R=>∃b,v= .pointer (some ⟨b,0,none⟩)/\R= [zj b s i]):=by
 refine zt Tryz.func257 Tryz.ntmps257 ?_;have j:w.cell? ⟨r,0+2,none⟩=some (.bool true):=hr 2 _ rfl;repeat' first|refine s_0 ?_|refine zA [0,4] ?_;refine zb ?_|refine q_k 1 ?_;refine zaH ?_;refine zb ?_;refine q_v (zo (hv:=j)) ?_;refine zI ?_;refine zb ?_|refine q_k 3 ?_;refine q_v (zW (hv:=hr)) ?_;refine zk λ_=>?_;refine zP ?_
 exact zar rfl (zh rfl) Ez ⟨_,rfl,rfl⟩
abbrev zwv:List Value:=[.slice none 0 0,zT []]
abbrev nrC(b1 b2 b3 b4 r bc:Nat)(s:Bs)(i k:Nat)(x y:Value)(e0:Int):List Res:=[.blk b4 80 [.pointer (some ⟨bc,0,none⟩)],.blk b1 80 [.pointer (some ⟨r,0,none⟩)],.blk b2 43 [x,y],.blk b3 26 [.int .i64 e0],zj r s k,zj bc s i]
abbrev nrA(b1 b2 b3 b4:Nat):List Value:=[.pointer (some ⟨b4,0,none⟩),.pointer (some ⟨b1,0,none⟩),.pointer (some ⟨b2,0,none⟩),.pointer (some ⟨b3,0,none⟩)]
theorem zvy(q j m A r bc:Nat)(s:Bs)(i k:Nat)(x y:Value)(B e:Int)(w:World)(hL:Holds w.heap.size (OwnOf (nrC q j m A r bc s i k x y B)) (nrC q j m A r bc s i k x y B) w):
  FnD Tryz.prog 258 (nrA q j m A) (.panicking (pch (ziE e))) w (OwnOf (nrC q j m A r bc s i k x y B)) (λH R=>H= .panicking [{ v:=ziE e,recovered:=true }]/\R= [.blk j 43 zwv,.blk m 26 [.int .i64 e],zj r s i]):=by
 obtain⟨d,F,G⟩:=zeK;refine zhk (d:=7) (v0:=ziE e) (u1:=.panicking [{ v:=ziE e,recovered:=true }]) Tryz.func258 rfl rfl Tryz.ntmps258 q_p (λ_ _=>rfl) rfl rfl rfl (.inl ⟨rfl,rfl⟩) hL ?_;intro Q E;unfold ziE;repeat' first|refine s_0 ?_|refine q_k 1 ?_|refine q_v (ziW F G) ?_|refine E _ _ ?_|(refine zx ?_;first|refine zw ?_|refine zZ ?_|refine zaU ?_|fail)|fail
 repeat' first|fail
 (refine zdm (id:=2) [4] true [] [0,1,2,3,4] [(5,[])] mixed q_h ?_ ?_;kernel_rfl;refine ygv zM (k:=?_);refine ygv zM (k:=?_);refine ygv zdq (k:=?_);refine ygv ze (k:=?_);refine ygv zdq (k:=?_);refine yg0 ?_;refine yhn zG (k:=?_);try refine zg5 ?_)
 repeat' first|refine s_0 ?_|refine zf 3 ?_;refine zbt ?_;refine zb ?_;refine zP ?_;refine zP ?_
 exact zlv q_h ⟨rfl,rfl⟩
theorem zvN(j m q A r bc:Nat)(s:Bs)(i k:Nat)(x y:Value)(B:Int)(w:World)(hL:Holds w.heap.size (OwnOf (nrC j m q A r bc s i k x y B)) (nrC j m q A r bc s i k x y B) w):
  FnD Tryz.prog 258 (nrA j m q A) .returning w (OwnOf (nrC j m q A r bc s i k x y B)) (λH R=>H= .returning/\R=nrC j m q A r bc s i k x y B):=by
 obtain⟨d,F,G⟩:=zeK;refine zhk (d:=7) (v0:=.nilIface) (u1:=.returning) Tryz.func258 rfl rfl Tryz.ntmps258 q_p (λ_ _=>rfl) rfl rfl rfl (.inr ⟨rfl,rfl,rfl⟩) hL ?_;intro Q E;repeat' first|refine s_0 ?_|refine q_k 1 ?_|refine q_v (zjd (zv:=.int .i64 0) F G (λ_=>rfl)) ?_|refine E _ _ ?_|(refine zx ?_;first|refine zw ?_|refine zZ ?_|refine zaU ?_|fail)|fail
 exact zlv Ez ⟨rfl,rfl⟩
theorem zyW{b:List UInt8}{s:List UInt8×List UInt8}(h:zaZ 48 b=some s):rdP b=((rdW 160 (zaZ 48) s.1).bind λm=>(zcd m.1).bind λparts=>(rdW 161 (zaZ 27) m.2).bind λj=>if j.2= []/\(Prin.mk parts j.1).ok=true then some (⟨parts,j.1⟩,s.2) else none):=by
 unfold rdP;rw[h];rfl
theorem zux{t u:Nat}{b:List UInt8}{p q:List UInt8}(h:rdW t (zaZ u) b=some (p,q)):p.length<=b.length:=by
 unfold rdW at h;cases h1:zaZ t b with
 |none=>rw[h1] at h;cases h
 |some x=>
  rw[h1] at h;dsimp only[Option.bind_some] at h;cases h2:zaZ u x.1 with
  |none=>rw[h2] at h;cases h
  |some y=>
   rw[h2] at h;dsimp only[Option.bind_some] at h;split at h
   ·cases h;have:=zfO h1;have:=zfO h2;omega
   ·cases h
theorem zvu{j E:Nat}{w:World}{M:Nat->Prop}{L X:List Res}{a:Option Addr}{c:Nat}{p:Prin}(hh:Holds j M (L++X) w)(hL:Has L (.row (.slice a p.parts.length c) E 1 p.parts.length (p.parts.map zT)))(hn:p.parts.length<=maxLen)(hx:p.realm.length<=maxLen/\∀x∈p.parts,x.length<=maxLen):PrinIn w (zbe a c p) p:=
 ⟨⟨a,c,rfl,FF hh (F1 hL),G8 hh (F1 hL),(Fc (Mi:=No) hh (F1 hL) (λ_ h=>h.elim)).sla,λh=>(Fj hh (F1 hL) h).1⟩,hx⟩
theorem zyY{b:List UInt8}(h:zaZ 48 b=none):rdP b=none:=by
 unfold rdP;rw[h];rfl
def zlO(r:Nat)(s:Bs)(i:Nat)(v:Value)(R:List Res):Prop:=
 (∃p rst k a c,rdP (s.l.drop i)=some (p,rst)/\k<=s.n/\s.l.drop k=rst/\v= .tuple #[.agg #[.slice a p.parts.length c,zT p.realm],.int .i64 0]/\R= [zj r s k,.row (.slice a p.parts.length c) 9 1 p.parts.length (p.parts.map zT)])\/
 (rdP (s.l.drop i)=none/\∃e:Int,e≠0/\v= .tuple #[.agg #[.slice none 0 0,zT []],.int .i64 e]/\R= [zj r s i])
theorem zdY{N:Nat}(r:Nat)(s:Bs)(i k:Nat)(w:World)(A m q E bc:Nat)(j:List Nat)(x y:Value)(e:Int)(he:e≠0)(F:rdP (s.l.drop i)=none):
  SyX N w (OwnOf [zj r s i]) (dfn 258 (nrA A m q E)::(j.map col++[])) (bodyPostM Fence.wide 0 Tryz.prog Tryz.f202 (FnR w (OwnOf [zj r s i]) (zlO r s i)) (.panic (pch (ziE e)))) [(2,.pointer (some ⟨m,0,none⟩)),(3,.pointer (some ⟨q,0,none⟩))] (nrC A m q E r bc s i k x y 0++j.map dob):=by
 refine zhb (.inr ⟨_,rfl,rfl⟩) (C:=nrC A m q E r bc s i k x y 0) (L1:=[]) (by unfold RemL;rw[AJ]) (λH _ _ G=>zvy A m q E r bc s i k x y 0 e H G) ?_;rintro _ _ ⟨rfl,rfl⟩;exact⟨rfl,_,_,results2 rfl (zE (B:=zwv) rfl (ty rfl) rfl Ey Ex rfl) (zdD rfl (ty rfl) rfl Ey rfl),q_h,.inr ⟨F,e,he,rfl,rfl⟩⟩
theorem zrn{N:Nat}(r:Nat)(s:Bs)(i k:Nat)(w:World)(E q A F bc:Nat)(m:List Nat)(a:Option Addr)(c:Nat)(p:Prin)(j:List UInt8)(G:rdP (s.l.drop i)=some (p,j))(hk:k<=s.n)(H:s.l.drop k=j):
  SyX N w (OwnOf [zj r s i]) (dfn 258 (nrA E q A F)::(m.map col++[])) (bodyPostM Fence.wide 0 Tryz.prog Tryz.f202 (FnR w (OwnOf [zj r s i]) (zlO r s i)) .ret) [(2,.pointer (some ⟨q,0,none⟩)),(3,.pointer (some ⟨A,0,none⟩))] ((.row (.slice a p.parts.length c) 9 1 p.parts.length (p.parts.map zT)::nrC E q A F r bc s i k (.slice a p.parts.length c) (zT p.realm) 0)++m.map dob):=by
 refine zhb (.inl ⟨rfl,rfl⟩) (C:=nrC E q A F r bc s i k (.slice a p.parts.length c) (zT p.realm) 0) (L1:=[.row (.slice a p.parts.length c) 9 1 p.parts.length (p.parts.map zT)]) (Aj (l₁:=[_])) (λJ _ _ I=>zvN E q A F r bc s i k _ _ 0 J I) ?_;rintro _ _ ⟨rfl,rfl⟩;exact⟨rfl,_,_,results2 rfl (zE (B:=[.slice a p.parts.length c,zT p.realm]) rfl (ty rfl) rfl Ey Ex rfl) (zdD rfl (ty rfl) rfl Ey rfl),q_h,.inl ⟨p,j,k,a,c,G,hk,H,rfl,rfl⟩⟩
theorem zuh(r:Nat)(s:Bs)(i:Nat)(w:World)(hL:Holds w.heap.size (OwnOf [zj r s i]) [zj r s i] w)(hs:BsF w (OwnOf [zj r s i]) s)(hi:i<=s.n)(hb:s.n<1000000):
  Sy.Fn Tryz.prog 202 [.pointer (some ⟨r,0,none⟩)] w (OwnOf [zj r s i]) (zlO r s i):=by
 refine zaX Tryz.func202 rfl Tryz.ntmps202 q_p hL ?_;have c4:=λj hr=>zuj r s i j hr;have b7:=λj (G:Keep (OwnOf [zj r s i]) w j) (K:∀b,OwnOf [zj r s i] b->w.heap.size<=b\/OwnOf [zj r s i] b) (A:Holds j.heap.size (OwnOf [zj r s i]) [zj r s i] j)=>zl0 r s i j A (hs.to G K) hi q_o;unfold zbC zgd at b7;rw[zfK] at b7;repeat' first|refine s_0 ?_|refine zf 0 ?_;refine zk λ_=>?_;refine zk λ_=>?_;refine zk λ_=>?_
 rename_i U S T;repeat' first|refine s_0 ?_|refine zf 1 ?_;refine zm ?_;(refine q_s (zi (hc:=λj X G A=>c4 j (zp (A.has (r:=zj r s i) q_h) Ex))) ?_;rintro _ _ ⟨R,rfl,bc,rfl,rfl⟩);refine zk λ_=>?_;refine zP ?_
 rename_i V;repeat' first|refine s_0 ?_|refine zf 2 ?_;refine zm ?_;refine zaH ?_|refine zf 4 ?_;refine q_v zab ?_|refine znd (f:=258) (λI=>?_)|fail
 simp only[Ae,Ag];repeat' first|refine zf 5 ?_;refine zm ?_;(refine q_s (za2 (f:=177) (C:=[zj r s i]) (F0 (r':=zj r s i) (by repeat (first|exact Eu|apply Ew)) rfl F2) (hc:=λj G hm A=>b7 j G hm A)) ?_;rintro _ _ ⟨R,rfl,(⟨cc,e7,k,u,R',h1,h2,h3,⟨H,sS,rfl,rfl,c2,h5,h6⟩,rfl,rfl⟩|⟨h1,e,u,W,rfl,rfl⟩)⟩);refine zb ?_|(refine zx ?_;first|refine zZ ?_|fail)|fail
 rotate_left
 ·repeat' first|refine zJ ?_|(refine zx ?_;first|refine zbi (hc:=λj _ _ _=>zp8 u e W j) ?_|fail)|fail
  refine(zdY r s i i w U S T V bc I (.slice none 0 0) (.string ByteArray.empty) _ W (zyY h1)).weaken q_h ?_
  (repeat' (first|exact Ev|apply F3;with_reducible (focus ((repeat (first|exact Eu|apply Ew));done))|apply F9;(focus ((repeat (first|exact Eu|apply Ew));done))|apply F3;(focus ((repeat (first|exact Eu|apply Ew));done))|apply F6;(focus ((repeat (first|exact Eu|apply Ew));done))|rfl))
  all_goals (repeat (first|exact Ez|apply F7))
 have m:=zyW h1;dsimp only at m;have Q:=c2 _ _ hs;have b9:=Q.len;have c5:=λj (G:Keep (OwnOf [zj r s i]) w j) (K:∀b,OwnOf [zj H sS 0] b->w.heap.size<=b\/OwnOf [zj r s i] b) (A:Holds j.heap.size (OwnOf [zj H sS 0]) [zj H sS 0] j)=>zts H sS 0 0 160 j rfl q_e A (Q.to G K) (AA _) q_o;repeat' first|refine s_0 ?_|refine q_k 6 ?_;(refine zaQ (f:=260) (C:=[zj H sS 0]) (F0 (r':=zj H sS 0) (by repeat (first|exact Eu|apply Ew)) rfl F2) (hc:=λj G hm A=>c5 j G hm A) ?_ ?_)|(refine zx ?_;first|refine q_v (za (hc:=λ_ _ _ _=>(zl4 _ _))) ?_|refine zw ?_|fail)|fail
 rotate_left
 ·rintro _ _ ⟨e1,⟨e,W,rfl⟩,rfl⟩;rw[BL,h5] at e1;repeat' first|refine zJ ?_|fail
  refine(zdY r s i k w U S T V bc I (.slice none 0 0) (.string ByteArray.empty) _ W (by rw[m,e1];rfl)).weaken q_h ?_
  (repeat' (first|exact Ev|apply F3;with_reducible (focus ((repeat (first|exact Eu|apply Ew));done))|apply F9;(focus ((repeat (first|exact Eu|apply Ew));done))|apply F3;(focus ((repeat (first|exact Eu|apply Ew));done))|apply F6;(focus ((repeat (first|exact Eu|apply Ew));done))|rfl))
  all_goals (repeat (first|exact Ez|apply F7))
 rintro _ _ ⟨px,c3,k1,_,e1,e2,e3,⟨P,F,rfl,rfl,q1,q2,q3⟩,rfl⟩;rw[BL,h5] at e1;rw[e1] at m;dsimp only[Option.bind_some] at m;subst q2;repeat' first|refine s_t ?_|(refine zx ?_;first|refine zw ?_|fail)|fail
 have b6:=q1 _ _ Q;have a6:=b6.len;refine zbg (zaT 9 1) ?_;refine zL (γ:=Nat×List (List UInt8)×Option Addr×Nat) (λg=>[(2,.pointer (some ⟨S,0,none⟩)),(3,.pointer (some ⟨T,0,none⟩)),(1,.pointer (some ⟨U,0,none⟩)),(4,.pointer (some ⟨V,0,none⟩)),(5,.pointer (some ⟨H,0,none⟩)),(6,.pointer (some ⟨P,0,none⟩))])
  (λg=> .row (.slice g.2.2.1 g.2.1.length g.2.2.2) 9 1 g.2.1.length (g.2.1.map zT)::zj P F g.1:: .blk S 43 [.slice g.2.2.1 g.2.1.length g.2.2.2,.string ByteArray.empty]:: .blk V 80 [.pointer (some ⟨bc,0,none⟩)]:: .blk U 80 [.pointer (some ⟨r,0,none⟩)]:: .blk T 26 [.int .i64 0]::zj r s k::zj bc s i::zj H sS k1::I.map dob)
  (λg=>g.1<=F.n/\g.2.1.length<=g.1/\(∀x∈g.2.1,x.length<=F.n)/\zcd F.l=(zcd (F.l.drop g.1)).map (g.2.1 ++ ·)) (λg=>F.n-g.1) (0,[],none,0) ⟨AA _,A7 _,(λ_ h=>by cases h),by simp⟩ ?_ ?_ ?_
 ·exact q_h
 ·(repeat' (first|exact Ev|apply F3;with_reducible (focus ((repeat (first|exact Eu|apply Ew));done))|apply F9;(focus ((repeat (first|exact Eu|apply Ew));done))|apply F3;(focus ((repeat (first|exact Eu|apply Ew));done))|apply F6;(focus ((repeat (first|exact Eu|apply Ew));done))|rfl))
  all_goals (repeat (first|exact Ez|apply F7))
 rintro⟨M,E,N,O⟩ ⟨a9,c7,Y,Z⟩;dsimp only at a9 c7 Y Z ⊢;have c0:=λj hr=>zdZ P F M j hr a9 b6.cap;by_cases hz:F.n-M=0
 ·have g:decide (((F.n-M:Nat):Int)>0)=false:=q_f;have e0:zcd F.l=some E:=by
   rw[Z,(za4 a6).2 hz,zk8];simp
  rw[e0] at m;dsimp only[Option.bind_some] at m;have c6:=λj (G:Keep (OwnOf [zj r s i]) w j) (K:∀b,OwnOf [zj H sS k1] b->w.heap.size<=b\/OwnOf [zj r s i] b) (A:Holds j.heap.size (OwnOf [zj H sS k1]) [zj H sS k1] j)=>zsn H sS k1 1 161 j rfl q_e A (Q.to G K) e2 q_o;repeat' first|refine s_0 ?_|refine q_k 7 ?_;refine q_v (za (hc:=λj X G A=>c0 j (zp (A.has (r:=zj P F M) q_h) Ex))) ?_;refine q_v (zH (hr:=g)) ?_|refine q_k 9 ?_;(refine zaQ (f:=263) (C:=[zj H sS k1]) (F0 (r':=zj H sS k1) (by repeat (first|exact Eu|apply Ew)) rfl F2) (hc:=λj G hm A=>c6 j G hm A) ?_ ?_)
  rotate_left
  ·rintro _ _ ⟨f1,⟨e,W,rfl⟩,rfl⟩;rw[e3] at f1;repeat' first|refine zJ ?_|fail
   refine(zdY r s i k w U S T V bc I (.slice N E.length O) (.string ByteArray.empty) _ W (by rw[m,f1];rfl)).weaken q_h ?_
   (repeat' (first|exact Ev|apply F3;with_reducible (focus ((repeat (first|exact Eu|apply Ew));done))|apply F9;(focus ((repeat (first|exact Eu|apply Ew));done))|apply F3;(focus ((repeat (first|exact Eu|apply Ew));done))|apply F6;(focus ((repeat (first|exact Eu|apply Ew));done))|rfl))
   all_goals (repeat (first|exact Ez|apply F7))
  rintro _ _ ⟨J,e6,k2,_,f1,f2,f3,⟨rfl,rfl⟩,rfl⟩;rw[e3] at f1;rw[f1] at m;dsimp only[Option.bind_some] at m;obtain⟨d,hd,c1⟩:=zeK;have b0:=λj hr=>zdZ H sS k2 j hr f2 Q.cap;have h4:=zux f1;have e8:c3.length<=sS.n:=by rw[<-e3,As];omega
  by_cases hz2:sS.n-k2=0
  ·have e4:e6= []:=by rw[<-f3];exact(za4 b9).2 hz2
   have g2:decide (((sS.n-k2:Nat):Int)>0)=false:=q_f;have a7:=λj h=>zgm (zbe N O ⟨E,J⟩) ⟨E,J⟩ j h (by dsimp only;omega) (by dsimp only;omega) (λx hx=>by have:=Y x hx;omega);rw[e4] at m;have b8:∀ {j:World}{X L:List Res},Holds w.heap.size (OwnOf [zj r s i]) (L++X) j->Has L (.row (.slice N E.length O) 9 1 E.length (E.map zT))->PrinIn j (zbe N O ⟨E,J⟩) ⟨E,J⟩:=λA hL=>zvu A hL (by show E.length<=maxLen;unfold maxLen;omega) ⟨by dsimp only;unfold maxLen;omega,λx hx=>by have:=Y x hx;unfold maxLen;omega⟩;obtain⟨e5,d8⟩:∃y,(Prin.mk E J).ok=y:=⟨_,rfl⟩;rw[d8] at a7 m;have d9:zbe N O ⟨E,J⟩= [.slice N E.length O,zT J]:=rfl;rw[d9] at a7 b8;cases e5 with
   |true=>
    rw[if_pos ⟨rfl,rfl⟩] at m;repeat' first|refine s_0 ?_|refine q_k 10 ?_;refine q_v (za (hc:=λj X G A=>b0 j (zp (A.has (r:=zj H sS k2) q_h) Ex))) ?_;refine q_x (zH (hr:=g2)) ?_;refine q_v (ze (B:=[.slice N E.length O,zT J]) (hv:=Ex)) ?_;refine q_v (za (hc:=λj X G A=>a7 j (b8 A Ey))) ?_;refine zI ?_;refine zb ?_|refine zf 12 ?_;refine q_v (ze (B:=[.slice N E.length O,zT J]) (hv:=Ex)) ?_;refine q_n (zG (B:=[.slice N E.length O,zT J]) (h1:=rfl)) ?_;refine zP ?_|(refine zx ?_;first|refine q_n (zaO (v:=zT J) (hC:=⟨A5 rfl,rfl⟩)) ?_|refine za7 ?_|fail)|fail
    refine(zrn r s i k w U S T V bc I N O ⟨E,J⟩ e7 m h2 h3).weaken q_h ?_
    (repeat' (first|exact Ev|apply F3;with_reducible (focus ((repeat (first|exact Eu|apply Ew));done))|apply F9;(focus ((repeat (first|exact Eu|apply Ew));done))|apply F3;(focus ((repeat (first|exact Eu|apply Ew));done))|apply F6;(focus ((repeat (first|exact Eu|apply Ew));done))|rfl))
    all_goals (repeat (first|exact Ez|apply F7))
   |false=>
    rw[if_neg (λh=>by cases h.2)] at m;repeat' first|refine s_0 ?_|refine q_k 10 ?_;refine q_v (za (hc:=λj X G A=>b0 j (zp (A.has (r:=zj H sS k2) q_h) Ex))) ?_;refine q_x (zH (hr:=g2)) ?_;refine q_v (ze (B:=[.slice N E.length O,zT J]) (hv:=Ex)) ?_;refine q_v (za (hc:=λj X G A=>a7 j (b8 A Ey))) ?_;refine zI ?_;refine zb ?_|refine zf 11 ?_|refine q_v (zbr hd c1) ?_|refine zb5 ?_|refine zJ ?_|(refine zx ?_;first|refine q_n (zaO (v:=zT J) (hC:=⟨A5 rfl,rfl⟩)) ?_|refine za7 ?_|fail)|fail
    refine(zdY r s i k w U S T V bc I (.slice N E.length O) (zT J) _ (by decide:(6:Int)≠0) m).weaken q_h ?_
    (repeat' (first|exact Ev|apply F3;with_reducible (focus ((repeat (first|exact Eu|apply Ew));done))|apply F9;(focus ((repeat (first|exact Eu|apply Ew));done))|apply F3;(focus ((repeat (first|exact Eu|apply Ew));done))|apply F6;(focus ((repeat (first|exact Eu|apply Ew));done))|rfl))
    all_goals (repeat (first|exact Ez|apply F7))
  ·have g2:decide (((sS.n-k2:Nat):Int)>0)=true:=q_d;rw[if_neg (λh=>hz2 ((za4 b9).1 (by rw[f3];exact h.1)))] at m;repeat' first|refine s_0 ?_|refine q_k 10 ?_;refine q_v (za (hc:=λj X G A=>b0 j (zp (A.has (r:=zj H sS k2) q_h) Ex))) ?_;refine q_x (zH (hr:=g2)) ?_|refine zf 11 ?_|refine q_v (zbr hd c1) ?_|refine zb5 ?_|refine zJ ?_|(refine zx ?_;first|refine q_n (zaO (v:=zT J) (hC:=⟨A5 rfl,rfl⟩)) ?_|refine za7 ?_|fail)|fail
   refine(zdY r s i k w U S T V bc I (.slice N E.length O) (zT J) _ (by decide:(6:Int)≠0) m).weaken q_h ?_
   (repeat' (first|exact Ev|apply F3;with_reducible (focus ((repeat (first|exact Eu|apply Ew));done))|apply F9;(focus ((repeat (first|exact Eu|apply Ew));done))|apply F3;(focus ((repeat (first|exact Eu|apply Ew));done))|apply F6;(focus ((repeat (first|exact Eu|apply Ew));done))|rfl))
   all_goals (repeat (first|exact Ez|apply F7))
 ·have g:decide (((F.n-M:Nat):Int)>0)=true:=q_d;repeat' first|refine s_t ?_|refine q_k 7 ?_;refine q_v (za (hc:=λj X G A=>c0 j (zp (A.has (r:=zj P F M) q_h) Ex))) ?_;refine q_v (zH (hr:=g)) ?_
  (refine zdm (id:=8) [0,0] true [(2,.pointer (some ⟨S,0,none⟩)),(3,.pointer (some ⟨T,0,none⟩))] [0,1,2] [(3,[4,5]),(6,[]),(7,[]),(8,[9]),(10,[])] mixed q_h ?_ ?_;kernel_rfl;refine ygv zN (k:=?_);refine ygv zM (k:=?_);refine ygv zV (k:=?_);refine yg0 ?_;try refine yg0 ?_;try refine yg0 ?_;try refine yg0 ?_;try refine yg0 ?_;try refine zg5 ?_)
  have b5:=λj (G:Keep (OwnOf [zj r s i]) w j) (K:∀b,OwnOf [zj P F M] b->w.heap.size<=b\/OwnOf [zj r s i] b) (A:Holds j.heap.size (OwnOf [zj P F M]) [zj P F M] j)=>zqn P F M j A (b6.to G K) a9 q_o;unfold zbC at b5;rw[zfK] at b5;refine yhs (za2 (f:=262) (C:=[zj P F M]) (F0 (r':=zj P F M) (by repeat (first|exact Eu|apply Ew)) rfl F2) (hc:=λj G hm A=>b5 j G hm A)) (k:=?_);rintro _ _ ⟨R,rfl,(⟨x,a8,k',u,R',t1,t2,t3,⟨rfl,rfl⟩,rfl,rfl⟩|⟨t1,e,u,W,rfl,rfl⟩)⟩
  ·have f9:=zfO t1;have e9:(F.l.drop M).length=F.n-M:=by rw[As,a6]
   have f8:a8.length=F.n-k':=by rw[<-t3,As,a6]
   refine ygv zas (k:=?_);refine ygv zas (k:=?_);refine yg0 ?_;refine yhv (za (hc:=λj X G A=>zlY _ j)) (k:=?_);refine yg0 ?_;have hys:E.map zT++[zT x]=(E++[x]).map zT:=by simp
   have c8:E.length+1=(E++[x]).length:=by simp
   refine yhs zz (k:=?_);rintro _ _ ⟨bL,rfl,rfl⟩;refine yg0 ?_;refine yhs (zaz (hys:=hys) (hkm:=c8)) (k:=?_);rintro _ _ ⟨rfl,aN,cN,rfl⟩;refine ygv zN (k:=?_);refine yg0 ?_;refine yhn (zaO (v:=.slice aN (E++[x]).length cN) (hC:=⟨A5 rfl,rfl⟩)) (k:=?_);refine zg5 ?_;repeat' first|refine zao ?_|refine zgZ ?_|fail
   refine zC (k',E++[x],aN,cN) ⟨t2,?_,?_,?_⟩ ?_ ?_ ?_
   ·show(E++[x]).length<=k';omega
   ·intro y hy;rcases Ap.1 hy with h|h
    ·exact Y y h
    ·rw[AD.1 h];omega
   ·show zcd F.l=(zcd (F.l.drop k')).map ((E++[x]) ++ ·);rw[Z,zkg t1,t3];cases zcd a8 with
    |none=>rfl
    |some q=>simp
   ·show F.n-k'<F.n-M;omega
   ·exact q_h
   ·(repeat' (first|exact Ev|apply F3;with_reducible (focus ((repeat (first|exact Eu|apply Ew));done))|apply F9;(focus ((repeat (first|exact Eu|apply Ew));done))|apply F3;(focus ((repeat (first|exact Eu|apply Ew));done))|apply F6;(focus ((repeat (first|exact Eu|apply Ew));done))|rfl))
    all_goals (repeat (first|exact Ez|apply F7))
  ·refine ygv zas (k:=?_);refine ygv zas (k:=?_);refine yg0 ?_;refine yhp (M':=No) F2 (λ_ h=>False.elim h) (hc:=λj X G A=>zqV u e W j) (f:=261) (hp:=?_) (k:=λ_ _ h=>False.elim h);rintro _ _ ⟨rfl,rfl⟩;have c9:zcd F.l=none:=by
    rw[Z,zpQ (λh=>hz ((za4 a6).1 h)) t1];rfl
   rw[c9] at m;repeat' first|refine zJ ?_|refine zb8 ?_|fail
   refine(zdY r s i k w U S T V bc I (.slice N E.length O) (.string ByteArray.empty) _ W m).weaken q_h ?_
   (repeat' (first|exact Ev|apply F3;with_reducible (focus ((repeat (first|exact Eu|apply Ew));done))|apply F9;(focus ((repeat (first|exact Eu|apply Ew));done))|apply F3;(focus ((repeat (first|exact Eu|apply Ew));done))|apply F6;(focus ((repeat (first|exact Eu|apply Ew));done))|rfl))
   all_goals (repeat (first|exact Ez|apply F7))
end Go.Proofs.YtdnlngbjpdbffaaGreatDoor
