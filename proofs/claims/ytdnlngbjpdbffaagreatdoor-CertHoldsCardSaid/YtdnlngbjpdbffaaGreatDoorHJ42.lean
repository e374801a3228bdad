/- Lemmas of this proof. -/
import Derived.Test.YtdnlngbjpdbffaaGreatDoorHJ41
set_option maxHeartbeats 2000000
set_option maxRecDepth 10000
set_option linter.all false
namespace Go.Proofs.YtdnlngbjpdbffaaGreatDoor
open Go Go.Sy Go.Ct Go.RowKit
attribute [local irreducible] Sy SyL SyX SyC SyF SyG SyH Sy.Fn Sy.FnP callFunc
def zhR(e:Int):Value:=.iface 26 (.int .i64 e)
theorem zej:∃d,Tryz.prog.underlying 26=some d/\∀j,d≠ .interface j:=zl7 (by kernel_rfl)
def ER{α:Type}(s:Bs)(i:Nat)(rd:List UInt8->Option (α×List UInt8))(v:Value)(R:List Res):Prop:=rd (s.l.drop i)=none/\(∃e:Int,e≠0/\v=zhR e)/\R= []
theorem zld(v:Value)(w:World):q_G 261 [v,.int .i64 0] w v:=by
 refine zz Tryz.func261 Tryz.ntmps261 ?_;repeat' (first|refine s_0 ?_|refine zL [0,3] ?_;refine zf ?_|refine q_k 1 ?_;refine q_v (zV (hr:=rfl)) ?_)
 exact q_r
theorem zpA(v:Value)(e:Int)(he:e≠0)(w:World):FnP Tryz.prog 261 [v,.int .i64 e] w No (λ_ _=>False) (λu R=>u=zhR e/\R= []):=by
 refine zay Tryz.func261 rfl Tryz.ntmps261 q_p FF ?_;obtain⟨d,j,m⟩:=zej;have g:decide (e≠0)=true:=decide_eq_true he;repeat' (first|refine s_0 ?_|refine zL [0,2] ?_;refine zf ?_|refine q_k 1 ?_;refine q_v (zV (hr:=g)) ?_|refine q_v (zbi j m) ?_|refine zbS ?_|refine zH ?_|fail)
 exact zao El ⟨rfl,rfl⟩
theorem zk0(v:Value)(w:World):q_G 259 [v,.int .i64 0] w v:=by
 refine zz Tryz.func259 Tryz.ntmps259 ?_;repeat' (first|refine s_0 ?_|refine zL [0,3] ?_;refine zf ?_|refine q_k 1 ?_;refine q_v (zV (hr:=rfl)) ?_)
 exact q_r
theorem zoT(v:Value)(e:Int)(he:e≠0)(w:World):FnP Tryz.prog 259 [v,.int .i64 e] w No (λ_ _=>False) (λu R=>u=zhR e/\R= []):=by
 refine zay Tryz.func259 rfl Tryz.ntmps259 q_p FF ?_;obtain⟨d,j,m⟩:=zej;have g:decide (e≠0)=true:=decide_eq_true he;repeat' (first|refine s_0 ?_|refine zL [0,2] ?_;refine zf ?_|refine q_k 1 ?_;refine q_v (zV (hr:=g)) ?_|refine q_v (zbi j m) ?_|refine zbS ?_|refine zH ?_|fail)
 exact zao El ⟨rfl,rfl⟩
theorem zrZ(r:Nat)(s:Bs)(i n t:Nat)(w:World)(ht:t=160+n)(hn:n<=30)(hL:Holds w.heap.size (OwnOf [zh r s i]) [zh r s i] w)(V:BsF w (OwnOf [zh r s i]) s)(hi:i<=s.n)(hb:s.n<1000000000):
  FnP Tryz.prog 263 [.pointer (some ⟨r,0,none⟩),.int .i64 (n:Int),.func (.func 262) #[] #[]] w (OwnOf [zh r s i]) (RP r s i (rdW t (zaU 27)) (λx v R=>v=zW x/\R= [])) (ER s i (rdW t (zaU 27))):=by
 subst ht;refine zay Tryz.func263 rfl Tryz.ntmps263 q_p hL ?_;obtain⟨d,S,F⟩:=zej;have O:=λj (B:Keep (OwnOf [zh r s i]) w j) (I:∀b,OwnOf [zh r s i] b->w.heap.size<=b\/OwnOf [zh r s i] b) (q:Holds j.heap.size (OwnOf [zh r s i]) [zh r s i] j)=>zig r s i n j q (V.to B I) hi hb hn;unfold zog at O;repeat' (first|refine s_t ?_|refine q_k 0 ?_|refine q_k 1 ?_;(refine q_s (zaY (f:=254) (C:=[zh r s i]) (Eo (by exact Ej) rfl Er) (hc:=λj B U q=>O j B U q)) ?_;rintro _ _ ⟨R,rfl,(⟨cc,W,k,E,A,H,h2,h3,N,T,h6,rfl,rfl⟩|⟨H,rfl,rfl⟩|⟨H,e,u,L,rfl,rfl⟩)⟩);refine zf ?_|(refine zx ?_;first|refine zo ?_|refine zC ?_|refine zw ?_|fail)|fail)
 ·have G:=N _ _ V;have M:=G.len;have J:=λj (B:Keep (OwnOf [zh r s i]) w j) (I:∀b,OwnOf [zh E A 0] b->w.heap.size<=b\/OwnOf [zh r s i] b) (q:Holds j.heap.size (OwnOf [zh E A 0]) [zh E A 0] j)=>zpp E A 0 j q (G.to B I) (AE _) q_o;unfold zbs at J;rw[ze5,B9,T] at J;repeat' (first|refine s_0 ?_|refine q_k 2 ?_;refine q_x (zV (hr:=rfl)) ?_|refine q_k 4 ?_;refine zI ?_;refine zf ?_|refine q_k 6 ?_;refine zI ?_;refine zf ?_)
  repeat' (first|refine q_k 8 ?_;(refine q_s (zaY (f:=262) (C:=[zh E A 0]) (Eo (r':=zh E A 0) (by repeat (first|exact Ej|apply Ek)) rfl Er) (hc:=λj B U q=>J j B U q)) ?_;rintro _ _ ⟨R,rfl,(⟨x,a6,K,u,R',Q,Y,Z,⟨rfl,rfl⟩,rfl,rfl⟩|⟨Q,e,u,L,rfl,rfl⟩)⟩);refine zf ?_|(refine zx ?_;first|refine zC ?_|fail)|fail)
  ·by_cases hd0:A.n-K=0
   ·have m:=λj hr=>zc5 E A K j hr Y G.cap;rw[hd0] at m;have g:decide (((0:Nat):Int)>0)=false:=rfl;repeat' (first|refine s_0 ?_|refine q_k 9 ?_;refine q_v (za (hc:=λj X B q=>m j (zq (q.has (r:=zh E A K) q_h) Em))) ?_;refine q_v (zF (hr:=g)) ?_|refine q_k 11 ?_|(refine zx ?_;first|refine q_v (za (hc:=λ_ _ _ _=>(zld _ _))) ?_|refine zo ?_|fail)|fail)
    exact zdL rfl (zj rfl) q_h ⟨x,W,k,_,zhC H Q (by rw[<-Z,<-T];exact(zaM M).2 hd0),h2,h3,⟨rfl,rfl⟩,rfl⟩
   ·have m:=λj hr=>zc5 E A K j hr Y G.cap;have g:decide (((A.n-K:Nat):Int)>0)=true:=q_d;repeat' (first|refine s_0 ?_|refine q_k 9 ?_;refine q_v (za (hc:=λj X B q=>m j (zq (q.has (r:=zh E A K) q_h) Em))) ?_;refine q_v (zF (hr:=g)) ?_|refine ze 10 ?_|refine q_v (zbi S F) ?_|refine zbS ?_|refine zH ?_|(refine zx ?_;first|refine q_v (za (hc:=λ_ _ _ _=>(zld _ _))) ?_|refine zo ?_|fail)|fail)
    exact zao El ⟨zgD H Q (by rw[<-Z,<-T];exact λh=>hd0 ((zaM M).1 h)),⟨6,by decide,rfl⟩,rfl⟩
  ·repeat' (first|refine zH ?_|(refine zx ?_;first|refine za0 (hc:=λj _ _ _=>zpA u e L j) ?_|fail)|fail)
   exact zao El ⟨zgu H Q,⟨e,L,rfl⟩,rfl⟩
 ·have m:=λj hr=>zc5 r s i j hr hi V.cap;have P:=zdV (rd:=zaU 27) H;by_cases hd0:s.n-i=0
  ·rw[hd0] at m;have g:decide (((0:Nat):Int)=0)=true:=rfl;repeat' (first|refine s_0 ?_|refine q_k 2 ?_;refine q_x (zV (hr:=rfl)) ?_|refine q_k 4 ?_;refine zI ?_;refine zf ?_;refine q_v (za (hc:=λj X B q=>m j (zq (q.has (r:=zh r s i) q_h) Em))) ?_;refine q_x (zY (hr:=g)) ?_|refine ze 5 ?_|refine q_v (zbi S F) ?_|refine zbS ?_|refine zH ?_|refine zbY ?_|fail)
   exact zao El ⟨P,⟨4,by decide,rfl⟩,rfl⟩
  ·have g:decide (((s.n-i:Nat):Int)=0)=false:=q_f;repeat' (first|refine s_0 ?_|refine q_k 2 ?_;refine q_x (zV (hr:=rfl)) ?_|refine q_k 4 ?_;refine zI ?_;refine zf ?_;refine q_v (za (hc:=λj X B q=>m j (zq (q.has (r:=zh r s i) q_h) Em))) ?_;refine q_x (zY (hr:=g)) ?_|refine q_k 6 ?_;refine zI ?_;refine zf ?_|refine ze 7 ?_|refine q_v (zbi S F) ?_|refine zbS ?_|refine zH ?_|refine zbY ?_|fail)
   exact zao El ⟨P,⟨6,by decide,rfl⟩,rfl⟩
 ·have g:decide (e≠0)=true:=decide_eq_true L;repeat' (first|refine s_0 ?_|refine q_k 2 ?_;refine q_x (zV (hr:=g)) ?_|refine q_k 3 ?_|refine q_v (zbi S F) ?_|refine zbS ?_|refine zH ?_|refine zbY ?_|fail)
  exact zao El ⟨zdV H,⟨e,L,rfl⟩,rfl⟩
theorem zrc(r:Nat)(s:Bs)(i n t:Nat)(w:World)(ht:t=160+n)(hn:n<=30)(hL:Holds w.heap.size (OwnOf [zh r s i]) [zh r s i] w)(V:BsF w (OwnOf [zh r s i]) s)(hi:i<=s.n)(hb:s.n<1000000000):
  FnP Tryz.prog 260 [.pointer (some ⟨r,0,none⟩),.int .i64 (n:Int),.func (.func 177) #[] #[]] w (OwnOf [zh r s i]) (RP r s i (rdW t (zaU 48)) (λx v R=>zfx s x v R)) (ER s i (rdW t (zaU 48))):=by
 subst ht;refine zay Tryz.func260 rfl Tryz.ntmps260 q_p hL ?_;obtain⟨d,S,F⟩:=zej;have O:=λj (B:Keep (OwnOf [zh r s i]) w j) (J:∀b,OwnOf [zh r s i] b->w.heap.size<=b\/OwnOf [zh r s i] b) (q:Holds j.heap.size (OwnOf [zh r s i]) [zh r s i] j)=>zig r s i n j q (V.to B J) hi hb hn;unfold zog at O;repeat' (first|refine s_t ?_|refine q_k 0 ?_|refine q_k 1 ?_;(refine q_s (zaY (f:=254) (C:=[zh r s i]) (Eo (by exact Ej) rfl Er) (hc:=λj B U q=>O j B U q)) ?_;rintro _ _ ⟨R,rfl,(⟨cc,W,k,E,A,I,h2,h3,H,T,h6,rfl,rfl⟩|⟨I,rfl,rfl⟩|⟨I,e,u,M,rfl,rfl⟩)⟩);refine zf ?_|(refine zx ?_;first|refine zo ?_|refine zC ?_|refine zw ?_|fail)|fail)
 ·have G:=H _ _ V;have N:=G.len;have K:=λj (B:Keep (OwnOf [zh r s i]) w j) (J:∀b,OwnOf [zh E A 0] b->w.heap.size<=b\/OwnOf [zh r s i] b) (q:Holds j.heap.size (OwnOf [zh E A 0]) [zh E A 0] j)=>zkZ E A 0 j q (G.to B J) (AE _) q_o;unfold zbs zfx at K;rw[ze5,B9,T] at K;repeat' (first|refine s_0 ?_|refine q_k 2 ?_;refine q_x (zV (hr:=rfl)) ?_|refine q_k 4 ?_;refine zI ?_;refine zf ?_|refine q_k 6 ?_;refine zI ?_;refine zf ?_)
  repeat' (first|refine q_k 8 ?_;(refine q_s (zaY (f:=177) (C:=[zh E A 0]) (Eo (r':=zh E A 0) (by repeat (first|exact Ej|apply Ek)) rfl Er) (hc:=λj B U q=>K j B U q)) ?_;rintro _ _ ⟨R,rfl,(⟨x,a6,L,u,R',Q,Y,Z,⟨b2,s2,rfl,rfl,q1,q2,q3⟩,rfl,rfl⟩|⟨Q,e,u,M,rfl,rfl⟩)⟩);refine zf ?_|(refine zx ?_;first|refine zC ?_|fail)|fail)
  ·by_cases hd0:A.n-L=0
   ·have m:=λj hr=>zc5 E A L j hr Y G.cap;rw[hd0] at m;have g:decide (((0:Nat):Int)>0)=false:=rfl;repeat' (first|refine s_0 ?_|refine q_k 9 ?_;refine q_v (za (hc:=λj X B q=>m j (zq (q.has (r:=zh E A L) q_h) Em))) ?_;refine q_v (zF (hr:=g)) ?_|refine q_k 11 ?_|(refine zx ?_;first|refine q_v (za (hc:=λ_ _ _ _=>(zk0 _ _))) ?_|refine zo ?_|fail)|fail)
    exact zdL rfl (zj rfl) q_h ⟨x,W,k,_,zhC I Q (by rw[<-Z,<-T];exact(zaM N).2 hd0),h2,h3,⟨b2,s2,rfl,rfl,H.trans q1,q2,by omega⟩,rfl⟩
   ·have m:=λj hr=>zc5 E A L j hr Y G.cap;have g:decide (((A.n-L:Nat):Int)>0)=true:=q_d;repeat' (first|refine s_0 ?_|refine q_k 9 ?_;refine q_v (za (hc:=λj X B q=>m j (zq (q.has (r:=zh E A L) q_h) Em))) ?_;refine q_v (zF (hr:=g)) ?_|refine ze 10 ?_|refine q_v (zbi S F) ?_|refine zbS ?_|refine zH ?_|(refine zx ?_;first|refine q_v (za (hc:=λ_ _ _ _=>(zk0 _ _))) ?_|refine zo ?_|fail)|fail)
    exact zao El ⟨zgD I Q (by rw[<-Z,<-T];exact λh=>hd0 ((zaM N).1 h)),⟨6,by decide,rfl⟩,rfl⟩
  ·repeat' (first|refine zH ?_|(refine zx ?_;first|refine za0 (hc:=λj _ _ _=>zoT u e M j) ?_|fail)|fail)
   exact zao El ⟨zgu I Q,⟨e,M,rfl⟩,rfl⟩
 ·have m:=λj hr=>zc5 r s i j hr hi V.cap;have P:=zdV (rd:=zaU 48) I;by_cases hd0:s.n-i=0
  ·rw[hd0] at m;have g:decide (((0:Nat):Int)=0)=true:=rfl;repeat' (first|refine s_0 ?_|refine q_k 2 ?_;refine q_x (zV (hr:=rfl)) ?_|refine q_k 4 ?_;refine zI ?_;refine zf ?_;refine q_v (za (hc:=λj X B q=>m j (zq (q.has (r:=zh r s i) q_h) Em))) ?_;refine q_x (zY (hr:=g)) ?_|refine ze 5 ?_|refine q_v (zbi S F) ?_|refine zbS ?_|refine zH ?_|refine zbY ?_|fail)
   exact zao El ⟨P,⟨4,by decide,rfl⟩,rfl⟩
  ·have g:decide (((s.n-i:Nat):Int)=0)=false:=q_f;repeat' (first|refine s_0 ?_|refine q_k 2 ?_;refine q_x (zV (hr:=rfl)) ?_|refine q_k 4 ?_;refine zI ?_;refine zf ?_;refine q_v (za (hc:=λj X B q=>m j (zq (q.has (r:=zh r s i) q_h) Em))) ?_;refine q_x (zY (hr:=g)) ?_|refine q_k 6 ?_;refine zI ?_;refine zf ?_|refine ze 7 ?_|refine q_v (zbi S F) ?_|refine zbS ?_|refine zH ?_|refine zbY ?_|fail)
   exact zao El ⟨P,⟨6,by decide,rfl⟩,rfl⟩
 ·have g:decide (e≠0)=true:=decide_eq_true M;repeat' (first|refine s_0 ?_|refine q_k 2 ?_;refine q_x (zV (hr:=g)) ?_|refine q_k 3 ?_|refine q_v (zbi S F) ?_|refine zbS ?_|refine zH ?_|refine zbY ?_|fail)
  exact zao El ⟨zdV I,⟨e,M,rfl⟩,rfl⟩
theorem ztP(r:Nat)(s:Bs)(i:Nat)(w:World)(hr:w.rangeAt r 0 (rdC s i)):Sy.Fn Tryz.prog 257 [.pointer (some ⟨r,0,none⟩)] w No (λv R=>∃b,v= .pointer (some ⟨b,0,none⟩)/\R= [zh b s i]):=by
 refine zz Tryz.func257 Tryz.ntmps257 ?_;have j:w.cell? ⟨r,0+2,none⟩=some (.bool true):=hr 2 _ rfl;repeat' (first|refine s_0 ?_|refine zL [0,4] ?_;refine zf ?_|refine q_k 1 ?_;refine zaH ?_;refine zf ?_;refine q_v (zp (hv:=j)) ?_;refine zI ?_;refine zf ?_|refine q_k 3 ?_;refine q_v (zK (hv:=hr)) ?_;refine zi ?_;intro _;refine zJ ?_)
 exact zaq rfl (zj rfl) Ep ⟨_,rfl,rfl⟩
abbrev zuQ:List Value:=[.slice none 0 0,zW []]
abbrev nrC(b1 b2 b3 b4 r bc:Nat)(s:Bs)(i k:Nat)(x y:Value)(e0:Int):List Res:=[.blk b4 80 [.pointer (some ⟨bc,0,none⟩)],.blk b1 80 [.pointer (some ⟨r,0,none⟩)],.blk b2 43 [x,y],.blk b3 26 [.int .i64 e0],zh r s k,zh bc s i]
abbrev nrA(b1 b2 b3 b4:Nat):List Value:=[.pointer (some ⟨b4,0,none⟩),.pointer (some ⟨b1,0,none⟩),.pointer (some ⟨b2,0,none⟩),.pointer (some ⟨b3,0,none⟩)]
theorem zsI(q j m A r bc:Nat)(s:Bs)(i k:Nat)(x y:Value)(B e:Int)(w:World)(hL:Holds w.heap.size (OwnOf (nrC q j m A r bc s i k x y B)) (nrC q j m A r bc s i k x y B) w):
  FnD Tryz.prog 258 (nrA q j m A) (.panicking (pch (zhR e))) w (OwnOf (nrC q j m A r bc s i k x y B)) (λH R=>H= .panicking [{ v:=zhR e,recovered:=true }]/\R= [.blk j 43 zuQ,.blk m 26 [.int .i64 e],zh r s i]):=by
 obtain⟨d,F,G⟩:=zej;refine zet (d:=7) (v0:=zhR e) (u1:=.panicking [{ v:=zhR e,recovered:=true }]) Tryz.func258 rfl rfl Tryz.ntmps258 q_p (λ_ _=>rfl) rfl rfl rfl (.inl ⟨rfl,rfl⟩) hL ?_;intro Q E;unfold zhR;repeat' (first|refine s_0 ?_|refine q_k 1 ?_|refine q_v (zgl F G) ?_|refine E _ _ ?_|(refine zx ?_;first|refine zo ?_|refine zC ?_|refine zw ?_|fail)|fail)
 repeat' (first|fail)
 (refine zgB (id:=2) [4] true [] [0,1,2,3,4] [(5,[])] mixed q_h ?_ ?_;kernel_rfl;refine ygv zM (k:=?_);refine ygv zM (k:=?_);refine ygv zcZ (k:=?_);refine ygv zd (k:=?_);refine ygv zcZ (k:=?_);refine yg0 ?_;refine yhn zA (k:=?_);try refine zlp ?_)
 repeat' (first|refine s_0 ?_|refine ze 3 ?_;refine za4 ?_;refine zf ?_;refine zJ ?_;refine zJ ?_)
 exact zhe q_h ⟨rfl,rfl⟩
theorem zub(j m q A r bc:Nat)(s:Bs)(i k:Nat)(x y:Value)(B:Int)(w:World)(hL:Holds w.heap.size (OwnOf (nrC j m q A r bc s i k x y B)) (nrC j m q A r bc s i k x y B) w):
  FnD Tryz.prog 258 (nrA j m q A) .returning w (OwnOf (nrC j m q A r bc s i k x y B)) (λH R=>H= .returning/\R=nrC j m q A r bc s i k x y B):=by
 obtain⟨d,F,G⟩:=zej;refine zet (d:=7) (v0:=.nilIface) (u1:=.returning) Tryz.func258 rfl rfl Tryz.ntmps258 q_p (λ_ _=>rfl) rfl rfl rfl (.inr ⟨rfl,rfl,rfl⟩) hL ?_;intro Q E;repeat' (first|refine s_0 ?_|refine q_k 1 ?_|refine q_v (zge (zv:=.int .i64 0) F G (λ_=>rfl)) ?_|refine E _ _ ?_|(refine zx ?_;first|refine zo ?_|refine zC ?_|refine zw ?_|fail)|fail)
 exact zhe Ep ⟨rfl,rfl⟩
end Go.Proofs.YtdnlngbjpdbffaaGreatDoor
namespace Go.Ct
open Go Go.Sy
theorem zwV{b:List UInt8}{s:List UInt8×List UInt8}(h:zaU 48 b=some s):rdP b=((rdW 160 (zaU 48) s.1).bind λm=>(zb1 m.1).bind λparts=>(rdW 161 (zaU 27) m.2).bind λj=>if j.2= []/\(Prin.mk parts j.1).ok=true then some (⟨parts,j.1⟩,s.2) else none):=by
 unfold rdP;rw[h];rfl
theorem zsV{t u:Nat}{b:List UInt8}{p q:List UInt8}(h:rdW t (zaU u) b=some (p,q)):p.length<=b.length:=by
 unfold rdW at h;cases h1:zaU t b with
 |none=>rw[h1] at h;cases h
 |some x=>
  rw[h1] at h;dsimp only[Option.bind_some] at h;cases h2:zaU u x.1 with
  |none=>rw[h2] at h;cases h
  |some y=>
   rw[h2] at h;dsimp only[Option.bind_some] at h;split at h
   ·cases h;have:=zfi h1;have:=zfi h2;omega
   ·cases h
theorem ztI{j E:Nat}{w:World}{M:Nat->Prop}{L X:List Res}{a:Option Addr}{c:Nat}{p:Prin}(hh:Holds j M (L++X) w)(hL:Has L (.row (.slice a p.parts.length c) E 1 p.parts.length (p.parts.map zW)))(hn:p.parts.length<=maxLen)(hx:p.realm.length<=maxLen/\∀x∈p.parts,x.length<=maxLen):PrinIn w (za1 a c p) p:=
 ⟨⟨a,c,rfl,FD hh (Et hL),Fl hh (Et hL),(GZ (Mi:=No) hh (Et hL) (λ_ h=>h.elim)).sla,λh=>(FV hh (Et hL) h).1⟩,hx⟩
theorem zxk{b:List UInt8}(h:zaU 48 b=none):rdP b=none:=by
 unfold rdP;rw[h];rfl
end Go.Ct
namespace Go.Proofs.YtdnlngbjpdbffaaGreatDoor
open Go Go.Sy Go.Ct Go.RowKit
attribute [local irreducible] Sy SyL SyX SyC SyF SyG SyH Sy.Fn Sy.FnP callFunc
def zkM(r:Nat)(s:Bs)(i:Nat)(v:Value)(R:List Res):Prop:=
 (∃p rst k a c,rdP (s.l.drop i)=some (p,rst)/\k<=s.n/\s.l.drop k=rst/\v= .tuple #[.agg #[.slice a p.parts.length c,zW p.realm],.int .i64 0]/\R= [zh r s k,.row (.slice a p.parts.length c) 9 1 p.parts.length (p.parts.map zW)])\/
 (rdP (s.l.drop i)=none/\∃e:Int,e≠0/\v= .tuple #[.agg #[.slice none 0 0,zW []],.int .i64 e]/\R= [zh r s i])
theorem zdv{N:Nat}(r:Nat)(s:Bs)(i k:Nat)(w:World)(A m q E bc:Nat)(j:List Nat)(x y:Value)(e:Int)(he:e≠0)(F:rdP (s.l.drop i)=none):
  SyX N w (OwnOf [zh r s i]) (dfn 258 (nrA A m q E)::(j.map col++[])) (bodyPostM Fence.wide 0 Tryz.prog Tryz.f202 (FnR w (OwnOf [zh r s i]) (zkM r s i)) (.panic (pch (zhR e)))) [(2,.pointer (some ⟨m,0,none⟩)),(3,.pointer (some ⟨q,0,none⟩))] (nrC A m q E r bc s i k x y 0++j.map dob):=by
 refine zex (.inr ⟨_,rfl,rfl⟩) (C:=nrC A m q E r bc s i k x y 0) (L1:=[]) (by unfold RemL;rw[AH]) (λH _ _ G=>zsI A m q E r bc s i k x y 0 e H G) ?_;rintro _ _ ⟨rfl,rfl⟩;exact⟨rfl,_,_,results2 rfl (zB (B:=zuQ) rfl (ty rfl) rfl En Em rfl) (zcA rfl (ty rfl) rfl En rfl),q_h,.inr ⟨F,e,he,rfl,rfl⟩⟩
theorem zpT{N:Nat}(r:Nat)(s:Bs)(i k:Nat)(w:World)(E q A F bc:Nat)(m:List Nat)(a:Option Addr)(c:Nat)(p:Prin)(j:List UInt8)(G:rdP (s.l.drop i)=some (p,j))(hk:k<=s.n)(H:s.l.drop k=j):
  SyX N w (OwnOf [zh r s i]) (dfn 258 (nrA E q A F)::(m.map col++[])) (bodyPostM Fence.wide 0 Tryz.prog Tryz.f202 (FnR w (OwnOf [zh r s i]) (zkM r s i)) .ret) [(2,.pointer (some ⟨q,0,none⟩)),(3,.pointer (some ⟨A,0,none⟩))] ((.row (.slice a p.parts.length c) 9 1 p.parts.length (p.parts.map zW)::nrC E q A F r bc s i k (.slice a p.parts.length c) (zW p.realm) 0)++m.map dob):=by
 refine zex (.inl ⟨rfl,rfl⟩) (C:=nrC E q A F r bc s i k (.slice a p.parts.length c) (zW p.realm) 0) (L1:=[.row (.slice a p.parts.length c) 9 1 p.parts.length (p.parts.map zW)]) (Ac (l₁:=[_])) (λJ _ _ I=>zub E q A F r bc s i k _ _ 0 J I) ?_;rintro _ _ ⟨rfl,rfl⟩;exact⟨rfl,_,_,results2 rfl (zB (B:=[.slice a p.parts.length c,zW p.realm]) rfl (ty rfl) rfl En Em rfl) (zcA rfl (ty rfl) rfl En rfl),q_h,.inl ⟨p,j,k,a,c,G,hk,H,rfl,rfl⟩⟩
theorem zsF(r:Nat)(s:Bs)(i:Nat)(w:World)(hL:Holds w.heap.size (OwnOf [zh r s i]) [zh r s i] w)(hs:BsF w (OwnOf [zh r s i]) s)(hi:i<=s.n)(hb:s.n<1000000):
  Sy.Fn Tryz.prog 202 [.pointer (some ⟨r,0,none⟩)] w (OwnOf [zh r s i]) (zkM r s i):=by
 refine zaT Tryz.func202 rfl Tryz.ntmps202 q_p hL ?_;have c4:=λj hr=>ztP r s i j hr;have b7:=λj (G:Keep (OwnOf [zh r s i]) w j) (K:∀b,OwnOf [zh r s i] b->w.heap.size<=b\/OwnOf [zh r s i] b) (A:Holds j.heap.size (OwnOf [zh r s i]) [zh r s i] j)=>zkZ r s i j A (hs.to G K) hi q_o;unfold zbs zfx at b7;rw[ze5] at b7;repeat' (first|refine s_0 ?_|refine ze 0 ?_;refine zi ?_;intro _;refine zi ?_;intro _;refine zi ?_;intro _)
 rename_i U S T;repeat' (first|refine s_0 ?_|refine ze 1 ?_;refine zl ?_;(refine q_s (zn (hc:=λj X G A=>c4 j (zq (A.has (r:=zh r s i) q_h) Em))) ?_;rintro _ _ ⟨R,rfl,bc,rfl,rfl⟩);refine zi ?_;intro _;refine zJ ?_)
 rename_i V;repeat' (first|refine s_0 ?_|refine ze 2 ?_;refine zl ?_;refine zaH ?_|refine ze 4 ?_;refine q_v zZ ?_|refine ziy (f:=258) (λI=>?_)|fail)
 simp only[Aa,AY];repeat' (first|refine ze 5 ?_;refine zl ?_;(refine q_s (zaY (f:=177) (C:=[zh r s i]) (Eo (r':=zh r s i) (by repeat (first|exact Ej|apply Ek)) rfl Er) (hc:=λj G hm A=>b7 j G hm A)) ?_;rintro _ _ ⟨R,rfl,(⟨cc,e7,k,u,R',h1,h2,h3,⟨H,sS,rfl,rfl,c2,h5,h6⟩,rfl,rfl⟩|⟨h1,e,u,W,rfl,rfl⟩)⟩);refine zf ?_|(refine zx ?_;first|refine zC ?_|fail)|fail)
 rotate_left
 ·repeat' (first|refine zH ?_|(refine zx ?_;first|refine za0 (hc:=λj _ _ _=>zoT u e W j) ?_|fail)|fail)
  refine(zdv r s i i w U S T V bc I (.slice none 0 0) (.string ByteArray.empty) _ W (zxk h1)).weaken q_h ?_
  (repeat' (first|exact El|apply Es;with_reducible (focus ((repeat (first|exact Ej|apply Ek));done))|apply Ez;(focus ((repeat (first|exact Ej|apply Ek));done))|apply Es;(focus ((repeat (first|exact Ej|apply Ek));done))|apply Ew;(focus ((repeat (first|exact Ej|apply Ek));done))|rfl))
  all_goals (repeat (first|exact Ep|apply Ex))
 have m:=zwV h1;dsimp only at m;have Q:=c2 _ _ hs;have b9:=Q.len;have c5:=λj (G:Keep (OwnOf [zh r s i]) w j) (K:∀b,OwnOf [zh H sS 0] b->w.heap.size<=b\/OwnOf [zh r s i] b) (A:Holds j.heap.size (OwnOf [zh H sS 0]) [zh H sS 0] j)=>zrc H sS 0 0 160 j rfl q_e A (Q.to G K) (AE _) q_o;repeat' (first|refine s_0 ?_|refine q_k 6 ?_;(refine zaL (f:=260) (C:=[zh H sS 0]) (Eo (r':=zh H sS 0) (by repeat (first|exact Ej|apply Ek)) rfl Er) (hc:=λj G hm A=>c5 j G hm A) ?_ ?_)|(refine zx ?_;first|refine q_v (za (hc:=λ_ _ _ _=>(zk0 _ _))) ?_|refine zo ?_|fail)|fail)
 rotate_left
 ·rintro _ _ ⟨e1,⟨e,W,rfl⟩,rfl⟩;rw[B9,h5] at e1;repeat' (first|refine zH ?_|fail)
  refine(zdv r s i k w U S T V bc I (.slice none 0 0) (.string ByteArray.empty) _ W (by rw[m,e1];rfl)).weaken q_h ?_
  (repeat' (first|exact El|apply Es;with_reducible (focus ((repeat (first|exact Ej|apply Ek));done))|apply Ez;(focus ((repeat (first|exact Ej|apply Ek));done))|apply Es;(focus ((repeat (first|exact Ej|apply Ek));done))|apply Ew;(focus ((repeat (first|exact Ej|apply Ek));done))|rfl))
  all_goals (repeat (first|exact Ep|apply Ex))
 rintro _ _ ⟨px,c3,k1,_,e1,e2,e3,⟨P,F,rfl,rfl,q1,q2,q3⟩,rfl⟩;rw[B9,h5] at e1;rw[e1] at m;dsimp only[Option.bind_some] at m;subst q2;repeat' (first|refine s_t ?_|(refine zx ?_;first|refine zo ?_|fail)|fail)
 have b6:=q1 _ _ Q;have a6:=b6.len;refine zcN (zbZ 9 1) ?_;refine zX (γ:=Nat×List (List UInt8)×Option Addr×Nat) (λg=>[(2,.pointer (some ⟨S,0,none⟩)),(3,.pointer (some ⟨T,0,none⟩)),(1,.pointer (some ⟨U,0,none⟩)),(4,.pointer (some ⟨V,0,none⟩)),(5,.pointer (some ⟨H,0,none⟩)),(6,.pointer (some ⟨P,0,none⟩))])
  (λg=> .row (.slice g.2.2.1 g.2.1.length g.2.2.2) 9 1 g.2.1.length (g.2.1.map zW)::zh P F g.1:: .blk S 43 [.slice g.2.2.1 g.2.1.length g.2.2.2,.string ByteArray.empty]:: .blk V 80 [.pointer (some ⟨bc,0,none⟩)]:: .blk U 80 [.pointer (some ⟨r,0,none⟩)]:: .blk T 26 [.int .i64 0]::zh r s k::zh bc s i::zh H sS k1::I.map dob)
  (λg=>g.1<=F.n/\g.2.1.length<=g.1/\(∀x∈g.2.1,x.length<=F.n)/\zb1 F.l=(zb1 (F.l.drop g.1)).map (g.2.1 ++ ·)) (λg=>F.n-g.1) (0,[],none,0) ⟨AE _,A8 _,(λ_ h=>by cases h),by simp⟩ ?_ ?_ ?_
 ·exact q_h
 ·(repeat' (first|exact El|apply Es;with_reducible (focus ((repeat (first|exact Ej|apply Ek));done))|apply Ez;(focus ((repeat (first|exact Ej|apply Ek));done))|apply Es;(focus ((repeat (first|exact Ej|apply Ek));done))|apply Ew;(focus ((repeat (first|exact Ej|apply Ek));done))|rfl))
  all_goals (repeat (first|exact Ep|apply Ex))
 rintro⟨M,E,N,O⟩ ⟨a9,c7,Y,Z⟩;dsimp only at a9 c7 Y Z ⊢;have c0:=λj hr=>zc5 P F M j hr a9 b6.cap;by_cases hz:F.n-M=0
 ·have g:decide (((F.n-M:Nat):Int)>0)=false:=q_f;have e0:zb1 F.l=some E:=by
   rw[Z,(zaM a6).2 hz,zj8];simp
  rw[e0] at m;dsimp only[Option.bind_some] at m;have c6:=λj (G:Keep (OwnOf [zh r s i]) w j) (K:∀b,OwnOf [zh H sS k1] b->w.heap.size<=b\/OwnOf [zh r s i] b) (A:Holds j.heap.size (OwnOf [zh H sS k1]) [zh H sS k1] j)=>zrZ H sS k1 1 161 j rfl q_e A (Q.to G K) e2 q_o;repeat' (first|refine s_0 ?_|refine q_k 7 ?_;refine q_v (za (hc:=λj X G A=>c0 j (zq (A.has (r:=zh P F M) q_h) Em))) ?_;refine q_v (zF (hr:=g)) ?_|refine q_k 9 ?_;(refine zaL (f:=263) (C:=[zh H sS k1]) (Eo (r':=zh H sS k1) (by repeat (first|exact Ej|apply Ek)) rfl Er) (hc:=λj G hm A=>c6 j G hm A) ?_ ?_))
  rotate_left
  ·rintro _ _ ⟨f1,⟨e,W,rfl⟩,rfl⟩;rw[e3] at f1;repeat' (first|refine zH ?_|fail)
   refine(zdv r s i k w U S T V bc I (.slice N E.length O) (.string ByteArray.empty) _ W (by rw[m,f1];rfl)).weaken q_h ?_
   (repeat' (first|exact El|apply Es;with_reducible (focus ((repeat (first|exact Ej|apply Ek));done))|apply Ez;(focus ((repeat (first|exact Ej|apply Ek));done))|apply Es;(focus ((repeat (first|exact Ej|apply Ek));done))|apply Ew;(focus ((repeat (first|exact Ej|apply Ek));done))|rfl))
   all_goals (repeat (first|exact Ep|apply Ex))
  rintro _ _ ⟨J,e6,k2,_,f1,f2,f3,⟨rfl,rfl⟩,rfl⟩;rw[e3] at f1;rw[f1] at m;dsimp only[Option.bind_some] at m;obtain⟨d,hd,c1⟩:=zej;have b0:=λj hr=>zc5 H sS k2 j hr f2 Q.cap;have h4:=zsV f1;have e8:c3.length<=sS.n:=by rw[<-e3,Az];omega
  by_cases hz2:sS.n-k2=0
  ·have e4:e6= []:=by rw[<-f3];exact(zaM b9).2 hz2
   have g2:decide (((sS.n-k2:Nat):Int)>0)=false:=q_f;have a7:=λj h=>zfF (za1 N O ⟨E,J⟩) ⟨E,J⟩ j h (by dsimp only;omega) (by dsimp only;omega) (λx hx=>by have:=Y x hx;omega);rw[e4] at m;have b8:∀ {j:World}{X L:List Res},Holds w.heap.size (OwnOf [zh r s i]) (L++X) j->Has L (.row (.slice N E.length O) 9 1 E.length (E.map zW))->PrinIn j (za1 N O ⟨E,J⟩) ⟨E,J⟩:=λA hL=>ztI A hL (by show E.length<=maxLen;unfold maxLen;omega) ⟨by dsimp only;unfold maxLen;omega,λx hx=>by have:=Y x hx;unfold maxLen;omega⟩;obtain⟨e5,d8⟩:∃y,(Prin.mk E J).ok=y:=⟨_,rfl⟩;rw[d8] at a7 m;have d9:za1 N O ⟨E,J⟩= [.slice N E.length O,zW J]:=rfl;rw[d9] at a7 b8;cases e5 with
   |true=>
    rw[if_pos ⟨rfl,rfl⟩] at m;repeat' (first|refine s_0 ?_|refine q_k 10 ?_;refine q_v (za (hc:=λj X G A=>b0 j (zq (A.has (r:=zh H sS k2) q_h) Em))) ?_;refine q_x (zF (hr:=g2)) ?_;refine q_v (zd (B:=[.slice N E.length O,zW J]) (hv:=Em)) ?_;refine q_v (za (hc:=λj X G A=>a7 j (b8 A En))) ?_;refine zI ?_;refine zf ?_|refine ze 12 ?_;refine q_v (zd (B:=[.slice N E.length O,zW J]) (hv:=Em)) ?_;refine q_n (zA (B:=[.slice N E.length O,zW J]) (h1:=rfl)) ?_;refine zJ ?_|(refine zx ?_;first|refine q_n (zaK (v:=zW J) (hC:=⟨A6 rfl,rfl⟩)) ?_|refine za3 ?_|fail)|fail)
    refine(zpT r s i k w U S T V bc I N O ⟨E,J⟩ e7 m h2 h3).weaken q_h ?_
    (repeat' (first|exact El|apply Es;with_reducible (focus ((repeat (first|exact Ej|apply Ek));done))|apply Ez;(focus ((repeat (first|exact Ej|apply Ek));done))|apply Es;(focus ((repeat (first|exact Ej|apply Ek));done))|apply Ew;(focus ((repeat (first|exact Ej|apply Ek));done))|rfl))
    all_goals (repeat (first|exact Ep|apply Ex))
   |false=>
    rw[if_neg (λh=>by cases h.2)] at m;repeat' (first|refine s_0 ?_|refine q_k 10 ?_;refine q_v (za (hc:=λj X G A=>b0 j (zq (A.has (r:=zh H sS k2) q_h) Em))) ?_;refine q_x (zF (hr:=g2)) ?_;refine q_v (zd (B:=[.slice N E.length O,zW J]) (hv:=Em)) ?_;refine q_v (za (hc:=λj X G A=>a7 j (b8 A En))) ?_;refine zI ?_;refine zf ?_|refine ze 11 ?_|refine q_v (zbi hd c1) ?_|refine zbS ?_|refine zH ?_|(refine zx ?_;first|refine q_n (zaK (v:=zW J) (hC:=⟨A6 rfl,rfl⟩)) ?_|refine za3 ?_|fail)|fail)
    refine(zdv r s i k w U S T V bc I (.slice N E.length O) (zW J) _ (by decide:(6:Int)≠0) m).weaken q_h ?_
    (repeat' (first|exact El|apply Es;with_reducible (focus ((repeat (first|exact Ej|apply Ek));done))|apply Ez;(focus ((repeat (first|exact Ej|apply Ek));done))|apply Es;(focus ((repeat (first|exact Ej|apply Ek));done))|apply Ew;(focus ((repeat (first|exact Ej|apply Ek));done))|rfl))
    all_goals (repeat (first|exact Ep|apply Ex))
  ·have g2:decide (((sS.n-k2:Nat):Int)>0)=true:=q_d;rw[if_neg (λh=>hz2 ((zaM b9).1 (by rw[f3];exact h.1)))] at m;repeat' (first|refine s_0 ?_|refine q_k 10 ?_;refine q_v (za (hc:=λj X G A=>b0 j (zq (A.has (r:=zh H sS k2) q_h) Em))) ?_;refine q_x (zF (hr:=g2)) ?_|refine ze 11 ?_|refine q_v (zbi hd c1) ?_|refine zbS ?_|refine zH ?_|(refine zx ?_;first|refine q_n (zaK (v:=zW J) (hC:=⟨A6 rfl,rfl⟩)) ?_|refine za3 ?_|fail)|fail)
   refine(zdv r s i k w U S T V bc I (.slice N E.length O) (zW J) _ (by decide:(6:Int)≠0) m).weaken q_h ?_
   (repeat' (first|exact El|apply Es;with_reducible (focus ((repeat (first|exact Ej|apply Ek));done))|apply Ez;(focus ((repeat (first|exact Ej|apply Ek));done))|apply Es;(focus ((repeat (first|exact Ej|apply Ek));done))|apply Ew;(focus ((repeat (first|exact Ej|apply Ek));done))|rfl))
   all_goals (repeat (first|exact Ep|apply Ex))
 ·have g:decide (((F.n-M:Nat):Int)>0)=true:=q_d;repeat' (first|refine s_t ?_|refine q_k 7 ?_;refine q_v (za (hc:=λj X G A=>c0 j (zq (A.has (r:=zh P F M) q_h) Em))) ?_;refine q_v (zF (hr:=g)) ?_)
  (refine zgB (id:=8) [0,0] true [(2,.pointer (some ⟨S,0,none⟩)),(3,.pointer (some ⟨T,0,none⟩))] [0,1,2] [(3,[4,5]),(6,[]),(7,[]),(8,[9]),(10,[])] mixed q_h ?_ ?_;kernel_rfl;refine ygv zP (k:=?_);refine ygv zM (k:=?_);refine ygv zar (k:=?_);refine yg0 ?_;try refine yg0 ?_;try refine yg0 ?_;try refine yg0 ?_;try refine yg0 ?_;try refine zlp ?_)
  have b5:=λj (G:Keep (OwnOf [zh r s i]) w j) (K:∀b,OwnOf [zh P F M] b->w.heap.size<=b\/OwnOf [zh r s i] b) (A:Holds j.heap.size (OwnOf [zh P F M]) [zh P F M] j)=>zpp P F M j A (b6.to G K) a9 q_o;unfold zbs at b5;rw[ze5] at b5;refine yhs (zaY (f:=262) (C:=[zh P F M]) (Eo (r':=zh P F M) (by repeat (first|exact Ej|apply Ek)) rfl Er) (hc:=λj G hm A=>b5 j G hm A)) (k:=?_);rintro _ _ ⟨R,rfl,(⟨x,a8,k',u,R',t1,t2,t3,⟨rfl,rfl⟩,rfl,rfl⟩|⟨t1,e,u,W,rfl,rfl⟩)⟩
  ·have f9:=zfi t1;have e9:(F.l.drop M).length=F.n-M:=by rw[Az,a6]
   have f8:a8.length=F.n-k':=by rw[<-t3,Az,a6]
   refine ygv zan (k:=?_);refine ygv zan (k:=?_);refine yg0 ?_;refine yhv (za (hc:=λj X G A=>zld _ j)) (k:=?_);refine yg0 ?_;have hys:E.map zW++[zW x]=(E++[x]).map zW:=by simp
   have c8:E.length+1=(E++[x]).length:=by simp
   refine yhs zD (k:=?_);rintro _ _ ⟨bL,rfl,rfl⟩;refine yg0 ?_;refine yhs (zaB (hys:=hys) (hkm:=c8)) (k:=?_);rintro _ _ ⟨rfl,aN,cN,rfl⟩;refine ygv zP (k:=?_);refine yg0 ?_;refine yhn (zaK (v:=.slice aN (E++[x]).length cN) (hC:=⟨A6 rfl,rfl⟩)) (k:=?_);refine zlp ?_;repeat' (first|refine zaD ?_|refine zga ?_|fail)
   refine zQ (k',E++[x],aN,cN) ⟨t2,?_,?_,?_⟩ ?_ ?_ ?_
   ·show(E++[x]).length<=k';omega
   ·intro y hy;rcases Am.1 hy with h|h
    ·exact Y y h
    ·rw[AC.1 h];omega
   ·show zb1 F.l=(zb1 (F.l.drop k')).map ((E++[x]) ++ ·);rw[Z,zjj t1,t3];cases zb1 a8 with
    |none=>rfl
    |some q=>simp
   ·show F.n-k'<F.n-M;omega
   ·exact q_h
   ·(repeat' (first|exact El|apply Es;with_reducible (focus ((repeat (first|exact Ej|apply Ek));done))|apply Ez;(focus ((repeat (first|exact Ej|apply Ek));done))|apply Es;(focus ((repeat (first|exact Ej|apply Ek));done))|apply Ew;(focus ((repeat (first|exact Ej|apply Ek));done))|rfl))
    all_goals (repeat (first|exact Ep|apply Ex))
  ·refine ygv zan (k:=?_);refine ygv zan (k:=?_);refine yg0 ?_;refine yhp (M':=No) Er (λ_ h=>False.elim h) (hc:=λj X G A=>zpA u e W j) (f:=261) (hp:=?_) (k:=λ_ _ h=>False.elim h);rintro _ _ ⟨rfl,rfl⟩;have c9:zb1 F.l=none:=by
    rw[Z,zoE (λh=>hz ((zaM a6).1 h)) t1];rfl
   rw[c9] at m;repeat' (first|refine zH ?_|refine zbY ?_|fail)
   refine(zdv r s i k w U S T V bc I (.slice N E.length O) (.string ByteArray.empty) _ W m).weaken q_h ?_
   (repeat' (first|exact El|apply Es;with_reducible (focus ((repeat (first|exact Ej|apply Ek));done))|apply Ez;(focus ((repeat (first|exact Ej|apply Ek));done))|apply Es;(focus ((repeat (first|exact Ej|apply Ek));done))|apply Ew;(focus ((repeat (first|exact Ej|apply Ek));done))|rfl))
   all_goals (repeat (first|exact Ep|apply Ex))
end Go.Proofs.YtdnlngbjpdbffaaGreatDoor
