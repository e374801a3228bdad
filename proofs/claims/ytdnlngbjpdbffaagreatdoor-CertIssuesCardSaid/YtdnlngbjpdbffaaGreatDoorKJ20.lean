/- Lemmas of this proof. -/
import Derived.Test.YtdnlngbjpdbffaaGreatDoorKJ19
set_option maxRecDepth 10000
set_option linter.all false
namespace Go.Nt
open Go Go.Sy
def zap(p q x:Nat):Bool:=decide (0<x/\x<p/\x^q%p=1)
def zaF(l x:Nat):List UInt8:=List.replicate (l-nd 256 x) 0++byt x
theorem zbZ(l x:Nat)(h:nd 256 x<=l):(zaF l x).length=l:=by
 unfold zaF;rw[A2,AK,zf0];omega
end Go.Nt
namespace Go.Proofs.YtdnlngbjpdbffaaGreatDoor
open Go Go.Sy Go.Nt Go.RowKit
attribute [local irreducible] Sy SyL SyX Sy.Fn callFunc zf z8 zab gP gQ gL gS zdD zap
theorem zjt(p q l x e:Nat)(w:World)(m:p<18446744073709551616^16)(h0:0<p)(hx:x<18446744073709551616^16)(he:e<18446744073709551616^16):
  q_G 192 [zcu p q l,zm x,zm e] w (zm (x^e%p)):=by
 refine zo Tryz.func192 Tryz.ntmps192 ?_;have A:=zY p q l;have C:=zd p;have F:=zd x;have le:=zd e;have j:=zb8 p q l;have hex:=λt=>zvU x e p t hx he m;unfold zco at hex;simp only[if_neg (show ¬p=0 by omega)] at hex;have E:=zd (x^e%p);generalize x^e%p=r at*;repeat' (first|refine s_0 ?_|refine zg 0 ?_;refine zi ?_;intro _;refine zi ?_;intro _;refine zi ?_;intro _;refine zi ?_;intro _|refine zg 1 ?_;refine q_v (ze (B:=zf x)) ?_;refine q_x (ze (B:=zf e)) ?_;refine q_v (ze (B:=zf p) (hv:=j)) ?_;refine q_v (za (hc:=q_c hex)) ?_;refine zb ?_;refine zi ?_;intro _;refine q_y (zj (n:=r)) ?_|refine zg 2 ?_;refine q_v (ze (B:=zf r)) ?_;refine q_n (zj (n:=r)) ?_)
 exact zaw rfl (zz (B:=zf r) rfl (ty rfl) rfl F4 F0 (zd _).symm) F2 ⟨rfl,rfl⟩
theorem zds(p q l x:Nat)(w:World)(m:q<18446744073709551616^16)(hx:x<18446744073709551616^16):
  q_G 190 [zcu p q l,zm x] w (.bool (decide (x<q))):=by
 refine zo Tryz.func190 Tryz.ntmps190 ?_;have t:=zY p q l;have A:=zd q;have C:=zd x;have j:=zb6 p q l;have hc:=λr=>zc7 x q r hx m;have hr:decide (za0 x q<0)=decide (x<q):=decide_eq_decide.2 (by
  unfold za0;by_cases h:x<q
  ·rw[if_pos h];exact⟨λ_=>h,λ_=>by decide⟩
  ·rw[if_neg h];split <;> omega)
 repeat' (first|refine s_0 ?_|refine zg 0 ?_;refine zi ?_;intro _;refine zV ?_;intro _|refine zg 1 ?_;refine q_x (ze (B:=zf x)) ?_;refine q_v (ze (B:=zf q) (hv:=j)) ?_;refine q_v (za (hc:=q_c hc)) ?_;refine q_x (zl (hr:=hr)) ?_)
 exact q_r
theorem zs1{x y:Nat}(h:x<=y):za0 x y<=0:=by
 unfold za0;by_cases h1:x<y
 ·rw[if_pos h1];decide
 ·rw[if_neg h1];split <;> omega
theorem zev(p q l x:Nat)(w:World)(C:p<18446744073709551616^16)(I:q<18446744073709551616^16)(h0:0<p)(hx:x<18446744073709551616^16):
  q_G 188 [zcu p q l,zm x] w (.bool (zap p q x)):=by
 refine zo Tryz.func188 Tryz.ntmps188 ?_;have K:=zY p q l;have L:=zd p;have M:=zd q;have N:=zd x;have J:=zd 1;have m:=zb8 p q l;have G:=zb6 p q l;have t:=λj=>zc6 x j hx;have hc:=λj=>zc7 p x j C hx;rcases AD x with h|h
 ·subst h;have A:zap p q 0=false:=by unfold zap;exact decide_eq_false (λh=>absurd h.1 q_o)
  rw[A];repeat' (first|refine s_0 ?_|refine zg 0 ?_;refine zi ?_;intro _;refine zV ?_;intro _|refine zg 1 ?_;refine q_v (ze (B:=zf 0)) ?_;refine q_v (za (hc:=q_c t)) ?_;refine zb ?_|refine q_k 2 ?_)
  exact q_r
 simp only[decide_eq_false (show ¬x=0 by omega)] at t;by_cases hxp:x<p
 ·have g1:decide (za0 p x<=0)=false:=by rw[ziV hxp];rfl
  have E:=λj=>zjt p q l x q j C h0 hx I;have f1:=λj=>zhw 1 j q_e;have F:=AS (A7 (x^q) h0) C;have hr:decide (x^q%p=1)=zap p q x:=by
   unfold zap;exact decide_eq_decide.2 ⟨λe=>⟨h,hxp,e⟩,λe=>e.2.2⟩
  generalize za0 p x=H,x^q%p=r,zap p q x=b at*;repeat' (first|refine s_0 ?_|refine zg 0 ?_;refine zi ?_;intro _;refine zV ?_;intro _|refine zg 1 ?_;refine q_v (ze (B:=zf x)) ?_;refine q_v (za (hc:=q_c t)) ?_;refine zb ?_;refine q_v (ze (B:=zf p) (hv:=m)) ?_;refine q_v (ze (B:=zf x)) ?_;refine q_v (za (hc:=q_c hc)) ?_;refine q_x (zax (hr:=g1)) ?_|refine zg 3 ?_;refine q_v (za (hc:=q_c f1)) ?_;refine zb ?_;refine zi ?_;intro _;refine q_y (zj (n:=1)) ?_|refine z5 (id:=4) 6 [[],[],[],[2],[0,1,2,3],[],[0,1,2,3,4,5],[0,1,2,3,4,5,6]] mixed ?_ ?_;kernel_rfl;refine q_D (ze (B:=zab p q l)) ?_;refine q_D (ze (B:=zf x)) ?_;refine q_D zO ?_;refine q_D (ze (B:=zf q) (hv:=G)) ?_;refine q_D (za (hc:=q_c E)) ?_;refine q_D (ze (B:=zf 1)) ?_;refine zam ?_;refine q_v (zmw (a:=r) (b:=1) (r:=b) zuh F q_e hr) ?_;refine zB ?_|fail)
  exact q_r
 ·have g1:decide (za0 p x<=0)=true:=decide_eq_true (zs1 q_o);have A:zap p q x=false:=by unfold zap;exact decide_eq_false (λh=>hxp h.2.1)
  rw[A];generalize za0 p x=H at*;repeat' (first|refine s_0 ?_|refine zg 0 ?_;refine zi ?_;intro _;refine zV ?_;intro _|refine zg 1 ?_;refine q_v (ze (B:=zf x)) ?_;refine q_v (za (hc:=q_c t)) ?_;refine zb ?_;refine q_v (ze (B:=zf p) (hv:=m)) ?_;refine q_v (ze (B:=zf x)) ?_;refine q_v (za (hc:=q_c hc)) ?_;refine q_x (zax (hr:=g1)) ?_|refine q_k 2 ?_)
  exact q_r
theorem zoZ(p q l x bc r f:Nat)(b:Bool)(w:World)(j:∀args w,(callFunc f args).run Tryz.prog w= .ok (.enter f args) w)(t:∀m,q_G f [zcu p q l,zm x] m (.bool b))
  (hc:w.cell? ⟨bc,0,none⟩=some (.func (.func f) #[] #[]))(A:w.rangeAt r 0 (zab p q l)):
  q_G 251 [zm x,.pointer (some ⟨bc,0,none⟩),.pointer (some ⟨r,0,none⟩)] w (.bool b):=by
 refine zo Tryz.func251 Tryz.ntmps251 ?_;have F:=zY p q l;have G:=zd x;repeat' (first|refine s_0 ?_|refine zg 0 ?_;refine zV ?_;intro _|refine zg 1 ?_;refine q_v (zn (hv:=hc)) ?_;refine q_v (z9 (B:=zab p q l) (hv:=A)) ?_;refine q_v (ze (B:=zf x)) ?_;refine q_v (zem (he:=j) (fst:=[]) (cap:=[]) (hc:=λm X E C=>t m)) ?_;refine zb ?_)
 exact q_r
theorem zq0(p q l f n c J K:Nat)(xs:List Nat)(cond:Nat->Bool)(w:World)(hn:xs.length=n)(R:n<=1000)(G:∀args w,(callFunc f args).run Tryz.prog w= .ok (.enter f args) w)
  (P:∀x∈xs,∀I,q_G f [zcu p q l,zm x] I (.bool (cond x)))(S:w.rangeAt J K (z8 xs)):
  q_G 189 [zcu p q l,.func (.func f) #[] #[],.slice (some ⟨J,K,none⟩) n c] w (.int .i64 (if xs.all cond then 0 else 3)):=by
 refine zo Tryz.func189 Tryz.ntmps189 ?_;have T:=zY p q l;repeat' (first|refine s_t ?_|refine zg 0 ?_;refine zi ?_;intro _;refine zV ?_;intro _|refine zg 1 ?_;refine q_x zaj ?_|refine q_k 2 ?_)
 rename_i C E;refine zE (γ:=Nat) (λk=>[(7,.func (.func 251) #[] #[.pointer (some ⟨E,0,none⟩),.pointer (some ⟨C,0,none⟩)]),(11,.slice (some ⟨J,K,none⟩) n c),(12,.int .i64 n),(13,.int .i64 k)])
  (λ_=>[.blk E 203 [.func (.func f) #[] #[]],.blk C 194 (zab p q l)])
  (λk=>k<=n/\(xs.take k).all cond=true) (λk=>n-k) 0 ⟨AE _,rfl⟩ ?_ ?_ ?_
 ·exact q_h
 ·exact q_h
 rintro k ⟨O,m⟩;rcases AH k n with h|h
 ·obtain⟨x,L⟩:∃x,xs[k]?=some x:=⟨_,A1 q_o⟩;have F:w.rangeAt J (K+k*16) (zf x):=λj v Q=>by
   have:=S (k*16+j) v (zdw L j v Q);rwa[<-Az] at this
  have t:=P x (Bk L);have U:=zd x;have A:decide ((k:Int)<(n:Int))=true:=q_d;have N:xs.take (k+1)=xs.take k++[x]:=by
   rw[CB,L];rfl
  cases hcx:cond x with
  |true=>
   rw[hcx] at t;repeat' (first|refine s_t ?_|refine zg 3 ?_;refine q_v (zl (hr:=A)) ?_|refine zg 4 ?_;refine q_v (zbc (j:=k)) ?_;refine q_v (z9 (B:=zf x) (hv:=F)) ?_;refine zi ?_;intro _;refine q_n (zj (n:=x)) ?_|refine q_k 5 ?_;refine q_v (ze (B:=zf x)) ?_;refine q_v (zem (fst:=[]) (cap:=[.pointer (some ⟨E,0,none⟩),.pointer (some ⟨C,0,none⟩)]) (hc:=λI X O H=>zoZ p q l x E C f true I G t (zp (H.has (r:=.blk E 203 [.func (.func f) #[] #[]]) q_h) F0 0 _ rfl) (zp (H.has (r:=.blk C 194 (zab p q l)) q_h) F0))) ?_;refine zJ ?_|refine zg 7 ?_;refine zaI ?_;refine zb ?_)
   refine zy (k+1) ⟨h,by rw[N,Bc,m,BP,hcx];rfl⟩ ?_ ?_ ?_
   ·show n-(k+1)<n-k;omega
   ·exact q_h
   ·exact q_h
  |false=>
   rw[hcx] at t;have M:xs.all cond=false:=by
    rw[Bi];exact⟨x,Bk L,by rw[hcx];decide⟩
   rw[M];repeat' (first|refine s_t ?_|refine zg 3 ?_;refine q_v (zl (hr:=A)) ?_|refine zg 4 ?_;refine q_v (zbc (j:=k)) ?_;refine q_v (z9 (B:=zf x) (hv:=F)) ?_;refine zi ?_;intro _;refine q_n (zj (n:=x)) ?_|refine q_k 5 ?_;refine q_v (ze (B:=zf x)) ?_;refine q_v (zem (fst:=[]) (cap:=[.pointer (some ⟨E,0,none⟩),.pointer (some ⟨C,0,none⟩)]) (hc:=λI X O H=>zoZ p q l x E C f false I G t (zp (H.has (r:=.blk E 203 [.func (.func f) #[] #[]]) q_h) F0 0 _ rfl) (zp (H.has (r:=.blk C 194 (zab p q l)) q_h) F0))) ?_;refine zJ ?_|refine q_k 6 ?_)
   exact q_r
 ·obtain rfl:k=n:=q_o;rw[A6 q_o] at m;have A:decide ((k:Int)<(k:Int))=false:=q_f;rw[m];repeat' (first|refine s_0 ?_|refine zg 3 ?_;refine q_v (zl (hr:=A)) ?_|refine q_k 8 ?_)
  exact q_r
theorem ztl(p q l x:Nat)(w:World)(hx:x<18446744073709551616^16)(O:nd 256 x<=l)(H:l<=1000):
  Sy.Fn Tryz.prog 250 [zcu p q l,zm x] w No (zcK 5 l ((zaF l x).map v8)):=by
 refine zo Tryz.func250 Tryz.ntmps250 ?_;have P:=zY p q l;have Q:=zd x;have r:=zcG p q l;have E:=λG=>zmK x G hx;have A:=zf0 x;have hys:List.replicate (l-nd 256 x) (Value.int IntKind.u8 0)++(byt x).map v8=(zaF l x).map v8:=by
  unfold zaF;rw[Aw,Ba];rfl
 generalize nd 256 x=n,byt x=D,zaF l x=F at*;have t:IntKind.i64.wrap ((l:Int)-(n:Int))=((l-n:Nat):Int):=q_w;have j:List.replicate l (Value.int IntKind.u8 0)=List.replicate (l-n) (Value.int IntKind.u8 0)++List.replicate n (Value.int IntKind.u8 0):=by
  rw[Di];congr 1;omega
 unfold zcK;repeat' (first|refine s_0 ?_|refine zg 0 ?_;refine zi ?_;intro _;refine zV ?_;intro _|refine zg 1 ?_;refine q_v (ze (B:=zf x)) ?_;(refine q_s (zh (hc:=λG X N M=>E G)) ?_;rintro _ _ ⟨R,rfl,J,rfl,rfl⟩);refine zb ?_|refine q_k 2 ?_;refine q_x (zM (hv:=r)) ?_;refine q_x (zH (hr:=t)) ?_;refine q_v (zM (hv:=r)) ?_)
 refine q_s (zkk (n:=l-n) (c':=l) (EE _ _)) ?_;rintro _ _ ⟨K,rfl,rfl⟩;rw[j];repeat' (first|refine s_0 ?_|(refine zW ?_;first|refine q_s (Fh (zkg (n:=l-n) (c:=l) (s:=1) F1 (by rw[A2,AK,AK];omega) (EE _ _) (by unfold maxLen;omega) (by rw[AK,Af])) (zak (k:=l-n) (m:=n) (km:=l) (hL:=F1) (hr:=Rd.of (Fb (C:=D.map v8) (T:=5) F4 F0)) (hn:=by rw[A0,A,Af]) (hkm:=by omega) (hys:=hys))) ?_;rintro _ _ ⟨rfl,I,L,rfl⟩|refine zB ?_|refine zaS ?_|fail)|fail)
 exact q_r
theorem zi5(p q l f x b:Nat)(cond:Nat->Bool)(w:World)(j:∀args w,(callFunc f args).run Tryz.prog w= .ok (.enter f args) w)(r:∀m,q_G f [zcu p q l,zm x] m (.bool (cond x)))(h:w.rangeAt b 0 (z8 [x])):
  q_G 189 [zcu p q l,.func (.func f) #[] #[],.slice (some ⟨b,0,none⟩) 1 1] w (.int .i64 (if cond x=true then 0 else 3)):=by
 have:=zq0 p q l f 1 1 b 0 [x] cond w rfl q_e j (λy t m=>by rw[AF.1 t];exact r m) h;rw[BP,E9,Dp] at this;exact this
theorem zp2(p q l f x y b:Nat)(cond:Nat->Bool)(w:World)(m:∀args w,(callFunc f args).run Tryz.prog w= .ok (.enter f args) w)(t:∀j,(j=x\/j=y)->∀r,q_G f [zcu p q l,zm j] r (.bool (cond j)))(h:w.rangeAt b 0 (z8 [x,y])):
  q_G 189 [zcu p q l,.func (.func f) #[] #[],.slice (some ⟨b,0,none⟩) 2 2] w (.int .i64 (if (cond x&&cond y)=true then 0 else 3)):=by
 have:=zq0 p q l f 2 2 b 0 [x,y] cond w rfl q_e m (λz A r=>t z (by simpa using A) r) h;rw[BP,BP,E9,Dp] at this;exact this
theorem zpz(z:Int)(w:World)(hz:¬(1<=z/\z<=4)):q_G 129 [.int .i64 z] w (.tuple #[zm 0,.int .i64 2]):=by
 refine zo Tryz.func129 Tryz.ntmps129 ?_;have r:=zd 0;have q:=zY 0 0 0;have m:=zb8 0 0 0;have j:=zb6 0 0 0;repeat' (first|refine s_0 ?_|refine zg 0 ?_;refine zV ?_;intro _|refine q_k 1 ?_;refine q_v (za (hc:=λ_ _ _ _=>(zhn z _ hz))) ?_;refine zb ?_;refine zi ?_;intro _;refine q_y (zC (B:=zab 0 0 0) (hv:=zaU 0 0 0) (h1:=(zY 0 0 0).symm)) ?_|refine q_k 2 ?_;refine q_x (ze (B:=zf 0) (hv:=j)) ?_;refine q_y (zj (n:=0)) ?_)
 exact zad rfl (zz (B:=zf 0) rfl (ty rfl) rfl F4 F0 (zd _).symm) (zr rfl) F2 ⟨rfl,rfl⟩
theorem zrc(i:Nat)(w:World)(h0:1<=i)(j:i<=4)(A:GT w):
  q_G 129 [.int .i64 (i:Int)] w (.tuple #[zm (gQ i),.int .i64 0]):=by
 refine zo Tryz.func129 Tryz.ntmps129 ?_;have J:=zbw i h0 j;have C:=zba i h0 j;have F:=zbh i h0 j;have G:=za3 i h0 j;have m:=λt (E:Keep No w t)=>zcD i t h0 j (A.to E);generalize gL i=l,gQ i=q,gP i=p at*;have K:=zY p q l;have L:=zd p;have M:=zd q;have N:=zd 0;have I:=zb8 p q l;have r:=zb6 p q l;have H:=zcG p q l;repeat' (first|refine s_0 ?_|refine zg 0 ?_;refine zV ?_;intro _|refine q_k 1 ?_;refine q_v (za (hc:=zq m)) ?_;refine zb ?_;refine zi ?_;intro _;refine q_y (zC (B:=zab p q l) (hv:=zaU p q l) (h1:=(zY p q l).symm)) ?_|refine q_k 2 ?_;refine q_x (ze (B:=zf q) (hv:=r)) ?_;refine q_y (zj (n:=q)) ?_)
 exact zad rfl (zz (B:=zf q) rfl (ty rfl) rfl F4 F0 (zd _).symm) (zr rfl) F2 ⟨rfl,rfl⟩
theorem zsP(z:Int)(w:World)(hz:¬(1<=z/\z<=4)):q_G 270 [.int .i64 z] w (.int .i64 0):=by
 refine zo Tryz.func270 Tryz.ntmps270 ?_;have m:=zY 0 0 0;have j:=zcG 0 0 0;repeat' (first|refine s_0 ?_|refine q_k 0 ?_|refine q_k 1 ?_;refine q_v (za (hc:=λ_ _ _ _=>(zhn z _ hz))) ?_;refine zb ?_;refine zi ?_;intro _;refine q_y (zC (B:=zab 0 0 0) (hv:=zaU 0 0 0) (h1:=(zY 0 0 0).symm)) ?_|refine q_k 2 ?_;refine q_x (zM (hv:=j)) ?_)
 exact q_r
theorem zuR(i:Nat)(w:World)(h0:1<=i)(j:i<=4)(A:GT w):
  q_G 270 [.int .i64 (i:Int)] w (.int .i64 ((gL i:Nat):Int)):=by
 refine zo Tryz.func270 Tryz.ntmps270 ?_;have J:=zbw i h0 j;have C:=zba i h0 j;have F:=zbh i h0 j;have G:=za3 i h0 j;have m:=λt (E:Keep No w t)=>zcD i t h0 j (A.to E);generalize gL i=l,gQ i=q,gP i=p at*;have K:=zY p q l;have L:=zd p;have M:=zd q;have N:=zd 0;have H:=zb8 p q l;have I:=zb6 p q l;have r:=zcG p q l;repeat' (first|refine s_0 ?_|refine q_k 0 ?_|refine q_k 1 ?_;refine q_v (za (hc:=zq m)) ?_;refine zb ?_;refine zi ?_;intro _;refine q_y (zC (B:=zab p q l) (hv:=zaU p q l) (h1:=(zY p q l).symm)) ?_|refine q_k 2 ?_;refine q_x (zM (hv:=r)) ?_)
 exact q_r
theorem zh1(i:Nat)(e:Nat)(w:World)(h0:1<=i)(t:i<=4)(I:GT w)(he:e<18446744073709551616^16)(hc:e<gQ i):
  q_G 106 [.int .i64 (i:Int),zm e] w (.tuple #[zm (4^e%gP i),.int .i64 0]):=by
 refine zo Tryz.func106 Tryz.ntmps106 ?_;have le:=zd e;have J:=zbw i h0 t;have A:=zba i h0 t;have L:=zbh i h0 t;have M:=za3 i h0 t;have C:=λj (H:Keep No w j)=>zcD i j h0 t (I.to H);generalize gL i=l,gQ i=q,gP i=p at*;have S:=zY p q l;have T:=zd p;have U:=zd q;have W:=zd 0;have O:=zb8 p q l;have P:=zb6 p q l;have N:=zcG p q l;have m:=λj G (h:j.rangeAt G 0 (z8 [e]))=>zi5 p q l 190 e G (λy=>decide (y<q)) j (en rfl) (λF=>zds p q l e F A he) h;simp only[decide_eq_true hc,if_true] at m;have R:=zd 4;have f4:=λj=>zhw 4 j q_e;have E:=λj=>zjt p q l 4 e j J q_o q_e he;have V:=zd (4^e%p);generalize 4^e%p=r at*;repeat' (first|refine s_0 ?_|refine zg 0 ?_;refine zi ?_;intro _;refine zV ?_;intro _|refine q_k 1 ?_;refine q_v (za (hc:=zq C)) ?_;refine zb ?_;refine zi ?_;intro _;refine q_y (zC (B:=zab p q l) (hv:=zaU p q l) (h1:=(zY p q l).symm)) ?_|refine q_k 2 ?_;refine zat ?_|refine zg 4 ?_;refine q_v (ze (B:=zab p q l)) ?_;refine q_v (ze (B:=zf e)) ?_|refine q_k 5 ?_;refine zat ?_|refine zg 7 ?_;refine q_v (za (hc:=q_c f4)) ?_;refine zb ?_;refine zi ?_;intro _;refine q_y (zj (n:=4)) ?_|refine zg 8 ?_;refine q_v (ze (B:=zab p q l)) ?_;refine q_v (ze (B:=zf 4)) ?_;refine q_v (ze (B:=zf e)) ?_;refine q_v (za (hc:=q_c E)) ?_;refine q_y (zj (n:=r)) ?_|refine q_s (zbR (x:=e)) ?_;rintro _ _ ⟨Q,rfl,rfl⟩|(refine zW ?_;first|refine q_v (za (hc:=λj X H K=>m j _ (zp (K.has (by exact F5 F6)) F0))) ?_|refine zB ?_|fail)|fail)
 exact zad rfl (zz (B:=zf r) rfl (ty rfl) rfl F4 F0 (zd _).symm) (zr rfl) F2 ⟨rfl,rfl⟩
theorem zvc(i:Nat)(x:Nat)(e:Nat)(w:World)(h0:1<=i)(E:i<=4)(M:GT w)(hx:x<18446744073709551616^16)(he:e<18446744073709551616^16)(hc:zap (gP i) (gQ i) x=true)(N:e<gQ i):
  q_G 137 [.int .i64 (i:Int),zm x,zm e] w (.tuple #[zm (x^e%gP i),.int .i64 0]):=by
 refine zo Tryz.func137 Tryz.ntmps137 ?_;have Y:=zd x;have le:=zd e;have K:=zbw i h0 E;have F:=zba i h0 E;have O:=zbh i h0 E;have P:=za3 i h0 E;have G:=λj (I:Keep No w j)=>zcD i j h0 E (M.to I);generalize gL i=l,gQ i=q,gP i=p at*;have T:=zY p q l;have U:=zd p;have V:=zd q;have Z:=zd 0;have R:=zb8 p q l;have S:=zb6 p q l;have Q:=zcG p q l;have t:=λj C (h:j.rangeAt C 0 (z8 [x]))=>zi5 p q l 188 x C (zap p q) j (en rfl) (λA=>zev p q l x A K F q_o hx) h;simp only[hc,if_true] at t;have m:=λj C (h:j.rangeAt C 0 (z8 [e]))=>zi5 p q l 190 e C (λy=>decide (y<q)) j (en rfl) (λA=>zds p q l e A F he) h;simp only[decide_eq_true N,if_true] at m;have J:=λj=>zjt p q l x e j K q_o hx he;have W:=zd (x^e%p);generalize x^e%p=r at*;repeat' (first|refine s_0 ?_|refine zg 0 ?_;refine zi ?_;intro _;refine zi ?_;intro _;refine zV ?_;intro _|refine q_k 1 ?_;refine q_v (za (hc:=zq G)) ?_;refine zb ?_;refine zi ?_;intro _;refine q_y (zC (B:=zab p q l) (hv:=zaU p q l) (h1:=(zY p q l).symm)) ?_|refine q_k 2 ?_;refine zat ?_|refine zg 4 ?_;refine q_v (ze (B:=zab p q l)) ?_;refine q_v (ze (B:=zf x)) ?_|refine q_k 5 ?_;refine zat ?_|refine zg 7 ?_;refine q_v (ze (B:=zab p q l)) ?_;refine q_v (ze (B:=zf e)) ?_|refine q_k 8 ?_;refine zat ?_|refine zg 10 ?_;refine q_v (ze (B:=zab p q l)) ?_;refine q_v (ze (B:=zf x)) ?_;refine q_v (ze (B:=zf e)) ?_;refine q_v (za (hc:=q_c J)) ?_;refine q_y (zj (n:=r)) ?_|refine q_s (zbR (x:=x)) ?_;rintro _ _ ⟨L,rfl,rfl⟩|refine q_s (zbR (x:=e)) ?_;rintro _ _ ⟨L,rfl,rfl⟩|(refine zW ?_;first|refine q_v (za (hc:=λj X I H=>t j _ (zp (H.has (by exact F5 F6)) F0))) ?_|refine q_v (za (hc:=λj X I H=>m j _ (zp (H.has (by exact F5 F6)) F0))) ?_|refine zB ?_|fail)|fail)
 exact zad rfl (zz (B:=zf r) rfl (ty rfl) rfl F4 F0 (zd _).symm) (zr rfl) F2 ⟨rfl,rfl⟩
theorem zu9(i:Nat)(x:Nat)(y:Nat)(w:World)(h0:1<=i)(m:i<=4)(N:GT w)(hx:x<18446744073709551616^16)(M:y<18446744073709551616^16)(hc:(zap (gP i) (gQ i) x&&zap (gP i) (gQ i) y)=true):
  q_G 139 [.int .i64 (i:Int),zm x,zm y] w (.tuple #[zm (x*y%gP i),.int .i64 0]):=by
 refine zo Tryz.func139 Tryz.ntmps139 ?_;have Z:=zd x;have ly:=zd y;have K:=zbw i h0 m;have C:=zba i h0 m;have P:=zbh i h0 m;have Q:=za3 i h0 m;have E:=λj (L:Keep No w j)=>zcD i j h0 m (N.to L);generalize gL i=l,gQ i=q,gP i=p at*;have U:=zY p q l;have V:=zd p;have W:=zd q;have lz:=zd 0;have G:=zb8 p q l;have S:=zb6 p q l;have R:=zcG p q l;have t:=λj J (h:j.rangeAt J 0 (z8 [x,y]))=>zp2 p q l 188 x y J (zap p q) j (en rfl) (λx' H I=>by
  have A:x'<18446744073709551616^16:=by
   rcases H with rfl|rfl
   ·exact hx
   ·exact M
  exact zev p q l x' I K C q_o A) h
 simp only[hc,if_true] at t;have F:=λj=>zkT x y p j hx M K;unfold zco at F;simp only[if_neg (show ¬p=0 by omega)] at F;have Y:=zd (x*y%p);generalize x*y%p=r at*;repeat' (first|refine s_0 ?_|refine zg 0 ?_;refine zi ?_;intro _;refine zi ?_;intro _;refine zV ?_;intro _|refine q_k 1 ?_;refine q_v (za (hc:=zq E)) ?_;refine zb ?_;refine zi ?_;intro _;refine q_y (zC (B:=zab p q l) (hv:=zaU p q l) (h1:=(zY p q l).symm)) ?_|refine q_k 2 ?_;refine zat ?_|refine zg 4 ?_;refine q_v (ze (B:=zab p q l)) ?_;refine q_v (ze (B:=zf x)) ?_;refine q_v (ze (B:=zf y)) ?_|refine q_k 5 ?_;refine zat ?_|refine zg 7 ?_;refine q_v (ze (B:=zf x)) ?_;refine q_x (ze (B:=zf y)) ?_;refine q_v (ze (B:=zf p) (hv:=G)) ?_;refine q_v (za (hc:=q_c F)) ?_;refine zb ?_;refine q_y (zj (n:=r)) ?_|refine q_s (zes (x:=x) (x':=y)) ?_;rintro _ _ ⟨T,rfl,rfl⟩|(refine zW ?_;first|refine q_v (za (hc:=λj X L O=>t j _ (zp (O.has (by exact F5 F6)) F0))) ?_|refine zB ?_|fail)|fail)
 exact zad rfl (zz (B:=zf r) rfl (ty rfl) rfl F4 F0 (zd _).symm) (zr rfl) F2 ⟨rfl,rfl⟩
theorem zsX(i:Nat)(x:Nat)(y:Nat)(w:World)(h0:1<=i)(m:i<=4)(M:GT w)(hx:x<18446744073709551616^16)(L:y<18446744073709551616^16)(hc:(decide (x<gQ i)&&decide (y<gQ i))=true):
  q_G 107 [.int .i64 (i:Int),zm x,zm y] w (.tuple #[zm ((x+y)%gQ i),.int .i64 0]):=by
 refine zo Tryz.func107 Tryz.ntmps107 ?_;have Z:=zd x;have ly:=zd y;have T:=zbw i h0 m;have t:=zba i h0 m;have O:=zbh i h0 m;have P:=za3 i h0 m;have E:=λj (K:Keep No w j)=>zcD i j h0 m (M.to K);generalize gL i=l,gQ i=q,gP i=p at*;have U:=zY p q l;have V:=zd p;have W:=zd q;have lz:=zd 0;have R:=zb8 p q l;have G:=zb6 p q l;have Q:=zcG p q l;have A:=λj J (h:j.rangeAt J 0 (z8 [x,y]))=>zp2 p q l 190 x y J (λy=>decide (y<q)) j (en rfl) (λx' H I=>by
  have C:x'<18446744073709551616^16:=by
   rcases H with rfl|rfl
   ·exact hx
   ·exact L
  exact zds p q l x' I t C) h
 simp only[hc,if_true] at A;have F:=λj=>zpj x y q j hx L t;unfold zco at F;simp only[if_neg (show ¬q=0 by omega)] at F;have Y:=zd ((x+y)%q);generalize (x+y)%q=r at*;repeat' (first|refine s_0 ?_|refine zg 0 ?_;refine zi ?_;intro _;refine zi ?_;intro _;refine zV ?_;intro _|refine q_k 1 ?_;refine q_v (za (hc:=zq E)) ?_;refine zb ?_;refine zi ?_;intro _;refine q_y (zC (B:=zab p q l) (hv:=zaU p q l) (h1:=(zY p q l).symm)) ?_|refine q_k 2 ?_;refine zat ?_|refine zg 4 ?_;refine q_v (ze (B:=zab p q l)) ?_;refine q_v (ze (B:=zf x)) ?_;refine q_v (ze (B:=zf y)) ?_|refine q_k 5 ?_;refine zat ?_|refine zg 7 ?_;refine q_v (ze (B:=zf x)) ?_;refine q_x (ze (B:=zf y)) ?_;refine q_v (ze (B:=zf q) (hv:=G)) ?_;refine q_v (za (hc:=q_c F)) ?_;refine zb ?_;refine q_y (zj (n:=r)) ?_|refine q_s (zes (x:=x) (x':=y)) ?_;rintro _ _ ⟨S,rfl,rfl⟩|(refine zW ?_;first|refine q_v (za (hc:=λj X K N=>A j _ (zp (N.has (by exact F5 F6)) F0))) ?_|refine zB ?_|fail)|fail)
 exact zad rfl (zz (B:=zf r) rfl (ty rfl) rfl F4 F0 (zd _).symm) (zr rfl) F2 ⟨rfl,rfl⟩
theorem zs2(i:Nat)(x:Nat)(y:Nat)(w:World)(h0:1<=i)(m:i<=4)(M:GT w)(hx:x<18446744073709551616^16)(L:y<18446744073709551616^16)(hc:(decide (x<gQ i)&&decide (y<gQ i))=true):
  q_G 108 [.int .i64 (i:Int),zm x,zm y] w (.tuple #[zm (x*y%gQ i),.int .i64 0]):=by
 refine zo Tryz.func108 Tryz.ntmps108 ?_;have Z:=zd x;have ly:=zd y;have T:=zbw i h0 m;have t:=zba i h0 m;have O:=zbh i h0 m;have P:=za3 i h0 m;have E:=λj (K:Keep No w j)=>zcD i j h0 m (M.to K);generalize gL i=l,gQ i=q,gP i=p at*;have U:=zY p q l;have V:=zd p;have W:=zd q;have lz:=zd 0;have R:=zb8 p q l;have G:=zb6 p q l;have Q:=zcG p q l;have A:=λj J (h:j.rangeAt J 0 (z8 [x,y]))=>zp2 p q l 190 x y J (λy=>decide (y<q)) j (en rfl) (λx' H I=>by
  have C:x'<18446744073709551616^16:=by
   rcases H with rfl|rfl
   ·exact hx
   ·exact L
  exact zds p q l x' I t C) h
 simp only[hc,if_true] at A;have F:=λj=>zkT x y q j hx L t;unfold zco at F;simp only[if_neg (show ¬q=0 by omega)] at F;have Y:=zd (x*y%q);generalize x*y%q=r at*;repeat' (first|refine s_0 ?_|refine zg 0 ?_;refine zi ?_;intro _;refine zi ?_;intro _;refine zV ?_;intro _|refine q_k 1 ?_;refine q_v (za (hc:=zq E)) ?_;refine zb ?_;refine zi ?_;intro _;refine q_y (zC (B:=zab p q l) (hv:=zaU p q l) (h1:=(zY p q l).symm)) ?_|refine q_k 2 ?_;refine zat ?_|refine zg 4 ?_;refine q_v (ze (B:=zab p q l)) ?_;refine q_v (ze (B:=zf x)) ?_;refine q_v (ze (B:=zf y)) ?_|refine q_k 5 ?_;refine zat ?_|refine zg 7 ?_;refine q_v (ze (B:=zf x)) ?_;refine q_x (ze (B:=zf y)) ?_;refine q_v (ze (B:=zf q) (hv:=G)) ?_;refine q_v (za (hc:=q_c F)) ?_;refine zb ?_;refine q_y (zj (n:=r)) ?_|refine q_s (zes (x:=x) (x':=y)) ?_;rintro _ _ ⟨S,rfl,rfl⟩|(refine zW ?_;first|refine q_v (za (hc:=λj X K N=>A j _ (zp (N.has (by exact F5 F6)) F0))) ?_|refine zB ?_|fail)|fail)
 exact zad rfl (zz (B:=zf r) rfl (ty rfl) rfl F4 F0 (zd _).symm) (zr rfl) F2 ⟨rfl,rfl⟩
theorem zbq{i x:Nat} :zap (gP i) (gQ i) x=true↔mem i x:=by
 unfold zap mem;exact decide_eq_true_iff
end Go.Proofs.YtdnlngbjpdbffaaGreatDoor
