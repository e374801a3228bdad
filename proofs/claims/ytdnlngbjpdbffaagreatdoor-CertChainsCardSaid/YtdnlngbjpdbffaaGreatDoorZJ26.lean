/- Lemmas. -/
import Derived.Test.YtdnlngbjpdbffaaGreatDoorZJ25
import Derived.SliceStrings
set_option maxHeartbeats 2000000
set_option maxRecDepth 10000
set_option linter.all false
namespace Go.Proofs.YtdnlngbjpdbffaaGreatDoor
section
open Sy Nt RowKit
attribute [local irreducible] Sy SyL SyX Sy.Fn callFunc zg zae zac iC gP gQ gL zaL zag zbc za5 gel zaW zb2 Sh.sum
def tup(v:Value)(k:Nat):Value:=match v with| .tuple vs=>(vs[k]?).getD v|v=>v
def zAt(n:Nat)(l:List UInt8)(v:Value)(R:List Res):Prop:=∃a c,v= .tuple #[.slice a n c,.int .i64 0]/\R= [.row (.slice a n c) 5 1 n (l.map v8)]
theorem zjp{z:Int}{pl nl ml:List UInt8}(hk:zd1 z pl=true)(he:(zaW z nl).2=0)(h0:(zaW z nl).1≠0)(hm:ml.length<=65536):
  zhK z pl nl ml=some (zbc (gL z.toNat) (sE z.toNat (za5 z pl).1 (zaW z nl).1 ml)++zbc (gL z.toNat) (sS z.toNat (za5 z pl).1 (zaW z nl).1 ml)):=if_pos ⟨hk,he,h0,hm⟩
theorem zyk(z:Int)(pa na ma:Option Addr)(pn pc nn nc L mc:Nat)(pl nl ml:List UInt8)(w:World)(I:GT w)(hT:Tab w No)(hp:(⟨pa,pn,pc,pl⟩:Bs).ok w)(hn:(⟨na,nn,nc,nl⟩:Bs).ok w)(hm:(⟨ma,L,mc,ml⟩:Bs).ok w)(e7:nn<=1000)(c4:L<=100000):
  Sy.Fn Tryz.prog 49 [.int .i64 z,.slice pa pn pc,.slice na nn nc,.slice ma L mc] w No (BR (zhK z pl nl ml)):=by
 refine zt Tryz.func49 Tryz.ntmps49 ?_;have q:=λj (m:Keep No w j)=>ztT z pa pn pc pl j (I.to m) hp.len hp.cap (hp.keep m).sla;have F:=λj (m:Keep No w j)=>zxn z na nn nc nl j (I.to m) hn.len hn.cap q_o (hn.keep m).sla;have e0:=zd (za5 z pl).1;have d8:=zd (zaW z nl).1;have b3:=zp4 z pl;have M:=zx1 z nl;have S:=λj=>zdH (zaW z nl).1 j M;have e4:ml.length=L:=hm.len;by_cases hall:zd1 z pl=true/\(zaW z nl).2=0/\(zaW z nl).1≠0/\ml.length<=65536
 ·obtain⟨m,O,A,c5⟩:=hall;rw[zjp m O A c5];obtain⟨i,rfl,hi,h0,r,b5⟩:=zxB m;rw[hi];have b1:(zaW (i:Int) nl).1<gQ i:=by rw[zu6 h0 r];exact AC _ (AK q_e (zbL i h0 r))
  rw[m] at q;rw[O] at F;have gz:decide ((zaW (i:Int) nl).1=0)=false:=decide_eq_false A;rw[gz] at S;generalize (zaW (i:Int) nl).1=k,(za5 (i:Int) pl).1=x at*;have gm:decide (65536<(L:Int))=false:=q_f;have c7:=λj (m:Keep No w j)=>zi0 i x j h0 r (I.to m) b3 b5;have c6:=λj (m:Keep No w j)=>zi0 i k j h0 r (I.to m) M b1;have mx:zaL (gP i) (gQ i) (4^x%gP i)=true:=zdJ.2 (zjS h0 r _);have mk:zaL (gP i) (gQ i) (4^k%gP i)=true:=zdJ.2 (zjS h0 r _);have a9:=λj (m:Keep No w j)=>zmE i (4^x%gP i) j h0 r (I.to m) (Ai (zeo mx) (zcq i h0 r)) mx;have c2:=zdL (gL i) (4^x%gP i) (zk5 h0 r (zeo mx));have hd:=λa n c j=>zoY a n c 0 j;have c0:=λj=>zdr (4^x%gP i) 0 j;have b7:=λj=>zdr (4^k%gP i) 0 j;have c8:gL i<=96:=by have:=zf5 (z:=(i:Int)) ⟨by omega,by omega⟩;rwa[Bn] at this
  have a6:0<gQ i:=AK q_e (zbL i h0 r);have hE:sE i x k ml=zb2 i (zbc (gL i) (4^x%gP i)) (4^k%gP i) ml:=rfl;have G:sE i x k ml<gQ i:=zjW h0 r _ _ _;have N:sS i x k ml<gQ i:=AC _ a6;have hS:sS i x k ml=(k+sE i x k ml*x%gQ i)%gQ i:=rfl;have b0:=λj (m:Keep No w j) a c (hb:(⟨a,gL i,c,zbc (gL i) (4^x%gP i)⟩:Bs).ok j)=>zjt i a ma (gL i) c L mc (4^k%gP i) (zbc (gL i) (4^x%gP i)) ml j h0 r (I.to m) (hT.no m) hb (hm.keep m) q_o c4 mk;rw[<-hE] at b0;generalize sE i x k ml=e at*;have b2:=λj (m:Keep No w j)=>zun i e x j h0 r (I.to m) (Ai G (zci i h0 r)) b3 (by simp[G,b5]);have b4:e*x%gQ i<gQ i:=AC _ a6;have K:=λj (m:Keep No w j)=>zuA i k (e*x%gQ i) j h0 r (I.to m) M (Ai b4 (zci i h0 r)) (by simp[b1,b4]);rw[<-hS] at K;generalize sS i x k ml=s at*;have b8:=λj=>zdr (e*x%gQ i) 0 j;have b9:=λj=>zdr s 0 j;have c9:=zd e;have d9:=zd s;have a7:=λj (m:Keep No w j)=>zlm i e j h0 r (I.to m) (Ai G (zci i h0 r)) (decide_eq_true G);have a8:=λj (m:Keep No w j)=>zlm i s j h0 r (I.to m) (Ai N (zci i h0 r)) (decide_eq_true N);have c1:=zdL (gL i) e (zjJ h0 r G);have c3:=zdL (gL i) s (zjJ h0 r N);unfold zjI at a9 a7 a8;generalize gL i=len,e*x%gQ i=em,4^k%gP i=yk,4^x%gP i=yx,zbc (gL i) s=lS,zbc (gL i) e=lE,zbc (gL i) (4^x%gP i)=lb at*;repeat' first|refine s_0 ?_|refine zdO ?_|refine zA [0,2] ?_;refine zb ?_|refine zf 1 ?_;refine zk λ_=>?_;refine zk λ_=>?_|refine q_k 3 ?_;refine q_v (za (hc:=zr q)) ?_;refine zb ?_;refine zk λ_=>?_;refine q_y (zl (n:=x)) ?_|refine q_k 4 ?_;refine q_v (za (hc:=zr F)) ?_;refine zb ?_;refine zk λ_=>?_;refine q_y (zl (n:=k)) ?_|refine q_k 5 ?_;refine zI ?_;refine zb ?_;refine zaJ ?_;refine zb ?_;refine q_v (ze (B:=zg k)) ?_;refine q_v (za (hc:=q_c S)) ?_;refine zb ?_|refine q_k 6 ?_;refine q_v (zH (hr:=gm)) ?_
  rename_i U V Y Z;refine zc0 (id:=7) mixed ?_
  (refine zc1 19 19 [[],[],[],[],[2,3],[2,3,4],[2,3,4],[2,3,4,5,6],[1,2,3,4,5,6,7],[1,2,3,4,5,6,7,8],[1,2,3,4,5,6,7,8],[1,2,3,4,5,6,7,8,9,10],[],[],[1,2,3,4,5,6,7,8,9,10,11,12,13],[1,2,3,4,5,6,7,8,9,10,11,12,13,14],[1,2,3,4,5,6,7,8,9,10,11,12,13,14],[1,2,3,4,5,6,7,8,9,10,11,12,13,14,15,16],[],[0,1,2,3,4,5,6,7,8,9,10,11,12,13,14,15,16,17,18],[0,1,2,3,4,5,6,7,8,9,10,11,12,13,14,15,16,17,18,19]] [[],[],[],[],[],[],[],[],[],[],[],[],[],[],[],[],[],[],[],[],[]] none rfl ?_ ?_ ?_;kernel_rfl;kernel_rfl;refine q_E zV ?_;refine q_E zV ?_;refine q_E zV ?_;refine q_E (ze (B:=zg x)) ?_;refine q_E (za (hc:=zr c7)) ?_;refine q_E zas ?_;refine q_E zas ?_;refine q_E (za (hc:=q_c c0)) ?_;try refine dh_0nE (h:=?_))
  refine zfX (R:=λ_=>zAt len lb) (λ_ _ _=>rfl) (λρ T=>zi (hc:=zr a9)) (h:=?_);refine zq6 (u:=λρ=>tup (ρ 8).1 0) (λρ T=>?_) (λ_=>rfl) rfl (λρ ρ' h=>by rw[h 8 q_e]) (h:=?_)
  ·obtain⟨⟨a,c,J,e2⟩,-⟩:=T;refine FM (zas (vs:=#[.slice a len c,.int .i64 0]) (hx:=by show some (ρ 8).1=_;rw[J])) λv L' h=>?_;obtain⟨rfl,rfl⟩:=h;exact⟨by rw[J];rfl,rfl⟩
  refine dcE (u:=.int .i64 0) (λρ T=>?_) (k:=?_)
  ·obtain⟨⟨a,c,J,e2⟩,-⟩:=T;exact zas (vs:=#[.slice a len c,.int .i64 0]) (hx:=by show some (ρ 8).1=_;rw[J])
  refine zq6 (u:=λρ=>tup (ρ 8).1 0) (λρ T=>?_) (λ_=>rfl) rfl (λρ ρ' h=>by rw[h 8 q_e]) (h:=?_)
  ·obtain⟨⟨a,c,J,e2⟩,-⟩:=T;have e3:tup (ρ 8).1 0= .slice a len c:=by rw[J];rfl
   rw[e3];exact za (hc:=λj X m Q=>hd _ _ _ j)
  (skip;refine q_E zV ?_;refine q_E (ze (B:=zg k)) ?_;refine q_E (za (hc:=zr c6)) ?_;refine q_E zas ?_;refine q_E zas ?_;refine q_E (za (hc:=q_c b7)) ?_;refine q_E zV ?_;try refine dh_0nE (h:=?_))
  refine zfm (h:=?_);rintro ρ ⟨⟨aF,cF,J,e2⟩,-⟩
  (refine zc2 [[],[],[],[],[2,3],[2,3,4],[2,3,4],[2,3,4,5,6],[1,2,3,4,5,6,7],[1,2,3,4,5,6,7,8],[1,2,3,4,5,6,7,8],[1,2,3,4,5,6,7,8,9,10],[],[],[1,2,3,4,5,6,7,8,9,10,11,12,13],[1,2,3,4,5,6,7,8,9,10,11,12,13,14],[1,2,3,4,5,6,7,8,9,10,11,12,13,14],[1,2,3,4,5,6,7,8,9,10,11,12,13,14,15,16],[],[0,1,2,3,4,5,6,7,8,9,10,11,12,13,14,15,16,17,18],[0,1,2,3,4,5,6,7,8,9,10,11,12,13,14,15,16,17,18,19]] ?_ ?_;kernel_rfl)
  have e3:tup (ρ 8).1 0= .slice aF len cF:=by rw[J];rfl
  refine FL (fr':=[(42,.int .i64 (i:Int)),(53,.slice aF len cF),(59,zu yk),(60,.slice ma L mc),(0,.int .i64 (i:Int)),(10,.pointer (some ⟨U,0,none⟩)),(11,.pointer (some ⟨V,0,none⟩)),(12,.slice none 0 0),(13,.pointer (some ⟨Y,0,none⟩)),(15,.pointer (some ⟨Z,0,none⟩))])
   (L':=[.row (.slice aF len cF) 5 1 len (lb.map v8),.blk Z 133 (zg k),.blk Y 133 (zg x),.blk V 133 (List.replicate 16 (.int .u64 0)),.blk U 133 (List.replicate 16 (.int .u64 0))]) ?_ (by simp only[e3];exact Sub.go) ?_
  rotate_left
  ·show SubR _ ((ρ 8).2++_);rw[e2];exact q_h
  repeat' first|refine s_0 ?_|refine zbY ?_|refine zai (id:=8) 12 [[],[],[],[],[],[2,3,4],[2,3,4,5],[2,3,4,5],[2,3,4,5,6,7],[0,1,2,3,4,5,6,7,8],[0,1,2,3,4,5,6,7,8,9],[0,1,2,3,4,5,6,7,8,9],[0,1,2,3,4,5,6,7,8,9,10,11],[0,1,2,3,4,5,6,7,8,9,10,11,12]] mixed ?_ ?_;kernel_rfl;refine zB ?_;refine q_D (ze (B:=zg k)) ?_;refine zB ?_;refine q_D (ze (B:=zg e)) ?_;refine q_D (ze (B:=zg x)) ?_;refine q_D (za (hc:=λj _ m _=>b2 j m)) ?_;refine q_D zas ?_;refine q_D zas ?_;refine q_D (za (hc:=q_c b8)) ?_;refine q_D (za (hc:=λj _ m _=>K j m)) ?_;refine q_D zas ?_;refine q_D zas ?_;refine zaF ?_;refine q_v (za (hc:=q_c b9)) ?_;refine q_n (zl (n:=s)) ?_|refine q_k 9 ?_;refine q_v (ze (B:=zg e)) ?_;(refine q_s (zi (hc:=zr a7)) ?_;rintro _ _ ⟨R,rfl,aE,cE,rfl,rfl⟩;refine zkK (λj Q=>(Row.none Q (a:=aE) (n:=len) (c:=cE) Ey:aE=none->cE=0)) λe5=>?_);refine zb ?_;refine q_v (za (hc:=λ_ _ _ _=>(hd _ _ _ _))) ?_;(refine q_s zgq ?_;rintro _ _ ⟨rfl,_,_,rfl⟩);refine zb ?_|refine q_k 10 ?_;refine q_v (ze (B:=zg s)) ?_;(refine q_s (zi (hc:=zr a8)) ?_;rintro _ _ ⟨R,rfl,aS,cS,rfl,rfl⟩;refine zkK (λj Q=>(Row.none Q (a:=aS) (n:=len) (c:=cS) Ey:aS=none->cS=0)) λe6=>?_);refine zb ?_;refine q_v (za (hc:=λ_ _ _ _=>(hd _ _ _ _))) ?_;(refine q_s zaz ?_;rintro _ _ ⟨rfl,_,_,rfl⟩);refine zb ?_|refine q_k 11 ?_|(refine zx ?_;first|refine q_v (za (hc:=λj X m Q=>b0 j m aF cF (zsB (E:=5) Q c2 q_h))) ?_|refine q_n (zl (n:=e)) ?_|fail)|fail
  have b6:(lE.map v8).append (lS.map v8)=(lE++lS).map v8:=Ar.symm;rw[b6];exact zU rfl (zh rfl) (zh rfl) q_h ⟨_,_,_,rfl,by show len+len=(lE++lS).length;rw[A4,c1,c3],rfl⟩
 rw[show zhK z pl nl ml=none from if_neg hall];repeat' first|refine s_0 ?_|refine q_k 0 ?_
 refine zkc (γ:=Unit) 0 (λ_=>[]) (λ_=>[]) (λ_=>True) rfl ?_ (λ_ _=>?_);rotate_left
 ·repeat' first|refine s_0 ?_|refine zbY ?_|refine q_k 12 ?_
  refine zcp (zaT 5 1) ?_;exact zU rfl (zh rfl) (zh rfl) q_h ⟨_,_,_,rfl,rfl,rfl⟩
 cases m:zd1 z pl with
 |false=>
  rw[m] at q;generalize (zaW z nl).2=e,(zaW z nl).1=k,(za5 z pl).1=x at*;repeat' first|refine s_0 ?_|refine zgH ?_|refine zdh ?_|refine zfz ?_|refine zf 1 ?_;refine zk λ_=>?_;refine zk λ_=>?_|refine q_k 2 ?_|refine q_k 3 ?_;refine q_v (za (hc:=zr q)) ?_;refine zb ?_;refine zk λ_=>?_;refine q_y (zl (n:=x)) ?_|refine q_k 4 ?_;refine q_v (za (hc:=zr F)) ?_;refine zb ?_;refine zk λ_=>?_;refine q_y (zl (n:=k)) ?_|refine q_k 5 ?_;refine zI ?_;refine zb ?_
  exact zaj () trivial GZ Ev
 |true=>
  rw[m] at q;by_cases O:(zaW z nl).2=0
  ·have g1:decide ((zaW z nl).2≠0)=false:=decide_eq_false (λh=>h O);by_cases A:(zaW z nl).1=0
   ·have gz:decide ((zaW z nl).1=0)=true:=decide_eq_true A;rw[gz] at S;generalize (zaW z nl).2=e,(zaW z nl).1=k,(za5 z pl).1=x at*;repeat' first|refine s_0 ?_|refine zgH ?_|refine zdh ?_|refine zfz ?_|refine zf 1 ?_;refine zk λ_=>?_;refine zk λ_=>?_|refine q_k 2 ?_|refine q_k 3 ?_;refine q_v (za (hc:=zr q)) ?_;refine zb ?_;refine zk λ_=>?_;refine q_y (zl (n:=x)) ?_|refine q_k 4 ?_;refine q_v (za (hc:=zr F)) ?_;refine zb ?_;refine zk λ_=>?_;refine q_y (zl (n:=k)) ?_|refine q_k 5 ?_;refine zI ?_;refine zb ?_;refine q_x (zad (hr:=g1)) ?_;refine q_v (ze (B:=zg k)) ?_;refine q_v (za (hc:=q_c S)) ?_;refine zb ?_
    exact zaj () trivial GZ Ev
   ·have gz:decide ((zaW z nl).1=0)=false:=decide_eq_false A;rw[gz] at S;have gm:decide (65536<(L:Int))=true:=decide_eq_true (by
     have:¬ml.length<=65536:=λh=>hall ⟨m,O,A,h⟩;omega)
    generalize (zaW z nl).2=e,(zaW z nl).1=k,(za5 z pl).1=x at*;repeat' first|refine s_0 ?_|refine zgH ?_|refine zdh ?_|refine zfz ?_|refine zf 1 ?_;refine zk λ_=>?_;refine zk λ_=>?_|refine q_k 2 ?_|refine q_k 3 ?_;refine q_v (za (hc:=zr q)) ?_;refine zb ?_;refine zk λ_=>?_;refine q_y (zl (n:=x)) ?_|refine q_k 4 ?_;refine q_v (za (hc:=zr F)) ?_;refine zb ?_;refine zk λ_=>?_;refine q_y (zl (n:=k)) ?_|refine q_k 5 ?_;refine zI ?_;refine zb ?_;refine q_x (zad (hr:=g1)) ?_;refine q_v (ze (B:=zg k)) ?_;refine q_v (za (hc:=q_c S)) ?_;refine zb ?_|refine q_k 6 ?_;refine q_v (zH (hr:=gm)) ?_
    exact zaj () trivial GZ Ev
  ·have g1:decide ((zaW z nl).2≠0)=true:=decide_eq_true O;generalize (zaW z nl).2=e,(zaW z nl).1=k,(za5 z pl).1=x at*;repeat' first|refine s_0 ?_|refine zgH ?_|refine zdh ?_|refine zfz ?_|refine zf 1 ?_;refine zk λ_=>?_;refine zk λ_=>?_|refine q_k 2 ?_|refine q_k 3 ?_;refine q_v (za (hc:=zr q)) ?_;refine zb ?_;refine zk λ_=>?_;refine q_y (zl (n:=x)) ?_|refine q_k 4 ?_;refine q_v (za (hc:=zr F)) ?_;refine zb ?_;refine zk λ_=>?_;refine q_y (zl (n:=k)) ?_|refine q_k 5 ?_;refine zI ?_;refine zb ?_;refine q_x (zad (hr:=g1)) ?_
   exact zaj () trivial GZ Ev
attribute [local irreducible] zbm
def ST(w:World):Prop:=w.rangeAt 2 0 [.int .i64 0,.int .i64 1]
theorem ST.to{w w':World}(h:ST w)(hk:Keep No w w'):ST w':=za0 h hk (λh=>h)
def zcy(z:Int)(l:List UInt8):List (List UInt8):=if zbm z=0\/l.length≠2*zbm z then [] else [l.take (zbm z),l.drop (zbm z)]
theorem zka(z:Int)(l:List UInt8):zbw z l=(zcy z l).map (λb=>bev 256 (bn b)):=by
 unfold zbw zcy;split <;> rfl
def zzM(O:Nat->Prop)(x:List UInt8)(vs:List Value)(RA:List Res)(w:World):Prop:=∃a c,vs= [.slice a x.length c]/\RA= []/\SlF w O a (x.map v8)/\x.length<=c
def zzW(_:Nat->Prop)(x:Nat)(vs:List Value)(RA:List Res)(_:World):Prop:=vs= [zu x]/\RA= []
theorem zsR(z:Int)(a:Option Addr)(n c:Nat)(w:World):Sy.Fn Tryz.prog 212 [.int .i64 z,.slice a n c] w No (λv R=>∃j m,v= .func (.func 269) #[] #[.pointer (some ⟨j,0,none⟩),.pointer (some ⟨m,0,none⟩)]/\R= [.blk m 23 [.slice a n c],.blk j 3 [.int .i64 z]]):=by
 refine zt Tryz.func212 Tryz.ntmps212 ?_;repeat' first|refine s_0 ?_|refine zf 0 ?_;refine zk λ_=>?_;refine z9 λ_=>?_|refine zf 1 ?_;refine q_x zab ?_
 exact q_r
theorem zro(b2 b3:Nat)(z:Int)(a:Option Addr)(n c:Nat)(l:List UInt8)(w:World)(M:Nat->Prop)(hl:l.length=n)(hc:n<=c)(b1:SlF w M a (l.map v8))(hG:GT w)(N:¬M 0)(hS:ST w)(a7:¬M 2):
  zlM Tryz.prog 269 [.pointer (some ⟨b2,0,none⟩),.pointer (some ⟨b3,0,none⟩)] (zcy z l) zzM w M [.blk b3 23 [.slice a n c],.blk b2 3 [.int .i64 z]]:=by
 intro lp J Jx j0 I hh hY;refine zaX Tryz.func269 rfl Tryz.ntmps269 q_p hh ?_;have F:=λE (r:Keep M w E)=>zn3 z E (za0 hG r N);have Y:=λE (r:Keep M w E)=>zwO z E (za0 hG r N);have b4:=zgJ z;have a6:w.rangeAt 2 0 [.int .i64 0,.int .i64 1]:=hS;by_cases h0:zbm z=0
 ·have K:zcy z l= []:=if_pos (.inl h0);rw[K] at hY ⊢;rw[h0] at F;repeat' first|refine s_0 ?_|refine zf 0 ?_;refine zm ?_;refine q_v (za (hc:=zr F)) ?_;refine zb ?_|refine zai (id:=1) 7 [[],[0],[0,1],[0,1,2],[0,1,2,3],[0,1,2],[0,1,2,5],[0,1,2,3,4,5,6],[0,1,2,3,4,5,6,7]] mixed ?_ ?_;kernel_rfl;refine zB ?_;refine dc (by intro _ _;first|exact zS|exact zov|exact op_eqNilF|exact zm1|exact zjb|exact zbJ|exact op_eqArr) (k:=?_);refine zB ?_;refine zcW (λ_=>rfl) rfl ?_;refine zcW (λ_=>rfl) rfl ?_;refine zcW (λ_=>rfl) rfl ?_;refine zcW (λ_=>rfl) rfl ?_;refine zaF ?_;refine zaG rfl rfl rfl ?_;refine zdz ?_|fail
  exact zmr rfl q_h ⟨j0,rfl,.inl I⟩
 have g1:decide (((zbm z:Nat):Int)=0)=false:=q_f;by_cases h1:n=2*zbm z;rotate_left
 ·have K:zcy z l= []:=if_pos (.inr (by rw[hl];exact h1));have g2:decide ((n:Int)≠((2*zbm z:Nat):Int))=true:=decide_eq_true (λh=>h1 q_o);rw[K] at hY ⊢;generalize zbm z=m at*;repeat' first|refine s_0 ?_|refine zf 0 ?_;refine zm ?_;refine q_v (za (hc:=zr F)) ?_;refine zb ?_|refine zai (id:=1) 7 [[],[0],[0,1],[0,1,2],[0,1,2,3],[0,1,2],[0,1,2,5],[0,1,2,3,4,5,6],[0,1,2,3,4,5,6,7]] mixed ?_ ?_;kernel_rfl;refine zB ?_;refine q_D (zS (hr:=g1)) ?_;refine zB ?_;refine zdB ?_;refine dc (by intro _ _;first|exact zfk|exact zgi) (k:=?_);refine zdB ?_;refine q_D (za (hc:=λE _ r _=>Y E r)) ?_;refine zaF ?_;refine q_v (zad (hr:=g2)) ?_;refine zdz ?_|fail
  exact zmr rfl q_h ⟨j0,rfl,.inl I⟩
 have g2:decide ((n:Int)≠((2*zbm z:Nat):Int))=false:=decide_eq_false (λh=>h q_o);have hx:∀k (r:k<(zcy z l).length),k<2/\(zcy z l)[k]=(l.take ((k+1)*zbm z)).drop (k*zbm z):=by
  have K:zcy z l= [l.take (zbm z),l.drop (zbm z)]:=if_neg (by rw[hl];omega);rw[K];intro k r;have a9:k<2:=r;refine⟨a9,?_⟩;rcases(show k=0\/k=1 by omega) with rfl|rfl
  ·show l.take (zbm z)=(l.take ((0+1)*zbm z)).drop (0*zbm z);rw[Aa,Bu,BF,BL]
  ·show l.drop (zbm z)=(l.take ((1+1)*zbm z)).drop (1*zbm z);rw[Bu,A6 q_o]
 have S:(zcy z l).length=2:=by
  have K:zcy z l= [l.take (zbm z),l.drop (zbm z)]:=if_neg (by rw[hl];omega);rw[K];rfl
 generalize zbm z=m,zcy z l=xs at*;repeat' first|refine s_t ?_|refine zf 0 ?_;refine zm ?_;refine q_v (za (hc:=zr F)) ?_;refine zb ?_|refine zai (id:=1) 7 [[],[0],[0,1],[0,1,2],[0,1,2,3],[0,1,2],[0,1,2,5],[0,1,2,3,4,5,6],[0,1,2,3,4,5,6,7]] mixed ?_ ?_;kernel_rfl;refine zB ?_;refine q_D (zS (hr:=g1)) ?_;refine zB ?_;refine zdB ?_;refine dc (by intro _ _;first|exact zfk|exact zgi) (k:=?_);refine zdB ?_;refine q_D (za (hc:=λE _ r _=>Y E r)) ?_;refine zaF ?_;refine q_v (zad (hr:=g2)) ?_;refine zdz ?_|refine zf 2 ?_;refine q_x (zW (B:=[.int .i64 0,.int .i64 1]) (hv:=a6) (hn:=a7)) ?_
 refine zL (γ:=Nat×Res) (λg=>[(0,.func (.yield lp) #[] #[]),(1,.pointer (some ⟨b2,0,none⟩)),(2,.pointer (some ⟨b3,0,none⟩)),(4,.int .i64 m),(18,.agg [Value.int .i64 0,.int .i64 1].toArray),(19,.int .i64 ((g.1:Nat):Int))]) (λg=>[g.2,.blk b3 23 [.slice a n c],.blk b2 3 [.int .i64 z]]) (λg=>g.1<=2/\J g.1 g.2) (λg=>2-g.1) (0,j0) ⟨AA _,I⟩ ?_ ?_ ?_
 ·exact q_h
 ·exact q_h
 rintro⟨k,j⟩ ⟨h2,hJ⟩;dsimp only at h2 hJ ⊢;rcases AG k 2 with h|h
 ·have R:k<xs.length:=q_o;obtain⟨-,G⟩:=hx k R;have L:decide ((k:Int)<2)=true:=q_d;have Q: [Value.int IntKind.i64 0,.int .i64 1][k]?=some (.int .i64 (k:Int)):=by
   rcases(show k=0\/k=1 by omega) with rfl|rfl <;> rfl
  have A:IntKind.i64.wrap ((k:Int)+1)=((k+1:Nat):Int):=q_w;obtain⟨p,hp⟩:∃p,p=k*m:=⟨_,rfl⟩;obtain⟨q,hq⟩:∃q,q=(k+1)*m:=⟨_,rfl⟩;have b6:q=p+m:=by rw[hq,hp,Nat.succ_mul]
  have b5:p<=m:=by rw[hp];exact BE (AP m (show k<=1 by omega)) q_o
  have b0:IntKind.i64.wrap ((k:Int)*(m:Int))=((p:Nat):Int):=by
   rw[<-Bg,<-hp,IntWalk.i64_in _ q_o]
  have T:IntKind.i64.wrap (((k+1:Nat):Int)*(m:Int))=((q:Nat):Int):=by
   rw[<-Bg,<-hq,IntWalk.i64_in _ q_o]
  rw[<-hp,<-hq] at G;have Z:((l.take q).drop p).length=m:=by rw[As,AS];omega
  have V:SlF w M (zbB a p q 1) (((l.take q).drop p).map v8):=by
   have:=(b1.take q).mov (l:=p) (m:=q) (by rw[AS,A0];omega);rwa[<-C0,<-Cd] at this
  obtain⟨a',O⟩:∃a',a'=zbB a p q 1:=⟨_,rfl⟩;rw[<-O] at V;have U:q-p=m:=q_o;repeat' first|refine s_t ?_|refine zf 3 ?_;refine q_v (zn (hr:=L)) ?_|refine zf 4 ?_;refine q_x (zkQ (j:=k) (hv:=Q)) ?_|refine q_k 5 ?_;refine zm ?_;refine zb ?_;refine q_x (zaM (hr:=b0)) ?_;refine q_x (zD (hr:=A)) ?_;refine q_x (zaM (hr:=T)) ?_;refine q_x (zD (hr:=A)) ?_;refine q_v (zaM (hr:=T)) ?_;refine q_v (zce (l:=p) (h:=q) (m:=q) (n':=m) (c':=m) (a':=a') (ha:=O.symm) (hn':=U) (hc':=U)) ?_;(refine q_s (zdK hY R hJ (hL:=F0 (by repeat (first|exact Eu|apply Ew)) rfl F2) (harg:=λE X r a8=>⟨a',m,by rw[G,Z],rfl,by rw[G];exact V.to r (λb hb=>a8.mine _ (by exact A3) b hb),by rw[G,Z];exact A7 _⟩)) ?_;rintro _ _ ⟨y,j',rfl,rfl,hy⟩);refine zI ?_
  cases y with
  |false=>
   repeat' first|refine s_0 ?_|fail
   exact zmr rfl q_h ⟨j',rfl,.inr ⟨k+1,by omega,hy⟩⟩
  |true=>
   repeat' first|refine s_0 ?_|refine zf 6 ?_;refine q_x (zD (hr:=A)) ?_
   refine zC (k+1,j') ⟨by show k+1<=2;omega,hy⟩ ?_ ?_ ?_
   ·show 2-(k+1)<2-k;omega
   ·exact q_h
   ·dsimp only;exact q_h
 ·obtain rfl:k=2:=q_o;have L:decide (((2:Nat):Int)<2)=false:=rfl;repeat' first|refine s_0 ?_|refine zf 3 ?_;refine q_v (zn (hr:=L)) ?_
  exact zft rfl q_h ⟨j,rfl,.inl (S.symm ▸ hJ)⟩
def zrP(b2 b3:Nat)(z:Int)(a:Option Addr)(n c:Nat)(l:List UInt8):List Res:=[.blk b3 23 [.slice a n c],.blk b2 3 [.int .i64 z],.row (.slice a n c) 5 1 n (l.map v8)]
def zyA(z:Int)(n:Nat)(l:List UInt8)(v:Value)(R:List Res):Prop:=∃b2 b3 a c,v= .func (.func 211) #[] #[.pointer (some ⟨b2,0,none⟩),.pointer (some ⟨b3,0,none⟩)]/\R=zrP b2 b3 z a n c l
theorem zuK(z:Int)(a:Option Addr)(n c:Nat)(l:List UInt8)(w:World)(hb:(⟨a,n,c,l⟩:Bs).ok w)(hn:n<1000000):Sy.Fn Tryz.prog 130 [.int .i64 z,.slice a n c] w No (zyA z n l):=by
 refine zt Tryz.func130 Tryz.ntmps130 ?_;have q:l.length=n:=hb.len;have m:=hb.sla;have j:a=none->c=0:=hb.nil;dsimp only at m;repeat' first|refine s_0 ?_|refine zf 0 ?_;refine zk λ_=>?_;refine z9 λ_=>?_|refine zf 1 ?_;refine zm ?_;(refine q_s zgq ?_;rintro _ _ ⟨rfl,_,_,rfl⟩);refine zP ?_|refine zf 2 ?_;refine q_x zab ?_
 exact zar rfl (zh rfl) q_h ⟨_,_,_,_,rfl,rfl⟩
theorem ztO(K L:Nat)(z:Int)(a:Option Addr)(n c:Nat)(l:List UInt8)(w:World)(M:Nat->Prop)(hl:l.length=n)(hG:GT w)(N:¬M 0)(hS:ST w)(T:¬M 2):
  zlM Tryz.prog 211 [.pointer (some ⟨K,0,none⟩),.pointer (some ⟨L,0,none⟩)] (zbw z l) zzW w M (zrP K L z a n c l):=by
 intro lp J Jx j0 Q hh hY;refine zaX Tryz.func211 rfl Tryz.ntmps211 q_p hh ?_;unfold zrP;have r:(zbw z l).length=(zcy z l).length:=by rw[zka,A0]
 have b6:=zgJ z;have I:∀k (j:k<(zcy z l).length),(zcy z l)[k].length<=96:=by
  intro k j;have A:(zcy z l)[k]∈zcy z l:=AX j;generalize (zcy z l)[k]=x at*;unfold zcy at A;split at A
  ·cases A
  ·rename_i h;simp only[AV,Bi,or_false] at A;rcases A with rfl|rfl
   ·rw[AS];omega
   ·rw[As];omega
 have a9:∀k (j:k<(zcy z l).length),(zbw z l)[k]'(r ▸ j)=bev 256 (bn (zcy z l)[k]):=by
  intro k j;have:∀(xs:List Nat) (h:xs=(zcy z l).map (λb=>bev 256 (bn b))) (E:k<xs.length),xs[k]=bev 256 (bn (zcy z l)[k]):=by
   intro xs h E;subst h;rw[Da]
  exact this _ (zka z l) _
 repeat' first|refine s_t ?_|refine zdO ?_|refine zf 0 ?_;refine zk λ_=>?_|refine zf 1 ?_;refine zm ?_;refine zm ?_;(refine q_s (zi (hc:=λq X j hh=>zsR z a n c q)) ?_;rintro _ _ ⟨R,rfl,b4,b5,rfl,rfl⟩)
 rename_i bY;refine zgQ (γ:=Res) (xs:=zcy z l) (Arg:=zzM) zde rfl (en rfl) rfl (λk s=>J k s) (λcc k s=>cc= .exit 0/\Jx k s)
  (λs=>[s,.blk bY 204 [.func (.yield lp) #[] #[]]]) [.blk b5 23 [.slice a n c],.blk b4 3 [.int .i64 z]] [.blk L 23 [.slice a n c],.blk K 3 [.int .i64 z],.row (.slice a n c) 5 1 n (l.map v8)] j0 Q ?_ ?_ ?_ ?_ ?_ ?_
 ·((try simp only[Ae,Ag,AJ]);(repeat' (first|exact List.Perm.nil|exact Ay _|apply zhu;with_reducible (focus ((repeat (first|exact Eu|apply Ew));done))|apply zhu;(focus ((repeat (first|exact Eu|apply Ew));done)))))
 ·intro q Mi X j A a6 B;simp only[Ae,Ag,AJ] at B;obtain⟨q1,q2⟩:=zeM hG (by unfold zek;simp) N j A;obtain⟨q3,q4⟩:=zeM hS (E8 _ _) T j A;exact zro b4 b5 z a n c l q Mi hl (FF (a:=a) (n:=n) (c:=c) B (by exact F8 (F8 (F8 (F8 (F8 (F8 F5))))))) (Fc (n:=n) (m:=n) B (by exact F8 (F8 (F8 (F8 (F8 (F8 F5)))))) (zzv (by exact F8 (F8 F5)) a6)) q1 q2 q3 q4
 ·rintro O x vs RA q ⟨ax,cx,rfl,-⟩;rfl
 ·rintro lq k j s vs RA W rec b0 S ⟨ax,cx,rfl,rfl,a7,V⟩ Y F;have U:=hY.to Y F;have Z:k<(zbw z l).length:=r ▸ j;have b1:=I k j;have a8:=a9 k j;have G:=λq E=>zcs ax (zcy z l)[k].length cx (zcy z l)[k] q rfl V (a7.to (Mi:=No) E (λ_ h=>h.elim)).sla q_o;rw[if_pos (znD q_o)] at G;generalize (zcy z l)[k]=x at*;have b7:=zd (bev 256 (bn x));have hd:=λq=>zdr (bev 256 (bn x)) 0 q;generalize bev 256 (bn x)=v at*;repeat' first|refine s_t ?_|apply zcR;(focus ((repeat (first|exact Eu|apply Ew));done));assumption|refine q_k 2 ?_|refine zai (id:=3) 6 [[],[],[1],[1,2],[1,2],[1,2,3,4],[0,1,2,3,4,5],[0,1,2,3,4,5,6]] mixed ?_ ?_;kernel_rfl;refine zdB ?_;refine zB ?_;refine q_D (za (hc:=λq _ j _=>G q j)) ?_;refine q_D zas ?_;refine q_D zas ?_;refine q_D (za (hc:=q_c hd)) ?_;refine zaF ?_;(refine q_s (zdK U Z S (hL:=F0 (by exact Ew Eu) rfl F2) (harg:=λq X _ _=>⟨by rw[a8],rfl⟩)) ?_;rintro _ _ ⟨y,j',rfl,rfl,hy⟩;cases y);refine zI ?_|(refine zx ?_;first|refine zI ?_|fail)|fail
  ·refine zjm j' ⟨rfl,hy⟩ ?_;exact q_h
  ·refine zgE j' hy ?_;exact q_h
 ·intro s hs;repeat' first|refine zgZ ?_|refine zoj ?_|fail
  exact zft rfl q_h ⟨s,rfl,.inl (r ▸ hs)⟩
 ·rintro cc k s j ⟨rfl,h⟩;repeat' first|refine zhM ?_|refine zez ?_|refine zoj ?_|fail
  exact zft rfl q_h ⟨s,rfl,.inr ⟨k,r ▸ j,h⟩⟩
end
open Sy Wd Sh RowKit
theorem zzI:Tryz.prog.globalNamed "watchword/sha.start" =some 1:=by kernel_rfl
theorem zzG:Tryz.prog.globalNamed "watchword/sha.constants" =some 3:=by kernel_rfl
theorem zAk:Tryz.prog.globalNamed "watchword/sign.scalars" =some 2:=by kernel_rfl
theorem zyz:(Tryz.prog.globals[1]?).map (·.type)=some 249:=by kernel_rfl
theorem zyv:(Tryz.prog.globals[3]?).map (·.type)=some 298:=by kernel_rfl
theorem zzE:(Tryz.prog.globals[2]?).map (·.type)=some 273:=by kernel_rfl
theorem zzO:(Rows.laid_watchword_sha_start:DataW Unit)=Lib.tabData .u32 (h0.map n32):=by kernel_rfl
theorem zzU:(Rows.laid_watchword_sha_constants:DataW Unit)=Lib.tabData .u32 (kC.map n32):=by kernel_rfl
theorem zAf:(Rows.laid_watchword_sign_scalars:DataW Unit)=Lib.tabData .i64 [0,1]:=by kernel_rfl
theorem zwa:Tryz.prog.underlying 249=some (.array 8 247):=by kernel_rfl
theorem zwd:Tryz.prog.underlying 298=some (.array 64 247):=by kernel_rfl
theorem zt8:Tryz.prog.underlying 247=some (.int .u32):=by kernel_rfl
theorem zzK:Tryz.prog.underlying 3=some (.int .i64):=by kernel_rfl
theorem zyy:Tryz.prog.underlying 273=some (.array 2 3):=by kernel_rfl
theorem zpp:Tryz.prog.cellsOf 247=1:=by kernel_rfl
theorem zwg:Tryz.prog.cellsOf 3=1:=by kernel_rfl
theorem zr0:Tryz.prog.cellsOf 249=8:=by kernel_rfl
theorem zrN:Tryz.prog.cellsOf 298=64:=by kernel_rfl
theorem zt4:Tryz.prog.cellsOf 273=2:=by kernel_rfl
theorem zy1{W:World}{l:List (String×DataW Unit)}(h:laidMet Tryz.prog l W)(h1:("watchword/sha.start",Rows.laid_watchword_sha_start)∈l)(h2:("watchword/sha.constants",Rows.laid_watchword_sha_constants)∈l):Tab W No:=by
 rw[zzO] at h1;rw[zzU] at h2;have a1:=zkN h h1 zzI zyz zwa zt8 zpp zr0;have a2:=zkN h h2 zzG zyv zwd zt8 zpp zrN;rw[CY] at a1 a2;exact⟨a1,a2,λh=>h,λh=>h⟩
theorem zz5{W:World}{l:List (String×DataW Unit)}(h:laidMet Tryz.prog l W)(h1:("watchword/sign.scalars",Rows.laid_watchword_sign_scalars)∈l):ST W:=by
 rw[zAf] at h1;exact zkN h h1 zAk zzE zyy zzK zwg zt4
noncomputable def ziK(os:Os):World:=
 { ziF os with heap:=(((((ziF os).heap.modify 1 (zeV (h0.map Sy.v32))).modify 3 (zeV (kC.map Sy.v32))).modify 2 (zeV [.int .i64 0,.int .i64 1])).modify 5 (zeV [.slice (some ⟨(ziF os).heap.size,0,none⟩) 64 64])).push (.cells (kC.map Wd.vi).toArray 3) }
end Go.Proofs.YtdnlngbjpdbffaaGreatDoor
namespace Go.Sy
open Wd RowKit Go.ChangeShapes Go.WideShapes
variable {H:Type}{enc:TypeId×Value->H}{P:Program}{W:World}
def Rdb(enc:TypeId×Value->H)(P:Program)(W:World)(t:TypeId)(C:List Value):Prop:=∃fuel x,DataW.trod enc P W 0 (λ_=>true) true fuel t C=some x
theorem Rdb.int{t:TypeId}{k:IntKind}{C:List Value}(h:Rdb enc P W t C)(m:P.underlying t=some (.int k)):∃i,C= [.int k i]/\(Lit.int k i).wf=true:=by
 obtain⟨j,x,h⟩:=h;cases j with
 |zero=>simp[DataW.trod] at h
 |succ n=>
  unfold DataW.trod at h;rw[m] at h;split at h <;> simp_all
theorem Rdb.bool{t:TypeId}{C:List Value}(h:Rdb enc P W t C)(m:P.underlying t=some .bool):∃b,C= [.bool b]:=by
 obtain⟨j,x,h⟩:=h;cases j with
 |zero=>simp[DataW.trod] at h
 |succ n=>
  unfold DataW.trod at h;rw[m] at h;split at h <;> simp_all
theorem Rdb.string{t:TypeId}{C:List Value}(h:Rdb enc P W t C)(m:P.underlying t=some .string):∃l:List UInt8,C= [.string (str l)]/\l.length<=maxLen:=by
 obtain⟨j,x,h⟩:=h;cases j with
 |zero=>simp[DataW.trod] at h
 |succ n=>
  unfold DataW.trod at h;rw[m] at h;split at h <;> simp_all;rename_i s;exact⟨s.data.toList,by cases s;simp[str],by
   have:s.data.toList.length=s.size:=by cases s;simp[ByteArray.size]
   omega⟩
theorem Rdb.struct{t:TypeId}{q:Array Field}{C:List Value}(h:Rdb enc P W t C)(F:P.underlying t=some (.struct q)):C.length=P.cellsOf t/\∀f∈q.toList,Rdb enc P W f.type ((C.drop f.offset).take (P.cellsOf f.type)):=by
 obtain⟨r,x,h⟩:=h;obtain⟨I,m,_,_,B,E,G⟩:=DataW.trod_struct F h;refine⟨B,λf A=>?_⟩;obtain⟨i,w,e⟩:=List.getElem_of_mem A;have j:i<I.length:=by rw[E];simpa using w
 have:=G i f (by rw[<-Cl,A2 w,e]);rw[A2 j] at this;exact⟨m,_,this⟩
theorem Rdb.bytes{t e:TypeId}{C:List Value}(h:Rdb enc P W t C)(r:P.underlying t=some (.slice e))(he:P.underlying e=some (.int .u8))(hc:P.cellsOf e=1):∃s:Bs,C= [s.val]/\s.ok W/\s.c<=maxLen:=by
 obtain⟨m,x,h⟩:=h;have q:∃v:Value,C= [v]/\v.oneCell'=true/\v.cells.toList= [v]:=by
  rcases open_ints r he hc h with ⟨j,_⟩|⟨_,_,_,_,j,_⟩
  ·exact⟨_,j,rfl,rfl⟩
  ·exact⟨_,j,rfl,rfl⟩
 obtain⟨v,rfl,w,A⟩:=q;obtain⟨a,n,c,l,j,B,E,F,G,I⟩:=zjC r he hc (W:=W) (v:=v) ⟨m,by rw[A];exact h⟩ w;exact⟨⟨a,n,c,l⟩,by rw[j];rfl,⟨B,E,G,I⟩,F⟩
theorem zgL{α:Type}{f:α->List Value}{k:Nat} :∀(m:List α),(∀x∈m,(f x).length=k)->∀i j,j<k->(m.flatMap f)[i*k+j]?=m[i]?.bind λx=>(f x)[j]?
 | [],_,i,j,_=>by simp
 |x::m,h,i,j,hj=>by
  have q:=h x A3;rw[E4];cases i with
  |zero=>rw[BF,Aa,BH q_o];rfl
  |succ i=>
   rw[CS (by rw[q,B5];omega),q,show(i+1)*k+j-k=i*k+j by rw[B5];omega,zgL m (λy r=>h y (A1 _ r)) i j hj];rfl
theorem Rdb.list{α:Type}{t e:TypeId}{k:Nat}{C:List Value}(Ψ:List Value->α->Prop)(h:Rdb enc P W t C)(Y:P.underlying t=some (.slice e))(hc:P.cellsOf e=k)(hk:0<k)(hΨ:∀B,Rdb enc P W e B->∃y,Ψ B y):
  ∃a n c,∃O:List (List Value×α),C= [.slice a n c]/\O.length=n/\n<=c/\c<=maxLen/\SlA W a (O.flatMap (·.1))/\(a=none->c=0)/\∀x∈O,x.1.length=k/\Ψ x.1 x.2:=by
 obtain⟨Q,x,h⟩:=h;rcases Deep.open_slice Y h with ⟨rfl,_⟩|⟨a,len,cap,m,n,D,Pl,rfl,_,L,U,M,_,A⟩
 ·exact⟨none,0,0,[],rfl,rfl,A7 _,AA _,.inl rfl,λ_=>rfl,λ_ h=>by cases h⟩
 ·have X:len<=m:=by rw[M];simp;exact L
  rcases AE len with h0|h0
  ·subst h0;exact⟨some a,0,cap,[],rfl,rfl,L,U,.inl rfl,λh=>by (cases h),λ_ h=>by cases h⟩
  have q:a.spot=none:=by
   obtain⟨B,I,_⟩:=A 0 q_o;obtain⟨_,R,J⟩:=World.cells?_some I;have r:=J 0 q_o;rw[A2 q_o] at r;unfold World.cell? at r;split at r
   ·split at r
    ·cases r
    ·rename_i N;simpa [Addr.add] using N
   ·cases r
  obtain⟨b,off,sp⟩:=a;dsimp only at q;subst q;have S:∀i,i<len->∃y:List Value×α,(y.1.length=k/\Ψ y.1 y.2)/\∀j,j<k->W.cell? ⟨b,off+(i*k+j),none⟩=y.1[j]?:=λi w=>by
   obtain⟨B,I,V⟩:=A i q_o;obtain⟨_,R,J⟩:=World.cells?_some I;obtain⟨y,Z⟩:=hΨ B ⟨n,_,V⟩;refine⟨(B,y),⟨R.trans hc,Z⟩,λj K=>?_⟩;have:=J j (by rw[hc];exact K);rw[hc,Addr.add_mid,Addr.add_mid,BK] at this;exact this
  haveI:Inhabited (List Value×α):=⟨(S 0 h0).choose⟩
  obtain⟨F,T⟩:=Deep.choose_lt S;have G:∀x∈(List.range len).map F,x.1.length=k/\Ψ x.1 x.2:=λx A=>by
   obtain⟨i,w,rfl⟩:=Bv.1 A;exact(T i (by simpa using w)).1
  refine⟨some ⟨b,off,none⟩,len,cap,(List.range len).map F,rfl,by simp,L,U,.inr ⟨b,off,rfl,λj u K=>?_⟩,λh=>by (cases h),G⟩;have e:j/k*k+j%k=j:=by rw[AM];exact Ad j k
  have E:=zgL (f:=Prod.fst) ((List.range len).map F) (λx A=>(G x A).1) (j/k) (j%k) (AC _ hk);rw[e,K,AW] at E;by_cases w:j/k<len
  ·rw[Ei w] at E;have:=(T (j/k) w).2 (j%k) (AC _ hk);rw[e] at this;rw[this];exact E.symm
  ·rw[BI (by simpa using w)] at E;cases E
end Go.Sy
