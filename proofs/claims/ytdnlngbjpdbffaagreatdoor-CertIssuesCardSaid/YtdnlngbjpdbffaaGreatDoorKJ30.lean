/- Lemmas of this proof. -/
import Derived.Test.YtdnlngbjpdbffaaGreatDoorKJ29
import Derived.SliceStrings
set_option maxHeartbeats 2000000
set_option maxRecDepth 10000
set_option linter.all false
namespace Go.Sy
def tup(v:Value)(k:Nat):Value:=match v with| .tuple vs=>(vs[k]?).getD v|v=>v
end Go.Sy
namespace Go.Proofs.YtdnlngbjpdbffaaGreatDoor
section
open Go Go.Sy Go.Nt Go.RowKit
attribute [local irreducible] Sy SyL SyX Sy.Fn callFunc zf z8 zG iC gP gQ gL zap zab zaF zaK gel zaJ zaZ Sh.sum
def zxr(n:Nat)(l:List UInt8)(v:Value)(R:List Res):Prop:=∃a c,v= .tuple #[.slice a n c,.int .i64 0]/\R= [.row (.slice a n c) 5 1 n (l.map v8)]
theorem zgD{z:Int}{pl nl ml:List UInt8}(hk:zcp z pl=true)(he:(zaJ z nl).2=0)(h0:(zaJ z nl).1≠0)(hm:ml.length<=65536):
  zc4 z pl nl ml=some (zaF (gL z.toNat) (sE z.toNat (zaK z pl).1 (zaJ z nl).1 ml)++zaF (gL z.toNat) (sS z.toNat (zaK z pl).1 (zaJ z nl).1 ml)):=if_pos ⟨hk,he,h0,hm⟩
theorem zo3(z:Int)(pa na ma:Option Addr)(pn pc nn nc J mc:Nat)(pl nl ml:List UInt8)(w:World)(F:GT w)(hT:Tab w No)(hp:(⟨pa,pn,pc,pl⟩:Bs).ok w)(hn:(⟨na,nn,nc,nl⟩:Bs).ok w)(hm:(⟨ma,J,mc,ml⟩:Bs).ok w)(e6:nn<=1000)(c3:J<=100000):
  Sy.Fn Tryz.prog 49 [.int .i64 z,.slice pa pn pc,.slice na nn nc,.slice ma J mc] w No (BR (zc4 z pl nl ml)):=by
 refine zo Tryz.func49 Tryz.ntmps49 ?_;have q:=λj (m:Keep No w j)=>zrV z pa pn pc pl j (F.to m) hp.len hp.cap (hp.keep m).sla;have A:=λj (m:Keep No w j)=>zvp z na nn nc nl j (F.to m) hn.len hn.cap q_o (hn.keep m).sla;have d9:=zd (zaK z pl).1;have c9:=zd (zaJ z nl).1;have b2:=zoT z pl;have K:=zuW z nl;have O:=λj=>zc6 (zaJ z nl).1 j K;have e0:ml.length=J:=hm.len;by_cases hall:zcp z pl=true/\(zaJ z nl).2=0/\(zaJ z nl).1≠0/\ml.length<=65536
 ·obtain⟨m,M,t,c4⟩:=hall;rw[zgD m M t c4];obtain⟨i,rfl,hi,h0,r,b4⟩:=zpl m;rw[hi];have b0:(zaJ (i:Int) nl).1<gQ i:=by rw[zm3 h0 r];exact A7 _ (AG q_e (za3 i h0 r))
  rw[m] at q;rw[M] at A;have Y:decide ((zaJ (i:Int) nl).1=0)=false:=decide_eq_false t;rw[Y] at O;generalize (zaJ (i:Int) nl).1=k,(zaK (i:Int) pl).1=x at*;have gm:decide (65536<(J:Int))=false:=q_f;have c6:=λj (m:Keep No w j)=>zh1 i x j h0 r (F.to m) b2 b4;have c5:=λj (m:Keep No w j)=>zh1 i k j h0 r (F.to m) K b0;have mx:zap (gP i) (gQ i) (4^x%gP i)=true:=zbq.2 (zeU h0 r _);have mk:zap (gP i) (gQ i) (4^k%gP i)=true:=zbq.2 (zeU h0 r _);have a8:=λj (m:Keep No w j)=>zlw i (4^x%gP i) j h0 r (F.to m) (AS (zbE mx) (zbw i h0 r)) mx;have c1:=zbZ (gL i) (4^x%gP i) (zfN h0 r (zbE mx));have hd:=λa n c j=>znb a n c 0 j;have b9:=λj=>zcQ (4^x%gP i) 0 j;have b6:=λj=>zcQ (4^k%gP i) 0 j;have c7:gL i<=96:=by have:=zdp (z:=(i:Int)) ⟨by omega,by omega⟩;rwa[B6] at this
  have Z:0<gQ i:=AG q_e (za3 i h0 r);have hE:sE i x k ml=zaZ i (zaF (gL i) (4^x%gP i)) (4^k%gP i) ml:=rfl;have C:sE i x k ml<gQ i:=zfV h0 r _ _ _;have L:sS i x k ml<gQ i:=A7 _ Z;have hS:sS i x k ml=(k+sE i x k ml*x%gQ i)%gQ i:=rfl;have a9:=λj (m:Keep No w j) a c (hb:(⟨a,gL i,c,zaF (gL i) (4^x%gP i)⟩:Bs).ok j)=>zis i a ma (gL i) c J mc (4^k%gP i) (zaF (gL i) (4^x%gP i)) ml j h0 r (F.to m) (hT.no m) hb (hm.keep m) q_o c3 mk;rw[<-hE] at a9;generalize sE i x k ml=e at*;have b1:=λj (m:Keep No w j)=>zs2 i e x j h0 r (F.to m) (AS C (zba i h0 r)) b2 (by simp[C,b4]);have b3:e*x%gQ i<gQ i:=A7 _ Z;have I:=λj (m:Keep No w j)=>zsX i k (e*x%gQ i) j h0 r (F.to m) K (AS b3 (zba i h0 r)) (by simp[b0,b3]);rw[<-hS] at I;generalize sS i x k ml=s at*;have b7:=λj=>zcQ (e*x%gQ i) 0 j;have b8:=λj=>zcQ s 0 j;have c8:=zd e;have d8:=zd s;have a6:=λj (m:Keep No w j)=>zj4 i e j h0 r (F.to m) (AS C (zba i h0 r)) (decide_eq_true C);have a7:=λj (m:Keep No w j)=>zj4 i s j h0 r (F.to m) (AS L (zba i h0 r)) (decide_eq_true L);have c0:=zbZ (gL i) e (zfc h0 r C);have c2:=zbZ (gL i) s (zfc h0 r L);unfold ziG at a8 a6 a7;generalize gL i=len,e*x%gQ i=em,4^k%gP i=yk,4^x%gP i=yx,zaF (gL i) s=lS,zaF (gL i) e=lE,zaF (gL i) (4^x%gP i)=lb at*;repeat' (first|refine s_0 ?_|refine zdd ?_|refine zK [0,2] ?_;refine zb ?_|refine zg 1 ?_;refine zi ?_;intro _;refine zi ?_;intro _|refine q_k 3 ?_;refine q_v (za (hc:=zq q)) ?_;refine zb ?_;refine zi ?_;intro _;refine q_y (zj (n:=x)) ?_|refine q_k 4 ?_;refine q_v (za (hc:=zq A)) ?_;refine zb ?_;refine zi ?_;intro _;refine q_y (zj (n:=k)) ?_|refine q_k 5 ?_;refine zJ ?_;refine zb ?_;refine zat ?_;refine zb ?_;refine q_v (ze (B:=zf k)) ?_;refine q_v (za (hc:=q_c O)) ?_;refine zb ?_|refine q_k 6 ?_;refine q_v (zF (hr:=gm)) ?_)
  rename_i S T U V;refine zb2 (id:=7) mixed ?_
  (refine zbY 19 19 [[],[],[],[],[2,3],[2,3,4],[2,3,4],[2,3,4,5,6],[1,2,3,4,5,6,7],[1,2,3,4,5,6,7,8],[1,2,3,4,5,6,7,8],[1,2,3,4,5,6,7,8,9,10],[],[],[1,2,3,4,5,6,7,8,9,10,11,12,13],[1,2,3,4,5,6,7,8,9,10,11,12,13,14],[1,2,3,4,5,6,7,8,9,10,11,12,13,14],[1,2,3,4,5,6,7,8,9,10,11,12,13,14,15,16],[],[0,1,2,3,4,5,6,7,8,9,10,11,12,13,14,15,16,17,18],[0,1,2,3,4,5,6,7,8,9,10,11,12,13,14,15,16,17,18,19]] [[],[],[],[],[],[],[],[],[],[],[],[],[],[],[],[],[],[],[],[],[]] none rfl ?_ ?_ ?_;kernel_rfl;kernel_rfl;refine q_E zao ?_;refine q_E zao ?_;refine q_E zao ?_;refine q_E (ze (B:=zf x)) ?_;refine q_E (za (hc:=zq c6)) ?_;refine q_E zau ?_;refine q_E zau ?_;refine q_E (za (hc:=q_c b9)) ?_;try refine dh_0nE (h:=?_))
  refine zcW (R:=λ_=>zxr len lb) (λ_ _ _=>rfl) (λρ Q=>zh (hc:=zq a8)) (h:=?_);refine zpS (u:=λρ=>tup (ρ 8).1 0) (λρ Q=>?_) (λ_=>rfl) rfl (λρ ρ' h=>by rw[h 8 q_e]) (h:=?_)
  ·obtain⟨⟨a,c,G,e2⟩,-⟩:=Q;refine FF (zau (vs:=#[.slice a len c,.int .i64 0]) (hx:=by show some (ρ 8).1=_;rw[G])) λv L' h=>?_;obtain⟨rfl,rfl⟩:=h;exact⟨by rw[G];rfl,rfl⟩
  refine dcE (u:=.int .i64 0) (λρ Q=>?_) (k:=?_)
  ·obtain⟨⟨a,c,G,e2⟩,-⟩:=Q;exact zau (vs:=#[.slice a len c,.int .i64 0]) (hx:=by show some (ρ 8).1=_;rw[G])
  refine zpS (u:=λρ=>tup (ρ 8).1 0) (λρ Q=>?_) (λ_=>rfl) rfl (λρ ρ' h=>by rw[h 8 q_e]) (h:=?_)
  ·obtain⟨⟨a,c,G,e2⟩,-⟩:=Q;have e3:tup (ρ 8).1 0= .slice a len c:=by rw[G];rfl
   rw[e3];exact za (hc:=λj X m N=>hd _ _ _ j)
  (skip;refine q_E zao ?_;refine q_E (ze (B:=zf k)) ?_;refine q_E (za (hc:=zq c5)) ?_;refine q_E zau ?_;refine q_E zau ?_;refine q_E (za (hc:=q_c b6)) ?_;refine q_E zao ?_;try refine dh_0nE (h:=?_))
  refine zdI (h:=?_);rintro ρ ⟨⟨aF,cF,G,e2⟩,-⟩
  (refine zb1 [[],[],[],[],[2,3],[2,3,4],[2,3,4],[2,3,4,5,6],[1,2,3,4,5,6,7],[1,2,3,4,5,6,7,8],[1,2,3,4,5,6,7,8],[1,2,3,4,5,6,7,8,9,10],[],[],[1,2,3,4,5,6,7,8,9,10,11,12,13],[1,2,3,4,5,6,7,8,9,10,11,12,13,14],[1,2,3,4,5,6,7,8,9,10,11,12,13,14],[1,2,3,4,5,6,7,8,9,10,11,12,13,14,15,16],[],[0,1,2,3,4,5,6,7,8,9,10,11,12,13,14,15,16,17,18],[0,1,2,3,4,5,6,7,8,9,10,11,12,13,14,15,16,17,18,19]] ?_ ?_;kernel_rfl)
  have e3:tup (ρ 8).1 0= .slice aF len cF:=by rw[G];rfl
  refine FI (fr':=[(42,.int .i64 (i:Int)),(53,.slice aF len cF),(59,zm yk),(60,.slice ma J mc),(0,.int .i64 (i:Int)),(10,.pointer (some ⟨S,0,none⟩)),(11,.pointer (some ⟨T,0,none⟩)),(12,.slice none 0 0),(13,.pointer (some ⟨U,0,none⟩)),(15,.pointer (some ⟨V,0,none⟩))])
   (L':=[.row (.slice aF len cF) 5 1 len (lb.map v8),.blk V 133 (zf k),.blk U 133 (zf x),.blk T 133 (List.replicate 16 (.int .u64 0)),.blk S 133 (List.replicate 16 (.int .u64 0))]) ?_ (by simp only[e3];exact Sub.go) ?_
  rotate_left
  ·show SubR _ ((ρ 8).2++_);rw[e2];exact q_h
  repeat' (first|refine s_0 ?_|refine zbL ?_|refine z5 (id:=8) 12 [[],[],[],[],[],[2,3,4],[2,3,4,5],[2,3,4,5],[2,3,4,5,6,7],[0,1,2,3,4,5,6,7,8],[0,1,2,3,4,5,6,7,8,9],[0,1,2,3,4,5,6,7,8,9],[0,1,2,3,4,5,6,7,8,9,10,11],[0,1,2,3,4,5,6,7,8,9,10,11,12]] mixed ?_ ?_;kernel_rfl;refine zt ?_;refine q_D (ze (B:=zf k)) ?_;refine zt ?_;refine q_D (ze (B:=zf e)) ?_;refine q_D (ze (B:=zf x)) ?_;refine q_D (za (hc:=λj _ m _=>b1 j m)) ?_;refine q_D zau ?_;refine q_D zau ?_;refine q_D (za (hc:=q_c b7)) ?_;refine q_D (za (hc:=λj _ m _=>I j m)) ?_;refine q_D zau ?_;refine q_D zau ?_;refine zam ?_;refine q_v (za (hc:=q_c b8)) ?_;refine q_n (zj (n:=s)) ?_|refine q_k 9 ?_;refine q_v (ze (B:=zf e)) ?_;(refine q_s (zh (hc:=zq a6)) ?_;rintro _ _ ⟨R,rfl,aE,cE,rfl,rfl⟩;refine zf7 (λj N=>(Fi N (a:=aE) (n:=len) (c:=cE) F4:aE=none->cE=0)) λe4=>?_);refine zb ?_;refine q_v (za (hc:=λ_ _ _ _=>(hd _ _ _ _))) ?_;(refine q_s zfJ ?_;rintro _ _ ⟨rfl,_,_,rfl⟩);refine zb ?_|refine q_k 10 ?_;refine q_v (ze (B:=zf s)) ?_;(refine q_s (zh (hc:=zq a7)) ?_;rintro _ _ ⟨R,rfl,aS,cS,rfl,rfl⟩;refine zf7 (λj N=>(Fi N (a:=aS) (n:=len) (c:=cS) F4:aS=none->cS=0)) λe5=>?_);refine zb ?_;refine q_v (za (hc:=λ_ _ _ _=>(hd _ _ _ _))) ?_;(refine q_s zak ?_;rintro _ _ ⟨rfl,_,_,rfl⟩);refine zb ?_|refine q_k 11 ?_|(refine zW ?_;first|refine q_v (za (hc:=λj X m N=>a9 j m aF cF (znz (E:=5) N c1 q_h))) ?_|refine q_n (zj (n:=e)) ?_|fail)|fail)
  have b5:(lE.map v8).append (lS.map v8)=(lE++lS).map v8:=Aw.symm;rw[b5];exact zad rfl (zr rfl) (zr rfl) q_h ⟨_,_,_,rfl,by show len+len=(lE++lS).length;rw[A2,c0,c2],rfl⟩
 rw[show zc4 z pl nl ml=none from if_neg hall];repeat' (first|refine s_0 ?_|refine q_k 0 ?_)
 refine zjl (γ:=Unit) 0 (λ_=>[]) (λ_=>[]) (λ_=>True) rfl ?_ (λ_ _=>?_);rotate_left
 ·repeat' (first|refine s_0 ?_|refine zbL ?_|refine q_k 12 ?_)
  refine zbK (zaO 5 1) ?_;exact zad rfl (zr rfl) (zr rfl) q_h ⟨_,_,_,rfl,rfl,rfl⟩
 cases m:zcp z pl with
 |false=>
  rw[m] at q;generalize (zaJ z nl).2=e,(zaJ z nl).1=k,(zaK z pl).1=x at*;repeat' (first|refine s_0 ?_|refine zfU ?_|refine zcL ?_|refine zeS ?_|refine zg 1 ?_;refine zi ?_;intro _;refine zi ?_;intro _|refine q_k 2 ?_|refine q_k 3 ?_;refine q_v (za (hc:=zq q)) ?_;refine zb ?_;refine zi ?_;intro _;refine q_y (zj (n:=x)) ?_|refine q_k 4 ?_;refine q_v (za (hc:=zq A)) ?_;refine zb ?_;refine zi ?_;intro _;refine q_y (zj (n:=k)) ?_|refine q_k 5 ?_;refine zJ ?_;refine zb ?_)
  exact zZ () trivial FQ F2
 |true=>
  rw[m] at q;by_cases M:(zaJ z nl).2=0
  ·have g1:decide ((zaJ z nl).2≠0)=false:=decide_eq_false (λh=>h M);by_cases t:(zaJ z nl).1=0
   ·have Y:decide ((zaJ z nl).1=0)=true:=decide_eq_true t;rw[Y] at O;generalize (zaJ z nl).2=e,(zaJ z nl).1=k,(zaK z pl).1=x at*;repeat' (first|refine s_0 ?_|refine zfU ?_|refine zcL ?_|refine zeS ?_|refine zg 1 ?_;refine zi ?_;intro _;refine zi ?_;intro _|refine q_k 2 ?_|refine q_k 3 ?_;refine q_v (za (hc:=zq q)) ?_;refine zb ?_;refine zi ?_;intro _;refine q_y (zj (n:=x)) ?_|refine q_k 4 ?_;refine q_v (za (hc:=zq A)) ?_;refine zb ?_;refine zi ?_;intro _;refine q_y (zj (n:=k)) ?_|refine q_k 5 ?_;refine zJ ?_;refine zb ?_;refine q_x (zaC (hr:=g1)) ?_;refine q_v (ze (B:=zf k)) ?_;refine q_v (za (hc:=q_c O)) ?_;refine zb ?_)
    exact zZ () trivial FQ F2
   ·have Y:decide ((zaJ z nl).1=0)=false:=decide_eq_false t;rw[Y] at O;have gm:decide (65536<(J:Int))=true:=decide_eq_true (by
     have:¬ml.length<=65536:=λh=>hall ⟨m,M,t,h⟩;omega)
    generalize (zaJ z nl).2=e,(zaJ z nl).1=k,(zaK z pl).1=x at*;repeat' (first|refine s_0 ?_|refine zfU ?_|refine zcL ?_|refine zeS ?_|refine zg 1 ?_;refine zi ?_;intro _;refine zi ?_;intro _|refine q_k 2 ?_|refine q_k 3 ?_;refine q_v (za (hc:=zq q)) ?_;refine zb ?_;refine zi ?_;intro _;refine q_y (zj (n:=x)) ?_|refine q_k 4 ?_;refine q_v (za (hc:=zq A)) ?_;refine zb ?_;refine zi ?_;intro _;refine q_y (zj (n:=k)) ?_|refine q_k 5 ?_;refine zJ ?_;refine zb ?_;refine q_x (zaC (hr:=g1)) ?_;refine q_v (ze (B:=zf k)) ?_;refine q_v (za (hc:=q_c O)) ?_;refine zb ?_|refine q_k 6 ?_;refine q_v (zF (hr:=gm)) ?_)
    exact zZ () trivial FQ F2
  ·have g1:decide ((zaJ z nl).2≠0)=true:=decide_eq_true M;generalize (zaJ z nl).2=e,(zaJ z nl).1=k,(zaK z pl).1=x at*;repeat' (first|refine s_0 ?_|refine zfU ?_|refine zcL ?_|refine zeS ?_|refine zg 1 ?_;refine zi ?_;intro _;refine zi ?_;intro _|refine q_k 2 ?_|refine q_k 3 ?_;refine q_v (za (hc:=zq q)) ?_;refine zb ?_;refine zi ?_;intro _;refine q_y (zj (n:=x)) ?_|refine q_k 4 ?_;refine q_v (za (hc:=zq A)) ?_;refine zb ?_;refine zi ?_;intro _;refine q_y (zj (n:=k)) ?_|refine q_k 5 ?_;refine zJ ?_;refine zb ?_;refine q_x (zaC (hr:=g1)) ?_)
   exact zZ () trivial FQ F2
attribute [local irreducible] zaY
def ST(w:World):Prop:=w.rangeAt 2 0 [.int .i64 0,.int .i64 1]
theorem ST.to{w w':World}(h:ST w)(hk:Keep No w w'):ST w':=za5 h hk (λh=>h)
def zcc(z:Int)(l:List UInt8):List (List UInt8):=if zaY z=0\/l.length≠2*zaY z then [] else [l.take (zaY z),l.drop (zaY z)]
theorem zji(z:Int)(l:List UInt8):zbd z l=(zcc z l).map (λb=>bev 256 (bn b)):=by
 unfold zbd zcc;split <;> rfl
def zwH(O:Nat->Prop)(x:List UInt8)(vs:List Value)(RA:List Res)(w:World):Prop:=∃a c,vs= [.slice a x.length c]/\RA= []/\SlF w O a (x.map v8)/\x.length<=c
def zwC(_:Nat->Prop)(x:Nat)(vs:List Value)(RA:List Res)(_:World):Prop:=vs= [zm x]/\RA= []
theorem zrH(z:Int)(a:Option Addr)(n c:Nat)(w:World):Sy.Fn Tryz.prog 212 [.int .i64 z,.slice a n c] w No (λv R=>∃j m,v= .func (.func 269) #[] #[.pointer (some ⟨j,0,none⟩),.pointer (some ⟨m,0,none⟩)]/\R= [.blk m 23 [.slice a n c],.blk j 3 [.int .i64 z]]):=by
 refine zo Tryz.func212 Tryz.ntmps212 ?_;repeat' (first|refine s_0 ?_|refine zg 0 ?_;refine zi ?_;intro _;refine zV ?_;intro _|refine zg 1 ?_;refine q_x zaj ?_)
 exact q_r
theorem zpX(Y Z:Nat)(z:Int)(a:Option Addr)(n c:Nat)(l:List UInt8)(w:World)(M:Nat->Prop)(hl:l.length=n)(hc:n<=c)(b1:SlF w M a (l.map v8))(hG:GT w)(K:¬M 0)(hS:ST w)(a7:¬M 2):
  zky Tryz.prog 269 [.pointer (some ⟨Y,0,none⟩),.pointer (some ⟨Z,0,none⟩)] (zcc z l) zwH w M [.blk Z 23 [.slice a n c],.blk Y 3 [.int .i64 z]]:=by
 intro lp J Jx j0 F hh hY;refine zcl Tryz.func269 rfl Tryz.ntmps269 q_p hh ?_;have C:=λA (r:Keep M w A)=>zm7 z A (za5 hG r K);have U:=λA (r:Keep M w A)=>zuX z A (za5 hG r K);have b4:=zfW z;have a6:w.rangeAt 2 0 [.int .i64 0,.int .i64 1]:=hS;by_cases h0:zaY z=0
 ·have G:zcc z l= []:=if_pos (.inl h0);rw[G] at hY ⊢;rw[h0] at C;repeat' (first|refine s_0 ?_|refine zg 0 ?_;refine zk ?_;refine q_v (za (hc:=zq C)) ?_;refine zb ?_|refine z5 (id:=1) 7 [[],[0],[0,1],[0,1,2],[0,1,2,3],[0,1,2],[0,1,2,5],[0,1,2,3,4,5,6],[0,1,2,3,4,5,6,7]] mixed ?_ ?_;kernel_rfl;refine zt ?_;refine dc (by intro _ _;first|exact zaa|exact op_eqNil|exact op_eqNilF|exact zgE|exact zfx|exact zbf|exact op_eqArr) (k:=?_);refine zt ?_;refine zdG (λ_=>rfl) rfl ?_;refine zdG (λ_=>rfl) rfl ?_;refine zdG (λ_=>rfl) rfl ?_;refine zdG (λ_=>rfl) rfl ?_;refine zam ?_;refine zaf rfl rfl rfl ?_;refine zcb ?_|fail)
  exact zk7 rfl q_h ⟨j0,rfl,.inl F⟩
 have g1:decide (((zaY z:Nat):Int)=0)=false:=q_f;by_cases h1:n=2*zaY z;rotate_left
 ·have G:zcc z l= []:=if_pos (.inr (by rw[hl];exact h1));have g2:decide ((n:Int)≠((2*zaY z:Nat):Int))=true:=decide_eq_true (λh=>h1 q_o);rw[G] at hY ⊢;generalize zaY z=m at*;repeat' (first|refine s_0 ?_|refine zg 0 ?_;refine zk ?_;refine q_v (za (hc:=zq C)) ?_;refine zb ?_|refine z5 (id:=1) 7 [[],[0],[0,1],[0,1,2],[0,1,2,3],[0,1,2],[0,1,2,5],[0,1,2,3,4,5,6],[0,1,2,3,4,5,6,7]] mixed ?_ ?_;kernel_rfl;refine zt ?_;refine q_D (zaa (hr:=g1)) ?_;refine zt ?_;refine zaT ?_;refine dc (by intro _ _;first|exact ziv|exact zik) (k:=?_);refine zaT ?_;refine q_D (za (hc:=λA _ r _=>U A r)) ?_;refine zam ?_;refine q_v (zaC (hr:=g2)) ?_;refine zcb ?_|fail)
  exact zk7 rfl q_h ⟨j0,rfl,.inl F⟩
 have g2:decide ((n:Int)≠((2*zaY z:Nat):Int))=false:=decide_eq_false (λh=>h q_o);have hx:∀k (r:k<(zcc z l).length),k<2/\(zcc z l)[k]=(l.take ((k+1)*zaY z)).drop (k*zaY z):=by
  have G:zcc z l= [l.take (zaY z),l.drop (zaY z)]:=if_neg (by rw[hl];omega);rw[G];intro k r;have a9:k<2:=r;refine⟨a9,?_⟩;rcases(show k=0\/k=1 by omega) with rfl|rfl
  ·show l.take (zaY z)=(l.take ((0+1)*zaY z)).drop (0*zaY z);rw[AR,BN,BJ,Cb]
  ·show l.drop (zaY z)=(l.take ((1+1)*zaY z)).drop (1*zaY z);rw[BN,A6 q_o]
 have Q:(zcc z l).length=2:=by
  have G:zcc z l= [l.take (zaY z),l.drop (zaY z)]:=if_neg (by rw[hl];omega);rw[G];rfl
 generalize zaY z=m,zcc z l=xs at*;repeat' (first|refine s_t ?_|refine zg 0 ?_;refine zk ?_;refine q_v (za (hc:=zq C)) ?_;refine zb ?_|refine z5 (id:=1) 7 [[],[0],[0,1],[0,1,2],[0,1,2,3],[0,1,2],[0,1,2,5],[0,1,2,3,4,5,6],[0,1,2,3,4,5,6,7]] mixed ?_ ?_;kernel_rfl;refine zt ?_;refine q_D (zaa (hr:=g1)) ?_;refine zt ?_;refine zaT ?_;refine dc (by intro _ _;first|exact ziv|exact zik) (k:=?_);refine zaT ?_;refine q_D (za (hc:=λA _ r _=>U A r)) ?_;refine zam ?_;refine q_v (zaC (hr:=g2)) ?_;refine zcb ?_|refine zg 2 ?_;refine q_x (z9 (B:=[.int .i64 0,.int .i64 1]) (hv:=a6) (hn:=a7)) ?_)
 refine zE (γ:=Nat×Res) (λg=>[(0,.func (.yield lp) #[] #[]),(1,.pointer (some ⟨Y,0,none⟩)),(2,.pointer (some ⟨Z,0,none⟩)),(4,.int .i64 m),(18,.agg [Value.int .i64 0,.int .i64 1].toArray),(19,.int .i64 ((g.1:Nat):Int))]) (λg=>[g.2,.blk Z 23 [.slice a n c],.blk Y 3 [.int .i64 z]]) (λg=>g.1<=2/\J g.1 g.2) (λg=>2-g.1) (0,j0) ⟨AE _,F⟩ ?_ ?_ ?_
 ·exact q_h
 ·exact q_h
 rintro⟨k,j⟩ ⟨h2,hJ⟩;dsimp only at h2 hJ ⊢;rcases AH k 2 with h|h
 ·have O:k<xs.length:=q_o;obtain⟨-,E⟩:=hx k O;have I:decide ((k:Int)<2)=true:=q_d;have N: [Value.int IntKind.i64 0,.int .i64 1][k]?=some (.int .i64 (k:Int)):=by
   rcases(show k=0\/k=1 by omega) with rfl|rfl <;> rfl
  have t:IntKind.i64.wrap ((k:Int)+1)=((k+1:Nat):Int):=q_w;obtain⟨p,hp⟩:∃p,p=k*m:=⟨_,rfl⟩;obtain⟨q,hq⟩:∃q,q=(k+1)*m:=⟨_,rfl⟩;have b6:q=p+m:=by rw[hq,hp,Nat.succ_mul]
  have b5:p<=m:=by rw[hp];exact BG (AN m (show k<=1 by omega)) q_o
  have b0:IntKind.i64.wrap ((k:Int)*(m:Int))=((p:Nat):Int):=by
   rw[<-BW,<-hp,IntWalk.i64_in _ q_o]
  have R:IntKind.i64.wrap (((k+1:Nat):Int)*(m:Int))=((q:Nat):Int):=by
   rw[<-BW,<-hq,IntWalk.i64_in _ q_o]
  rw[<-hp,<-hq] at E;have V:((l.take q).drop p).length=m:=by rw[B5,AU];omega
  have T:SlF w M (zb4 a p q 1) (((l.take q).drop p).map v8):=by
   have:=(b1.take q).mov (l:=p) (m:=q) (by rw[AU,A0];omega);rwa[<-CN,<-Cm] at this
  obtain⟨a',L⟩:∃a',a'=zb4 a p q 1:=⟨_,rfl⟩;rw[<-L] at T;have S:q-p=m:=q_o;repeat' (first|refine s_t ?_|refine zg 3 ?_;refine q_v (zl (hr:=I)) ?_|refine zg 4 ?_;refine q_x (zjy (j:=k) (hv:=N)) ?_|refine q_k 5 ?_;refine zk ?_;refine zb ?_;refine q_x (zas (hr:=b0)) ?_;refine q_x (zA (hr:=t)) ?_;refine q_x (zas (hr:=R)) ?_;refine q_x (zA (hr:=t)) ?_;refine q_v (zas (hr:=R)) ?_;refine q_v (zbN (l:=p) (h:=q) (m:=q) (n':=m) (c':=m) (a':=a') (ha:=L.symm) (hn':=S) (hc':=S)) ?_;(refine q_s (zda hY O hJ (hL:=FH (by repeat (first|exact F1|apply F3)) rfl FP) (harg:=λA X r a8=>⟨a',m,by rw[E,V],rfl,by rw[E];exact T.to r (λb hb=>a8.mine _ (by exact A5) b hb),by rw[E,V];exact A4 _⟩)) ?_;rintro _ _ ⟨y,j',rfl,rfl,hy⟩);refine zJ ?_)
  cases y with
  |false=>
   repeat' (first|refine s_0 ?_|fail)
   exact zk7 rfl q_h ⟨j',rfl,.inr ⟨k+1,by omega,hy⟩⟩
  |true=>
   repeat' (first|refine s_0 ?_|refine zg 6 ?_;refine q_x (zA (hr:=t)) ?_)
   refine zy (k+1,j') ⟨by show k+1<=2;omega,hy⟩ ?_ ?_ ?_
   ·show 2-(k+1)<2-k;omega
   ·exact q_h
   ·dsimp only;exact q_h
 ·obtain rfl:k=2:=q_o;have I:decide (((2:Nat):Int)<2)=false:=rfl;repeat' (first|refine s_0 ?_|refine zg 3 ?_;refine q_v (zl (hr:=I)) ?_)
  exact ze4 rfl q_h ⟨j,rfl,.inl (Q.symm ▸ hJ)⟩
def zqf(b2 b3:Nat)(z:Int)(a:Option Addr)(n c:Nat)(l:List UInt8):List Res:=[.blk b3 23 [.slice a n c],.blk b2 3 [.int .i64 z],.row (.slice a n c) 5 1 n (l.map v8)]
def zvG(z:Int)(n:Nat)(l:List UInt8)(v:Value)(R:List Res):Prop:=∃b2 b3 a c,v= .func (.func 211) #[] #[.pointer (some ⟨b2,0,none⟩),.pointer (some ⟨b3,0,none⟩)]/\R=zqf b2 b3 z a n c l
theorem zsF(z:Int)(a:Option Addr)(n c:Nat)(l:List UInt8)(w:World)(hb:(⟨a,n,c,l⟩:Bs).ok w)(hn:n<1000000):Sy.Fn Tryz.prog 130 [.int .i64 z,.slice a n c] w No (zvG z n l):=by
 refine zo Tryz.func130 Tryz.ntmps130 ?_;have q:l.length=n:=hb.len;have m:=hb.sla;have j:a=none->c=0:=hb.nil;dsimp only at m;repeat' (first|refine s_0 ?_|refine zg 0 ?_;refine zi ?_;intro _;refine zV ?_;intro _|refine zg 1 ?_;refine zk ?_;(refine q_s zfJ ?_;rintro _ _ ⟨rfl,_,_,rfl⟩);refine zS ?_|refine zg 2 ?_;refine q_x zaj ?_)
 exact zaw rfl (zr rfl) q_h ⟨_,_,_,_,rfl,rfl⟩
theorem zrB(G I:Nat)(z:Int)(a:Option Addr)(n c:Nat)(l:List UInt8)(w:World)(M:Nat->Prop)(hl:l.length=n)(hG:GT w)(K:¬M 0)(hS:ST w)(Q:¬M 2):
  zky Tryz.prog 211 [.pointer (some ⟨G,0,none⟩),.pointer (some ⟨I,0,none⟩)] (zbd z l) zwC w M (zqf G I z a n c l):=by
 intro lp J Jx j0 L hh hY;refine zcl Tryz.func211 rfl Tryz.ntmps211 q_p hh ?_;unfold zqf;have r:(zbd z l).length=(zcc z l).length:=by rw[zji,A0]
 have b0:=zfW z;have F:∀k (j:k<(zcc z l).length),(zcc z l)[k].length<=96:=by
  intro k j;have t:(zcc z l)[k]∈zcc z l:=Ah j;generalize (zcc z l)[k]=x at*;unfold zcc at t;split at t
  ·cases t
  ·rename_i h;simp only[Ag,Bm,or_false] at t;rcases t with rfl|rfl
   ·rw[AU];omega
   ·rw[B5];omega
 have a7:∀k (j:k<(zcc z l).length),(zbd z l)[k]'(r ▸ j)=bev 256 (bn (zcc z l)[k]):=by
  intro k j;have:∀(xs:List Nat) (h:xs=(zcc z l).map (λb=>bev 256 (bn b))) (B:k<xs.length),xs[k]=bev 256 (bn (zcc z l)[k]):=by
   intro xs h B;subst h;rw[List.getElem_map]
  exact this _ (zji z l) _
 repeat' (first|refine s_t ?_|refine zdd ?_|refine zg 0 ?_;refine zi ?_;intro _|refine zg 1 ?_;refine zk ?_;refine zk ?_;(refine q_s (zh (hc:=λq X j hh=>zrH z a n c q)) ?_;rintro _ _ ⟨R,rfl,b4,b5,rfl,rfl⟩))
 rename_i bY;refine zf8 (γ:=Res) (xs:=zcc z l) (Arg:=zwH) zcM rfl (en rfl) rfl (λk s=>J k s) (λcc k s=>cc= .exit 0/\Jx k s)
  (λs=>[s,.blk bY 204 [.func (.yield lp) #[] #[]]]) [.blk b5 23 [.slice a n c],.blk b4 3 [.int .i64 z]] [.blk I 23 [.slice a n c],.blk G 3 [.int .i64 z],.row (.slice a n c) 5 1 n (l.map v8)] j0 L ?_ ?_ ?_ ?_ ?_ ?_
 ·((try simp only[An,B3,AZ]);(repeat' (first|exact List.Perm.nil|exact CA _|apply zgH;with_reducible (focus ((repeat (first|exact F1|apply F3));done))|apply zgH;(focus ((repeat (first|exact F1|apply F3));done)))))
 ·intro q Mi X j t Y A;simp only[An,B3,AZ] at A;obtain⟨q1,q2⟩:=zdy hG (by unfold zdD;simp) K j t;obtain⟨q3,q4⟩:=zdy hS (ER _ _) Q j t;exact zpX b4 b5 z a n c l q Mi hl (FR (a:=a) (n:=n) (c:=c) A (by exact FB (FB (FB (FB (FB (FB F6))))))) (Fu (n:=n) (m:=n) A (by exact FB (FB (FB (FB (FB (FB F6)))))) (zwu (by exact FB (FB F6)) Y)) q1 q2 q3 q4
 ·rintro O x vs RA q ⟨ax,cx,rfl,-⟩;rfl
 ·rintro lq k j s vs RA W rec a8 N ⟨ax,cx,rfl,rfl,Z,T⟩ U C;have S:=hY.to U C;have V:k<(zbd z l).length:=r ▸ j;have a9:=F k j;have a6:=a7 k j;have E:=λq B=>zb7 ax (zcc z l)[k].length cx (zcc z l)[k] q rfl T (Z.to (Mi:=No) B (λ_ h=>h.elim)).sla q_o;rw[if_pos (zi6 q_o)] at E;generalize (zcc z l)[k]=x at*;have b1:=zd (bev 256 (bn x));have hd:=λq=>zcQ (bev 256 (bn x)) 0 q;generalize bev 256 (bn x)=v at*;repeat' (first|refine s_t ?_|apply zbT;(focus ((repeat (first|exact F1|apply F3));done));assumption|refine q_k 2 ?_|refine z5 (id:=3) 6 [[],[],[1],[1,2],[1,2],[1,2,3,4],[0,1,2,3,4,5],[0,1,2,3,4,5,6]] mixed ?_ ?_;kernel_rfl;refine zaT ?_;refine zt ?_;refine q_D (za (hc:=λq _ j _=>E q j)) ?_;refine q_D zau ?_;refine q_D zau ?_;refine q_D (za (hc:=q_c hd)) ?_;refine zam ?_;(refine q_s (zda S V N (hL:=FH (by exact F3 F1) rfl FP) (harg:=λq X _ _=>⟨by rw[a6],rfl⟩)) ?_;rintro _ _ ⟨y,j',rfl,rfl,hy⟩;cases y);refine zJ ?_|(refine zW ?_;first|refine zJ ?_|fail)|fail)
  ·refine zh2 j' ⟨rfl,hy⟩ ?_;exact q_h
  ·refine zfR j' hy ?_;exact q_h
 ·intro s hs;repeat' (first|refine ziq ?_|refine zml ?_|fail)
  exact ze4 rfl q_h ⟨s,rfl,.inl (r ▸ hs)⟩
 ·rintro cc k s j ⟨rfl,h⟩;repeat' (first|refine zhd ?_|refine zdW ?_|refine zml ?_|fail)
  exact ze4 rfl q_h ⟨s,rfl,.inr ⟨k,r ▸ j,h⟩⟩
end
open Go Go.Sy Go.Wd Go.Sh Go.RowKit
theorem zwJ:Tryz.prog.globalNamed "watchword/sha.start" =some 1:=by kernel_rfl
theorem zwM:Tryz.prog.globalNamed "watchword/sha.constants" =some 3:=by kernel_rfl
theorem zxl:Tryz.prog.globalNamed "watchword/watchwordref04.constants" =some 5:=by kernel_rfl
theorem zw3:Tryz.prog.globalNamed "watchword/sign.scalars" =some 2:=by kernel_rfl
theorem zvA:(Tryz.prog.globals[1]?).map (·.type)=some 249:=by kernel_rfl
theorem zvy:(Tryz.prog.globals[3]?).map (·.type)=some 298:=by kernel_rfl
theorem zw0:(Tryz.prog.globals[5]?).map (·.type)=some 163:=by kernel_rfl
theorem zwt:(Tryz.prog.globals[2]?).map (·.type)=some 273:=by kernel_rfl
theorem zwB:(Rows.laid_watchword_sha_start:DataW Unit)=Lib.tabData .u32 (h0.map n32):=by kernel_rfl
theorem zwz:(Rows.laid_watchword_sha_constants:DataW Unit)=Lib.tabData .u32 (kC.map n32):=by kernel_rfl
theorem zxi:(Rows.laid_watchword_watchwordref04_constants:DataW Unit)= .slice ((kC.map n32).map λz=> .lit (.int .i64 z)) []:=by kernel_rfl
theorem zwY:(Rows.laid_watchword_sign_scalars:DataW Unit)=Lib.tabData .i64 [0,1]:=by kernel_rfl
theorem ztG:Tryz.prog.underlying 249=some (.array 8 247):=by kernel_rfl
theorem ztU:Tryz.prog.underlying 298=some (.array 64 247):=by kernel_rfl
theorem zr0:Tryz.prog.underlying 247=some (.int .u32):=by kernel_rfl
theorem zvE:Tryz.prog.underlying 163=some (.slice 3):=by kernel_rfl
theorem zr3:Tryz.prog.underlying 3=some (.int .i64):=by kernel_rfl
theorem zvD:Tryz.prog.underlying 273=some (.array 2 3):=by kernel_rfl
theorem znZ:Tryz.prog.cellsOf 247=1:=by kernel_rfl
theorem znS:Tryz.prog.cellsOf 3=1:=by kernel_rfl
theorem zp5:Tryz.prog.cellsOf 249=8:=by kernel_rfl
theorem zp7:Tryz.prog.cellsOf 298=64:=by kernel_rfl
theorem zrY:Tryz.prog.cellsOf 273=2:=by kernel_rfl
theorem zmJ{W:World}{l:List (String×DataW Unit)}(h:laidMet Tryz.prog l W)(h1:("watchword/sha.start",Rows.laid_watchword_sha_start)∈l)(h2:("watchword/sha.constants",Rows.laid_watchword_sha_constants)∈l):Tab W No:=by
 rw[zwB] at h1;rw[zwz] at h2;have a1:=zjG h h1 zwJ zvA ztG zr0 znZ zp5;have a2:=zjG h h2 zwM zvy ztU zr0 znZ zp7;rw[Ch] at a1 a2;exact⟨a1,a2,λh=>h,λh=>h⟩
theorem zvm{W:World}{l:List (String×DataW Unit)}(h:laidMet Tryz.prog l W)(h1:("watchword/watchwordref04.constants",Rows.laid_watchword_watchwordref04_constants)∈l):∃kb ko kc,RTab W No kb ko kc:=by
 rw[zxi] at h1;obtain⟨b,o,c,h2,h3⟩:=zpy h h1 zxl zw0 zvE zr3 znS (by decide);rw[Ch] at h3;exact⟨b,o,c,⟨h2,h3,λh=>h,λh=>h⟩⟩
theorem zpT{W:World}{l:List (String×DataW Unit)}(h:laidMet Tryz.prog l W)(h1:("watchword/sign.scalars",Rows.laid_watchword_sign_scalars)∈l):ST W:=by
 rw[zwY] at h1;exact zjG h h1 zw3 zwt zvD zr3 znS zrY
noncomputable def zcv(os:Os):World:=
 { zhN os with heap:=(((((zhN os).heap.modify 1 (zea (h0.map Sy.v32))).modify 3 (zea (kC.map Sy.v32))).modify 2 (zea [.int .i64 0,.int .i64 1])).modify 5 (zea [.slice (some ⟨(zhN os).heap.size,0,none⟩) 64 64])).push (.cells (kC.map Wd.vi).toArray 3) }
end Go.Proofs.YtdnlngbjpdbffaaGreatDoor
namespace Go.Sy
open Go Go.Wd Go.RowKit Go.ChangeShapes Go.WideShapes
variable {H:Type}{enc:TypeId×Value->H}{P:Program}{W:World}
def Rdb(enc:TypeId×Value->H)(P:Program)(W:World)(t:TypeId)(C:List Value):Prop:=∃fuel x,DataW.trod enc P W 0 (λ_=>true) true fuel t C=some x
theorem Rdb.int{t:TypeId}{k:IntKind}{C:List Value}(h:Rdb enc P W t C)(m:P.underlying t=some (.int k)):∃i,C= [.int k i]/\(Lit.int k i).wf=true:=by
 obtain⟨j,x,h⟩:=h;cases j with
 |zero=>simp[DataW.trod] at h
 |succ n=>
  unfold DataW.trod at h;rw[m] at h;split at h <;> simp_all
theorem Rdb.bool{t:TypeId}{C:List Value}(h:Rdb enc P W t C)(m:P.underlying t=some .bool):∃b,C= [.bool b]:=by
 obtain⟨j,x,h⟩:=h;cases j with
 |zero=>simp[DataW.trod] at h
 |succ n=>
  unfold DataW.trod at h;rw[m] at h;split at h <;> simp_all
theorem Rdb.string{t:TypeId}{C:List Value}(h:Rdb enc P W t C)(m:P.underlying t=some .string):∃l:List UInt8,C= [.string (str l)]/\l.length<=maxLen:=by
 obtain⟨j,x,h⟩:=h;cases j with
 |zero=>simp[DataW.trod] at h
 |succ n=>
  unfold DataW.trod at h;rw[m] at h;split at h <;> simp_all;rename_i s;exact⟨s.data.toList,by cases s;simp[str],by
   have:s.data.toList.length=s.size:=by cases s;simp[ByteArray.size]
   omega⟩
theorem Rdb.struct{t:TypeId}{q:Array Field}{C:List Value}(h:Rdb enc P W t C)(F:P.underlying t=some (.struct q)):C.length=P.cellsOf t/\∀f∈q.toList,Rdb enc P W f.type ((C.drop f.offset).take (P.cellsOf f.type)):=by
 obtain⟨r,x,h⟩:=h;obtain⟨I,m,_,_,B,E,G⟩:=DataW.trod_struct F h;refine⟨B,λf A=>?_⟩;obtain⟨i,w,e⟩:=List.getElem_of_mem A;have j:i<I.length:=by rw[E];simpa using w
 have:=G i f (by rw[<-Cw,A1 w,e]);rw[A1 j] at this;exact⟨m,_,this⟩
theorem Rdb.bytes{t e:TypeId}{C:List Value}(h:Rdb enc P W t C)(r:P.underlying t=some (.slice e))(he:P.underlying e=some (.int .u8))(hc:P.cellsOf e=1):∃s:Bs,C= [s.val]/\s.ok W/\s.c<=maxLen:=by
 obtain⟨m,x,h⟩:=h;have q:∃v:Value,C= [v]/\v.oneCell'=true/\v.cells.toList= [v]:=by
  rcases open_ints r he hc h with ⟨j,_⟩|⟨_,_,_,_,j,_⟩
  ·exact⟨_,j,rfl,rfl⟩
  ·exact⟨_,j,rfl,rfl⟩
 obtain⟨v,rfl,w,A⟩:=q;obtain⟨a,n,c,l,j,B,E,F,G,I⟩:=zey r he hc (W:=W) (v:=v) ⟨m,by rw[A];exact h⟩ w;exact⟨⟨a,n,c,l⟩,by rw[j];rfl,⟨B,E,G,I⟩,F⟩
theorem zf4{α:Type}{f:α->List Value}{k:Nat} :∀(m:List α),(∀x∈m,(f x).length=k)->∀i j,j<k->(m.flatMap f)[i*k+j]?=m[i]?.bind λx=>(f x)[j]?
 | [],_,i,j,_=>by simp
 |x::m,h,i,j,hj=>by
  have q:=h x A5;rw[Dg];cases i with
  |zero=>rw[BJ,AR,Aq q_o];rfl
  |succ i=>
   rw[BA (by rw[q,AM];omega),q,show(i+1)*k+j-k=i*k+j by rw[AM];omega,zf4 m (λy r=>h y (A9 _ r)) i j hj];rfl
theorem Rdb.list{α:Type}{t e:TypeId}{k:Nat}{C:List Value}(Ψ:List Value->α->Prop)(h:Rdb enc P W t C)(Y:P.underlying t=some (.slice e))(hc:P.cellsOf e=k)(hk:0<k)(hΨ:∀B,Rdb enc P W e B->∃y,Ψ B y):
  ∃a n c,∃O:List (List Value×α),C= [.slice a n c]/\O.length=n/\n<=c/\c<=maxLen/\SlA W a (O.flatMap (·.1))/\(a=none->c=0)/\∀x∈O,x.1.length=k/\Ψ x.1 x.2:=by
 obtain⟨Q,x,h⟩:=h;rcases Deep.open_slice Y h with ⟨rfl,_⟩|⟨a,len,cap,m,n,D,Pl,rfl,_,L,U,M,_,A⟩
 ·exact⟨none,0,0,[],rfl,rfl,A4 _,AE _,.inl rfl,λ_=>rfl,λ_ h=>by cases h⟩
 ·have X:len<=m:=by rw[M];simp;exact L
  rcases AD len with h0|h0
  ·subst h0;exact⟨some a,0,cap,[],rfl,rfl,L,U,.inl rfl,λh=>by (cases h),λ_ h=>by cases h⟩
  have q:a.spot=none:=by
   obtain⟨B,I,_⟩:=A 0 q_o;obtain⟨_,R,J⟩:=World.cells?_some I;have r:=J 0 q_o;rw[A1 q_o] at r;unfold World.cell? at r;split at r
   ·split at r
    ·cases r
    ·rename_i N;simpa [Addr.add] using N
   ·cases r
  obtain⟨b,off,sp⟩:=a;dsimp only at q;subst q;have S:∀i,i<len->∃y:List Value×α,(y.1.length=k/\Ψ y.1 y.2)/\∀j,j<k->W.cell? ⟨b,off+(i*k+j),none⟩=y.1[j]?:=λi w=>by
   obtain⟨B,I,V⟩:=A i q_o;obtain⟨_,R,J⟩:=World.cells?_some I;obtain⟨y,Z⟩:=hΨ B ⟨n,_,V⟩;refine⟨(B,y),⟨R.trans hc,Z⟩,λj K=>?_⟩;have:=J j (by rw[hc];exact K);rw[hc,Addr.add_mid,Addr.add_mid,Az] at this;exact this
  haveI:Inhabited (List Value×α):=⟨(S 0 h0).choose⟩
  obtain⟨F,T⟩:=Deep.choose_lt S;have G:∀x∈(List.range len).map F,x.1.length=k/\Ψ x.1 x.2:=λx A=>by
   obtain⟨i,w,rfl⟩:=C0.1 A;exact(T i (by simpa using w)).1
  refine⟨some ⟨b,off,none⟩,len,cap,(List.range len).map F,rfl,by simp,L,U,.inr ⟨b,off,rfl,λj u K=>?_⟩,λh=>by (cases h),G⟩;have e:j/k*k+j%k=j:=by rw[A8];exact AV j k
  have E:=zf4 (f:=Prod.fst) ((List.range len).map F) (λx A=>(G x A).1) (j/k) (j%k) (A7 _ hk);rw[e,K,AY] at E;by_cases w:j/k<len
  ·rw[E4 w] at E;have:=(T (j/k) w).2 (j%k) (A7 _ hk);rw[e] at this;rw[this];exact E.symm
  ·rw[BL (by simpa using w)] at E;cases E
theorem zqY{v:Value}{C:List Value}(h:v.cells.toList=C)(j:C.length≠1):v= .agg C.toArray:=by
 subst h;cases v <;> first|exact absurd rfl j|simp[Value.cells]
end Go.Sy
