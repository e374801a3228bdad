/- Lemmas of this proof. -/
import Derived.Test.YtdnlngbjpdbffaaGreatDoorHJ23
import Derived.SliceStrings
set_option maxHeartbeats 2000000
set_option maxRecDepth 10000
set_option linter.all false
namespace Go.Sy
def tup(v:Value)(k:Nat):Value:=match v with| .tuple vs=>(vs[k]?).getD v|v=>v
end Go.Sy
namespace Go.Proofs.YtdnlngbjpdbffaaGreatDoor
section
open Go Go.Sy Go.Nt Go.RowKit
attribute [local irreducible] Sy SyL SyX Sy.Fn callFunc zg zad gP gQ gL zaR zaf za7 za2 gel zaQ zbP Sh.sum
def zyn(n:Nat)(l:List UInt8)(v:Value)(R:List Res):Prop:=∃a c,v= .tuple #[.slice a n c,.int .i64 0]/\R= [.row (.slice a n c) 5 1 n (l.map v8)]
theorem zif{z:Int}{pl nl ml:List UInt8}(hk:zdJ z pl=true)(he:(zaQ z nl).2=0)(h0:(zaQ z nl).1≠0)(hm:ml.length<=65536):
  zfK z pl nl ml=some (za7 (gL z.toNat) (sE z.toNat (za2 z pl).1 (zaQ z nl).1 ml)++za7 (gL z.toNat) (sS z.toNat (za2 z pl).1 (zaQ z nl).1 ml)):=if_pos ⟨hk,he,h0,hm⟩
theorem zoO(z:Int)(pa na ma:Option Addr)(pn pc nn nc L mc:Nat)(pl nl ml:List UInt8)(w:World)(I:GT w)(hT:Tab w No)(hp:(⟨pa,pn,pc,pl⟩:Bs).ok w)(hn:(⟨na,nn,nc,nl⟩:Bs).ok w)(hm:(⟨ma,L,mc,ml⟩:Bs).ok w)(e7:nn<=1000)(c4:L<=100000):
  Sy.Fn Tryz.prog 49 [.int .i64 z,.slice pa pn pc,.slice na nn nc,.slice ma L mc] w No (BR (zfK z pl nl ml)):=by
 refine zz Tryz.func49 Tryz.ntmps49 ?_;have q:=λj (m:Keep No w j)=>zsd z pa pn pc pl j (I.to m) hp.len hp.cap (hp.keep m).sla;have F:=λj (m:Keep No w j)=>zvC z na nn nc nl j (I.to m) hn.len hn.cap q_o (hn.keep m).sla;have e0:=zb (za2 z pl).1;have d8:=zb (zaQ z nl).1;have b3:=zpd z pl;have M:=zwh z nl;have S:=λj=>zdg (zaQ z nl).1 j M;have e4:ml.length=L:=hm.len;by_cases hall:zdJ z pl=true/\(zaQ z nl).2=0/\(zaQ z nl).1≠0/\ml.length<=65536
 ·obtain⟨m,O,A,c5⟩:=hall;rw[zif m O A c5];obtain⟨i,rfl,hi,h0,r,b5⟩:=zu5 m;rw[hi];have b1:(zaQ (i:Int) nl).1<gQ i:=by rw[ztl h0 r];exact AG _ (AZ q_e (zbD i h0 r))
  rw[m] at q;rw[O] at F;have gz:decide ((zaQ (i:Int) nl).1=0)=false:=decide_eq_false A;rw[gz] at S;generalize (zaQ (i:Int) nl).1=k,(za2 (i:Int) pl).1=x at*;have gm:decide (65536<(L:Int))=false:=q_f;have c7:=λj (m:Keep No w j)=>zh5 i x j h0 r (I.to m) b3 b5;have c6:=λj (m:Keep No w j)=>zh5 i k j h0 r (I.to m) M b1;have mx:zaR (gP i) (gQ i) (4^x%gP i)=true:=zdm.2 (zi4 h0 r _);have mk:zaR (gP i) (gQ i) (4^k%gP i)=true:=zdm.2 (zi4 h0 r _);have a9:=λj (m:Keep No w j)=>zlC i (4^x%gP i) j h0 r (I.to m) (Ah (zd2 mx) (zcr i h0 r)) mx;have c2:=zdr (gL i) (4^x%gP i) (zkv h0 r (zd2 mx));have hd:=λa n c j=>znK a n c 0 j;have c0:=λj=>zc1 (4^x%gP i) 0 j;have b7:=λj=>zc1 (4^k%gP i) 0 j;have c8:gL i<=96:=by have:=zgM (z:=(i:Int)) ⟨by omega,by omega⟩;rwa[Bc] at this
  have a6:0<gQ i:=AZ q_e (zbD i h0 r);have hE:sE i x k ml=zbP i (za7 (gL i) (4^x%gP i)) (4^k%gP i) ml:=rfl;have G:sE i x k ml<gQ i:=ziK h0 r _ _ _;have N:sS i x k ml<gQ i:=AG _ a6;have hS:sS i x k ml=(k+sE i x k ml*x%gQ i)%gQ i:=rfl;have b0:=λj (m:Keep No w j) a c (hb:(⟨a,gL i,c,za7 (gL i) (4^x%gP i)⟩:Bs).ok j)=>zh7 i a ma (gL i) c L mc (4^k%gP i) (za7 (gL i) (4^x%gP i)) ml j h0 r (I.to m) (hT.no m) hb (hm.keep m) q_o c4 mk;rw[<-hE] at b0;generalize sE i x k ml=e at*;have b2:=λj (m:Keep No w j)=>ztw i e x j h0 r (I.to m) (Ah G (zb7 i h0 r)) b3 (by simp[G,b5]);have b4:e*x%gQ i<gQ i:=AG _ a6;have K:=λj (m:Keep No w j)=>zsS i k (e*x%gQ i) j h0 r (I.to m) M (Ah b4 (zb7 i h0 r)) (by simp[b1,b4]);rw[<-hS] at K;generalize sS i x k ml=s at*;have b8:=λj=>zc1 (e*x%gQ i) 0 j;have b9:=λj=>zc1 s 0 j;have c9:=zb e;have d9:=zb s;have a7:=λj (m:Keep No w j)=>zkn i e j h0 r (I.to m) (Ah G (zb7 i h0 r)) (decide_eq_true G);have a8:=λj (m:Keep No w j)=>zkn i s j h0 r (I.to m) (Ah N (zb7 i h0 r)) (decide_eq_true N);have c1:=zdr (gL i) e (ziP h0 r G);have c3:=zdr (gL i) s (ziP h0 r N);unfold ziJ at a9 a7 a8;generalize gL i=len,e*x%gQ i=em,4^k%gP i=yk,4^x%gP i=yx,za7 (gL i) s=lS,za7 (gL i) e=lE,za7 (gL i) (4^x%gP i)=lb at*;repeat' (first|refine s_0 ?_|refine zdk ?_|refine zL [0,2] ?_;refine zf ?_|refine ze 1 ?_;refine zi ?_;intro _;refine zi ?_;intro _|refine q_k 3 ?_;refine q_v (za (hc:=zr q)) ?_;refine zf ?_;refine zi ?_;intro _;refine q_y (zk (n:=x)) ?_|refine q_k 4 ?_;refine q_v (za (hc:=zr F)) ?_;refine zf ?_;refine zi ?_;intro _;refine q_y (zk (n:=k)) ?_|refine q_k 5 ?_;refine zI ?_;refine zf ?_;refine zat ?_;refine zf ?_;refine q_v (zd (B:=zg k)) ?_;refine q_v (za (hc:=q_c S)) ?_;refine zf ?_|refine q_k 6 ?_;refine q_v (zF (hr:=gm)) ?_)
  rename_i U V Y Z;refine zcB (id:=7) mixed ?_
  (refine zcC 19 19 [[],[],[],[],[2,3],[2,3,4],[2,3,4],[2,3,4,5,6],[1,2,3,4,5,6,7],[1,2,3,4,5,6,7,8],[1,2,3,4,5,6,7,8],[1,2,3,4,5,6,7,8,9,10],[],[],[1,2,3,4,5,6,7,8,9,10,11,12,13],[1,2,3,4,5,6,7,8,9,10,11,12,13,14],[1,2,3,4,5,6,7,8,9,10,11,12,13,14],[1,2,3,4,5,6,7,8,9,10,11,12,13,14,15,16],[],[0,1,2,3,4,5,6,7,8,9,10,11,12,13,14,15,16,17,18],[0,1,2,3,4,5,6,7,8,9,10,11,12,13,14,15,16,17,18,19]] [[],[],[],[],[],[],[],[],[],[],[],[],[],[],[],[],[],[],[],[],[]] none rfl ?_ ?_ ?_;kernel_rfl;kernel_rfl;refine q_E zar ?_;refine q_E zar ?_;refine q_E zar ?_;refine q_E (zd (B:=zg x)) ?_;refine q_E (za (hc:=zr c7)) ?_;refine q_E zan ?_;refine q_E zan ?_;refine q_E (za (hc:=q_c c0)) ?_;try refine dh_0nE (h:=?_))
  refine zfq (R:=λ_=>zyn len lb) (λ_ _ _=>rfl) (λρ T=>zn (hc:=zr a9)) (h:=?_);refine zpS (u:=λρ=>tup (ρ 8).1 0) (λρ T=>?_) (λ_=>rfl) rfl (λρ ρ' h=>by rw[h 8 q_e]) (h:=?_)
  ·obtain⟨⟨a,c,J,e2⟩,-⟩:=T;refine FA (zan (vs:=#[.slice a len c,.int .i64 0]) (hx:=by show some (ρ 8).1=_;rw[J])) λv L' h=>?_;obtain⟨rfl,rfl⟩:=h;exact⟨by rw[J];rfl,rfl⟩
  refine dcE (u:=.int .i64 0) (λρ T=>?_) (k:=?_)
  ·obtain⟨⟨a,c,J,e2⟩,-⟩:=T;exact zan (vs:=#[.slice a len c,.int .i64 0]) (hx:=by show some (ρ 8).1=_;rw[J])
  refine zpS (u:=λρ=>tup (ρ 8).1 0) (λρ T=>?_) (λ_=>rfl) rfl (λρ ρ' h=>by rw[h 8 q_e]) (h:=?_)
  ·obtain⟨⟨a,c,J,e2⟩,-⟩:=T;have e3:tup (ρ 8).1 0= .slice a len c:=by rw[J];rfl
   rw[e3];exact za (hc:=λj X m Q=>hd _ _ _ j)
  (skip;refine q_E zar ?_;refine q_E (zd (B:=zg k)) ?_;refine q_E (za (hc:=zr c6)) ?_;refine q_E zan ?_;refine q_E zan ?_;refine q_E (za (hc:=q_c b7)) ?_;refine q_E zar ?_;try refine dh_0nE (h:=?_))
  refine zeJ (h:=?_);rintro ρ ⟨⟨aF,cF,J,e2⟩,-⟩
  (refine zcD [[],[],[],[],[2,3],[2,3,4],[2,3,4],[2,3,4,5,6],[1,2,3,4,5,6,7],[1,2,3,4,5,6,7,8],[1,2,3,4,5,6,7,8],[1,2,3,4,5,6,7,8,9,10],[],[],[1,2,3,4,5,6,7,8,9,10,11,12,13],[1,2,3,4,5,6,7,8,9,10,11,12,13,14],[1,2,3,4,5,6,7,8,9,10,11,12,13,14],[1,2,3,4,5,6,7,8,9,10,11,12,13,14,15,16],[],[0,1,2,3,4,5,6,7,8,9,10,11,12,13,14,15,16,17,18],[0,1,2,3,4,5,6,7,8,9,10,11,12,13,14,15,16,17,18,19]] ?_ ?_;kernel_rfl)
  have e3:tup (ρ 8).1 0= .slice aF len cF:=by rw[J];rfl
  refine F9 (fr':=[(42,.int .i64 (i:Int)),(53,.slice aF len cF),(59,zu yk),(60,.slice ma L mc),(0,.int .i64 (i:Int)),(10,.pointer (some ⟨U,0,none⟩)),(11,.pointer (some ⟨V,0,none⟩)),(12,.slice none 0 0),(13,.pointer (some ⟨Y,0,none⟩)),(15,.pointer (some ⟨Z,0,none⟩))])
   (L':=[.row (.slice aF len cF) 5 1 len (lb.map v8),.blk Z 133 (zg k),.blk Y 133 (zg x),.blk V 133 (List.replicate 16 (.int .u64 0)),.blk U 133 (List.replicate 16 (.int .u64 0))]) ?_ (by simp only[e3];exact Sub.go) ?_
  rotate_left
  ·show SubR _ ((ρ 8).2++_);rw[e2];exact q_h
  repeat' (first|refine s_0 ?_|refine zbO ?_|refine zal (id:=8) 12 [[],[],[],[],[],[2,3,4],[2,3,4,5],[2,3,4,5],[2,3,4,5,6,7],[0,1,2,3,4,5,6,7,8],[0,1,2,3,4,5,6,7,8,9],[0,1,2,3,4,5,6,7,8,9],[0,1,2,3,4,5,6,7,8,9,10,11],[0,1,2,3,4,5,6,7,8,9,10,11,12]] mixed ?_ ?_;kernel_rfl;refine zO ?_;refine q_D (zd (B:=zg k)) ?_;refine zO ?_;refine q_D (zd (B:=zg e)) ?_;refine q_D (zd (B:=zg x)) ?_;refine q_D (za (hc:=λj _ m _=>b2 j m)) ?_;refine q_D zan ?_;refine q_D zan ?_;refine q_D (za (hc:=q_c b8)) ?_;refine q_D (za (hc:=λj _ m _=>K j m)) ?_;refine q_D zan ?_;refine q_D zan ?_;refine zaG ?_;refine q_v (za (hc:=q_c b9)) ?_;refine q_n (zk (n:=s)) ?_|refine q_k 9 ?_;refine q_v (zd (B:=zg e)) ?_;(refine q_s (zn (hc:=zr a7)) ?_;rintro _ _ ⟨R,rfl,aE,cE,rfl,rfl⟩;refine znC (λj Q=>(Row.none Q (a:=aE) (n:=len) (c:=cE) En:aE=none->cE=0)) λe5=>?_);refine zf ?_;refine q_v (za (hc:=λ_ _ _ _=>(hd _ _ _ _))) ?_;(refine q_s zdl ?_;rintro _ _ ⟨rfl,_,_,rfl⟩);refine zf ?_|refine q_k 10 ?_;refine q_v (zd (B:=zg s)) ?_;(refine q_s (zn (hc:=zr a8)) ?_;rintro _ _ ⟨R,rfl,aS,cS,rfl,rfl⟩;refine znC (λj Q=>(Row.none Q (a:=aS) (n:=len) (c:=cS) En:aS=none->cS=0)) λe6=>?_);refine zf ?_;refine q_v (za (hc:=λ_ _ _ _=>(hd _ _ _ _))) ?_;(refine q_s zaB ?_;rintro _ _ ⟨rfl,_,_,rfl⟩);refine zf ?_|refine q_k 11 ?_|(refine zx ?_;first|refine q_v (za (hc:=λj X m Q=>b0 j m aF cF (zru (E:=5) Q c2 q_h))) ?_|refine q_n (zk (n:=e)) ?_|fail)|fail)
  have b6:(lE.map v8).append (lS.map v8)=(lE++lS).map v8:=B2.symm;rw[b6];exact zT rfl (zj rfl) (zj rfl) q_h ⟨_,_,_,rfl,by show len+len=(lE++lS).length;rw[A3,c1,c3],rfl⟩
 rw[show zfK z pl nl ml=none from if_neg hall];repeat' (first|refine s_0 ?_|refine q_k 0 ?_)
 refine zjn (γ:=Unit) 0 (λ_=>[]) (λ_=>[]) (λ_=>True) rfl ?_ (λ_ _=>?_);rotate_left
 ·repeat' (first|refine s_0 ?_|refine zbO ?_|refine q_k 12 ?_)
  refine zjB (zbZ 5 1) ?_;exact zT rfl (zj rfl) (zj rfl) q_h ⟨_,_,_,rfl,rfl,rfl⟩
 cases m:zdJ z pl with
 |false=>
  rw[m] at q;generalize (zaQ z nl).2=e,(zaQ z nl).1=k,(za2 z pl).1=x at*;repeat' (first|refine s_0 ?_|refine zf0 ?_|refine zcM ?_|refine zfb ?_|refine ze 1 ?_;refine zi ?_;intro _;refine zi ?_;intro _|refine q_k 2 ?_|refine q_k 3 ?_;refine q_v (za (hc:=zr q)) ?_;refine zf ?_;refine zi ?_;intro _;refine q_y (zk (n:=x)) ?_|refine q_k 4 ?_;refine q_v (za (hc:=zr F)) ?_;refine zf ?_;refine zi ?_;intro _;refine q_y (zk (n:=k)) ?_|refine q_k 5 ?_;refine zI ?_;refine zf ?_)
  exact zam () trivial FL El
 |true=>
  rw[m] at q;by_cases O:(zaQ z nl).2=0
  ·have g1:decide ((zaQ z nl).2≠0)=false:=decide_eq_false (λh=>h O);by_cases A:(zaQ z nl).1=0
   ·have gz:decide ((zaQ z nl).1=0)=true:=decide_eq_true A;rw[gz] at S;generalize (zaQ z nl).2=e,(zaQ z nl).1=k,(za2 z pl).1=x at*;repeat' (first|refine s_0 ?_|refine zf0 ?_|refine zcM ?_|refine zfb ?_|refine ze 1 ?_;refine zi ?_;intro _;refine zi ?_;intro _|refine q_k 2 ?_|refine q_k 3 ?_;refine q_v (za (hc:=zr q)) ?_;refine zf ?_;refine zi ?_;intro _;refine q_y (zk (n:=x)) ?_|refine q_k 4 ?_;refine q_v (za (hc:=zr F)) ?_;refine zf ?_;refine zi ?_;intro _;refine q_y (zk (n:=k)) ?_|refine q_k 5 ?_;refine zI ?_;refine zf ?_;refine q_x (zV (hr:=g1)) ?_;refine q_v (zd (B:=zg k)) ?_;refine q_v (za (hc:=q_c S)) ?_;refine zf ?_)
    exact zam () trivial FL El
   ·have gz:decide ((zaQ z nl).1=0)=false:=decide_eq_false A;rw[gz] at S;have gm:decide (65536<(L:Int))=true:=decide_eq_true (by
     have:¬ml.length<=65536:=λh=>hall ⟨m,O,A,h⟩;omega)
    generalize (zaQ z nl).2=e,(zaQ z nl).1=k,(za2 z pl).1=x at*;repeat' (first|refine s_0 ?_|refine zf0 ?_|refine zcM ?_|refine zfb ?_|refine ze 1 ?_;refine zi ?_;intro _;refine zi ?_;intro _|refine q_k 2 ?_|refine q_k 3 ?_;refine q_v (za (hc:=zr q)) ?_;refine zf ?_;refine zi ?_;intro _;refine q_y (zk (n:=x)) ?_|refine q_k 4 ?_;refine q_v (za (hc:=zr F)) ?_;refine zf ?_;refine zi ?_;intro _;refine q_y (zk (n:=k)) ?_|refine q_k 5 ?_;refine zI ?_;refine zf ?_;refine q_x (zV (hr:=g1)) ?_;refine q_v (zd (B:=zg k)) ?_;refine q_v (za (hc:=q_c S)) ?_;refine zf ?_|refine q_k 6 ?_;refine q_v (zF (hr:=gm)) ?_)
    exact zam () trivial FL El
  ·have g1:decide ((zaQ z nl).2≠0)=true:=decide_eq_true O;generalize (zaQ z nl).2=e,(zaQ z nl).1=k,(za2 z pl).1=x at*;repeat' (first|refine s_0 ?_|refine zf0 ?_|refine zcM ?_|refine zfb ?_|refine ze 1 ?_;refine zi ?_;intro _;refine zi ?_;intro _|refine q_k 2 ?_|refine q_k 3 ?_;refine q_v (za (hc:=zr q)) ?_;refine zf ?_;refine zi ?_;intro _;refine q_y (zk (n:=x)) ?_|refine q_k 4 ?_;refine q_v (za (hc:=zr F)) ?_;refine zf ?_;refine zi ?_;intro _;refine q_y (zk (n:=k)) ?_|refine q_k 5 ?_;refine zI ?_;refine zf ?_;refine q_x (zV (hr:=g1)) ?_)
   exact zam () trivial FL El
attribute [local irreducible] zbd
def ST(w:World):Prop:=w.rangeAt 2 0 [.int .i64 0,.int .i64 1]
theorem ST.to{w w':World}(h:ST w)(hk:Keep No w w'):ST w':=zaW h hk (λh=>h)
def zcd(z:Int)(l:List UInt8):List (List UInt8):=if zbd z=0\/l.length≠2*zbd z then [] else [l.take (zbd z),l.drop (zbd z)]
theorem zjh(z:Int)(l:List UInt8):zbm z l=(zcd z l).map (λb=>bev 256 (bn b)):=by
 unfold zbm zcd;split <;> rfl
def zxF(O:Nat->Prop)(x:List UInt8)(vs:List Value)(RA:List Res)(w:World):Prop:=∃a c,vs= [.slice a x.length c]/\RA= []/\SlF w O a (x.map v8)/\x.length<=c
def zxG(_:Nat->Prop)(x:Nat)(vs:List Value)(RA:List Res)(_:World):Prop:=vs= [zu x]/\RA= []
theorem zrR(z:Int)(a:Option Addr)(n c:Nat)(w:World):Sy.Fn Tryz.prog 212 [.int .i64 z,.slice a n c] w No (λv R=>∃j m,v= .func (.func 269) #[] #[.pointer (some ⟨j,0,none⟩),.pointer (some ⟨m,0,none⟩)]/\R= [.blk m 23 [.slice a n c],.blk j 3 [.int .i64 z]]):=by
 refine zz Tryz.func212 Tryz.ntmps212 ?_;repeat' (first|refine s_0 ?_|refine ze 0 ?_;refine zi ?_;intro _;refine z9 ?_;intro _|refine ze 1 ?_;refine q_x zZ ?_)
 exact q_r
theorem zqj(b2 b3:Nat)(z:Int)(a:Option Addr)(n c:Nat)(l:List UInt8)(w:World)(M:Nat->Prop)(hl:l.length=n)(hc:n<=c)(b1:SlF w M a (l.map v8))(hG:GT w)(N:¬M 0)(hS:ST w)(a7:¬M 2):
  zkH Tryz.prog 269 [.pointer (some ⟨b2,0,none⟩),.pointer (some ⟨b3,0,none⟩)] (zcd z l) zxF w M [.blk b3 23 [.slice a n c],.blk b2 3 [.int .i64 z]]:=by
 intro lp J Jx j0 I hh hY;refine zaT Tryz.func269 rfl Tryz.ntmps269 q_p hh ?_;have F:=λE (r:Keep M w E)=>zn2 z E (zaW hG r N);have Y:=λE (r:Keep M w E)=>zv8 z E (zaW hG r N);have b4:=zf2 z;have a6:w.rangeAt 2 0 [.int .i64 0,.int .i64 1]:=hS;by_cases h0:zbd z=0
 ·have K:zcd z l= []:=if_pos (.inl h0);rw[K] at hY ⊢;rw[h0] at F;repeat' (first|refine s_0 ?_|refine ze 0 ?_;refine zl ?_;refine q_v (za (hc:=zr F)) ?_;refine zf ?_|refine zal (id:=1) 7 [[],[0],[0,1],[0,1,2],[0,1,2,3],[0,1,2],[0,1,2,5],[0,1,2,3,4,5,6],[0,1,2,3,4,5,6,7]] mixed ?_ ?_;kernel_rfl;refine zO ?_;refine dc (by intro _ _;first|exact zY|exact znD|exact op_eqNilF|exact zlZ|exact zik|exact zbb|exact op_eqArr) (k:=?_);refine zO ?_;refine zeF (λ_=>rfl) rfl ?_;refine zeF (λ_=>rfl) rfl ?_;refine zeF (λ_=>rfl) rfl ?_;refine zeF (λ_=>rfl) rfl ?_;refine zaG ?_;refine zt rfl rfl rfl ?_;refine zax ?_|fail)
  exact zln rfl q_h ⟨j0,rfl,.inl I⟩
 have g1:decide (((zbd z:Nat):Int)=0)=false:=q_f;by_cases h1:n=2*zbd z;rotate_left
 ·have K:zcd z l= []:=if_pos (.inr (by rw[hl];exact h1));have g2:decide ((n:Int)≠((2*zbd z:Nat):Int))=true:=decide_eq_true (λh=>h1 q_o);rw[K] at hY ⊢;generalize zbd z=m at*;repeat' (first|refine s_0 ?_|refine ze 0 ?_;refine zl ?_;refine q_v (za (hc:=zr F)) ?_;refine zf ?_|refine zal (id:=1) 7 [[],[0],[0,1],[0,1,2],[0,1,2,3],[0,1,2],[0,1,2,5],[0,1,2,3,4,5,6],[0,1,2,3,4,5,6,7]] mixed ?_ ?_;kernel_rfl;refine zO ?_;refine q_D (zY (hr:=g1)) ?_;refine zO ?_;refine zc6 ?_;refine dc (by intro _ _;first|exact zgd|exact zfG) (k:=?_);refine zc6 ?_;refine q_D (za (hc:=λE _ r _=>Y E r)) ?_;refine zaG ?_;refine q_v (zV (hr:=g2)) ?_;refine zax ?_|fail)
  exact zln rfl q_h ⟨j0,rfl,.inl I⟩
 have g2:decide ((n:Int)≠((2*zbd z:Nat):Int))=false:=decide_eq_false (λh=>h q_o);have hx:∀k (r:k<(zcd z l).length),k<2/\(zcd z l)[k]=(l.take ((k+1)*zbd z)).drop (k*zbd z):=by
  have K:zcd z l= [l.take (zbd z),l.drop (zbd z)]:=if_neg (by rw[hl];omega);rw[K];intro k r;have a9:k<2:=r;refine⟨a9,?_⟩;rcases(show k=0\/k=1 by omega) with rfl|rfl
  ·show l.take (zbd z)=(l.take ((0+1)*zbd z)).drop (0*zbd z);rw[AU,Bm,BA,B9]
  ·show l.drop (zbd z)=(l.take ((1+1)*zbd z)).drop (1*zbd z);rw[Bm,A9 q_o]
 have S:(zcd z l).length=2:=by
  have K:zcd z l= [l.take (zbd z),l.drop (zbd z)]:=if_neg (by rw[hl];omega);rw[K];rfl
 generalize zbd z=m,zcd z l=xs at*;repeat' (first|refine s_t ?_|refine ze 0 ?_;refine zl ?_;refine q_v (za (hc:=zr F)) ?_;refine zf ?_|refine zal (id:=1) 7 [[],[0],[0,1],[0,1,2],[0,1,2,3],[0,1,2],[0,1,2,5],[0,1,2,3,4,5,6],[0,1,2,3,4,5,6,7]] mixed ?_ ?_;kernel_rfl;refine zO ?_;refine q_D (zY (hr:=g1)) ?_;refine zO ?_;refine zc6 ?_;refine dc (by intro _ _;first|exact zgd|exact zfG) (k:=?_);refine zc6 ?_;refine q_D (za (hc:=λE _ r _=>Y E r)) ?_;refine zaG ?_;refine q_v (zV (hr:=g2)) ?_;refine zax ?_|refine ze 2 ?_;refine q_x (zK (B:=[.int .i64 0,.int .i64 1]) (hv:=a6) (hn:=a7)) ?_)
 refine zX (γ:=Nat×Res) (λg=>[(0,.func (.yield lp) #[] #[]),(1,.pointer (some ⟨b2,0,none⟩)),(2,.pointer (some ⟨b3,0,none⟩)),(4,.int .i64 m),(18,.agg [Value.int .i64 0,.int .i64 1].toArray),(19,.int .i64 ((g.1:Nat):Int))]) (λg=>[g.2,.blk b3 23 [.slice a n c],.blk b2 3 [.int .i64 z]]) (λg=>g.1<=2/\J g.1 g.2) (λg=>2-g.1) (0,j0) ⟨AE _,I⟩ ?_ ?_ ?_
 ·exact q_h
 ·exact q_h
 rintro⟨k,j⟩ ⟨h2,hJ⟩;dsimp only at h2 hJ ⊢;rcases AK k 2 with h|h
 ·have R:k<xs.length:=q_o;obtain⟨-,G⟩:=hx k R;have L:decide ((k:Int)<2)=true:=q_d;have Q: [Value.int IntKind.i64 0,.int .i64 1][k]?=some (.int .i64 (k:Int)):=by
   rcases(show k=0\/k=1 by omega) with rfl|rfl <;> rfl
  have A:IntKind.i64.wrap ((k:Int)+1)=((k+1:Nat):Int):=q_w;obtain⟨p,hp⟩:∃p,p=k*m:=⟨_,rfl⟩;obtain⟨q,hq⟩:∃q,q=(k+1)*m:=⟨_,rfl⟩;have b6:q=p+m:=by rw[hq,hp,Nat.succ_mul]
  have b5:p<=m:=by rw[hp];exact BM (AP m (show k<=1 by omega)) q_o
  have b0:IntKind.i64.wrap ((k:Int)*(m:Int))=((p:Nat):Int):=by
   rw[<-BW,<-hp,IntWalk.i64_in _ q_o]
  have T:IntKind.i64.wrap (((k+1:Nat):Int)*(m:Int))=((q:Nat):Int):=by
   rw[<-BW,<-hq,IntWalk.i64_in _ q_o]
  rw[<-hp,<-hq] at G;have Z:((l.take q).drop p).length=m:=by rw[Az,Ad];omega
  have V:SlF w M (zbB a p q 1) (((l.take q).drop p).map v8):=by
   have:=(b1.take q).mov (l:=p) (m:=q) (by rw[Ad,A1];omega);rwa[<-CS,<-Cf] at this
  obtain⟨a',O⟩:∃a',a'=zbB a p q 1:=⟨_,rfl⟩;rw[<-O] at V;have U:q-p=m:=q_o;repeat' (first|refine s_t ?_|refine ze 3 ?_;refine q_v (zm (hr:=L)) ?_|refine ze 4 ?_;refine q_x (zhq (j:=k) (hv:=Q)) ?_|refine q_k 5 ?_;refine zl ?_;refine zf ?_;refine q_x (zaV (hr:=b0)) ?_;refine q_x (zN (hr:=A)) ?_;refine q_x (zaV (hr:=T)) ?_;refine q_x (zN (hr:=A)) ?_;refine q_v (zaV (hr:=T)) ?_;refine q_v (zdd (l:=p) (h:=q) (m:=q) (n':=m) (c':=m) (a':=a') (ha:=O.symm) (hn':=U) (hc':=U)) ?_;(refine q_s (zdj hY R hJ (hL:=Eo (by repeat (first|exact Ej|apply Ek)) rfl Er) (harg:=λE X r a8=>⟨a',m,by rw[G,Z],rfl,by rw[G];exact V.to r (λb hb=>a8.mine _ (by exact A4) b hb),by rw[G,Z];exact A8 _⟩)) ?_;rintro _ _ ⟨y,j',rfl,rfl,hy⟩);refine zI ?_)
  cases y with
  |false=>
   repeat' (first|refine s_0 ?_|fail)
   exact zln rfl q_h ⟨j',rfl,.inr ⟨k+1,by omega,hy⟩⟩
  |true=>
   repeat' (first|refine s_0 ?_|refine ze 6 ?_;refine q_x (zN (hr:=A)) ?_)
   refine zQ (k+1,j') ⟨by show k+1<=2;omega,hy⟩ ?_ ?_ ?_
   ·show 2-(k+1)<2-k;omega
   ·exact q_h
   ·dsimp only;exact q_h
 ·obtain rfl:k=2:=q_o;have L:decide (((2:Nat):Int)<2)=false:=rfl;repeat' (first|refine s_0 ?_|refine ze 3 ?_;refine q_v (zm (hr:=L)) ?_)
  exact ze2 rfl q_h ⟨j,rfl,.inl (S.symm ▸ hJ)⟩
def zqA(b2 b3:Nat)(z:Int)(a:Option Addr)(n c:Nat)(l:List UInt8):List Res:=[.blk b3 23 [.slice a n c],.blk b2 3 [.int .i64 z],.row (.slice a n c) 5 1 n (l.map v8)]
def zwz(z:Int)(n:Nat)(l:List UInt8)(v:Value)(R:List Res):Prop:=∃b2 b3 a c,v= .func (.func 211) #[] #[.pointer (some ⟨b2,0,none⟩),.pointer (some ⟨b3,0,none⟩)]/\R=zqA b2 b3 z a n c l
theorem ztk(z:Int)(a:Option Addr)(n c:Nat)(l:List UInt8)(w:World)(hb:(⟨a,n,c,l⟩:Bs).ok w)(hn:n<1000000):Sy.Fn Tryz.prog 130 [.int .i64 z,.slice a n c] w No (zwz z n l):=by
 refine zz Tryz.func130 Tryz.ntmps130 ?_;have q:l.length=n:=hb.len;have m:=hb.sla;have j:a=none->c=0:=hb.nil;dsimp only at m;repeat' (first|refine s_0 ?_|refine ze 0 ?_;refine zi ?_;intro _;refine z9 ?_;intro _|refine ze 1 ?_;refine zl ?_;(refine q_s zdl ?_;rintro _ _ ⟨rfl,_,_,rfl⟩);refine zJ ?_|refine ze 2 ?_;refine q_x zZ ?_)
 exact zaq rfl (zj rfl) q_h ⟨_,_,_,_,rfl,rfl⟩
theorem zrS(K L:Nat)(z:Int)(a:Option Addr)(n c:Nat)(l:List UInt8)(w:World)(M:Nat->Prop)(hl:l.length=n)(hG:GT w)(N:¬M 0)(hS:ST w)(T:¬M 2):
  zkH Tryz.prog 211 [.pointer (some ⟨K,0,none⟩),.pointer (some ⟨L,0,none⟩)] (zbm z l) zxG w M (zqA K L z a n c l):=by
 intro lp J Jx j0 Q hh hY;refine zaT Tryz.func211 rfl Tryz.ntmps211 q_p hh ?_;unfold zqA;have r:(zbm z l).length=(zcd z l).length:=by rw[zjh,A1]
 have b6:=zf2 z;have I:∀k (j:k<(zcd z l).length),(zcd z l)[k].length<=96:=by
  intro k j;have A:(zcd z l)[k]∈zcd z l:=AX j;generalize (zcd z l)[k]=x at*;unfold zcd at A;split at A
  ·cases A
  ·rename_i h;simp only[AQ,BB,or_false] at A;rcases A with rfl|rfl
   ·rw[Ad];omega
   ·rw[Az];omega
 have a9:∀k (j:k<(zcd z l).length),(zbm z l)[k]'(r ▸ j)=bev 256 (bn (zcd z l)[k]):=by
  intro k j;have:∀(xs:List Nat) (h:xs=(zcd z l).map (λb=>bev 256 (bn b))) (E:k<xs.length),xs[k]=bev 256 (bn (zcd z l)[k]):=by
   intro xs h E;subst h;rw[List.getElem_map]
  exact this _ (zjh z l) _
 repeat' (first|refine s_t ?_|refine zdk ?_|refine ze 0 ?_;refine zi ?_;intro _|refine ze 1 ?_;refine zl ?_;refine zl ?_;(refine q_s (zn (hc:=λq X j hh=>zrR z a n c q)) ?_;rintro _ _ ⟨R,rfl,b4,b5,rfl,rfl⟩))
 rename_i bY;refine zgb (γ:=Res) (xs:=zcd z l) (Arg:=zxF) zcO rfl (en rfl) rfl (λk s=>J k s) (λcc k s=>cc= .exit 0/\Jx k s)
  (λs=>[s,.blk bY 204 [.func (.yield lp) #[] #[]]]) [.blk b5 23 [.slice a n c],.blk b4 3 [.int .i64 z]] [.blk L 23 [.slice a n c],.blk K 3 [.int .i64 z],.row (.slice a n c) 5 1 n (l.map v8)] j0 Q ?_ ?_ ?_ ?_ ?_ ?_
 ·((try simp only[Aa,AY,AH]);(repeat' (first|exact List.Perm.nil|exact Aq _|apply zgP;with_reducible (focus ((repeat (first|exact Ej|apply Ek));done))|apply zgP;(focus ((repeat (first|exact Ej|apply Ek));done)))))
 ·intro q Mi X j A a6 B;simp only[Aa,AY,AH] at B;obtain⟨q1,q2⟩:=zek hG (by unfold ze4;simp) N j A;obtain⟨q3,q4⟩:=zek hS (E3 _ _) T j A;exact zqj b4 b5 z a n c l q Mi hl (FD (a:=a) (n:=n) (c:=c) B (by exact Ey (Ey (Ey (Ey (Ey (Ey Ev))))))) (GZ (n:=n) (m:=n) B (by exact Ey (Ey (Ey (Ey (Ey (Ey Ev)))))) (zxL (by exact Ey (Ey Ev)) a6)) q1 q2 q3 q4
 ·rintro O x vs RA q ⟨ax,cx,rfl,-⟩;rfl
 ·rintro lq k j s vs RA W rec b0 S ⟨ax,cx,rfl,rfl,a7,V⟩ Y F;have U:=hY.to Y F;have Z:k<(zbm z l).length:=r ▸ j;have b1:=I k j;have a8:=a9 k j;have G:=λq E=>zb9 ax (zcd z l)[k].length cx (zcd z l)[k] q rfl V (a7.to (Mi:=No) E (λ_ h=>h.elim)).sla q_o;rw[if_pos (zqM q_o)] at G;generalize (zcd z l)[k]=x at*;have b7:=zb (bev 256 (bn x));have hd:=λq=>zc1 (bev 256 (bn x)) 0 q;generalize bev 256 (bn x)=v at*;repeat' (first|refine s_t ?_|apply zaJ;(focus ((repeat (first|exact Ej|apply Ek));done));assumption|refine q_k 2 ?_|refine zal (id:=3) 6 [[],[],[1],[1,2],[1,2],[1,2,3,4],[0,1,2,3,4,5],[0,1,2,3,4,5,6]] mixed ?_ ?_;kernel_rfl;refine zc6 ?_;refine zO ?_;refine q_D (za (hc:=λq _ j _=>G q j)) ?_;refine q_D zan ?_;refine q_D zan ?_;refine q_D (za (hc:=q_c hd)) ?_;refine zaG ?_;(refine q_s (zdj U Z S (hL:=Eo (by exact Ek Ej) rfl Er) (harg:=λq X _ _=>⟨by rw[a8],rfl⟩)) ?_;rintro _ _ ⟨y,j',rfl,rfl,hy⟩;cases y);refine zI ?_|(refine zx ?_;first|refine zI ?_|fail)|fail)
  ·refine zib j' ⟨rfl,hy⟩ ?_;exact q_h
  ·refine zfY j' hy ?_;exact q_h
 ·intro s hs;repeat' (first|refine zga ?_|refine zmV ?_|fail)
  exact ze2 rfl q_h ⟨s,rfl,.inl (r ▸ hs)⟩
 ·rintro cc k s j ⟨rfl,h⟩;repeat' (first|refine zha ?_|refine zea ?_|refine zmV ?_|fail)
  exact ze2 rfl q_h ⟨s,rfl,.inr ⟨k,r ▸ j,h⟩⟩
end
open Go Go.Sy Go.Wd Go.Sh Go.RowKit
theorem zxN:Tryz.prog.globalNamed "watchword/sha.start" =some 1:=by kernel_rfl
theorem zxn:Tryz.prog.globalNamed "watchword/sha.constants" =some 3:=by kernel_rfl
theorem zyb:Tryz.prog.globalNamed "watchword/sign.scalars" =some 2:=by kernel_rfl
theorem zwx:(Tryz.prog.globals[1]?).map (·.type)=some 249:=by kernel_rfl
theorem zwA:(Tryz.prog.globals[3]?).map (·.type)=some 298:=by kernel_rfl
theorem zxs:(Tryz.prog.globals[2]?).map (·.type)=some 273:=by kernel_rfl
theorem zxv:(Rows.laid_watchword_sha_start:DataW Unit)=Lib.tabData .u32 (h0.map n32):=by kernel_rfl
theorem zxD:(Rows.laid_watchword_sha_constants:DataW Unit)=Lib.tabData .u32 (kC.map n32):=by kernel_rfl
theorem zx6:(Rows.laid_watchword_sign_scalars:DataW Unit)=Lib.tabData .i64 [0,1]:=by kernel_rfl
theorem zuq:Tryz.prog.underlying 249=some (.array 8 247):=by kernel_rfl
theorem zuu:Tryz.prog.underlying 298=some (.array 64 247):=by kernel_rfl
theorem zsw:Tryz.prog.underlying 247=some (.int .u32):=by kernel_rfl
theorem zxJ:Tryz.prog.underlying 3=some (.int .i64):=by kernel_rfl
theorem zwB:Tryz.prog.underlying 273=some (.array 2 3):=by kernel_rfl
theorem zoe:Tryz.prog.cellsOf 247=1:=by kernel_rfl
theorem zus:Tryz.prog.cellsOf 3=1:=by kernel_rfl
theorem zqz:Tryz.prog.cellsOf 249=8:=by kernel_rfl
theorem zqB:Tryz.prog.cellsOf 298=64:=by kernel_rfl
theorem zsu:Tryz.prog.cellsOf 273=2:=by kernel_rfl
theorem zw9{W:World}{l:List (String×DataW Unit)}(h:laidMet Tryz.prog l W)(h1:("watchword/sha.start",Rows.laid_watchword_sha_start)∈l)(h2:("watchword/sha.constants",Rows.laid_watchword_sha_constants)∈l):Tab W No:=by
 rw[zxv] at h1;rw[zxD] at h2;have a1:=zjv h h1 zxN zwx zuq zsw zoe zqz;have a2:=zjv h h2 zxn zwA zuu zsw zoe zqB;rw[DJ] at a1 a2;exact⟨a1,a2,λh=>h,λh=>h⟩
theorem zxU{W:World}{l:List (String×DataW Unit)}(h:laidMet Tryz.prog l W)(h1:("watchword/sign.scalars",Rows.laid_watchword_sign_scalars)∈l):ST W:=by
 rw[zx6] at h1;exact zjv h h1 zyb zxs zwB zxJ zus zsu
noncomputable def zhN(os:Os):World:=
 { zhM os with heap:=(((((zhM os).heap.modify 1 (zeo (h0.map Sy.v32))).modify 3 (zeo (kC.map Sy.v32))).modify 2 (zeo [.int .i64 0,.int .i64 1])).modify 5 (zeo [.slice (some ⟨(zhM os).heap.size,0,none⟩) 64 64])).push (.cells (kC.map Wd.vi).toArray 3) }
end Go.Proofs.YtdnlngbjpdbffaaGreatDoor
namespace Go.Sy
open Go Go.Wd Go.RowKit Go.ChangeShapes Go.WideShapes
variable {H:Type}{enc:TypeId×Value->H}{P:Program}{W:World}
def Rdb(enc:TypeId×Value->H)(P:Program)(W:World)(t:TypeId)(C:List Value):Prop:=∃fuel x,DataW.trod enc P W 0 (λ_=>true) true fuel t C=some x
theorem Rdb.int{t:TypeId}{k:IntKind}{C:List Value}(h:Rdb enc P W t C)(m:P.underlying t=some (.int k)):∃i,C= [.int k i]/\(Lit.int k i).wf=true:=by
 obtain⟨j,x,h⟩:=h;cases j with
 |zero=>simp[DataW.trod] at h
 |succ n=>
  unfold DataW.trod at h;rw[m] at h;split at h <;> simp_all
theorem Rdb.bool{t:TypeId}{C:List Value}(h:Rdb enc P W t C)(m:P.underlying t=some .bool):∃b,C= [.bool b]:=by
 obtain⟨j,x,h⟩:=h;cases j with
 |zero=>simp[DataW.trod] at h
 |succ n=>
  unfold DataW.trod at h;rw[m] at h;split at h <;> simp_all
theorem Rdb.string{t:TypeId}{C:List Value}(h:Rdb enc P W t C)(m:P.underlying t=some .string):∃l:List UInt8,C= [.string (str l)]/\l.length<=maxLen:=by
 obtain⟨j,x,h⟩:=h;cases j with
 |zero=>simp[DataW.trod] at h
 |succ n=>
  unfold DataW.trod at h;rw[m] at h;split at h <;> simp_all;rename_i s;exact⟨s.data.toList,by cases s;simp[str],by
   have:s.data.toList.length=s.size:=by cases s;simp[ByteArray.size]
   omega⟩
theorem Rdb.struct{t:TypeId}{q:Array Field}{C:List Value}(h:Rdb enc P W t C)(F:P.underlying t=some (.struct q)):C.length=P.cellsOf t/\∀f∈q.toList,Rdb enc P W f.type ((C.drop f.offset).take (P.cellsOf f.type)):=by
 obtain⟨r,x,h⟩:=h;obtain⟨I,m,_,_,B,E,G⟩:=DataW.trod_struct F h;refine⟨B,λf A=>?_⟩;obtain⟨i,w,e⟩:=List.getElem_of_mem A;have j:i<I.length:=by rw[E];simpa using w
 have:=G i f (by rw[<-Ch,A2 w,e]);rw[A2 j] at this;exact⟨m,_,this⟩
theorem Rdb.bytes{t e:TypeId}{C:List Value}(h:Rdb enc P W t C)(r:P.underlying t=some (.slice e))(he:P.underlying e=some (.int .u8))(hc:P.cellsOf e=1):∃s:Bs,C= [s.val]/\s.ok W/\s.c<=maxLen:=by
 obtain⟨m,x,h⟩:=h;have q:∃v:Value,C= [v]/\v.oneCell'=true/\v.cells.toList= [v]:=by
  rcases open_ints r he hc h with ⟨j,_⟩|⟨_,_,_,_,j,_⟩
  ·exact⟨_,j,rfl,rfl⟩
  ·exact⟨_,j,rfl,rfl⟩
 obtain⟨v,rfl,w,A⟩:=q;obtain⟨a,n,c,l,j,B,E,F,G,I⟩:=zf4 r he hc (W:=W) (v:=v) ⟨m,by rw[A];exact h⟩ w;exact⟨⟨a,n,c,l⟩,by rw[j];rfl,⟨B,E,G,I⟩,F⟩
theorem zf7{α:Type}{f:α->List Value}{k:Nat} :∀(m:List α),(∀x∈m,(f x).length=k)->∀i j,j<k->(m.flatMap f)[i*k+j]?=m[i]?.bind λx=>(f x)[j]?
 | [],_,i,j,_=>by simp
 |x::m,h,i,j,hj=>by
  have q:=h x A4;rw[Dz];cases i with
  |zero=>rw[BA,AU,B4 q_o];rfl
  |succ i=>
   rw[Bn (by rw[q,BL];omega),q,show(i+1)*k+j-k=i*k+j by rw[BL];omega,zf7 m (λy r=>h y (A0 _ r)) i j hj];rfl
theorem Rdb.list{α:Type}{t e:TypeId}{k:Nat}{C:List Value}(Ψ:List Value->α->Prop)(h:Rdb enc P W t C)(Y:P.underlying t=some (.slice e))(hc:P.cellsOf e=k)(hk:0<k)(hΨ:∀B,Rdb enc P W e B->∃y,Ψ B y):
  ∃a n c,∃O:List (List Value×α),C= [.slice a n c]/\O.length=n/\n<=c/\c<=maxLen/\SlA W a (O.flatMap (·.1))/\(a=none->c=0)/\∀x∈O,x.1.length=k/\Ψ x.1 x.2:=by
 obtain⟨Q,x,h⟩:=h;rcases Deep.open_slice Y h with ⟨rfl,_⟩|⟨a,len,cap,m,n,D,Pl,rfl,_,L,U,M,_,A⟩
 ·exact⟨none,0,0,[],rfl,rfl,A8 _,AE _,.inl rfl,λ_=>rfl,λ_ h=>by cases h⟩
 ·have X:len<=m:=by rw[M];simp;exact L
  rcases AM len with h0|h0
  ·subst h0;exact⟨some a,0,cap,[],rfl,rfl,L,U,.inl rfl,λh=>by (cases h),λ_ h=>by cases h⟩
  have q:a.spot=none:=by
   obtain⟨B,I,_⟩:=A 0 q_o;obtain⟨_,R,J⟩:=World.cells?_some I;have r:=J 0 q_o;rw[A2 q_o] at r;unfold World.cell? at r;split at r
   ·split at r
    ·cases r
    ·rename_i N;simpa [Addr.add] using N
   ·cases r
  obtain⟨b,off,sp⟩:=a;dsimp only at q;subst q;have S:∀i,i<len->∃y:List Value×α,(y.1.length=k/\Ψ y.1 y.2)/\∀j,j<k->W.cell? ⟨b,off+(i*k+j),none⟩=y.1[j]?:=λi w=>by
   obtain⟨B,I,V⟩:=A i q_o;obtain⟨_,R,J⟩:=World.cells?_some I;obtain⟨y,Z⟩:=hΨ B ⟨n,_,V⟩;refine⟨(B,y),⟨R.trans hc,Z⟩,λj K=>?_⟩;have:=J j (by rw[hc];exact K);rw[hc,Addr.add_mid,Addr.add_mid,BH] at this;exact this
  haveI:Inhabited (List Value×α):=⟨(S 0 h0).choose⟩
  obtain⟨F,T⟩:=Deep.choose_lt S;have G:∀x∈(List.range len).map F,x.1.length=k/\Ψ x.1 x.2:=λx A=>by
   obtain⟨i,w,rfl⟩:=C9.1 A;exact(T i (by simpa using w)).1
  refine⟨some ⟨b,off,none⟩,len,cap,(List.range len).map F,rfl,by simp,L,U,.inr ⟨b,off,rfl,λj u K=>?_⟩,λh=>by (cases h),G⟩;have e:j/k*k+j%k=j:=by rw[AN];exact Ae j k
  have E:=zf7 (f:=Prod.fst) ((List.range len).map F) (λx A=>(G x A).1) (j/k) (j%k) (AG _ hk);rw[e,K,Ak] at E;by_cases w:j/k<len
  ·rw[EX w] at E;have:=(T (j/k) w).2 (j%k) (AG _ hk);rw[e] at this;rw[this];exact E.symm
  ·rw[BJ (by simpa using w)] at E;cases E
theorem zq3{v:Value}{C:List Value}(h:v.cells.toList=C)(j:C.length≠1):v= .agg C.toArray:=by
 subst h;cases v <;> first|exact absurd rfl j|simp[Value.cells]
end Go.Sy
