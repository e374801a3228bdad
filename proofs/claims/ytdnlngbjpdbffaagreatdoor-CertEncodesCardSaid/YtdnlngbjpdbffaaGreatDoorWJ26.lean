/- Lemmas of this proof. -/
import Derived.Test.YtdnlngbjpdbffaaGreatDoorWJ25
import Derived.SliceStrings
set_option maxHeartbeats 2000000
set_option maxRecDepth 10000
set_option linter.all false
namespace Go.Sy
def tup(v:Value)(k:Nat):Value:=match v with| .tuple vs=>(vs[k]?).getD v|v=>v
end Go.Sy
namespace Go.Proofs.YtdnlngbjpdbffaaGreatDoor
section
open Go Go.Sy Go.Nt Go.RowKit
attribute [local irreducible] Sy SyL SyX Sy.Fn callFunc zg zae zac iC gP gQ gL zaH zai za7 za1 gel zaU zbX Sh.sum
def zz3(n:Nat)(l:List UInt8)(v:Value)(R:List Res):Prop:=∃a c,v= .tuple #[.slice a n c,.int .i64 0]/\R= [.row (.slice a n c) 5 1 n (l.map v8)]
theorem zi7{z:Int}{pl nl ml:List UInt8}(hk:zdX z pl=true)(he:(zaU z nl).2=0)(h0:(zaU z nl).1≠0)(hm:ml.length<=65536):
  zhs z pl nl ml=some (za7 (gL z.toNat) (sE z.toNat (za1 z pl).1 (zaU z nl).1 ml)++za7 (gL z.toNat) (sS z.toNat (za1 z pl).1 (zaU z nl).1 ml)):=if_pos ⟨hk,he,h0,hm⟩
theorem zxd(z:Int)(pa na ma:Option Addr)(pn pc nn nc K mc:Nat)(pl nl ml:List UInt8)(w:World)(G:GT w)(hT:Tab w No)(hp:(⟨pa,pn,pc,pl⟩:Bs).ok w)(hn:(⟨na,nn,nc,nl⟩:Bs).ok w)(hm:(⟨ma,K,mc,ml⟩:Bs).ok w)(e7:nn<=1000)(c4:K<=100000):
  Sy.Fn Tryz.prog 49 [.int .i64 z,.slice pa pn pc,.slice na nn nc,.slice ma K mc] w No (BR (zhs z pl nl ml)):=by
 refine zt Tryz.func49 Tryz.ntmps49 ?_;have q:=λj (m:Keep No w j)=>ztf z pa pn pc pl j (G.to m) hp.len hp.cap (hp.keep m).sla;have C:=λj (m:Keep No w j)=>zwM z na nn nc nl j (G.to m) hn.len hn.cap q_o (hn.keep m).sla;have e0:=zd (za1 z pl).1;have d8:=zd (zaU z nl).1;have b3:=zpS z pl;have L:=zw0 z nl;have Q:=λj=>zdA (zaU z nl).1 j L;have e4:ml.length=K:=hm.len;by_cases hall:zdX z pl=true/\(zaU z nl).2=0/\(zaU z nl).1≠0/\ml.length<=65536
 ·obtain⟨m,N,A,c5⟩:=hall;rw[zi7 m N A c5];obtain⟨i,rfl,hi,h0,r,b5⟩:=zxu m;rw[hi];have b1:(zaU (i:Int) nl).1<gQ i:=by rw[zuy h0 r];exact AC _ (AI q_e (zbH i h0 r))
  rw[m] at q;rw[N] at C;have Z:decide ((zaU (i:Int) nl).1=0)=false:=decide_eq_false A;rw[Z] at Q;generalize (zaU (i:Int) nl).1=k,(za1 (i:Int) pl).1=x at*;have gm:decide (65536<(K:Int))=false:=q_f;have c7:=λj (m:Keep No w j)=>zjg i x j h0 r (G.to m) b3 b5;have c6:=λj (m:Keep No w j)=>zjg i k j h0 r (G.to m) L b1;have mx:zaH (gP i) (gQ i) (4^x%gP i)=true:=zdE.2 (zjr h0 r _);have mk:zaH (gP i) (gQ i) (4^k%gP i)=true:=zdE.2 (zjr h0 r _);have a9:=λj (m:Keep No w j)=>zmb i (4^x%gP i) j h0 r (G.to m) (Ai (zej mx) (zcg i h0 r)) mx;have c2:=zdF (gL i) (4^x%gP i) (zkV h0 r (zej mx));have hd:=λa n c j=>zoK a n c 0 j;have c0:=λj=>zdj (4^x%gP i) 0 j;have b7:=λj=>zdj (4^k%gP i) 0 j;have c8:gL i<=96:=by have:=zfY (z:=(i:Int)) ⟨by omega,by omega⟩;rwa[Bj] at this
  have a6:0<gQ i:=AI q_e (zbH i h0 r);have hE:sE i x k ml=zbX i (za7 (gL i) (4^x%gP i)) (4^k%gP i) ml:=rfl;have F:sE i x k ml<gQ i:=zjI h0 r _ _ _;have M:sS i x k ml<gQ i:=AC _ a6;have hS:sS i x k ml=(k+sE i x k ml*x%gQ i)%gQ i:=rfl;have b0:=λj (m:Keep No w j) a c (hb:(⟨a,gL i,c,za7 (gL i) (4^x%gP i)⟩:Bs).ok j)=>zi4 i a ma (gL i) c K mc (4^k%gP i) (za7 (gL i) (4^x%gP i)) ml j h0 r (G.to m) (hT.no m) hb (hm.keep m) q_o c4 mk;rw[<-hE] at b0;generalize sE i x k ml=e at*;have b2:=λj (m:Keep No w j)=>zuP i e x j h0 r (G.to m) (Ai F (zcb i h0 r)) b3 (by simp[F,b5]);have b4:e*x%gQ i<gQ i:=AC _ a6;have J:=λj (m:Keep No w j)=>zvg i k (e*x%gQ i) j h0 r (G.to m) L (Ai b4 (zcb i h0 r)) (by simp[b1,b4]);rw[<-hS] at J;generalize sS i x k ml=s at*;have b8:=λj=>zdj (e*x%gQ i) 0 j;have b9:=λj=>zdj s 0 j;have c9:=zd e;have d9:=zd s;have a7:=λj (m:Keep No w j)=>zli i e j h0 r (G.to m) (Ai F (zcb i h0 r)) (decide_eq_true F);have a8:=λj (m:Keep No w j)=>zli i s j h0 r (G.to m) (Ai M (zcb i h0 r)) (decide_eq_true M);have c1:=zdF (gL i) e (zjs h0 r F);have c3:=zdF (gL i) s (zjs h0 r M);unfold zjo at a9 a7 a8;generalize gL i=len,e*x%gQ i=em,4^k%gP i=yk,4^x%gP i=yx,za7 (gL i) s=lS,za7 (gL i) e=lE,za7 (gL i) (4^x%gP i)=lb at*;repeat' (first|refine s_0 ?_|refine zdG ?_|refine zD [0,2] ?_;refine zb ?_|refine zf 1 ?_;refine zj ?_;intro _;refine zj ?_;intro _|refine q_k 3 ?_;refine q_v (za (hc:=zu q)) ?_;refine zb ?_;refine zj ?_;intro _;refine q_y (zl (n:=x)) ?_|refine q_k 4 ?_;refine q_v (za (hc:=zu C)) ?_;refine zb ?_;refine zj ?_;intro _;refine q_y (zl (n:=k)) ?_|refine q_k 5 ?_;refine zJ ?_;refine zb ?_;refine zaA ?_;refine zb ?_;refine q_v (ze (B:=zg k)) ?_;refine q_v (za (hc:=q_c Q)) ?_;refine zb ?_|refine q_k 6 ?_;refine q_v (zH (hr:=gm)) ?_)
  rename_i T U V Y;refine zcQ (id:=7) mixed ?_
  (refine zcX 19 19 [[],[],[],[],[2,3],[2,3,4],[2,3,4],[2,3,4,5,6],[1,2,3,4,5,6,7],[1,2,3,4,5,6,7,8],[1,2,3,4,5,6,7,8],[1,2,3,4,5,6,7,8,9,10],[],[],[1,2,3,4,5,6,7,8,9,10,11,12,13],[1,2,3,4,5,6,7,8,9,10,11,12,13,14],[1,2,3,4,5,6,7,8,9,10,11,12,13,14],[1,2,3,4,5,6,7,8,9,10,11,12,13,14,15,16],[],[0,1,2,3,4,5,6,7,8,9,10,11,12,13,14,15,16,17,18],[0,1,2,3,4,5,6,7,8,9,10,11,12,13,14,15,16,17,18,19]] [[],[],[],[],[],[],[],[],[],[],[],[],[],[],[],[],[],[],[],[],[]] none rfl ?_ ?_ ?_;kernel_rfl;kernel_rfl;refine q_E zZ ?_;refine q_E zZ ?_;refine q_E zZ ?_;refine q_E (ze (B:=zg x)) ?_;refine q_E (za (hc:=zu c7)) ?_;refine q_E zar ?_;refine q_E zar ?_;refine q_E (za (hc:=q_c c0)) ?_;try refine dh_0nE (h:=?_))
  refine zf1 (R:=λ_=>zz3 len lb) (λ_ _ _=>rfl) (λρ S=>zi (hc:=zu a9)) (h:=?_);refine zqE (u:=λρ=>tup (ρ 8).1 0) (λρ S=>?_) (λ_=>rfl) rfl (λρ ρ' h=>by rw[h 8 q_e]) (h:=?_)
  ·obtain⟨⟨a,c,I,e2⟩,-⟩:=S;refine FH (zar (vs:=#[.slice a len c,.int .i64 0]) (hx:=by show some (ρ 8).1=_;rw[I])) λv L' h=>?_;obtain⟨rfl,rfl⟩:=h;exact⟨by rw[I];rfl,rfl⟩
  refine dcE (u:=.int .i64 0) (λρ S=>?_) (k:=?_)
  ·obtain⟨⟨a,c,I,e2⟩,-⟩:=S;exact zar (vs:=#[.slice a len c,.int .i64 0]) (hx:=by show some (ρ 8).1=_;rw[I])
  refine zqE (u:=λρ=>tup (ρ 8).1 0) (λρ S=>?_) (λ_=>rfl) rfl (λρ ρ' h=>by rw[h 8 q_e]) (h:=?_)
  ·obtain⟨⟨a,c,I,e2⟩,-⟩:=S;have e3:tup (ρ 8).1 0= .slice a len c:=by rw[I];rfl
   rw[e3];exact za (hc:=λj X m O=>hd _ _ _ j)
  (skip;refine q_E zZ ?_;refine q_E (ze (B:=zg k)) ?_;refine q_E (za (hc:=zu c6)) ?_;refine q_E zar ?_;refine q_E zar ?_;refine q_E (za (hc:=q_c b7)) ?_;refine q_E zZ ?_;try refine dh_0nE (h:=?_))
  refine ze1 (h:=?_);rintro ρ ⟨⟨aF,cF,I,e2⟩,-⟩
  (refine zcW [[],[],[],[],[2,3],[2,3,4],[2,3,4],[2,3,4,5,6],[1,2,3,4,5,6,7],[1,2,3,4,5,6,7,8],[1,2,3,4,5,6,7,8],[1,2,3,4,5,6,7,8,9,10],[],[],[1,2,3,4,5,6,7,8,9,10,11,12,13],[1,2,3,4,5,6,7,8,9,10,11,12,13,14],[1,2,3,4,5,6,7,8,9,10,11,12,13,14],[1,2,3,4,5,6,7,8,9,10,11,12,13,14,15,16],[],[0,1,2,3,4,5,6,7,8,9,10,11,12,13,14,15,16,17,18],[0,1,2,3,4,5,6,7,8,9,10,11,12,13,14,15,16,17,18,19]] ?_ ?_;kernel_rfl)
  have e3:tup (ρ 8).1 0= .slice aF len cF:=by rw[I];rfl
  refine FI (fr':=[(42,.int .i64 (i:Int)),(53,.slice aF len cF),(59,zr yk),(60,.slice ma K mc),(0,.int .i64 (i:Int)),(10,.pointer (some ⟨T,0,none⟩)),(11,.pointer (some ⟨U,0,none⟩)),(12,.slice none 0 0),(13,.pointer (some ⟨V,0,none⟩)),(15,.pointer (some ⟨Y,0,none⟩))])
   (L':=[.row (.slice aF len cF) 5 1 len (lb.map v8),.blk Y 133 (zg k),.blk V 133 (zg x),.blk U 133 (List.replicate 16 (.int .u64 0)),.blk T 133 (List.replicate 16 (.int .u64 0))]) ?_ (by simp only[e3];exact Sub.go) ?_
  rotate_left
  ·show SubR _ ((ρ 8).2++_);rw[e2];exact q_h
  repeat' (first|refine s_0 ?_|refine zbT ?_|refine zaj (id:=8) 12 [[],[],[],[],[],[2,3,4],[2,3,4,5],[2,3,4,5],[2,3,4,5,6,7],[0,1,2,3,4,5,6,7,8],[0,1,2,3,4,5,6,7,8,9],[0,1,2,3,4,5,6,7,8,9],[0,1,2,3,4,5,6,7,8,9,10,11],[0,1,2,3,4,5,6,7,8,9,10,11,12]] mixed ?_ ?_;kernel_rfl;refine zA ?_;refine q_D (ze (B:=zg k)) ?_;refine zA ?_;refine q_D (ze (B:=zg e)) ?_;refine q_D (ze (B:=zg x)) ?_;refine q_D (za (hc:=λj _ m _=>b2 j m)) ?_;refine q_D zar ?_;refine q_D zar ?_;refine q_D (za (hc:=q_c b8)) ?_;refine q_D (za (hc:=λj _ m _=>J j m)) ?_;refine q_D zar ?_;refine q_D zar ?_;refine zaB ?_;refine q_v (za (hc:=q_c b9)) ?_;refine q_n (zl (n:=s)) ?_|refine q_k 9 ?_;refine q_v (ze (B:=zg e)) ?_;(refine q_s (zi (hc:=zu a7)) ?_;rintro _ _ ⟨R,rfl,aE,cE,rfl,rfl⟩;refine zke (λj O=>(Row.none O (a:=aE) (n:=len) (c:=cE) Ev:aE=none->cE=0)) λe5=>?_);refine zb ?_;refine q_v (za (hc:=λ_ _ _ _=>(hd _ _ _ _))) ?_;(refine q_s zgl ?_;rintro _ _ ⟨rfl,_,_,rfl⟩);refine zb ?_|refine q_k 10 ?_;refine q_v (ze (B:=zg s)) ?_;(refine q_s (zi (hc:=zu a8)) ?_;rintro _ _ ⟨R,rfl,aS,cS,rfl,rfl⟩;refine zke (λj O=>(Row.none O (a:=aS) (n:=len) (c:=cS) Ev:aS=none->cS=0)) λe6=>?_);refine zb ?_;refine q_v (za (hc:=λ_ _ _ _=>(hd _ _ _ _))) ?_;(refine q_s zaE ?_;rintro _ _ ⟨rfl,_,_,rfl⟩);refine zb ?_|refine q_k 11 ?_|(refine zy ?_;first|refine q_v (za (hc:=λj X m O=>b0 j m aF cF (zsr (E:=5) O c2 q_h))) ?_|refine q_n (zl (n:=e)) ?_|fail)|fail)
  have b6:(lE.map v8).append (lS.map v8)=(lE++lS).map v8:=Aq.symm;rw[b6];exact zU rfl (zh rfl) (zh rfl) q_h ⟨_,_,_,rfl,by show len+len=(lE++lS).length;rw[A2,c1,c3],rfl⟩
 rw[show zhs z pl nl ml=none from if_neg hall];repeat' (first|refine s_0 ?_|refine q_k 0 ?_)
 refine zjS (γ:=Unit) 0 (λ_=>[]) (λ_=>[]) (λ_=>True) rfl ?_ (λ_ _=>?_);rotate_left
 ·repeat' (first|refine s_0 ?_|refine zbT ?_|refine q_k 12 ?_)
  refine zcf (za3 5 1) ?_;exact zU rfl (zh rfl) (zh rfl) q_h ⟨_,_,_,rfl,rfl,rfl⟩
 cases m:zdX z pl with
 |false=>
  rw[m] at q;generalize (zaU z nl).2=e,(zaU z nl).1=k,(za1 z pl).1=x at*;repeat' (first|refine s_0 ?_|refine zgA ?_|refine zc8 ?_|refine zfI ?_|refine zf 1 ?_;refine zj ?_;intro _;refine zj ?_;intro _|refine q_k 2 ?_|refine q_k 3 ?_;refine q_v (za (hc:=zu q)) ?_;refine zb ?_;refine zj ?_;intro _;refine q_y (zl (n:=x)) ?_|refine q_k 4 ?_;refine q_v (za (hc:=zu C)) ?_;refine zb ?_;refine zj ?_;intro _;refine q_y (zl (n:=k)) ?_|refine q_k 5 ?_;refine zJ ?_;refine zb ?_)
  exact zak () trivial FP Er
 |true=>
  rw[m] at q;by_cases N:(zaU z nl).2=0
  ·have g1:decide ((zaU z nl).2≠0)=false:=decide_eq_false (λh=>h N);by_cases A:(zaU z nl).1=0
   ·have Z:decide ((zaU z nl).1=0)=true:=decide_eq_true A;rw[Z] at Q;generalize (zaU z nl).2=e,(zaU z nl).1=k,(za1 z pl).1=x at*;repeat' (first|refine s_0 ?_|refine zgA ?_|refine zc8 ?_|refine zfI ?_|refine zf 1 ?_;refine zj ?_;intro _;refine zj ?_;intro _|refine q_k 2 ?_|refine q_k 3 ?_;refine q_v (za (hc:=zu q)) ?_;refine zb ?_;refine zj ?_;intro _;refine q_y (zl (n:=x)) ?_|refine q_k 4 ?_;refine q_v (za (hc:=zu C)) ?_;refine zb ?_;refine zj ?_;intro _;refine q_y (zl (n:=k)) ?_|refine q_k 5 ?_;refine zJ ?_;refine zb ?_;refine q_x (zaf (hr:=g1)) ?_;refine q_v (ze (B:=zg k)) ?_;refine q_v (za (hc:=q_c Q)) ?_;refine zb ?_)
    exact zak () trivial FP Er
   ·have Z:decide ((zaU z nl).1=0)=false:=decide_eq_false A;rw[Z] at Q;have gm:decide (65536<(K:Int))=true:=decide_eq_true (by
     have:¬ml.length<=65536:=λh=>hall ⟨m,N,A,h⟩;omega)
    generalize (zaU z nl).2=e,(zaU z nl).1=k,(za1 z pl).1=x at*;repeat' (first|refine s_0 ?_|refine zgA ?_|refine zc8 ?_|refine zfI ?_|refine zf 1 ?_;refine zj ?_;intro _;refine zj ?_;intro _|refine q_k 2 ?_|refine q_k 3 ?_;refine q_v (za (hc:=zu q)) ?_;refine zb ?_;refine zj ?_;intro _;refine q_y (zl (n:=x)) ?_|refine q_k 4 ?_;refine q_v (za (hc:=zu C)) ?_;refine zb ?_;refine zj ?_;intro _;refine q_y (zl (n:=k)) ?_|refine q_k 5 ?_;refine zJ ?_;refine zb ?_;refine q_x (zaf (hr:=g1)) ?_;refine q_v (ze (B:=zg k)) ?_;refine q_v (za (hc:=q_c Q)) ?_;refine zb ?_|refine q_k 6 ?_;refine q_v (zH (hr:=gm)) ?_)
    exact zak () trivial FP Er
  ·have g1:decide ((zaU z nl).2≠0)=true:=decide_eq_true N;generalize (zaU z nl).2=e,(zaU z nl).1=k,(za1 z pl).1=x at*;repeat' (first|refine s_0 ?_|refine zgA ?_|refine zc8 ?_|refine zfI ?_|refine zf 1 ?_;refine zj ?_;intro _;refine zj ?_;intro _|refine q_k 2 ?_|refine q_k 3 ?_;refine q_v (za (hc:=zu q)) ?_;refine zb ?_;refine zj ?_;intro _;refine q_y (zl (n:=x)) ?_|refine q_k 4 ?_;refine q_v (za (hc:=zu C)) ?_;refine zb ?_;refine zj ?_;intro _;refine q_y (zl (n:=k)) ?_|refine q_k 5 ?_;refine zJ ?_;refine zb ?_;refine q_x (zaf (hr:=g1)) ?_)
   exact zak () trivial FP Er
attribute [local irreducible] zbh
def ST(w:World):Prop:=w.rangeAt 2 0 [.int .i64 0,.int .i64 1]
theorem ST.to{w w':World}(h:ST w)(hk:Keep No w w'):ST w':=zaX h hk (λh=>h)
def zcr(z:Int)(l:List UInt8):List (List UInt8):=if zbh z=0\/l.length≠2*zbh z then [] else [l.take (zbh z),l.drop (zbh z)]
theorem zjR(z:Int)(l:List UInt8):zbs z l=(zcr z l).map (λb=>bev 256 (bn b)):=by
 unfold zbs zcr;split <;> rfl
def zzq(O:Nat->Prop)(x:List UInt8)(vs:List Value)(RA:List Res)(w:World):Prop:=∃a c,vs= [.slice a x.length c]/\RA= []/\SlF w O a (x.map v8)/\x.length<=c
def zzl(_:Nat->Prop)(x:Nat)(vs:List Value)(RA:List Res)(_:World):Prop:=vs= [zr x]/\RA= []
theorem zsW(z:Int)(a:Option Addr)(n c:Nat)(w:World):Sy.Fn Tryz.prog 212 [.int .i64 z,.slice a n c] w No (λv R=>∃j m,v= .func (.func 269) #[] #[.pointer (some ⟨j,0,none⟩),.pointer (some ⟨m,0,none⟩)]/\R= [.blk m 23 [.slice a n c],.blk j 3 [.int .i64 z]]):=by
 refine zt Tryz.func212 Tryz.ntmps212 ?_;repeat' (first|refine s_0 ?_|refine zf 0 ?_;refine zj ?_;intro _;refine zW ?_;intro _|refine zf 1 ?_;refine q_x zab ?_)
 exact q_r
theorem zqS(Z b3:Nat)(z:Int)(a:Option Addr)(n c:Nat)(l:List UInt8)(w:World)(M:Nat->Prop)(hl:l.length=n)(hc:n<=c)(b1:SlF w M a (l.map v8))(hG:GT w)(L:¬M 0)(hS:ST w)(a7:¬M 2):
  zlp Tryz.prog 269 [.pointer (some ⟨Z,0,none⟩),.pointer (some ⟨b3,0,none⟩)] (zcr z l) zzq w M [.blk b3 23 [.slice a n c],.blk Z 3 [.int .i64 z]]:=by
 intro lp J Jx j0 G hh hY;refine zaW Tryz.func269 rfl Tryz.ntmps269 q_p hh ?_;have E:=λC (r:Keep M w C)=>zok z C (zaX hG r L);have V:=λC (r:Keep M w C)=>zwe z C (zaX hG r L);have b4:=zgu z;have a6:w.rangeAt 2 0 [.int .i64 0,.int .i64 1]:=hS;by_cases h0:zbh z=0
 ·have I:zcr z l= []:=if_pos (.inl h0);rw[I] at hY ⊢;rw[h0] at E;repeat' (first|refine s_0 ?_|refine zf 0 ?_;refine zm ?_;refine q_v (za (hc:=zu E)) ?_;refine zb ?_|refine zaj (id:=1) 7 [[],[0],[0,1],[0,1,2],[0,1,2,3],[0,1,2],[0,1,2,5],[0,1,2,3,4,5,6],[0,1,2,3,4,5,6,7]] mixed ?_ ?_;kernel_rfl;refine zA ?_;refine dc (by intro _ _;first|exact zS|exact zoU|exact op_eqNilF|exact zmo|exact ziI|exact zbD|exact op_eqArr) (k:=?_);refine zA ?_;refine zcL (λ_=>rfl) rfl ?_;refine zcL (λ_=>rfl) rfl ?_;refine zcL (λ_=>rfl) rfl ?_;refine zcL (λ_=>rfl) rfl ?_;refine zaB ?_;refine zaC rfl rfl rfl ?_;refine zds ?_|fail)
  exact zl0 rfl q_h ⟨j0,rfl,.inl G⟩
 have g1:decide (((zbh z:Nat):Int)=0)=false:=q_f;by_cases h1:n=2*zbh z;rotate_left
 ·have I:zcr z l= []:=if_pos (.inr (by rw[hl];exact h1));have g2:decide ((n:Int)≠((2*zbh z:Nat):Int))=true:=decide_eq_true (λh=>h1 q_o);rw[I] at hY ⊢;generalize zbh z=m at*;repeat' (first|refine s_0 ?_|refine zf 0 ?_;refine zm ?_;refine q_v (za (hc:=zu E)) ?_;refine zb ?_|refine zaj (id:=1) 7 [[],[0],[0,1],[0,1,2],[0,1,2,3],[0,1,2],[0,1,2,5],[0,1,2,3,4,5,6],[0,1,2,3,4,5,6,7]] mixed ?_ ?_;kernel_rfl;refine zA ?_;refine q_D (zS (hr:=g1)) ?_;refine zA ?_;refine zdr ?_;refine dc (by intro _ _;first|exact ze9|exact zf9) (k:=?_);refine zdr ?_;refine q_D (za (hc:=λC _ r _=>V C r)) ?_;refine zaB ?_;refine q_v (zaf (hr:=g2)) ?_;refine zds ?_|fail)
  exact zl0 rfl q_h ⟨j0,rfl,.inl G⟩
 have g2:decide ((n:Int)≠((2*zbh z:Nat):Int))=false:=decide_eq_false (λh=>h q_o);have hx:∀k (r:k<(zcr z l).length),k<2/\(zcr z l)[k]=(l.take ((k+1)*zbh z)).drop (k*zbh z):=by
  have I:zcr z l= [l.take (zbh z),l.drop (zbh z)]:=if_neg (by rw[hl];omega);rw[I];intro k r;have a9:k<2:=r;refine⟨a9,?_⟩;rcases(show k=0\/k=1 by omega) with rfl|rfl
  ·show l.take (zbh z)=(l.take ((0+1)*zbh z)).drop (0*zbh z);rw[AZ,Bo,BF,BJ]
  ·show l.drop (zbh z)=(l.take ((1+1)*zbh z)).drop (1*zbh z);rw[Bo,A8 q_o]
 have R:(zcr z l).length=2:=by
  have I:zcr z l= [l.take (zbh z),l.drop (zbh z)]:=if_neg (by rw[hl];omega);rw[I];rfl
 generalize zbh z=m,zcr z l=xs at*;repeat' (first|refine s_t ?_|refine zf 0 ?_;refine zm ?_;refine q_v (za (hc:=zu E)) ?_;refine zb ?_|refine zaj (id:=1) 7 [[],[0],[0,1],[0,1,2],[0,1,2,3],[0,1,2],[0,1,2,5],[0,1,2,3,4,5,6],[0,1,2,3,4,5,6,7]] mixed ?_ ?_;kernel_rfl;refine zA ?_;refine q_D (zS (hr:=g1)) ?_;refine zA ?_;refine zdr ?_;refine dc (by intro _ _;first|exact ze9|exact zf9) (k:=?_);refine zdr ?_;refine q_D (za (hc:=λC _ r _=>V C r)) ?_;refine zaB ?_;refine q_v (zaf (hr:=g2)) ?_;refine zds ?_|refine zf 2 ?_;refine q_x (zad (B:=[.int .i64 0,.int .i64 1]) (hv:=a6) (hn:=a7)) ?_)
 refine zN (γ:=Nat×Res) (λg=>[(0,.func (.yield lp) #[] #[]),(1,.pointer (some ⟨Z,0,none⟩)),(2,.pointer (some ⟨b3,0,none⟩)),(4,.int .i64 m),(18,.agg [Value.int .i64 0,.int .i64 1].toArray),(19,.int .i64 ((g.1:Nat):Int))]) (λg=>[g.2,.blk b3 23 [.slice a n c],.blk Z 3 [.int .i64 z]]) (λg=>g.1<=2/\J g.1 g.2) (λg=>2-g.1) (0,j0) ⟨A9 _,G⟩ ?_ ?_ ?_
 ·exact q_h
 ·exact q_h
 rintro⟨k,j⟩ ⟨h2,hJ⟩;dsimp only at h2 hJ ⊢;rcases AF k 2 with h|h
 ·have Q:k<xs.length:=q_o;obtain⟨-,F⟩:=hx k Q;have K:decide ((k:Int)<2)=true:=q_d;have O: [Value.int IntKind.i64 0,.int .i64 1][k]?=some (.int .i64 (k:Int)):=by
   rcases(show k=0\/k=1 by omega) with rfl|rfl <;> rfl
  have A:IntKind.i64.wrap ((k:Int)+1)=((k+1:Nat):Int):=q_w;obtain⟨p,hp⟩:∃p,p=k*m:=⟨_,rfl⟩;obtain⟨q,hq⟩:∃q,q=(k+1)*m:=⟨_,rfl⟩;have b6:q=p+m:=by rw[hq,hp,Nat.succ_mul]
  have b5:p<=m:=by rw[hp];exact BG (AP m (show k<=1 by omega)) q_o
  have b0:IntKind.i64.wrap ((k:Int)*(m:Int))=((p:Nat):Int):=by
   rw[<-Bd,<-hp,IntWalk.i64_in _ q_o]
  have S:IntKind.i64.wrap (((k+1:Nat):Int)*(m:Int))=((q:Nat):Int):=by
   rw[<-Bd,<-hq,IntWalk.i64_in _ q_o]
  rw[<-hp,<-hq] at F;have Y:((l.take q).drop p).length=m:=by rw[Ar,AR];omega
  have U:SlF w M (zbw a p q 1) (((l.take q).drop p).map v8):=by
   have:=(b1.take q).mov (l:=p) (m:=q) (by rw[AR,A0];omega);rwa[<-C9,<-CX] at this
  obtain⟨a',N⟩:∃a',a'=zbw a p q 1:=⟨_,rfl⟩;rw[<-N] at U;have T:q-p=m:=q_o;repeat' (first|refine s_t ?_|refine zf 3 ?_;refine q_v (zo (hr:=K)) ?_|refine zf 4 ?_;refine q_x (zkl (j:=k) (hv:=O)) ?_|refine q_k 5 ?_;refine zm ?_;refine zb ?_;refine q_x (zaJ (hr:=b0)) ?_;refine q_x (zF (hr:=A)) ?_;refine q_x (zaJ (hr:=S)) ?_;refine q_x (zF (hr:=A)) ?_;refine q_v (zaJ (hr:=S)) ?_;refine q_v (zb8 (l:=p) (h:=q) (m:=q) (n':=m) (c':=m) (a':=a') (ha:=N.symm) (hn':=T) (hc':=T)) ?_;(refine q_s (zdD hY Q hJ (hL:=Ew (by repeat (first|exact Es|apply Eu)) rfl Ez) (harg:=λC X r a8=>⟨a',m,by rw[F,Y],rfl,by rw[F];exact U.to r (λb hb=>a8.mine _ (by exact A3) b hb),by rw[F,Y];exact A6 _⟩)) ?_;rintro _ _ ⟨y,j',rfl,rfl,hy⟩);refine zJ ?_)
  cases y with
  |false=>
   repeat' (first|refine s_0 ?_|fail)
   exact zl0 rfl q_h ⟨j',rfl,.inr ⟨k+1,by omega,hy⟩⟩
  |true=>
   repeat' (first|refine s_0 ?_|refine zf 6 ?_;refine q_x (zF (hr:=A)) ?_)
   refine zE (k+1,j') ⟨by show k+1<=2;omega,hy⟩ ?_ ?_ ?_
   ·show 2-(k+1)<2-k;omega
   ·exact q_h
   ·dsimp only;exact q_h
 ·obtain rfl:k=2:=q_o;have K:decide (((2:Nat):Int)<2)=false:=rfl;repeat' (first|refine s_0 ?_|refine zf 3 ?_;refine q_v (zo (hr:=K)) ?_)
  exact zfo rfl q_h ⟨j,rfl,.inl (R.symm ▸ hJ)⟩
def zrC(b2 b3:Nat)(z:Int)(a:Option Addr)(n c:Nat)(l:List UInt8):List Res:=[.blk b3 23 [.slice a n c],.blk b2 3 [.int .i64 z],.row (.slice a n c) 5 1 n (l.map v8)]
def zx0(z:Int)(n:Nat)(l:List UInt8)(v:Value)(R:List Res):Prop:=∃b2 b3 a c,v= .func (.func 211) #[] #[.pointer (some ⟨b2,0,none⟩),.pointer (some ⟨b3,0,none⟩)]/\R=zrC b2 b3 z a n c l
theorem zux(z:Int)(a:Option Addr)(n c:Nat)(l:List UInt8)(w:World)(hb:(⟨a,n,c,l⟩:Bs).ok w)(hn:n<1000000):Sy.Fn Tryz.prog 130 [.int .i64 z,.slice a n c] w No (zx0 z n l):=by
 refine zt Tryz.func130 Tryz.ntmps130 ?_;have q:l.length=n:=hb.len;have m:=hb.sla;have j:a=none->c=0:=hb.nil;dsimp only at m;repeat' (first|refine s_0 ?_|refine zf 0 ?_;refine zj ?_;intro _;refine zW ?_;intro _|refine zf 1 ?_;refine zm ?_;(refine q_s zgl ?_;rintro _ _ ⟨rfl,_,_,rfl⟩);refine zO ?_|refine zf 2 ?_;refine q_x zab ?_)
 exact zap rfl (zh rfl) q_h ⟨_,_,_,_,rfl,rfl⟩
theorem zrM(I K:Nat)(z:Int)(a:Option Addr)(n c:Nat)(l:List UInt8)(w:World)(M:Nat->Prop)(hl:l.length=n)(hG:GT w)(L:¬M 0)(hS:ST w)(S:¬M 2):
  zlp Tryz.prog 211 [.pointer (some ⟨I,0,none⟩),.pointer (some ⟨K,0,none⟩)] (zbs z l) zzl w M (zrC I K z a n c l):=by
 intro lp J Jx j0 N hh hY;refine zaW Tryz.func211 rfl Tryz.ntmps211 q_p hh ?_;unfold zrC;have r:(zbs z l).length=(zcr z l).length:=by rw[zjR,A0]
 have b1:=zgu z;have G:∀k (j:k<(zcr z l).length),(zcr z l)[k].length<=96:=by
  intro k j;have A:(zcr z l)[k]∈zcr z l:=Ad j;generalize (zcr z l)[k]=x at*;unfold zcr at A;split at A
  ·cases A
  ·rename_i h;simp only[AS,BC,or_false] at A;rcases A with rfl|rfl
   ·rw[AR];omega
   ·rw[Ar];omega
 have a8:∀k (j:k<(zcr z l).length),(zbs z l)[k]'(r ▸ j)=bev 256 (bn (zcr z l)[k]):=by
  intro k j;have:∀(xs:List Nat) (h:xs=(zcr z l).map (λb=>bev 256 (bn b))) (C:k<xs.length),xs[k]=bev 256 (bn (zcr z l)[k]):=by
   intro xs h C;subst h;rw[EE]
  exact this _ (zjR z l) _
 repeat' (first|refine s_t ?_|refine zdG ?_|refine zf 0 ?_;refine zj ?_;intro _|refine zf 1 ?_;refine zm ?_;refine zm ?_;(refine q_s (zi (hc:=λq X j hh=>zsW z a n c q)) ?_;rintro _ _ ⟨R,rfl,b4,b5,rfl,rfl⟩))
 rename_i bY;refine zgS (γ:=Res) (xs:=zcr z l) (Arg:=zzq) zdb rfl (en rfl) rfl (λk s=>J k s) (λcc k s=>cc= .exit 0/\Jx k s)
  (λs=>[s,.blk bY 204 [.func (.yield lp) #[] #[]]]) [.blk b5 23 [.slice a n c],.blk b4 3 [.int .i64 z]] [.blk K 23 [.slice a n c],.blk I 3 [.int .i64 z],.row (.slice a n c) 5 1 n (l.map v8)] j0 N ?_ ?_ ?_ ?_ ?_ ?_
 ·((try simp only[Ab,Af,AG]);(repeat' (first|exact List.Perm.nil|exact B5 _|apply zhh;with_reducible (focus ((repeat (first|exact Es|apply Eu));done))|apply zhh;(focus ((repeat (first|exact Es|apply Eu));done)))))
 ·intro q Mi X j A Z B;simp only[Ab,Af,AG] at B;obtain⟨q1,q2⟩:=zeB hG (by unfold zed;simp) L j A;obtain⟨q3,q4⟩:=zeB hS (E8 _ _) S j A;exact zqS b4 b5 z a n c l q Mi hl (FJ (a:=a) (n:=n) (c:=c) B (by exact F4 (F4 (F4 (F4 (F4 (F4 F1))))))) (Sy.Fd (n:=n) (m:=n) B (by exact F4 (F4 (F4 (F4 (F4 (F4 F1)))))) (zy6 (by exact F4 (F4 F1)) Z)) q1 q2 q3 q4
 ·rintro O x vs RA q ⟨ax,cx,rfl,-⟩;rfl
 ·rintro lq k j s vs RA W rec a9 Q ⟨ax,cx,rfl,rfl,a6,U⟩ V E;have T:=hY.to V E;have Y:k<(zbs z l).length:=r ▸ j;have b0:=G k j;have a7:=a8 k j;have F:=λq C=>zcq ax (zcr z l)[k].length cx (zcr z l)[k] q rfl U (a6.to (Mi:=No) C (λ_ h=>h.elim)).sla q_o;rw[if_pos (znc q_o)] at F;generalize (zcr z l)[k]=x at*;have b6:=zd (bev 256 (bn x));have hd:=λq=>zdj (bev 256 (bn x)) 0 q;generalize bev 256 (bn x)=v at*;repeat' (first|refine s_t ?_|apply zcH;(focus ((repeat (first|exact Es|apply Eu));done));assumption|refine q_k 2 ?_|refine zaj (id:=3) 6 [[],[],[1],[1,2],[1,2],[1,2,3,4],[0,1,2,3,4,5],[0,1,2,3,4,5,6]] mixed ?_ ?_;kernel_rfl;refine zdr ?_;refine zA ?_;refine q_D (za (hc:=λq _ j _=>F q j)) ?_;refine q_D zar ?_;refine q_D zar ?_;refine q_D (za (hc:=q_c hd)) ?_;refine zaB ?_;(refine q_s (zdD T Y Q (hL:=Ew (by exact Eu Es) rfl Ez) (harg:=λq X _ _=>⟨by rw[a7],rfl⟩)) ?_;rintro _ _ ⟨y,j',rfl,rfl,hy⟩;cases y);refine zJ ?_|(refine zy ?_;first|refine zJ ?_|fail)|fail)
  ·refine ziW j' ⟨rfl,hy⟩ ?_;exact q_h
  ·refine zgv j' hy ?_;exact q_h
 ·intro s hs;repeat' (first|refine zhH ?_|refine zou ?_|fail)
  exact zfo rfl q_h ⟨s,rfl,.inl (r ▸ hs)⟩
 ·rintro cc k s j ⟨rfl,h⟩;repeat' (first|refine zhG ?_|refine zes ?_|refine zou ?_|fail)
  exact zfo rfl q_h ⟨s,rfl,.inr ⟨k,r ▸ j,h⟩⟩
end
open Go Go.Sy Go.Wd Go.Sh Go.RowKit
theorem zzk:Tryz.prog.globalNamed "watchword/sha.start" =some 1:=by kernel_rfl
theorem zyX:Tryz.prog.globalNamed "watchword/sha.constants" =some 3:=by kernel_rfl
theorem zzF:Tryz.prog.globalNamed "watchword/sign.scalars" =some 2:=by kernel_rfl
theorem zxX:(Tryz.prog.globals[1]?).map (·.type)=some 249:=by kernel_rfl
theorem zx2:(Tryz.prog.globals[3]?).map (·.type)=some 298:=by kernel_rfl
theorem zzr:(Tryz.prog.globals[2]?).map (·.type)=some 273:=by kernel_rfl
theorem zy3:(Rows.laid_watchword_sha_start:DataW Unit)=Lib.tabData .u32 (h0.map n32):=by kernel_rfl
theorem zzg:(Rows.laid_watchword_sha_constants:DataW Unit)=Lib.tabData .u32 (kC.map n32):=by kernel_rfl
theorem zzE:(Rows.laid_watchword_sign_scalars:DataW Unit)=Lib.tabData .i64 [0,1]:=by kernel_rfl
theorem zvE:Tryz.prog.underlying 249=some (.array 8 247):=by kernel_rfl
theorem zvG:Tryz.prog.underlying 298=some (.array 64 247):=by kernel_rfl
theorem ztD:Tryz.prog.underlying 247=some (.int .u32):=by kernel_rfl
theorem zyY:Tryz.prog.underlying 3=some (.int .i64):=by kernel_rfl
theorem zxZ:Tryz.prog.underlying 273=some (.array 2 3):=by kernel_rfl
theorem zo1:Tryz.prog.cellsOf 247=1:=by kernel_rfl
theorem zvx:Tryz.prog.cellsOf 3=1:=by kernel_rfl
theorem zrq:Tryz.prog.cellsOf 249=8:=by kernel_rfl
theorem zrG:Tryz.prog.cellsOf 298=64:=by kernel_rfl
theorem ztF:Tryz.prog.cellsOf 273=2:=by kernel_rfl
theorem zyy{W:World}{l:List (String×DataW Unit)}(h:laidMet Tryz.prog l W)(h1:("watchword/sha.start",Rows.laid_watchword_sha_start)∈l)(h2:("watchword/sha.constants",Rows.laid_watchword_sha_constants)∈l):Tab W No:=by
 rw[zy3] at h1;rw[zzg] at h2;have a1:=zkm h h1 zzk zxX zvE ztD zo1 zrq;have a2:=zkm h h2 zyX zx2 zvG ztD zo1 zrG;rw[D8] at a1 a2;exact⟨a1,a2,λh=>h,λh=>h⟩
theorem zzv{W:World}{l:List (String×DataW Unit)}(h:laidMet Tryz.prog l W)(h1:("watchword/sign.scalars",Rows.laid_watchword_sign_scalars)∈l):ST W:=by
 rw[zzE] at h1;exact zkm h h1 zzF zzr zxZ zyY zvx ztF
noncomputable def zil(os:Os):World:=
 { zis os with heap:=(((((zis os).heap.modify 1 (zeL (h0.map Sy.v32))).modify 3 (zeL (kC.map Sy.v32))).modify 2 (zeL [.int .i64 0,.int .i64 1])).modify 5 (zeL [.slice (some ⟨(zis os).heap.size,0,none⟩) 64 64])).push (.cells (kC.map Wd.vi).toArray 3) }
end Go.Proofs.YtdnlngbjpdbffaaGreatDoor
namespace Go.Sy
open Go Go.Wd Go.RowKit Go.ChangeShapes Go.WideShapes
variable {H:Type}{enc:TypeId×Value->H}{P:Program}{W:World}
def Rdb(enc:TypeId×Value->H)(P:Program)(W:World)(t:TypeId)(C:List Value):Prop:=∃fuel x,DataW.trod enc P W 0 (λ_=>true) true fuel t C=some x
theorem Rdb.int{t:TypeId}{k:IntKind}{C:List Value}(h:Rdb enc P W t C)(m:P.underlying t=some (.int k)):∃i,C= [.int k i]/\(Lit.int k i).wf=true:=by
 obtain⟨j,x,h⟩:=h;cases j with
 |zero=>simp[DataW.trod] at h
 |succ n=>
  unfold DataW.trod at h;rw[m] at h;split at h <;> simp_all
theorem Rdb.bool{t:TypeId}{C:List Value}(h:Rdb enc P W t C)(m:P.underlying t=some .bool):∃b,C= [.bool b]:=by
 obtain⟨j,x,h⟩:=h;cases j with
 |zero=>simp[DataW.trod] at h
 |succ n=>
  unfold DataW.trod at h;rw[m] at h;split at h <;> simp_all
theorem Rdb.string{t:TypeId}{C:List Value}(h:Rdb enc P W t C)(m:P.underlying t=some .string):∃l:List UInt8,C= [.string (str l)]/\l.length<=maxLen:=by
 obtain⟨j,x,h⟩:=h;cases j with
 |zero=>simp[DataW.trod] at h
 |succ n=>
  unfold DataW.trod at h;rw[m] at h;split at h <;> simp_all;rename_i s;exact⟨s.data.toList,by cases s;simp[str],by
   have:s.data.toList.length=s.size:=by cases s;simp[ByteArray.size]
   omega⟩
theorem Rdb.struct{t:TypeId}{q:Array Field}{C:List Value}(h:Rdb enc P W t C)(F:P.underlying t=some (.struct q)):C.length=P.cellsOf t/\∀f∈q.toList,Rdb enc P W f.type ((C.drop f.offset).take (P.cellsOf f.type)):=by
 obtain⟨r,x,h⟩:=h;obtain⟨I,m,_,_,B,E,G⟩:=DataW.trod_struct F h;refine⟨B,λf A=>?_⟩;obtain⟨i,w,e⟩:=List.getElem_of_mem A;have j:i<I.length:=by rw[E];simpa using w
 have:=G i f (by rw[<-Ch,A1 w,e]);rw[A1 j] at this;exact⟨m,_,this⟩
theorem Rdb.bytes{t e:TypeId}{C:List Value}(h:Rdb enc P W t C)(r:P.underlying t=some (.slice e))(he:P.underlying e=some (.int .u8))(hc:P.cellsOf e=1):∃s:Bs,C= [s.val]/\s.ok W/\s.c<=maxLen:=by
 obtain⟨m,x,h⟩:=h;have q:∃v:Value,C= [v]/\v.oneCell'=true/\v.cells.toList= [v]:=by
  rcases open_ints r he hc h with ⟨j,_⟩|⟨_,_,_,_,j,_⟩
  ·exact⟨_,j,rfl,rfl⟩
  ·exact⟨_,j,rfl,rfl⟩
 obtain⟨v,rfl,w,A⟩:=q;obtain⟨a,n,c,l,j,B,E,F,G,I⟩:=zi3 r he hc (W:=W) (v:=v) ⟨m,by rw[A];exact h⟩ w;exact⟨⟨a,n,c,l⟩,by rw[j];rfl,⟨B,E,G,I⟩,F⟩
theorem zgQ{α:Type}{f:α->List Value}{k:Nat} :∀(m:List α),(∀x∈m,(f x).length=k)->∀i j,j<k->(m.flatMap f)[i*k+j]?=m[i]?.bind λx=>(f x)[j]?
 | [],_,i,j,_=>by simp
 |x::m,h,i,j,hj=>by
  have q:=h x A3;rw[E5];cases i with
  |zero=>rw[BF,AZ,BO q_o];rfl
  |succ i=>
   rw[CP (by rw[q,B2];omega),q,show(i+1)*k+j-k=i*k+j by rw[B2];omega,zgQ m (λy r=>h y (A4 _ r)) i j hj];rfl
theorem Rdb.list{α:Type}{t e:TypeId}{k:Nat}{C:List Value}(Ψ:List Value->α->Prop)(h:Rdb enc P W t C)(Y:P.underlying t=some (.slice e))(hc:P.cellsOf e=k)(hk:0<k)(hΨ:∀B,Rdb enc P W e B->∃y,Ψ B y):
  ∃a n c,∃O:List (List Value×α),C= [.slice a n c]/\O.length=n/\n<=c/\c<=maxLen/\SlA W a (O.flatMap (·.1))/\(a=none->c=0)/\∀x∈O,x.1.length=k/\Ψ x.1 x.2:=by
 obtain⟨Q,x,h⟩:=h;rcases Deep.open_slice Y h with ⟨rfl,_⟩|⟨a,len,cap,m,n,D,Pl,rfl,_,L,U,M,_,A⟩
 ·exact⟨none,0,0,[],rfl,rfl,A6 _,A9 _,.inl rfl,λ_=>rfl,λ_ h=>by cases h⟩
 ·have X:len<=m:=by rw[M];simp;exact L
  rcases AD len with h0|h0
  ·subst h0;exact⟨some a,0,cap,[],rfl,rfl,L,U,.inl rfl,λh=>by (cases h),λ_ h=>by cases h⟩
  have q:a.spot=none:=by
   obtain⟨B,I,_⟩:=A 0 q_o;obtain⟨_,R,J⟩:=World.cells?_some I;have r:=J 0 q_o;rw[A1 q_o] at r;unfold World.cell? at r;split at r
   ·split at r
    ·cases r
    ·rename_i N;simpa [Addr.add] using N
   ·cases r
  obtain⟨b,off,sp⟩:=a;dsimp only at q;subst q;have S:∀i,i<len->∃y:List Value×α,(y.1.length=k/\Ψ y.1 y.2)/\∀j,j<k->W.cell? ⟨b,off+(i*k+j),none⟩=y.1[j]?:=λi w=>by
   obtain⟨B,I,V⟩:=A i q_o;obtain⟨_,R,J⟩:=World.cells?_some I;obtain⟨y,Z⟩:=hΨ B ⟨n,_,V⟩;refine⟨(B,y),⟨R.trans hc,Z⟩,λj K=>?_⟩;have:=J j (by rw[hc];exact K);rw[hc,Addr.add_mid,Addr.add_mid,BI] at this;exact this
  haveI:Inhabited (List Value×α):=⟨(S 0 h0).choose⟩
  obtain⟨F,T⟩:=Deep.choose_lt S;have G:∀x∈(List.range len).map F,x.1.length=k/\Ψ x.1 x.2:=λx A=>by
   obtain⟨i,w,rfl⟩:=C4.1 A;exact(T i (by simpa using w)).1
  refine⟨some ⟨b,off,none⟩,len,cap,(List.range len).map F,rfl,by simp,L,U,.inr ⟨b,off,rfl,λj u K=>?_⟩,λh=>by (cases h),G⟩;have e:j/k*k+j%k=j:=by rw[AK];exact Aa j k
  have E:=zgQ (f:=Prod.fst) ((List.range len).map F) (λx A=>(G x A).1) (j/k) (j%k) (AC _ hk);rw[e,K,AY] at E;by_cases w:j/k<len
  ·rw[Eh w] at E;have:=(T (j/k) w).2 (j%k) (AC _ hk);rw[e] at this;rw[this];exact E.symm
  ·rw[BV (by simpa using w)] at E;cases E
theorem zsF{v:Value}{C:List Value}(h:v.cells.toList=C)(j:C.length≠1):v= .agg C.toArray:=by
 subst h;cases v <;> first|exact absurd rfl j|simp[Value.cells]
end Go.Sy
