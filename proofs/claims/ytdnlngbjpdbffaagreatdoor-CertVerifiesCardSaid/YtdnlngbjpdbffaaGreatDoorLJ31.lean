/- Layer sign, walked: Sign. -/
import Derived.Test.YtdnlngbjpdbffaaGreatDoorLJ30
import Derived.Test.YtdnlngbjpdbffaaGreatDoorLJ11
import Derived.Test.YtdnlngbjpdbffaaGreatDoorLJ19
set_option maxHeartbeats 2000000
set_option maxRecDepth 10000
set_option linter.all false
section
namespace Go.Sy
def tup (v:Value) (k:Nat):Value:=match v with| .tuple vs=>(vs[k]?).getD v|v=>v
end Go.Sy
namespace Go.Proofs.YtdnlngbjpdbffaaGreatDoor
open Go Go.Sy Go.Nt Go.RowKit
attribute [local irreducible] Sy SyL SyX Sy.Fn callFunc natC rowN refC iC gP gQ gL memB safeC fixB gnum gel gsca chal Sh.sum
def FixR (n:Nat) (l:List UInt8) (v:Value) (R:List Res):Prop:=∃a c,v= .tuple #[.slice a n c,.int .i64 0]/\R= [.row (.slice a n c) 5 1 n (l.map v8)]
theorem zfo {z:Int}{pl nl ml:List UInt8}(hk:skey z pl=true) (he:(gsca z nl).2=0) (h0:(gsca z nl).1≠0) (hm:ml.length<=65536):
  sSig z pl nl ml=some (fixB (gL z.toNat) (sE z.toNat (gnum z pl).1 (gsca z nl).1 ml) ++ fixB (gL z.toNat) (sS z.toNat (gnum z pl).1 (gsca z nl).1 ml)):=if_pos ⟨hk,he,h0,hm⟩
theorem zp6 (z:Int) (pa na ma:Option Addr) (pn pc nn nc mn mc:Nat) (pl nl ml:List UInt8) (w:World) (hG:GT w) (hT:Tab w No) (hp:(⟨pa,pn,pc,pl⟩:Bs).ok w) (hn:(⟨na,nn,nc,nl⟩:Bs).ok w) (hm:(⟨ma,mn,mc,ml⟩:Bs).ok w) (hnn:nn<=1000) (hmn:mn<=100000):
  Sy.Fn Tryz.prog 49 [.int .i64 z,.slice pa pn pc,.slice na nn nc,.slice ma mn mc] w No (BR (sSig z pl nl ml)):=by
 refine zg Tryz.func49 rfl Tryz.ntmps49 q_p Holds.nil ?_;have hsec:=λw' (hk:Keep No w w')=>zmJ z pa pn pc pl w' (hG.to hk) hp.len hp.cap (hp.keep hk).sla;have hsc:=λw' (hk:Keep No w w')=>zpP z na nn nc nl w' (hG.to hk) hn.len hn.cap q_o (hn.keep hk).sla;have hlx:=ze (gnum z pl).1;have hlk:=ze (gsca z nl).1;have hxW:=zkS z pl;have hkW:=zra z nl;have hz:=λw'=>zbP (gsca z nl).1 w' hkW;have hml:ml.length=mn:=hm.len;by_cases hall:skey z pl=true/\(gsca z nl).2=0/\(gsca z nl).1≠0/\ml.length<=65536
 ·obtain ⟨hk,he,hk0,hmx⟩:=hall;rw [zfo hk he hk0 hmx];obtain ⟨i,rfl,hi,h0,h5,hxq⟩:=zqe hk;rw [hi];have hkq:(gsca (i:Int) nl).1 < gQ i:=by rw [zn6 h0 h5];exact Nat.mod_lt _ (Nat.lt_of_lt_of_le q_e (zaB i h0 h5))
  rw [hk] at hsec;rw [he] at hsc;have gz:decide ((gsca (i:Int) nl).1=0)=false:=decide_eq_false hk0;rw [gz] at hz;generalize (gnum (i:Int) pl).1=x at *;generalize (gsca (i:Int) nl).1=k at *;have gm:decide (65536 < (mn:Int))=false:=q_f;have hpx:=λw' (hk:Keep No w w')=>zfv i x w' h0 h5 (hG.to hk) hxW hxq;have hpk:=λw' (hk:Keep No w w')=>zfv i k w' h0 h5 (hG.to hk) hkW hkq;have mx:memB (gP i) (gQ i) (4 ^ x % gP i)=true:=zaY.2 (zes h0 h5 _);have mk:memB (gP i) (gQ i) (4 ^ k % gP i)=true:=zaY.2 (zes h0 h5 _);have hby:=λw' (hk:Keep No w w')=>zhS i (4 ^ x % gP i) w' h0 h5 (hG.to hk) (Nat.lt_trans (za7 mx) (zaN i h0 h5)) mx;have hfl:=zbH (gL i) (4 ^ x % gP i) (ze5 h0 h5 (za7 mx));have hd:=λa n c w'=>zj9 a n c 0 w';have hdx:=λw'=>zbI (4 ^ x % gP i) 0 w';have hdk:=λw'=>zbI (4 ^ k % gP i) 0 w';have hgl:gL i<=96:=by have:=zcd (z:=(i:Int)) ⟨by omega,by omega⟩;rwa [Int.toNat_natCast] at this
  have hQ0:0 < gQ i:=Nat.lt_of_lt_of_le q_e (zaB i h0 h5);have hE:sE i x k ml=chal i (fixB (gL i) (4 ^ x % gP i)) (4 ^ k % gP i) ml:=rfl;have heq:sE i x k ml < gQ i:=zeB h0 h5 _ _ _;have hsq:sS i x k ml < gQ i:=Nat.mod_lt _ hQ0;have hS:sS i x k ml=(k+sE i x k ml*x % gQ i) % gQ i:=rfl;have hch:=λw' (hk:Keep No w w') a c (hb:(⟨a,gL i,c,fixB (gL i) (4 ^ x % gP i)⟩:Bs).ok w')=>zfQ i a ma (gL i) c mn mc (4 ^ k % gP i) (fixB (gL i) (4 ^ x % gP i)) ml w' h0 h5 (hG.to hk) (hT.no hk) hb (hm.keep hk) q_o hmn mk;rw [<-hE] at hch;generalize sE i x k ml=e at *;have hmul:=λw' (hk:Keep No w w')=>zoe i e x w' h0 h5 (hG.to hk) (Nat.lt_trans heq (zaV i h0 h5)) hxW (by simp [heq,hxq]);have hxe:e*x % gQ i < gQ i:=Nat.mod_lt _ hQ0;have hadd:=λw' (hk:Keep No w w')=>zpy i k (e*x % gQ i) w' h0 h5 (hG.to hk) hkW (Nat.lt_trans hxe (zaV i h0 h5)) (by simp [hkq,hxe]);rw [<-hS] at hadd;generalize sS i x k ml=s at *;have hdm:=λw'=>zbI (e*x % gQ i) 0 w';have hds:=λw'=>zbI s 0 w';have hle:=ze e;have hls:=ze s;have hbe:=λw' (hk:Keep No w w')=>zg0 i e w' h0 h5 (hG.to hk) (Nat.lt_trans heq (zaV i h0 h5)) (decide_eq_true heq);have hbs:=λw' (hk:Keep No w w')=>zg0 i s w' h0 h5 (hG.to hk) (Nat.lt_trans hsq (zaV i h0 h5)) (decide_eq_true hsq);have hfe:=zbH (gL i) e (zf4 h0 h5 heq);have hfs:=zbH (gL i) s (zf4 h0 h5 hsq);unfold FixG at hby hbe hbs;generalize fixB (gL i) (4 ^ x % gP i)=lb at *;generalize fixB (gL i) e=lE at *;generalize fixB (gL i) s=lS at *;generalize 4 ^ x % gP i=yx at *;generalize 4 ^ k % gP i=yk at *;generalize e*x % gQ i=em at *;generalize gL i=len at *;repeat' (first|refine s_0 ?_|refine zbT ?_|(refine zB [0,2] ?_;refine za ?_)|(refine zb 1 ?_;refine zj ?_;intro _;refine zj ?_;intro _)|(refine zb 3 (za ?_);refine yv (zd (f:=99) (hc:=zr hsec)) (k:=?_);refine za ?_;refine zj ?_;intro _;refine yn (zi (n:=x)) (k:=za ?_))|(refine zb 4 (za ?_);refine yv (zd (f:=100) (hc:=zr hsc)) (k:=?_);refine za ?_;refine zj ?_;intro _;refine yn (zi (n:=k)) (k:=za ?_))|(refine zb 5 (za ?_);refine z8 ?_;refine za ?_;refine yv (zf (B:=natC k)) (k:=?_);refine yv (zd (hc:=λ_ _ _ _=>(hz _))) (k:=?_);refine za ?_)|(refine zb 6 (za ?_);refine yv (zU (hr:=gm)) (k:=?_)))
  rename_i b10 b11 b13 b15;refine zbj (id:=7) mixed ?_
  (refine zbi 19 19 [[],[],[],[],[2,3],[2,3,4],[2,3,4],[2,3,4,5,6],[1,2,3,4,5,6,7],[1,2,3,4,5,6,7,8],[1,2,3,4,5,6,7,8],[1,2,3,4,5,6,7,8,9,10],[],[],[1,2,3,4,5,6,7,8,9,10,11,12,13],[1,2,3,4,5,6,7,8,9,10,11,12,13,14],[1,2,3,4,5,6,7,8,9,10,11,12,13,14],[1,2,3,4,5,6,7,8,9,10,11,12,13,14,15,16],[],[0,1,2,3,4,5,6,7,8,9,10,11,12,13,14,15,16,17,18],[0,1,2,3,4,5,6,7,8,9,10,11,12,13,14,15,16,17,18,19]] [[],[],[],[],[],[],[],[],[],[],[],[],[],[],[],[],[],[],[],[],[]] none rfl ?_ ?_ ?_;kernel_rfl;kernel_rfl;refine zaq ?_;refine zaq ?_;refine zaq ?_;refine dcE (λ_ _=>zf (B:=natC x)) (k:=?_);refine dcE (λ_ _=>zd (f:=106) (hc:=zr hpx)) (k:=?_);refine zaG ?_;refine zaG ?_;refine dcE (λ_ _=>zd (hc:=λ_ _ _ _=>(hdx _))) (k:=?_);try refine dh_0nE (h:=?_))
  refine zcp (R:=λ_=>FixR len lb) (λ_ _ _=>rfl) (λρ hρ=>zh (f:=104) (hc:=zr hby)) (h:=?_);refine zlW (u:=λρ=>tup (ρ 8).1 0) (λρ hρ=>?_) (λ_=>rfl) rfl (λρ ρ' h=>by rw [h 8 q_e]) (h:=?_)
  ·obtain ⟨⟨a,c,e1,e2⟩,-⟩:=hρ;refine OpT.mono (zcQ (vs:=#[.slice a len c,.int .i64 0]) (hx:=by show some (ρ 8).1=_;rw [e1])) λv L' h=>?_;obtain ⟨rfl,rfl⟩:=h;exact ⟨by rw [e1];rfl,rfl⟩
  refine dcE (u:=.int .i64 0) (λρ hρ=>?_) (k:=?_)
  ·obtain ⟨⟨a,c,e1,e2⟩,-⟩:=hρ;exact zcQ (vs:=#[.slice a len c,.int .i64 0]) (hx:=by show some (ρ 8).1=_;rw [e1])
  refine zlW (u:=λρ=>tup (ρ 8).1 0) (λρ hρ=>?_) (λ_=>rfl) rfl (λρ ρ' h=>by rw [h 8 q_e]) (h:=?_)
  ·obtain ⟨⟨a,c,e1,e2⟩,-⟩:=hρ;have e3:tup (ρ 8).1 0= .slice a len c:=by rw [e1];rfl
   rw [e3];exact zd (f:=103) (hc:=λw' X hk hh=>hd _ _ _ w')
  (skip;refine zaq ?_;refine dcE (λ_ _=>zf (B:=natC k)) (k:=?_);refine dcE (λ_ _=>zd (f:=106) (hc:=zr hpk)) (k:=?_);refine zaG ?_;refine zaG ?_;refine dcE (λ_ _=>zd (hc:=λ_ _ _ _=>(hdk _))) (k:=?_);refine zaq ?_;try refine dh_0nE (h:=?_))
  refine zco (h:=?_);rintro ρ ⟨⟨aF,cF,e1,e2⟩,-⟩
  (refine zbk [[],[],[],[],[2,3],[2,3,4],[2,3,4],[2,3,4,5,6],[1,2,3,4,5,6,7],[1,2,3,4,5,6,7,8],[1,2,3,4,5,6,7,8],[1,2,3,4,5,6,7,8,9,10],[],[],[1,2,3,4,5,6,7,8,9,10,11,12,13],[1,2,3,4,5,6,7,8,9,10,11,12,13,14],[1,2,3,4,5,6,7,8,9,10,11,12,13,14],[1,2,3,4,5,6,7,8,9,10,11,12,13,14,15,16],[],[0,1,2,3,4,5,6,7,8,9,10,11,12,13,14,15,16,17,18],[0,1,2,3,4,5,6,7,8,9,10,11,12,13,14,15,16,17,18,19]] ?_ ?_;kernel_rfl)
  have e3:tup (ρ 8).1 0= .slice aF len cF:=by rw [e1];rfl
  refine SyL.weaken (fr':=[(42,.int .i64 (i:Int)),(53,.slice aF len cF),(59,natV yk),(60,.slice ma mn mc),(0,.int .i64 (i:Int)),(10,.pointer (some ⟨b10,0,none⟩)),(11,.pointer (some ⟨b11,0,none⟩)),(12,.slice none 0 0),(13,.pointer (some ⟨b13,0,none⟩)),(15,.pointer (some ⟨b15,0,none⟩))])
   (L':=[.row (.slice aF len cF) 5 1 len (lb.map v8),.blk b15 133 (natC k),.blk b13 133 (natC x),.blk b11 133 (List.replicate 16 (.int .u64 0)),.blk b10 133 (List.replicate 16 (.int .u64 0))]) ?_ (by simp only [e3];exact Sub.go) ?_
  rotate_left
  ·show SubR _ ((ρ 8).2 ++ _);rw [e2];exact q_h
  repeat' (first|refine s_0 ?_|refine zaZ ?_|(refine zM (id:=8) 12 [[],[],[],[],[],[2,3,4],[2,3,4,5],[2,3,4,5],[2,3,4,5,6,7],[0,1,2,3,4,5,6,7,8],[0,1,2,3,4,5,6,7,8,9],[0,1,2,3,4,5,6,7,8,9],[0,1,2,3,4,5,6,7,8,9,10,11],[0,1,2,3,4,5,6,7,8,9,10,11,12]] mixed ?_ ?_;kernel_rfl;refine zk ?_;refine dc (λ_ _=>zf (B:=natC k)) (k:=?_);refine zk ?_;refine dc (λ_ _=>zf (B:=natC e)) (k:=?_);refine dc (λ_ _=>zf (B:=natC x)) (k:=?_);refine dc (λ_ _=>zd (f:=108) (hc:=λw' _ hk _=>hmul w' hk)) (k:=?_);refine zbO ?_;refine zbO ?_;refine dc (λ_ _=>zd (hc:=λ_ _ _ _=>(hdm _))) (k:=?_);refine dc (λ_ _=>zd (f:=107) (hc:=λw' _ hk _=>hadd w' hk)) (k:=?_);refine zbO ?_;refine zbO ?_;refine zY ?_;refine yv (zd (hc:=λ_ _ _ _=>(hds _))) (k:=?_);refine yn (zi (n:=s)) (k:=?_))|(refine zb 9 (za ?_);refine yv (zf (B:=natC e)) (k:=?_);(refine ys (zh (f:=109) (hc:=zr hbe)) (k:=?_);rintro _ _ ⟨R,rfl,aE,cE,rfl,rfl⟩;refine ze3 (λw' hh=>(Row.none hh (a:=aE) (n:=len) (c:=cE) Has.go:aE=none->cE=0)) λhnE=>?_);refine za ?_;refine yv (zd (hc:=λ_ _ _ _=>(hd _ _ _ _))) (k:=?_);(refine ys zdD (k:=?_);rintro _ _ ⟨rfl,_,_,rfl⟩);refine za ?_)|(refine zb 10 (za ?_);refine yv (zf (B:=natC s)) (k:=?_);(refine ys (zh (f:=109) (hc:=zr hbs)) (k:=?_);rintro _ _ ⟨R,rfl,aS,cS,rfl,rfl⟩;refine ze3 (λw' hh=>(Row.none hh (a:=aS) (n:=len) (c:=cS) Has.go:aS=none->cS=0)) λhnS=>?_);refine za ?_;refine yv (zd (hc:=λ_ _ _ _=>(hd _ _ _ _))) (k:=?_);(refine ys z9 (k:=?_);rintro _ _ ⟨rfl,_,_,rfl⟩);refine za ?_)|(refine zb 11 (za ?_))|(refine zP ?_;first|refine yv (zd (f:=102) (hc:=λw' X hk hh=>hch w' hk aF cF (zmq (E:=5) hh hfl q_h))) (k:=?_)|refine yn (zi (n:=e)) (k:=?_)|fail)|fail)
  have hap:(lE.map v8).append (lS.map v8)=(lE ++ lS).map v8:=List.map_append.symm;rw [hap];exact ret2 rfl (resTmp rfl) (resTmp rfl) q_h ⟨_,_,_,rfl,by show len+len=(lE ++ lS).length;rw [List.length_append,hfe,hfs],rfl⟩
 rw [show sSig z pl nl ml=none from if_neg hall];repeat' (first|refine s_0 ?_|(refine zb 0 (za ?_)))
 refine zgi (γ:=Unit) 0 (λ_=>[]) (λ_=>[]) (λ_=>True) rfl ?_ (λ_ _=>?_);rotate_left
 ·repeat' (first|refine s_0 ?_|refine zaZ ?_|(refine zb 12 (za ?_)))
  refine zbm (zaE 5 1) ?_;exact ret2 rfl (resTmp rfl) (resTmp rfl) q_h ⟨_,_,_,rfl,rfl,rfl⟩
 cases hk:skey z pl with
 |false=>
  rw [hk] at hsec;generalize (gnum z pl).1=x at *;generalize (gsca z nl).1=k at *;generalize (gsca z nl).2=e at *;repeat' (first|refine s_0 ?_|refine zdL ?_|refine zbD ?_|refine zc8 ?_|(refine zb 1 ?_;refine zj ?_;intro _;refine zj ?_;intro _)|(refine zB [2,5] ?_;refine za ?_)|(refine zb 3 (za ?_);refine yv (zd (f:=99) (hc:=zr hsec)) (k:=?_);refine za ?_;refine zj ?_;intro _;refine yn (zi (n:=x)) (k:=za ?_))|(refine zb 4 (za ?_);refine yv (zd (f:=100) (hc:=zr hsc)) (k:=?_);refine za ?_;refine zj ?_;intro _;refine yn (zi (n:=k)) (k:=za ?_)))
  exact zT () trivial Sub.nil SubR.nil
 |true=>
  rw [hk] at hsec;by_cases he:(gsca z nl).2=0
  ·have g1:decide ((gsca z nl).2≠0)=false:=decide_eq_false (λh=>h he);by_cases hk0:(gsca z nl).1=0
   ·have gz:decide ((gsca z nl).1=0)=true:=decide_eq_true hk0;rw [gz] at hz;generalize (gnum z pl).1=x at *;generalize (gsca z nl).1=k at *;generalize (gsca z nl).2=e at *;repeat' (first|refine s_0 ?_|refine zdL ?_|refine zbD ?_|refine zc8 ?_|(refine zb 1 ?_;refine zj ?_;intro _;refine zj ?_;intro _)|(refine zb 2 (za ?_))|(refine zb 3 (za ?_);refine yv (zd (f:=99) (hc:=zr hsec)) (k:=?_);refine za ?_;refine zj ?_;intro _;refine yn (zi (n:=x)) (k:=za ?_))|(refine zb 4 (za ?_);refine yv (zd (f:=100) (hc:=zr hsc)) (k:=?_);refine za ?_;refine zj ?_;intro _;refine yn (zi (n:=k)) (k:=za ?_))|(refine zb 5 (za ?_);refine yv (zag (hr:=g1)) (k:=za ?_);refine yv (zf (B:=natC k)) (k:=?_);refine yv (zd (hc:=λ_ _ _ _=>(hz _))) (k:=?_);refine za ?_))
    exact zT () trivial Sub.nil SubR.nil
   ·have gz:decide ((gsca z nl).1=0)=false:=decide_eq_false hk0;rw [gz] at hz;have gm:decide (65536 < (mn:Int))=true:=decide_eq_true (by
     have: ¬ml.length<=65536:=λh=>hall ⟨hk,he,hk0,h⟩;omega)
    generalize (gnum z pl).1=x at *;generalize (gsca z nl).1=k at *;generalize (gsca z nl).2=e at *;repeat' (first|refine s_0 ?_|refine zdL ?_|refine zbD ?_|refine zc8 ?_|(refine zb 1 ?_;refine zj ?_;intro _;refine zj ?_;intro _)|(refine zb 2 (za ?_))|(refine zb 3 (za ?_);refine yv (zd (f:=99) (hc:=zr hsec)) (k:=?_);refine za ?_;refine zj ?_;intro _;refine yn (zi (n:=x)) (k:=za ?_))|(refine zb 4 (za ?_);refine yv (zd (f:=100) (hc:=zr hsc)) (k:=?_);refine za ?_;refine zj ?_;intro _;refine yn (zi (n:=k)) (k:=za ?_))|(refine zb 5 (za ?_);refine yv (zag (hr:=g1)) (k:=za ?_);refine yv (zf (B:=natC k)) (k:=?_);refine yv (zd (hc:=λ_ _ _ _=>(hz _))) (k:=?_);refine za ?_)|(refine zb 6 (za ?_);refine yv (zU (hr:=gm)) (k:=?_)))
    exact zT () trivial Sub.nil SubR.nil
  ·have g1:decide ((gsca z nl).2≠0)=true:=decide_eq_true he;generalize (gnum z pl).1=x at *;generalize (gsca z nl).1=k at *;generalize (gsca z nl).2=e at *;repeat' (first|refine s_0 ?_|refine zdL ?_|refine zbD ?_|refine zc8 ?_|(refine zb 1 ?_;refine zj ?_;intro _;refine zj ?_;intro _)|(refine zb 2 (za ?_))|(refine zb 3 (za ?_);refine yv (zd (f:=99) (hc:=zr hsec)) (k:=?_);refine za ?_;refine zj ?_;intro _;refine yn (zi (n:=x)) (k:=za ?_))|(refine zb 4 (za ?_);refine yv (zd (f:=100) (hc:=zr hsc)) (k:=?_);refine za ?_;refine zj ?_;intro _;refine yn (zi (n:=k)) (k:=za ?_))|(refine zb 5 (za ?_);refine yv (zag (hr:=g1)) (k:=za ?_)))
   exact zT () trivial Sub.nil SubR.nil
end Go.Proofs.YtdnlngbjpdbffaaGreatDoor
end
section
namespace Go.Proofs.YtdnlngbjpdbffaaGreatDoor
open Go Go.Sy Go.Nt Go.RowKit
attribute [local irreducible] Sy SyL SyX Sy.Fn callFunc natC rowN refC iC gP gQ gL memB safeC fixB gnum gel gsca chal Sh.sum glen
def ST (w:World):Prop:=w.rangeAt 2 0 [.int .i64 0,.int .i64 1]
theorem ST.to {w w':World}(h:ST w) (hk:Keep No w w'):ST w':=zaw h hk (λh=>h)
def halv (z:Int) (l:List UInt8):List (List UInt8):=if glen z=0\/l.length≠2*glen z then [] else [l.take (glen z),l.drop (glen z)]
theorem zgl (z:Int) (l:List UInt8):sParts z l=(halv z l).map (λb=>bev 256 (bn b)):=by
 unfold sParts halv;split <;> rfl
def ArgH (O:Nat->Prop) (x:List UInt8) (vs:List Value) (RA:List Res) (w:World):Prop:=∃a c,vs= [.slice a x.length c]/\RA= []/\SlF w O a (x.map v8)/\x.length<=c
def ArgV (_:Nat->Prop) (x:Nat) (vs:List Value) (RA:List Res) (_:World):Prop:=vs= [natV x]/\RA= []
theorem znm (z:Int) (a:Option Addr) (n c:Nat) (w:World):Sy.Fn Tryz.prog 212 [.int .i64 z,.slice a n c] w No (λv R=>∃b2 b3,v= .func (.func 269) #[] #[.pointer (some ⟨b2,0,none⟩),.pointer (some ⟨b3,0,none⟩)]/\R= [.blk b3 23 [.slice a n c],.blk b2 3 [.int .i64 z]]):=by
 refine zg Tryz.func212 rfl Tryz.ntmps212 q_p Holds.nil ?_;repeat' (first|refine s_0 ?_|(refine zb 0 ?_;refine zj ?_;intro _;refine zO ?_;intro _)|(refine zb 1 ?_;refine zaa ?_;refine za ?_))
 exact q_r
theorem zlK (b2 b3:Nat) (z:Int) (a:Option Addr) (n c:Nat) (l:List UInt8) (w:World) (M:Nat->Prop) (hl:l.length=n) (hc:n<=c) (hsl:SlF w M a (l.map v8)) (hG:GT w) (hGM: ¬M 0) (hS:ST w) (hSM: ¬M 2):
  IterC Tryz.prog 269 [.pointer (some ⟨b2,0,none⟩),.pointer (some ⟨b3,0,none⟩)] (halv z l) ArgH w M [.blk b3 23 [.slice a n c],.blk b2 3 [.int .i64 z]]:=by
 intro lp J Jx j0 hJ0 hh hY;refine zg Tryz.func269 rfl Tryz.ntmps269 q_p hh ?_;have hgl:=λw' (hk:Keep M w w')=>zjg z w' (zaw hG hk hGM);have hsn:=λw' (hk:Keep M w w')=>zqp z w' (zaw hG hk hGM);have hle:=zdG z;have hS':w.rangeAt 2 0 [.int .i64 0,.int .i64 1]:=hS;by_cases h0:glen z=0
 ·have he:halv z l= []:=if_pos (.inl h0);rw [he] at hY ⊢;rw [h0] at hgl;repeat' (first|refine s_0 ?_|(refine zb 0 ?_;refine zm ?_;refine yv (zd (f:=270) (hc:=zr hgl)) (k:=?_);refine za ?_)|(refine zM (id:=1) 7 [[],[0],[0,1],[0,1,2],[0,1,2,3],[0,1,2],[0,1,2,5],[0,1,2,3,4,5,6],[0,1,2,3,4,5,6,7]] mixed ?_ ?_;kernel_rfl;refine zk ?_;refine zse ?_;refine zk ?_;refine zat (λ_=>rfl) rfl ?_;refine zat (λ_=>rfl) rfl ?_;refine zat (λ_=>rfl) rfl ?_;refine zat (λ_=>rfl) rfl ?_;refine zY ?_;refine zam rfl rfl rfl ?_;refine za1 ?_)|fail)
  exact ret0 rfl q_h ⟨j0,rfl,.inl hJ0⟩
 have g1:decide (((glen z:Nat):Int)=0)=false:=q_f;by_cases h1:n=2*glen z;rotate_left
 ·have he:halv z l= []:=if_pos (.inr (by rw [hl];exact h1));have g2:decide ((n:Int)≠((2*glen z:Nat):Int))=true:=decide_eq_true (λh=>h1 q_o);rw [he] at hY ⊢;generalize glen z=m at *;repeat' (first|refine s_0 ?_|(refine zb 0 ?_;refine zm ?_;refine yv (zd (f:=270) (hc:=zr hgl)) (k:=?_);refine za ?_)|(refine zM (id:=1) 7 [[],[0],[0,1],[0,1,2],[0,1,2,3],[0,1,2],[0,1,2,5],[0,1,2,3,4,5,6],[0,1,2,3,4,5,6,7]] mixed ?_ ?_;kernel_rfl;refine zk ?_;refine dc (λ_ _=>zX (hr:=g1)) (k:=?_);refine zk ?_;refine zal ?_;refine ziK ?_;refine zal ?_;refine dc (λ_ _=>zd (f:=271) (hc:=λw' _ hk _=>hsn w' hk)) (k:=?_);refine zY ?_;refine yv (zag (hr:=g2)) (k:=?_);refine za1 ?_)|fail)
  exact ret0 rfl q_h ⟨j0,rfl,.inl hJ0⟩
 have g2:decide ((n:Int)≠((2*glen z:Nat):Int))=false:=decide_eq_false (λh=>h q_o);have hx: ∀k (hk:k < (halv z l).length),k < 2/\(halv z l)[k]=(l.take ((k+1)*glen z)).drop (k*glen z):=by
  have he:halv z l= [l.take (glen z),l.drop (glen z)]:=if_neg (by rw [hl];omega);rw [he];intro k hk;have hk2:k < 2:=hk;refine ⟨hk2,?_⟩;rcases (show k=0\/k=1 by omega) with rfl|rfl
  ·show l.take (glen z)=(l.take ((0+1)*glen z)).drop (0*glen z);rw [Nat.zero_add,Nat.one_mul,Nat.zero_mul,List.drop_zero]
  ·show l.drop (glen z)=(l.take ((1+1)*glen z)).drop (1*glen z);rw [Nat.one_mul,List.take_of_length_le q_o]
 have hlen:(halv z l).length=2:=by
  have he:halv z l= [l.take (glen z),l.drop (glen z)]:=if_neg (by rw [hl];omega);rw [he];rfl
 generalize halv z l=xs at *;generalize glen z=m at *;repeat' (first|refine s_t ?_|(refine zb 0 ?_;refine zm ?_;refine yv (zd (f:=270) (hc:=zr hgl)) (k:=?_);refine za ?_)|(refine zM (id:=1) 7 [[],[0],[0,1],[0,1,2],[0,1,2,3],[0,1,2],[0,1,2,5],[0,1,2,3,4,5,6],[0,1,2,3,4,5,6,7]] mixed ?_ ?_;kernel_rfl;refine zk ?_;refine dc (λ_ _=>zX (hr:=g1)) (k:=?_);refine zk ?_;refine zal ?_;refine ziK ?_;refine zal ?_;refine dc (λ_ _=>zd (f:=271) (hc:=λw' _ hk _=>hsn w' hk)) (k:=?_);refine zY ?_;refine yv (zag (hr:=g2)) (k:=?_);refine za1 ?_)|(refine zb 2 ?_;refine yv (zz (B:=[.int .i64 0,.int .i64 1]) (hv:=hS') (hn:=hSM)) (k:=za ?_)))
 refine zy (γ:=Nat×Res) (λg=>[(0,.func (.yield lp) #[] #[]),(1,.pointer (some ⟨b2,0,none⟩)),(2,.pointer (some ⟨b3,0,none⟩)),(4,.int .i64 m),(18,.agg [Value.int .i64 0,.int .i64 1].toArray),(19,.int .i64 ((g.1:Nat):Int))]) (λg=>[g.2,.blk b3 23 [.slice a n c],.blk b2 3 [.int .i64 z]]) (λg=>g.1<=2/\J g.1 g.2) (λg=>2 - g.1) (0,j0) ⟨Nat.zero_le _,hJ0⟩ ?_ ?_ ?_
 ·exact q_h
 ·exact q_h
 rintro ⟨k,j⟩ ⟨h2,hJ⟩;dsimp only at h2 hJ ⊢;rcases Nat.lt_or_ge k 2 with h|h
 ·have hkx:k < xs.length:=q_o;obtain ⟨-,hxk⟩:=hx k hkx;have hlt:decide ((k:Int) < 2)=true:=q_d;have hidx: [Value.int IntKind.i64 0,.int .i64 1][k]?=some (.int .i64 (k:Int)):=by
   rcases (show k=0\/k=1 by omega) with rfl|rfl <;> rfl
  have hadd:IntKind.i64.wrap ((k:Int)+1)=((k+1:Nat):Int):=q_w;obtain ⟨p,hp⟩: ∃p,p=k*m:=⟨_,rfl⟩;obtain ⟨q,hq⟩: ∃q,q=(k+1)*m:=⟨_,rfl⟩;have hpq:q=p+m:=by rw [hq,hp,Nat.succ_mul]
  have hpm:p<=m:=by rw [hp];exact Nat.le_trans (Nat.mul_le_mul_right m (show k<=1 by omega)) q_o
  have hm1:IntKind.i64.wrap ((k:Int)*(m:Int))=((p:Nat):Int):=by
   rw [<-Int.natCast_mul,<-hp,IntWalk.i64_in _ q_o]
  have hm2:IntKind.i64.wrap (((k+1:Nat):Int)*(m:Int))=((q:Nat):Int):=by
   rw [<-Int.natCast_mul,<-hq,IntWalk.i64_in _ q_o]
  rw [<-hp,<-hq] at hxk;have hxl:((l.take q).drop p).length=m:=by rw [List.length_drop,List.length_take];omega
  have hsf:SlF w M (movA a p q 1) (((l.take q).drop p).map v8):=by
   have:=(hsl.take q).mov (l:=p) (m:=q) (by rw [List.length_take,List.length_map];omega);rwa [<-List.map_take,<-List.map_drop] at this
  obtain ⟨a',ha'⟩: ∃a',a'=movA a p q 1:=⟨_,rfl⟩;rw [<-ha'] at hsf;have hmm:q - p=m:=q_o;repeat' (first|refine s_t ?_|(refine zb 3 ?_;refine yv (zn (hr:=hlt)) (k:=?_))|(refine zb 4 ?_;refine yv (zgs (j:=k) (hv:=hidx)) (k:=za ?_))|(refine zb 5 (za ?_);refine zm ?_;refine za ?_;refine yv (zah (hr:=hm1)) (k:=za ?_);refine yv (zu (hr:=hadd)) (k:=za ?_);refine yv (zah (hr:=hm2)) (k:=za ?_);refine yv (zu (hr:=hadd)) (k:=za ?_);refine yv (zah (hr:=hm2)) (k:=?_);refine yv (za0 (l:=p) (h:=q) (m:=q) (n':=m) (c':=m) (a':=a') (ha:=ha'.symm) (hn':=hmm) (hc':=hmm)) (k:=?_);(refine ys (zbS hY hkx hJ (hL:=RemL.cons (by repeat (first|exact Rem.here|apply Rem.there)) rfl RemL.nil) (harg:=λw' X hk hh'=>⟨a',m,by rw [hxk,hxl],rfl,by rw [hxk];exact hsf.to hk (λb hb=>hh'.mine _ (by exact List.mem_cons_self) b hb),by rw [hxk,hxl];exact Nat.le_refl _⟩)) (k:=?_);rintro _ _ ⟨y,j',rfl,rfl,hy⟩);refine za ?_))
  cases y with
  |false=>
   repeat' (first|refine s_0 ?_|fail)
   exact ret0 rfl q_h ⟨j',rfl,.inr ⟨k+1,by omega,hy⟩⟩
  |true=>
   repeat' (first|refine s_0 ?_|(refine zb 6 ?_;refine yv (zu (hr:=hadd)) (k:=za ?_)))
   refine zq (k+1,j') ⟨by show k+1<=2;omega,hy⟩ ?_ ?_ ?_
   ·show 2 - (k+1) < 2 - k;omega
   ·exact q_h
   ·dsimp only;exact q_h
 ·obtain rfl:k=2:=q_o;have hlt:decide (((2:Nat):Int) < 2)=false:=rfl;repeat' (first|refine s_0 ?_|(refine zb 3 ?_;refine yv (zn (hr:=hlt)) (k:=?_)))
  exact end0 rfl q_h ⟨j,rfl,.inl (hlen.symm ▸ hJ)⟩
def PRes (b2 b3:Nat) (z:Int) (a:Option Addr) (n c:Nat) (l:List UInt8):List Res:=[.blk b3 23 [.slice a n c],.blk b2 3 [.int .i64 z],.row (.slice a n c) 5 1 n (l.map v8)]
def PartsOf (z:Int) (n:Nat) (l:List UInt8) (v:Value) (R:List Res):Prop:=∃b2 b3 a c,v= .func (.func 211) #[] #[.pointer (some ⟨b2,0,none⟩),.pointer (some ⟨b3,0,none⟩)]/\R=PRes b2 b3 z a n c l
theorem zoo (z:Int) (a:Option Addr) (n c:Nat) (l:List UInt8) (w:World) (hb:(⟨a,n,c,l⟩:Bs).ok w) (hn:n < 1000000):Sy.Fn Tryz.prog 130 [.int .i64 z,.slice a n c] w No (PartsOf z n l):=by
 refine zg Tryz.func130 rfl Tryz.ntmps130 q_p Holds.nil ?_;have hl:l.length=n:=hb.len;have hs:=hb.sla;have hnil:a=none->c=0:=hb.nil;dsimp only at hs;repeat' (first|refine s_0 ?_|(refine zb 0 ?_;refine zj ?_;intro _;refine zO ?_;intro _)|(refine zb 1 ?_;refine zm ?_;(refine ys zdD (k:=?_);rintro _ _ ⟨rfl,_,_,rfl⟩);refine zI ?_)|(refine zb 2 ?_;refine zaa ?_;refine za ?_))
 exact ret1 rfl (resTmp rfl) q_h ⟨_,_,_,_,rfl,rfl⟩
theorem zmW (b2 b3:Nat) (z:Int) (a:Option Addr) (n c:Nat) (l:List UInt8) (w:World) (M:Nat->Prop) (hl:l.length=n) (hG:GT w) (hGM: ¬M 0) (hS:ST w) (hSM: ¬M 2):
  IterC Tryz.prog 211 [.pointer (some ⟨b2,0,none⟩),.pointer (some ⟨b3,0,none⟩)] (sParts z l) ArgV w M (PRes b2 b3 z a n c l):=by
 intro lp J Jx j0 hJ0 hh hY;refine zg Tryz.func211 rfl Tryz.ntmps211 q_p hh ?_;unfold PRes;have hpl:(sParts z l).length=(halv z l).length:=by rw [zgl,List.length_map]
 have hle:=zdG z;have hx96: ∀k (hk:k < (halv z l).length),(halv z l)[k].length<=96:=by
  intro k hk;have hm:(halv z l)[k]∈halv z l:=List.getElem_mem hk;generalize (halv z l)[k]=x at *;unfold halv at hm;split at hm
  ·cases hm
  ·rename_i h;simp only [List.mem_cons,List.not_mem_nil,or_false] at hm;rcases hm with rfl|rfl
   ·rw [List.length_take];omega
   ·rw [List.length_drop];omega
 have hxk: ∀k (hk:k < (halv z l).length),(sParts z l)[k]'(hpl ▸ hk)=bev 256 (bn (halv z l)[k]):=by
  intro k hk;have: ∀(xs:List Nat) (h:xs=(halv z l).map (λb=>bev 256 (bn b))) (hk':k < xs.length),xs[k]=bev 256 (bn (halv z l)[k]):=by
   intro xs h hk';subst h;rw [List.getElem_map]
  exact this _ (zgl z l) _
 repeat' (first|refine s_t ?_|refine zbT ?_|(refine zb 0 ?_;refine zj ?_;intro _)|(refine zb 1 ?_;refine zm ?_;refine zm ?_;(refine ys (zh (f:=212) (hc:=λw' X hk hh=>znm z a n c w')) (k:=?_);rintro _ _ ⟨R,rfl,b4,b5,rfl,rfl⟩)))
 rename_i bY;refine zdT (γ:=Res) (xs:=halv z l) (Arg:=ArgH) zbE rfl (en rfl) rfl (λk s=>J k s) (λcc k s=>cc= .exit 0/\Jx k s)
  (λs=>[s,.blk bY 204 [.func (.yield lp) #[] #[]]]) [.blk b5 23 [.slice a n c],.blk b4 3 [.int .i64 z]] [.blk b3 23 [.slice a n c],.blk b2 3 [.int .i64 z],.row (.slice a n c) 5 1 n (l.map v8)] j0 hJ0 ?_ ?_ ?_ ?_ ?_ ?_
 ·((try simp only [List.cons_append,List.nil_append,List.append_nil]);(repeat' (first|exact List.Perm.nil|exact List.Perm.refl _|(apply permr;with_reducible (focus ((repeat (first|exact Rem.here|apply Rem.there));done)))|(apply permr;(focus ((repeat (first|exact Rem.here|apply Rem.there));done))))))
 ·intro w' Mi X hk hm hm1 hh';simp only [List.cons_append,List.nil_append,List.append_nil] at hh';obtain ⟨q1,q2⟩:=zb6 hG (by unfold gCells;simp) hGM hk hm;obtain ⟨q3,q4⟩:=zb6 hS (List.cons_ne_nil _ _) hSM hk hm;exact zlK b4 b5 z a n c l w' Mi hl (Row.cap (a:=a) (n:=n) (c:=c) hh' (by exact Has.there (Has.there (Has.there (Has.there (Has.there (Has.there Has.here))))))) (SlF.row (n:=n) (m:=n) hh' (by exact Has.there (Has.there (Has.there (Has.there (Has.there (Has.there Has.here)))))) (notOwn (by exact Has.there (Has.there Has.here)) hm1)) q1 q2 q3 q4
 ·rintro O x vs RA w' ⟨ax,cx,rfl,-⟩;rfl
 ·rintro lq k hk s vs RA W rec hrec hJs ⟨ax,cx,rfl,rfl,hsx,hcx⟩ hkW hmine;have hY':=hY.to hkW hmine;have hkp:k < (sParts z l).length:=hpl ▸ hk;have h96:=hx96 k hk;have hxe:=hxk k hk;have hfb:=λw' hk'=>zbd ax (halv z l)[k].length cx (halv z l)[k] w' rfl hcx (hsx.to (Mi:=No) hk' (λ_ h=>h.elim)).sla q_o;rw [if_pos (bevW' q_o)] at hfb;generalize (halv z l)[k]=x at *;have hlv:=ze (bev 256 (bn x));have hd:=λw'=>zbI (bev 256 (bn x)) 0 w';generalize bev 256 (bn x)=v at *;repeat' (first|refine s_t ?_|(apply za6;(focus ((repeat (first|exact Rem.here|apply Rem.there));done));assumption)|(refine zb 2 (za ?_))|(refine zM (id:=3) 6 [[],[],[1],[1,2],[1,2],[1,2,3,4],[0,1,2,3,4,5],[0,1,2,3,4,5,6]] mixed ?_ ?_;kernel_rfl;refine zal ?_;refine zk ?_;refine dc (λ_ _=>zd (f:=181) (hc:=λw' _ hk _=>hfb w' hk)) (k:=?_);refine zbO ?_;refine zbO ?_;refine dc (λ_ _=>zd (hc:=λ_ _ _ _=>(hd _))) (k:=?_);refine zY ?_;(refine ys (zbS hY' hkp hJs (hL:=RemL.cons (by exact Rem.there Rem.here) rfl RemL.nil) (harg:=λw' X _ _=>⟨by rw [hxe],rfl⟩)) (k:=?_);rintro _ _ ⟨y,j',rfl,rfl,hy⟩;cases y);refine zb8 ?_)|(refine zP ?_;first|refine zb8 ?_|fail)|fail)
  ·refine zfg j' ⟨rfl,hy⟩ ?_;exact q_h
  ·refine zdN j' hy ?_;exact q_h
 ·intro s hs;repeat' (first|refine zfj ?_|refine zkc ?_|fail)
  exact end0 rfl q_h ⟨s,rfl,.inl (hpl ▸ hs)⟩
 ·rintro cc k s hk ⟨rfl,h⟩;repeat' (first|refine zey ?_|refine zch ?_|refine zkc ?_|fail)
  exact end0 rfl q_h ⟨s,rfl,.inr ⟨k,hpl ▸ hk,h⟩⟩
end Go.Proofs.YtdnlngbjpdbffaaGreatDoor
end
section
namespace Go.Proofs.YtdnlngbjpdbffaaGreatDoor
open Go Go.Sy Go.Wd Go.Sh Go.RowKit
theorem gStart:Tryz.prog.globalNamed "watchword/sha.start" =some 1:=by kernel_rfl
theorem gKonst:Tryz.prog.globalNamed "watchword/sha.constants" =some 3:=by kernel_rfl
theorem gRef:Tryz.prog.globalNamed "watchword/watchwordref04.constants" =some 5:=by kernel_rfl
theorem gScal:Tryz.prog.globalNamed "watchword/sign.scalars" =some 2:=by kernel_rfl
theorem tyStart:(Tryz.prog.globals[1]?).map (·.type)=some 249:=by kernel_rfl
theorem tyKonst:(Tryz.prog.globals[3]?).map (·.type)=some 298:=by kernel_rfl
theorem tyRef:(Tryz.prog.globals[5]?).map (·.type)=some 163:=by kernel_rfl
theorem tyScal:(Tryz.prog.globals[2]?).map (·.type)=some 273:=by kernel_rfl
theorem dStart:(Rows.laid_watchword_sha_start:DataW Unit)=Lib.tabData .u32 (h0.map n32):=by kernel_rfl
theorem dKonst:(Rows.laid_watchword_sha_constants:DataW Unit)=Lib.tabData .u32 (kC.map n32):=by kernel_rfl
theorem dRef:(Rows.laid_watchword_watchwordref04_constants:DataW Unit)= .slice ((kC.map n32).map λz=> .lit (.int .i64 z)) []:=by kernel_rfl
theorem dScal:(Rows.laid_watchword_sign_scalars:DataW Unit)=Lib.tabData .i64 [0,1]:=by kernel_rfl
theorem undStart:Tryz.prog.underlying 249=some (.array 8 247):=by kernel_rfl
theorem undKonst:Tryz.prog.underlying 298=some (.array 64 247):=by kernel_rfl
theorem undU32:Tryz.prog.underlying 247=some (.int .u32):=by kernel_rfl
theorem undInts:Tryz.prog.underlying 163=some (.slice 3):=by kernel_rfl
theorem undInt:Tryz.prog.underlying 3=some (.int .i64):=by kernel_rfl
theorem undScal:Tryz.prog.underlying 273=some (.array 2 3):=by kernel_rfl
theorem cellsU32:Tryz.prog.cellsOf 247=1:=by kernel_rfl
theorem cellsInt:Tryz.prog.cellsOf 3=1:=by kernel_rfl
theorem cellsStart:Tryz.prog.cellsOf 249=8:=by kernel_rfl
theorem cellsKonst:Tryz.prog.cellsOf 298=64:=by kernel_rfl
theorem cellsScal:Tryz.prog.cellsOf 273=2:=by kernel_rfl
theorem zrQ {W:World}{l:List (String×DataW Unit)}(h:laidMet Tryz.prog l W) (h1:("watchword/sha.start",Rows.laid_watchword_sha_start)∈l) (h2:("watchword/sha.constants",Rows.laid_watchword_sha_constants)∈l):Tab W No:=by
 rw [dStart] at h1;rw [dKonst] at h2;have a1:=zgN h h1 gStart tyStart undStart undU32 cellsU32 cellsStart;have a2:=zgN h h2 gKonst tyKonst undKonst undU32 cellsU32 cellsKonst;rw [List.map_map] at a1 a2;exact ⟨a1,a2,λh=>h,λh=>h⟩
theorem zrd {W:World}{l:List (String×DataW Unit)}(h:laidMet Tryz.prog l W) (h1:("watchword/watchwordref04.constants",Rows.laid_watchword_watchwordref04_constants)∈l): ∃kb ko kc,RTab W No kb ko kc:=by
 rw [dRef] at h1;obtain ⟨b,o,c,h2,h3⟩:=zmi h h1 gRef tyRef undInts undInt cellsInt (by decide);rw [List.map_map] at h3;exact ⟨b,o,c,⟨h2,h3,λh=>h,λh=>h⟩⟩
theorem zr3 {W:World}{l:List (String×DataW Unit)}(h:laidMet Tryz.prog l W) (h1:("watchword/sign.scalars",Rows.laid_watchword_sign_scalars)∈l):ST W:=by
 rw [dScal] at h1;exact zgN h h1 gScal tyScal undScal undInt cellsInt cellsScal
noncomputable def laidWorldS (os:Os):World:=
 { laidWorldG os with heap:=(((((laidWorldG os).heap.modify 1 (putCells (h0.map Sy.v32))).modify 3 (putCells (kC.map Sy.v32))).modify 2 (putCells [.int .i64 0,.int .i64 1])).modify 5 (putCells [.slice (some ⟨(laidWorldG os).heap.size,0,none⟩) 64 64])).push (.cells (kC.map Wd.vi).toArray 3) }
end Go.Proofs.YtdnlngbjpdbffaaGreatDoor
end
