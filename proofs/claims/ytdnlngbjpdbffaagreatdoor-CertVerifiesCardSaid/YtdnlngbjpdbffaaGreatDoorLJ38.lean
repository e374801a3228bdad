/- Layer sign, walked: Verify, whole. -/
import Derived.Test.YtdnlngbjpdbffaaGreatDoorLJ37
set_option maxHeartbeats 2000000
set_option maxRecDepth 10000
set_option linter.all false
section
namespace Go.Proofs.YtdnlngbjpdbffaaGreatDoor
open Go Go.Sy Go.Nt Go.RowKit
attribute [local irreducible] Sy SyL SyX Sy.Fn callFunc natC rowN refC iC gP gQ gL memB safeC fixB gnum gel gsca chal Sh.sum glen
theorem zoM (l:List Nat):(rowN l).all (·.oneCell')=true:=by
 induction l with
 |nil=>rw [List.length_eq_zero_iff.1 (show (rowN []).length=0 from zdb [])];rfl
 |cons x l ih=>rw [zd1,List.all_append,zcY,ih];rfl
theorem zm7:rowN []= []:=List.length_eq_zero_iff.1 (show (rowN []).length=0 from zdb [])
def vfs (b4 b5 b6 b9 b10 b12:Nat):List Value:=
 [.func (.func 132) #[] #[.pointer (some ⟨b9,0,none⟩)],.func (.func 133) #[] #[.pointer (some ⟨b9,0,none⟩),.pointer (some ⟨b12,0,none⟩)],.func (.func 135) #[] #[.pointer (some ⟨b9,0,none⟩),.pointer (some ⟨b12,0,none⟩)],.func (.func 136) #[] #[.pointer (some ⟨b4,0,none⟩),.pointer (some ⟨b10,0,none⟩),.pointer (some ⟨b9,0,none⟩),.pointer (some ⟨b12,0,none⟩),.pointer (some ⟨b5,0,none⟩),.pointer (some ⟨b6,0,none⟩)]]
theorem zm8 (bF b4 b5 b6 b9 b10 b12 cP:Nat) (aP:Option Addr) (w:World) (h9:w.cell? ⟨b9,0,none⟩=some (.slice aP 0 cP)) (hF:w.rangeAt bF 0 (vfs b4 b5 b6 b9 b10 b12)):
  Sy.Fn Tryz.prog 131 [.slice (some ⟨bF,0,none⟩) 4 4] w No (Gives (.bool false)):=by
 refine zlg bF 4 4 _ [false,false,false,false] w rfl rfl q_e hF ?_;intro k v hv ht;rcases k with _|k
 ·obtain rfl:false=v:=Option.some.inj hv;exact ⟨_,[.pointer (some ⟨b9,0,none⟩)],rfl,en rfl,λw' hk=>zlf b9 0 cP aP w' (hk.cell h9 (λh=>h))⟩
 ·rw [List.take_succ_cons,List.all_cons] at ht;exact absurd ht q_p
theorem zqK (i bF b4 b5 b6 b9 b10 b12 bP cP x0 x1 y pn pc mn mc:Nat) (pa ma:Option Addr) (pl ml:List UInt8) (w:World) (h0:1<=i) (h5:i<=4) (hG:GT w) (hT:Tab w No) (h4:w.cell? ⟨b4,0,none⟩=some (.int .i64 (i:Int))) (h10:w.rangeAt b10 0 (natC y))
  (h9:w.cell? ⟨b9,0,none⟩=some (.slice (some ⟨bP,0,none⟩) 2 cP)) (hr:w.rangeAt bP 0 (rowN [x0,x1])) (h12:w.rangeAt b12 0 (natC (gQ i))) (hp5:w.cell? ⟨b5,0,none⟩=some (.slice pa pn pc)) (hm6:w.cell? ⟨b6,0,none⟩=some (.slice ma mn mc))
  (hp:(⟨pa,pn,pc,pl⟩:Bs).ok w) (hm:(⟨ma,mn,mc,ml⟩:Bs).ok w) (hpn:pn<=1000) (hmn:mn<=100000) (hx0:x0 < 18446744073709551616 ^ 16) (hx1:x1 < 18446744073709551616 ^ 16) (hy:memB (gP i) (gQ i) y=true) (hF:w.rangeAt bF 0 (vfs b4 b5 b6 b9 b10 b12)):
  Sy.Fn Tryz.prog 131 [.slice (some ⟨bF,0,none⟩) 4 4] w No (Gives (.bool ([true,decide (x0 < gQ i),decide (x1 < gQ i),decide (chal i pl (sR i y x0 x1) ml=x0)].all id))):=by
 have hW:=zaV i h0 h5;refine zlg bF 4 4 _ _ w rfl rfl q_e hF ?_;intro k v hv ht;rcases k with _|_|_|_|k
 ·obtain rfl:=Option.some.inj hv;exact ⟨_,[.pointer (some ⟨b9,0,none⟩)],rfl,en rfl,λw' hk=>zlf b9 2 cP _ w' (hk.cell h9 (λh=>h))⟩
 ·obtain rfl:=Option.some.inj hv;exact ⟨_,[.pointer (some ⟨b9,0,none⟩),.pointer (some ⟨b12,0,none⟩)],rfl,en rfl,λw' hk=>zqF b9 bP 0 cP b12 x0 x1 _ w' (hk.cell h9 (λh=>h)) (zaw hr hk (λh=>h)) (zaw h12 hk (λh=>h)) hx0 hW⟩
 ·obtain rfl:=Option.some.inj hv;exact ⟨_,[.pointer (some ⟨b9,0,none⟩),.pointer (some ⟨b12,0,none⟩)],rfl,en rfl,λw' hk=>zq2 b9 bP 0 cP b12 x0 x1 _ w' (hk.cell h9 (λh=>h)) (zaw hr hk (λh=>h)) (zaw h12 hk (λh=>h)) hx1 hW⟩
 ·obtain rfl:=Option.some.inj hv;have ht':(true && (decide (x0 < gQ i) && (decide (x1 < gQ i) && true)))=true:=ht;rw [Bool.true_and,Bool.and_true,Bool.and_eq_true,decide_eq_true_eq,decide_eq_true_eq] at ht';exact ⟨_,[.pointer (some ⟨b4,0,none⟩),.pointer (some ⟨b10,0,none⟩),.pointer (some ⟨b9,0,none⟩),.pointer (some ⟨b12,0,none⟩),.pointer (some ⟨b5,0,none⟩),.pointer (some ⟨b6,0,none⟩)],rfl,en rfl,λw' hk=>
   zpS i b4 b10 b9 bP 0 cP b12 b5 b6 x0 x1 y pn pc mn mc pa ma pl ml w' h0 h5 (hG.to hk) (hT.no hk) (hk.cell h4 (λh=>h)) (zaw h10 hk (λh=>h)) (hk.cell h9 (λh=>h)) (zaw hr hk (λh=>h)) (zaw h12 hk (λh=>h)) (hk.cell hp5 (λh=>h)) (hk.cell hm6 (λh=>h)) (hp.keep hk) (hm.keep hk) hpn hmn ht'.1 ht'.2 hy⟩
 ·cases hv
theorem zrx {i:Nat}(h0:1<=i) (h5:i<=4):1<=gL i:=zbl (p:=λi=>1<=gL i) (by decide +kernel) (by decide +kernel) (by decide +kernel) (by decide +kernel) i h0 h5
theorem zka {z:Int}{pl ml sl:List UInt8}(h:(gel z pl).2≠0\/65536 < ml.length):sVer z pl ml sl=2:=if_pos h
theorem zgt {z:Int}{pl ml sl:List UInt8}(h: ¬((gel z pl).2≠0\/65536 < ml.length)) (hl:sl.length≠2*gL z.toNat):sVer z pl ml sl=10:=by
 unfold sVer;rw [if_neg h,if_pos hl]
theorem zlA {i:Nat}{pl ml sl:List UInt8}(h: ¬((gel (i:Int) pl).2≠0\/65536 < ml.length)) (hl:sl.length=2*gL i) {x0 x1:Nat}(e0:x0=bev 256 (bn (sl.take (gL i)))) (e1:x1=bev 256 (bn (sl.drop (gL i)))):
  sVer (i:Int) pl ml sl=if ([true,decide (x0 < gQ i),decide (x1 < gQ i),decide (chal i pl (sR i (gel (i:Int) pl).1 x0 x1) ml=x0)].all id)=true then 0 else 10:=by
 unfold sVer;rw [if_neg h,Int.toNat_natCast,if_neg q_o,<-e0,<-e1];simp only [List.all_cons,List.all_nil,id,Bool.and_eq_true,decide_eq_true_eq,and_true,true_and];by_cases h0:gQ i<=x0\/gQ i<=x1
 ·rw [if_pos h0,if_neg q_o]
 ·rw [if_neg h0];by_cases hc:chal i pl (sR i (gel (i:Int) pl).1 x0 x1) ml=x0
  ·rw [if_pos hc,if_pos q_o]
  ·rw [if_neg hc,if_neg (λh=>hc h.2.2)]
theorem znt (z:Int) (pa ma sa:Option Addr) (pn pc mn mc sn sc:Nat) (pl ml sl:List UInt8) (w:World) (hG:GT w) (hT:Tab w No) (hS:ST w) (hp:(⟨pa,pn,pc,pl⟩:Bs).ok w) (hm:(⟨ma,mn,mc,ml⟩:Bs).ok w) (hs:(⟨sa,sn,sc,sl⟩:Bs).ok w) (hpn:pn<=1000) (hmn:mn<=100000) (hsn:sn<=1000):
  Sy.Fn Tryz.prog 56 [.int .i64 z,.slice pa pn pc,.slice ma mn mc,.slice sa sn sc] w No (Gives (.int .i64 (sVer z pl ml sl))):=by
 refine zg Tryz.func56 rfl Tryz.ntmps56 q_p Holds.nil ?_;have hel:=λw' (hk:Keep No w w')=>zmS z pa pn pc pl w' (hG.to hk) hp.len hp.cap (hp.keep hk).sla;have hor:=λw' (hk:Keep No w w')=>zqE z w' (hG.to hk);have hml:ml.length=mn:=hm.len;have hsl:sl.length=sn:=hs.len;have hly:=ze (gel z pl).1;by_cases hw:(gel z pl).2≠0\/65536 < ml.length
 ·rw [zka hw];have hlq:=ze (gord z).1;repeat' (first|refine s_0 ?_|(refine zb 0 ?_;refine zj ?_;intro _;refine zj ?_;intro _;refine zO ?_;intro _))
  refine zgi (γ:=Unit) 0 (λ_=>[]) (λ_=>[]) (λ_=>True) rfl ?_ (λ_ _=>?_);rotate_left
  ·repeat' (first|refine s_0 ?_|refine zaZ ?_|(refine zb 12 (za ?_)))
   exact q_r
  by_cases he:(gel z pl).2=0
  ·have g1:decide ((gel z pl).2≠0)=false:=decide_eq_false (λh=>h he);have gm:decide (65536 < (mn:Int))=true:=decide_eq_true (by have:=hw.resolve_left (λh=>h he);omega);generalize (gel z pl).1=y at *;generalize (gel z pl).2=e at *;generalize (gord z).1=q at *;generalize (gord z).2=e' at *;repeat' (first|refine s_0 ?_|refine zdL ?_|refine zbD ?_|refine zc8 ?_|(refine zb 1 ?_;refine zj ?_;intro _)|(refine zb 2 ?_;refine zm ?_;refine zm ?_;refine yv (zd (f:=128) (hc:=zr hel)) (k:=?_);refine za ?_;refine zj ?_;intro _;refine yn (zi (n:=y)) (k:=za ?_))|(refine zb 3 ?_;refine zm ?_;refine yv (zd (f:=129) (hc:=zr hor)) (k:=?_);refine za ?_;refine zj ?_;intro _;refine yn (zi (n:=q)) (k:=za ?_))|(refine zb 4 (za ?_);refine yv (zag (hr:=g1)) (k:=?_))|(refine zb 5 ?_;refine zm ?_;refine za ?_;refine yv (zU (hr:=gm)) (k:=?_)))
   exact zT () trivial Sub.nil SubR.nil
  ·have g1:decide ((gel z pl).2≠0)=true:=decide_eq_true he;generalize (gel z pl).1=y at *;generalize (gel z pl).2=e at *;generalize (gord z).1=q at *;generalize (gord z).2=e' at *;repeat' (first|refine s_0 ?_|refine zdL ?_|refine zbD ?_|refine zc8 ?_|(refine zb 1 ?_;refine zj ?_;intro _)|(refine zb 2 ?_;refine zm ?_;refine zm ?_;refine yv (zd (f:=128) (hc:=zr hel)) (k:=?_);refine za ?_;refine zj ?_;intro _;refine yn (zi (n:=y)) (k:=za ?_))|(refine zb 3 ?_;refine zm ?_;refine yv (zd (f:=129) (hc:=zr hor)) (k:=?_);refine za ?_;refine zj ?_;intro _;refine yn (zi (n:=q)) (k:=za ?_))|(refine zb 4 (za ?_);refine yv (zag (hr:=g1)) (k:=?_)))
   exact zT () trivial Sub.nil SubR.nil
 have he:(gel z pl).2=0:=Classical.byContradiction λh=>hw (.inl h);have hmy:=zeG he;obtain ⟨i,rfl,hi,h0,h5⟩:=zbA hmy.1;rw [hi] at hmy;have hy:memB (gP i) (gQ i) (gel (i:Int) pl).1=true:=by rw [hmy.2.2.2];exact hmy.2.2.1
 have hgo:gord (i:Int)=(gQ i,0):=by unfold gord;rw [if_pos hmy.1,hi]
 rw [hgo] at hor;rw [he] at hel;have hlq:=ze (gQ i);have gm:decide (65536 < (mn:Int))=false:=decide_eq_false (λh=>hw (.inr q_o));have hgl:glen (i:Int)=gL i:=by unfold glen;rw [if_pos hmy.1,hi]
 have hgl96:=zcd hmy.1;rw [hi] at hgl96;have hxW: ∀x∈sParts (i:Int) sl,x < 18446744073709551616 ^ 16:=by
  unfold sParts;split
  ·intro x hx;cases hx
  ·rename_i h;rw [hgl] at h ⊢;intro x hx;simp only [List.mem_cons,List.not_mem_nil,or_false] at hx;rcases hx with rfl|rfl
   ·exact bevW' (by rw [List.length_take];omega)
   ·exact bevW' (by rw [List.length_drop];omega)
 have hl2:(sParts (i:Int) sl).length<=2:=by unfold sParts;split <;> simp
 repeat' (first|refine s_t ?_|refine zbT ?_|(refine zb 0 ?_;refine zj ?_;intro _;refine zj ?_;intro _;refine zO ?_;intro _)|(refine zb 1 ?_;refine zj ?_;intro _)|(refine zb 2 ?_;refine zm ?_;refine zm ?_;refine yv (zd (f:=128) (hc:=zr hel)) (k:=?_);refine za ?_;refine zj ?_;intro _;refine yn (zi (n:=(gel (i:Int) pl).1)) (k:=za ?_))|(refine zb 3 ?_;refine zm ?_;refine yv (zd (f:=129) (hc:=zr hor)) (k:=?_);refine za ?_;refine zj ?_;intro _;refine yn (zi (n:=gQ i)) (k:=za ?_))|(refine zb 4 (za ?_);refine z8 ?_)|(refine zb 5 ?_;refine zm ?_;refine za ?_;refine yv (zU (hr:=gm)) (k:=?_))|(refine zb 6 ?_;refine zm ?_;refine za ?_;(refine ys (zh (f:=130) (hc:=λw' X hk hh=>zoo (i:Int) sa sn sc sl w' (hs.keep hk) q_o)) (k:=?_);rintro _ _ ⟨R,rfl,bI,bS,aS,cS,rfl,rfl⟩)))
 rename_i b4 b5 b6 b9 b10 b12;refine zaR (zaE 133 16) ?_;unfold PRes;have hr0:rowN ((sParts (i:Int) sl).take 0)= []:=by rw [List.take_zero];exact zm7
 refine zdT (γ:=Nat×Option Addr×Nat) (xs:=sParts (i:Int) sl) (Arg:=ArgV) zbE rfl (en rfl) rfl (λk s=>s.1=k) (λ_ _ _=>False)
  (λs=>[.blk b9 150 [.slice s.2.1 s.1 s.2.2],.row (.slice s.2.1 s.1 s.2.2) 133 16 s.1 (rowN ((sParts (i:Int) sl).take s.1))])
  [.blk bS 23 [.slice aS sn cS],.blk bI 3 [.int .i64 (i:Int)],.row (.slice aS sn cS) 5 1 sn (sl.map v8)]
  [.blk b12 133 (natC (gQ i)),.blk b10 133 (natC (gel (i:Int) pl).1),.blk b6 23 [.slice ma mn mc],.blk b5 23 [.slice pa pn pc],.blk b4 3 [.int .i64 (i:Int)]] (0,none,0) rfl ?_ ?_ ?_ ?_ ?_ ?_
 ·dsimp only;rw [hr0]
  ((try simp only [List.cons_append,List.nil_append,List.append_nil]);(repeat' (first|exact List.Perm.nil|exact List.Perm.refl _|(apply permr;with_reducible (focus ((repeat (first|exact Rem.here|apply Rem.there));done)))|(apply permr;(focus ((repeat (first|exact Rem.here|apply Rem.there));done))))))
 ·intro w' Mi X hk hmi _ _;obtain ⟨q1,q2⟩:=zb6 (M:=No) hG (by unfold gCells;simp) (λh=>h) hk hmi;obtain ⟨q3,q4⟩:=zb6 (M:=No) hS (List.cons_ne_nil _ _) (λh=>h) hk hmi;exact zmW bI bS (i:Int) aS sn cS sl w' Mi hs.len q1 q2 q3 q4
 ·rintro O x vs RA w' ⟨rfl,_⟩;rfl
 ·rintro lq k hk ⟨k0,aP,cP⟩ vs RA W rec hrec hk0 ⟨rfl,rfl⟩ hkW hmine;dsimp only at hk0 ⊢;subst hk0;have htk:rowN ((sParts (i:Int) sl).take k0) ++ rowN [(sParts (i:Int) sl)[k0]]=rowN ((sParts (i:Int) sl).take (k0+1)):=by
   rw [<-zgy,List.take_succ,List.getElem?_eq_getElem hk];rfl
  have hlx:=ze (sParts (i:Int) sl)[k0];have hk2:k0 < 2:=q_o;generalize (sParts (i:Int) sl)[k0]=x at *;obtain ⟨Rn,hRn⟩: ∃r,r=rowN ((sParts (i:Int) sl).take (k0+1)):=⟨_,rfl⟩;rw [<-hRn] at htk;generalize rowN ((sParts (i:Int) sl).take k0)=Ro at *;repeat' (first|refine s_t ?_|(apply za6;(focus ((repeat (first|exact Rem.here|apply Rem.there));done));assumption)|(refine zb 7 ?_;refine zj ?_;intro _;refine yn (zi (n:=x)) (k:=?_))|(refine zb 8 ?_;refine zm ?_;refine yv (zf (B:=natC x)) (k:=?_))|(refine ys (za3 (x:=x)) (k:=?_);rintro _ _ ⟨bN,rfl,rfl⟩)|(refine zP ?_;first|(refine ys (z9 (m:=1) (size:=16) (xs:=Ro) (news:=rowN [x]) (ys:=Rn) (km:=k0+1) (hn:=zdb [x]) (h1:=zoM [x]) (hkm:=rfl) (hys:=htk)) (k:=?_);rintro _ _ ⟨rfl,aQ,cQ,rfl⟩)|refine zI ?_|fail)|fail)
  refine zdN (k0+1,aQ,cQ) rfl ?_;dsimp only;rw [<-hRn];exact q_h
 ·rintro ⟨k0,aP,cP⟩ hk0;dsimp only at hk0 ⊢;subst hk0;rw [List.take_length];repeat' (first|refine zbC ?_|refine zeu ?_|fail)
  by_cases hlen:sl.length=2*gL i
  ·have hxs:sParts (i:Int) sl= [bev 256 (bn (sl.take (gL i))),bev 256 (bn (sl.drop (gL i)))]:=by
    unfold sParts;have:=zrx h0 h5;rw [hgl,if_neg q_o]
   obtain ⟨x0,e0⟩: ∃x,x=bev 256 (bn (sl.take (gL i))):=⟨_,rfl⟩;obtain ⟨x1,e1⟩: ∃x,x=bev 256 (bn (sl.drop (gL i))):=⟨_,rfl⟩;rw [<-e0,<-e1] at hxs;rw [zlA hw hlen e0 e1];have hx0:=hxW x0 (by rw [hxs];simp);have hx1:=hxW x1 (by rw [hxs];simp);have hl:(sParts (i:Int) sl).length=2:=by rw [hxs];rfl
   rw [hl,hxs];refine zf3 (a:=aP) (n:=2) (cp:=cP) (s:=16) (E:=133) (xs:=rowN [x0,x1]) (by exact Rem.there Rem.here) q_e λbP J ha _ _ _ _=>?_;subst ha;repeat' (first|(refine zb 9 ?_;refine zaa ?_;refine zaa ?_;refine zaa ?_;refine zaa ?_;(refine ys zt (k:=?_);rintro _ _ ⟨_,rfl,rfl⟩)))
   rename_i bF;refine yv (zd (f:=131) (hc:=λw' X hk hh=>zqK i bF b4 b5 b6 b9 b10 b12 bP cP x0 x1 (gel (i:Int) pl).1 pn pc mn mc pa ma pl ml w' h0 h5 (hG.to hk) (hT.no hk) (zp (hh.has (r:=.blk b4 3 [.int .i64 (i:Int)]) q_h) Seg.all 0 _ rfl) (zp (hh.has (r:=.blk b10 133 (natC (gel (i:Int) pl).1)) q_h) Seg.all) (zp (hh.has (r:=.blk b9 150 [.slice (some ⟨bP,0,none⟩) 2 cP]) q_h) Seg.all 0 _ rfl) (zp (hh.has (r:=.blk bP 133 (rowN [x0,x1] ++ J)) q_h) zi5) (zp (hh.has (r:=.blk b12 133 (natC (gQ i))) q_h) Seg.all) (zp (hh.has (r:=.blk b5 23 [.slice pa pn pc]) q_h) Seg.all 0 _ rfl) (zp (hh.has (r:=.blk b6 23 [.slice ma mn mc]) q_h) Seg.all 0 _ rfl) (hp.keep hk) (hm.keep hk) hpn hmn hx0 hx1 hy (zp (hh.has (r:=.blk bF 25 (vfs b4 b5 b6 b9 b10 b12)) q_h) Seg.all))) (k:=?_);generalize ([true,decide (x0 < gQ i),decide (x1 < gQ i),decide (chal i pl (sR i (gel (i:Int) pl).1 x0 x1) ml=x0)].all id)=r;cases r with
   |true=>
    repeat' (first|refine s_0 ?_|refine zaZ ?_|(refine zb 10 (za ?_)))
    exact q_r
   |false=>
    repeat' (first|refine s_0 ?_|refine zaZ ?_|(refine zb 11 (za ?_)))
    exact q_r
  ·have hxs:sParts (i:Int) sl= []:=by
    unfold sParts;rw [hgl,if_pos (.inr hlen)]
   have hl:(sParts (i:Int) sl).length=0:=by rw [hxs];rfl
   rw [zgt hw (by rw [hi];exact hlen),hl];repeat' (first|(refine zb 9 ?_;refine zaa ?_;refine zaa ?_;refine zaa ?_;refine zaa ?_;(refine ys zt (k:=?_);rintro _ _ ⟨_,rfl,rfl⟩)))
   rename_i bF;refine yv (zd (f:=131) (hc:=λw' X hk hh=>zm8 bF b4 b5 b6 b9 b10 b12 cP aP w' (zp (hh.has (r:=.blk b9 150 [.slice aP 0 cP]) q_h) Seg.all 0 _ rfl) (zp (hh.has (r:=.blk bF 25 (vfs b4 b5 b6 b9 b10 b12)) q_h) Seg.all))) (k:=?_);repeat' (first|refine s_0 ?_|refine zaZ ?_|(refine zb 11 (za ?_)))
   exact q_r
 ·exact λ_ _ _ _ h=>h.elim
theorem zma (z:Int) (pa ma sa:Option Addr) (pn pc mn mc sn sc kb ko kc:Nat) (pl ml sl:List UInt8) (w:World) (hR:RTab w No kb ko kc) (hp:(⟨pa,pn,pc,pl⟩:Bs).ok w) (hm:(⟨ma,mn,mc,ml⟩:Bs).ok w) (hs:(⟨sa,sn,sc,sl⟩:Bs).ok w) (hpn:pn<=1000) (hmn:mn<=100000) (hsn:sn<=1000):
  Sy.Fn Tryz.prog 70 [.int .i64 z,.slice pa pn pc,.slice ma mn mc,.slice sa sn sc] w No (Gives (.int .i64 (sVer z pl ml sl))):=by
 refine zg Tryz.func70 rfl Tryz.ntmps70 q_p Holds.nil ?_;have hpu:=λw' (hk:Keep No w w')=>zho z pa pn pc pl w' hp.len (hp.keep hk).sla;have hml:ml.length=mn:=hm.len;have hsl:sl.length=sn:=hs.len;unfold RefB at hpu;by_cases hw:(gel z pl).2≠0\/65536 < ml.length
 ·rw [zka hw];by_cases he:(gel z pl).2=0
  ·have gm:decide (65536 < (mn:Int))=true:=decide_eq_true (by have:=hw.resolve_left (λh=>h he);omega);rw [decide_eq_true he] at hpu;generalize (rnum z pl).1=x at *;repeat' (first|refine s_0 ?_|(refine zB [0,3] ?_;refine za ?_)|(refine zb 1 (za ?_);(refine ys (zh (f:=153) (hc:=zr hpu)) (k:=?_);rintro _ _ ⟨R,rfl,aY,cY,rfl,rfl⟩);refine za ?_)|(refine zb 2 (za ?_);refine yv (zU (hr:=gm)) (k:=za ?_)))
   exact q_r
  ·rw [decide_eq_false he] at hpu;generalize (rnum z pl).1=x at *;repeat' (first|refine s_0 ?_|(refine zB [0,2,3] ?_;refine za ?_)|(refine zb 1 (za ?_);(refine ys (zh (f:=153) (hc:=zr hpu)) (k:=?_);rintro _ _ ⟨R,rfl,aY,cY,rfl,rfl⟩);refine za ?_))
   exact q_r
 have he:(gel z pl).2=0:=Classical.byContradiction λh=>hw (.inl h);have hmy:=zeG he;obtain ⟨i,rfl,hi,h0,h5⟩:=zbA hmy.1;rw [hi] at hmy;have hy:memB (gP i) (gQ i) (gel (i:Int) pl).1=true:=by rw [hmy.2.2.2];exact hmy.2.2.1
 rw [decide_eq_true he,zp7 he] at hpu;have hle:=λw'=>zhR i w' h0 h5;have hgl96:=zcd hmy.1;rw [hi] at hgl96;have gm:decide (65536 < (mn:Int))=false:=decide_eq_false (λh=>hw (.inr q_o));have hm2:IntKind.i64.wrap (2*((gL i:Nat):Int))=((2*gL i:Nat):Int):=q_w;by_cases hlen:sl.length=2*gL i;rotate_left
 ·rw [zgt hw (by rw [hi];exact hlen)];have g2:decide ((sn:Int)≠((2*gL i:Nat):Int))=true:=decide_eq_true (λh=>hlen q_o);generalize (gel (i:Int) pl).1=y at *;generalize gL i=len at *;repeat' (first|refine s_0 ?_|(refine zB [0,6] ?_;refine za ?_)|(refine zb 1 (za ?_);(refine ys (zh (f:=153) (hc:=zr hpu)) (k:=?_);rintro _ _ ⟨R,rfl,aY,cY,rfl,rfl⟩);refine za ?_)|(refine zb 2 (za ?_);refine yv (zU (hr:=gm)) (k:=za ?_))|(refine zb 4 (za ?_);refine yv (zd (hc:=λ_ _ _ _=>(hle _))) (k:=?_);refine za ?_)|(refine zb 5 (za ?_);refine yv (zah (hr:=hm2)) (k:=?_);refine yv (zag (hr:=g2)) (k:=?_)))
  exact q_r
 have g2:decide ((sn:Int)≠((2*gL i:Nat):Int))=false:=decide_eq_false (λh=>h q_o);obtain ⟨x0,e0⟩: ∃x,x=bev 256 (bn (sl.take (gL i))):=⟨_,rfl⟩;obtain ⟨x1,e1⟩: ∃x,x=bev 256 (bn (sl.drop (gL i))):=⟨_,rfl⟩;rw [zlA hw hlen e0 e1];have hx0W:x0 < 18446744073709551616 ^ 16:=by rw [e0];exact bevW' (by rw [List.length_take];omega)
 have hx1W:x1 < 18446744073709551616 ^ 16:=by rw [e1];exact bevW' (by rw [List.length_drop];omega)
 have hcap:sn<=sc:=hs.cap;obtain ⟨a2,ha2⟩: ∃a2,a2=movA sa (gL i) sc 1:=⟨_,rfl⟩;have hf0:=λw' (hk:Keep No w w')=>zf7 sa (gL i) sc (sl.take (gL i)) w' (by rw [List.length_take];omega) (by rw [List.map_take];exact (hs.keep hk).sla.take _) q_o;have hf1:=λw' (hk:Keep No w w')=>zf7 a2 (gL i) (sc - gL i) (sl.drop (gL i)) w' (by rw [List.length_drop];omega) (by rw [List.map_drop,ha2];exact (hs.keep hk).sla.mov (by rw [List.length_map];show sl.length<=sc;omega)) q_o;rw [<-e0] at hf0;rw [<-e1] at hf1;have hW:=zaV i h0 h5;have hQ0:0 < gQ i:=Nat.lt_of_lt_of_le q_e (zaB i h0 h5);have hyW:=Nat.lt_trans (za7 hy) (zaN i h0 h5);generalize (gel (i:Int) pl).1=y at *;have hsnl:sn=2*gL i:=q_o;have hmm:sn - gL i=gL i:=q_o;have hlsc:gL i<=sc:=q_o;unfold RefG at hf0 hf1;generalize gL i=len at *;repeat' (first|refine s_0 ?_|(refine zb 0 (za ?_))|(refine zb 1 (za ?_);(refine ys (zh (f:=153) (hc:=zr hpu)) (k:=?_);rintro _ _ ⟨R,rfl,aY,cY,rfl,rfl⟩);refine za ?_)|(refine zb 2 (za ?_);refine yv (zU (hr:=gm)) (k:=za ?_))|(refine zb 4 (za ?_);refine yv (zd (hc:=λ_ _ _ _=>(hle _))) (k:=?_);refine za ?_)|(refine zb 5 (za ?_);refine yv (zah (hr:=hm2)) (k:=?_);refine yv (zag (hr:=g2)) (k:=?_)))
 refine zbj (id:=7) mixed ?_
 (refine zbi 8 8 [[],[],[0,1],[0,1,2],[],[],[4,5],[0,1,2,3,4,5,6],[0,1,2,3,4,5,6,7],[0,1,2,3,4,5,6,7,8]] [[],[],[],[],[],[],[],[],[],[]] none rfl ?_ ?_ ?_;kernel_rfl;kernel_rfl;refine zaq ?_;refine zaq ?_;refine dcE (λ_ _=>za0 (h:=len) (n':=len) (c':=sc) (a':=sa)) (k:=?_);try refine dh_0nE (h:=?_))
 refine zcp (R:=λ_=>RefG x0) (λ_ _ _=>rfl) (λρ hρ=>zh (f:=155) (hc:=zr hf0)) (h:=?_)
 (skip;refine zaq ?_;refine zaq ?_;refine dcE (λ_ _=>za0 (l:=len) (a':=a2) (ha:=ha2.symm) (n':=len) (hn':=hmm)) (k:=?_);try refine dh_0nE (h:=?_))
 refine zcp (R:=λ_=>RefG x1) (λ_ _ _=>rfl) (λρ hρ=>zh (f:=155) (hc:=zr hf1)) (h:=?_);refine zco (h:=?_);rintro ρ ⟨⟨aS,cS,f3,f4⟩,⟨aE,cE,f1,f2⟩,-⟩;have f2:(ρ 3).2= [.row (.slice aE (nd 65536 x0) cE) 3 1 (nd 65536 x0) (refC x0)]:=f2;have f4:(ρ 7).2= [.row (.slice aS (nd 65536 x1) cS) 3 1 (nd 65536 x1) (refC x1)]:=f4
 (refine zbk [[],[],[0,1],[0,1,2],[],[],[4,5],[0,1,2,3,4,5,6],[0,1,2,3,4,5,6,7],[0,1,2,3,4,5,6,7,8]] ?_ ?_;kernel_rfl)
 refine SyL.weaken (fr':=[(39,.slice aE (nd 65536 x0) cE),(43,.slice aS (nd 65536 x1) cS),(0,.int .i64 (i:Int)),(1,.slice pa pn pc),(2,.slice ma mn mc),(9,.slice aY (nd 65536 y) cY)]) (L':=[.row (.slice aE (nd 65536 x0) cE) 3 1 (nd 65536 x0) (refC x0),.row (.slice aS (nd 65536 x1) cS) 3 1 (nd 65536 x1) (refC x1),.row (.slice aY (nd 65536 y) cY) 3 1 (nd 65536 y) (refC y)]) ?_ ?_ ?_;rotate_left
 ·(repeat' (first|exact Sub.nil|refine Sub.cons rfl ?_ ?_|rfl))
  ·exact f1
  ·exact f3
 ·show SubR _ ((ρ 7).2 ++ ((ρ 3).2 ++ _));rw [f2,f4];exact q_h
 repeat' (first|refine s_0 ?_|(refine zP ?_;first|refine zx ?_|fail)|fail)
 have his0:=λw' a c (h:SlA w' a (refC x0))=>zfw i a c x0 w' h0 h5 h (zcl hx0W);have his1:=λw' a c (h:SlA w' a (refC x1))=>zfw i a c x1 w' h0 h5 h (zcl hx1W);by_cases hi0:x0 < gQ i;rotate_left
 ·rw [show ([true,decide (x0 < gQ i),decide (x1 < gQ i),decide (chal i pl (sR i y x0 x1) ml=x0)].all id)=false by simp [hi0]];rw [decide_eq_false hi0] at his0;repeat' (first|refine s_0 ?_|(refine zb 8 (za ?_);refine yv (zd (f:=156) (hc:=λw' X hk hh=>his0 w' _ _ (zJ hh q_h))) (k:=?_);refine za ?_)|(refine zb 9 (za ?_)))
  exact q_r
 by_cases hi1:x1 < gQ i
 rotate_left
 ·rw [show ([true,decide (x0 < gQ i),decide (x1 < gQ i),decide (chal i pl (sR i y x0 x1) ml=x0)].all id)=false by simp [hi1]];rw [decide_eq_true hi0] at his0;rw [decide_eq_false hi1] at his1;repeat' (first|refine s_0 ?_|(refine zb 8 (za ?_);refine yv (zd (f:=156) (hc:=λw' X hk hh=>his0 w' _ _ (zJ hh q_h))) (k:=?_);refine za ?_;refine yv (zd (f:=156) (hc:=λw' X hk hh=>his1 w' _ _ (zJ hh q_h))) (k:=?_);refine za ?_)|(refine zb 9 (za ?_)))
  exact q_r
 rw [show ([true,decide (x0 < gQ i),decide (x1 < gQ i),decide (chal i pl (sR i y x0 x1) ml=x0)].all id)=decide (chal i pl (sR i y x0 x1) ml=x0) by simp [hi0,hi1]];rw [decide_eq_true hi0] at his0;rw [decide_eq_true hi1] at his1;have hord:=λw'=>zdu i w' h0 h5;have hof:=λw'=>zeN 0 w' q_e;have hpow:=λw' a c (h:SlA w' a (refC x1))=>zmC i a c x1 w' h0 h5 h (zcl hx1W);have hsub:=λw' a c a1 c1 (h:SlA w' a (refC (gQ i))) (h1:SlA w' a1 (refC x0))=>zf8 a a1 c c1 (gQ i) x0 w' h h1 (Nat.lt_trans (zcl hW) q_e) (Nat.le_of_lt hi0);have hne:gQ i - x0 < 18446744073709551616 ^ 16:=Nat.lt_of_le_of_lt (Nat.sub_le _ _) hW;have hadd:=λw' a c a1 c1 (h:SlA w' a (refC (gQ i - x0))) (h1:SlA w' a1 (refC 0))=>zoi i a a1 c c1 (gQ i - x0) 0 w' h0 h5 h h1 (zcl hne) (by rw [zaT];decide);rw [Nat.add_zero] at hadd;have heq:(gQ i - x0) % gQ i < gQ i:=Nat.mod_lt _ hQ0;have hexp:=λw' a c a1 c1 (h:SlA w' a (refC y)) (h1:SlA w' a1 (refC ((gQ i - x0) % gQ i)))=>zkN i a a1 c c1 y _ w' h0 h5 h h1 (zcl hyW) (zcl (Nat.lt_trans heq hW));have hmb:memB (gP i) (gQ i) (y ^ ((gQ i - x0) % gQ i) % gP i)=true:=zaY.2 (zjF h0 h5 (zaY.1 hy) _);have hmp:memB (gP i) (gQ i) (4 ^ x1 % gP i)=true:=zaY.2 (zes h0 h5 _);have hmul:=λw' a c a1 c1 (h:SlA w' a (refC (4 ^ x1 % gP i))) (h1:SlA w' a1 (refC (y ^ ((gQ i - x0) % gQ i) % gP i)))=>zqO i a a1 c c1 _ _ w' h0 h5 h h1 (zcl (Nat.lt_trans (za7 hmp) (zaN i h0 h5))) (zcl (Nat.lt_trans (za7 hmb) (zaN i h0 h5)));have hmr:memB (gP i) (gQ i) (sR i y x0 x1)=true:=zaY.2 (zlk h0 h5 (zaY.1 hmp) (zaY.1 hmb));have hRR:sR i y x0 x1=(4 ^ x1 % gP i)*(y ^ ((gQ i - x0) % gQ i) % gP i) % gP i:=rfl;rw [<-hRR] at hmul;have hch:=λw' (hk:Keep No w w') ra rc (hr:SlA w' ra (refC (sR i y x0 x1)))=>ziH i pa ma ra pn pc mn mc rc (sR i y x0 x1) kb ko kc pl ml w' h0 h5 (hR.no hk) (hp.keep hk) (hm.keep hk) hr hpn hmn hmr;have hcq:chal i pl (sR i y x0 x1) ml < gQ i:=zeB h0 h5 _ _ _;have hcm:=λw' a c a1 c1 (h:SlA w' a (refC (chal i pl (sR i y x0 x1) ml))) (h1:SlA w' a1 (refC x0))=>zce a a1 c c1 _ _ w' h h1 (Nat.lt_trans (zcl (Nat.lt_trans hcq hW)) q_e) (Nat.lt_trans (zcl hx0W) q_e);have hcz:decide (cmpI (chal i pl (sR i y x0 x1) ml) x0≠0)=!decide (chal i pl (sR i y x0 x1) ml=x0):=by
  rw [<-zjG];by_cases h:cmpI (chal i pl (sR i y x0 x1) ml) x0=0 <;> simp [h]
 unfold RefG at hord hof hpow hsub hadd hexp hmul hch;generalize chal i pl (sR i y x0 x1) ml=e at *;generalize sR i y x0 x1=r at *;generalize 4 ^ x1 % gP i=ps at *;generalize y ^ ((gQ i - x0) % gQ i) % gP i=back at *;generalize (gQ i - x0) % gQ i=ne at *;generalize gQ i - x0=dq at *;generalize gQ i=q at *;repeat' (first|refine s_0 ?_|(refine zb 8 (za ?_);refine yv (zd (f:=156) (hc:=λw' X hk hh=>his0 w' _ _ (zJ hh q_h))) (k:=?_);refine za ?_;refine yv (zd (f:=156) (hc:=λw' X hk hh=>his1 w' _ _ (zJ hh q_h))) (k:=?_);refine za ?_))
 repeat' (first|refine s_0 ?_|(refine zb 10 (za ?_);(refine ys (zh (f:=158) (hc:=λw' X hk hh=>hord w')) (k:=?_);rintro _ _ ⟨R,rfl,aQ,cQ,rfl,rfl⟩);refine za ?_;(refine ys (zh (f:=157) (hc:=λw' X hk hh=>hsub w' _ _ _ _ (zJ hh q_h) (zJ hh q_h))) (k:=?_);rintro _ _ ⟨R,rfl,aD,cD,rfl,rfl⟩);(refine ys (zh (f:=159) (hc:=λw' X hk hh=>hof w')) (k:=?_);rintro _ _ ⟨R,rfl,aO,cO,rfl,rfl⟩);(refine ys (zh (f:=151) (hc:=λw' X hk hh=>hadd w' _ _ _ _ (zJ hh q_h) (zJ hh q_h))) (k:=?_);rintro _ _ ⟨R,rfl,aN,cN,rfl,rfl⟩);refine za ?_))
 repeat' (first|refine s_0 ?_|(refine zb 11 (za ?_);(refine ys (zh (f:=149) (hc:=λw' X hk hh=>hpow w' _ _ (zJ hh q_h))) (k:=?_);rintro _ _ ⟨R,rfl,aP,cP,rfl,rfl⟩);refine za ?_;(refine ys (zh (f:=161) (hc:=λw' X hk hh=>hexp w' _ _ _ _ (zJ hh q_h) (zJ hh q_h))) (k:=?_);rintro _ _ ⟨R,rfl,aB,cB,rfl,rfl⟩);(refine ys (zh (f:=160) (hc:=λw' X hk hh=>hmul w' _ _ _ _ (zJ hh q_h) (zJ hh q_h))) (k:=?_);rintro _ _ ⟨R,rfl,aR,cR,rfl,rfl⟩);refine za ?_))
 by_cases hee:e=x0
 ·rw [decide_eq_true hee] at hcz ⊢;repeat' (first|refine s_0 ?_|(refine zb 12 (za ?_);(refine ys (zh (f:=150) (hc:=λw' X hk hh=>hch w' hk _ _ (zJ hh q_h))) (k:=?_);rintro _ _ ⟨R,rfl,aC,cC,rfl,rfl⟩);refine za ?_;refine yv (zd (f:=162) (hc:=λw' X hk hh=>hcm w' _ _ _ _ (zJ hh q_h) (zJ hh q_h))) (k:=?_);refine yv (zag (hr:=hcz)) (k:=?_))|(refine zb 14 (za ?_)))
  exact q_r
 ·rw [decide_eq_false hee] at hcz ⊢;repeat' (first|refine s_0 ?_|(refine zb 12 (za ?_);(refine ys (zh (f:=150) (hc:=λw' X hk hh=>hch w' hk _ _ (zJ hh q_h))) (k:=?_);rintro _ _ ⟨R,rfl,aC,cC,rfl,rfl⟩);refine za ?_;refine yv (zd (f:=162) (hc:=λw' X hk hh=>hcm w' _ _ _ _ (zJ hh q_h) (zJ hh q_h))) (k:=?_);refine yv (zag (hr:=hcz)) (k:=?_))|(refine zb 13 (za ?_)))
  exact q_r
end Go.Proofs.YtdnlngbjpdbffaaGreatDoor
end
