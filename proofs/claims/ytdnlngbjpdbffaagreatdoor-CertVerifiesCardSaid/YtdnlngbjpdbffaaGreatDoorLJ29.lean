/- The walk of the specification's block function. -/
import Derived.Test.YtdnlngbjpdbffaaGreatDoorLJ27
set_option maxHeartbeats 4000000
set_option maxRecDepth 10000
set_option linter.all false
section
namespace Go.Sh
open Go.Wd Go.RowKit
def wp (b:List UInt8) (t j:Nat):Nat:=((List.range j).foldl (λa i=>256*a+(b.getD (4*t+i) 0).toNat) 0)
theorem zdE (b:List UInt8) (t j:Nat):wp b t (j+1)=256*wp b t j+(b.getD (4*t+j) 0).toNat:=by simp [wp,List.range_succ]
theorem zmd (b:List UInt8) (t j:Nat):wp b t j < 256 ^ j:=by
 induction j with
 |zero=>simp [wp]
 |succ j ih=>have:=(b.getD (4*t+j) 0).toNat_lt;rw [zdE,Nat.pow_succ];omega
theorem zoY (a b c d:UInt8):(word a b c d).toNat=256*(256*(256*a.toNat+b.toNat)+c.toNat)+d.toNat:=by
 have ha:=a.toNat_lt;have hb:=b.toNat_lt;have hc:=c.toNat_lt;have hd:=d.toNat_lt;unfold word;simp only [UInt32.toNat_or,UInt32.toNat_shiftLeft,UInt8.toNat_toUInt32];rw [show (24:UInt32).toNat % 32=24 from rfl,show (16:UInt32).toNat % 32=16 from rfl,show (8:UInt32).toNat % 32=8 from rfl];rw [Nat.mod_eq_of_lt (by rw [Nat.shiftLeft_eq];omega),Nat.mod_eq_of_lt (by rw [Nat.shiftLeft_eq];omega),Nat.mod_eq_of_lt (by rw [Nat.shiftLeft_eq];omega)];have e8:c.toNat <<< 8=c.toNat*256:=Nat.shiftLeft_eq _ _;have e16:b.toNat <<< 16=b.toNat*65536:=Nat.shiftLeft_eq _ _;have h16:c.toNat <<< 8+d.toNat < 2 ^ 16:=q_o;have h24:b.toNat <<< 16+(c.toNat <<< 8+d.toNat) < 2 ^ 24:=q_o;rw [Nat.or_assoc,Nat.or_assoc,<-Nat.shiftLeft_add_eq_or_of_lt hd,<-Nat.shiftLeft_add_eq_or_of_lt h16,<-Nat.shiftLeft_add_eq_or_of_lt h24];simp only [Nat.shiftLeft_eq];omega
theorem zq9 (b:List UInt8) (t:Nat):UInt32.ofNat (wp b t 4)=wordAt b t:=by
 apply UInt32.toNat_inj.1;have:=zmd b t 4;unfold wordAt;rw [zoY,UInt32.toNat_ofNat',Nat.mod_eq_of_lt q_o,zdE,zdE,zdE,zdE];simp [wp]
theorem zrV (b:List UInt8) (t j:Nat) (hj:j < 4):IntKind.i64.wrap (256*n32 (UInt32.ofNat (wp b t j)))=256*n32 (UInt32.ofNat (wp b t j))/\IntKind.i64.wrap (n8 (b.getD (4*t+j) 0))=n8 (b.getD (4*t+j) 0)/\
  IntKind.i64.wrap (256*n32 (UInt32.ofNat (wp b t j))+n8 (b.getD (4*t+j) 0))=n32 (UInt32.ofNat (wp b t (j+1))):=by
 have h0:=zmd b t j;have h1:=zmd b t (j+1);have h2:256 ^ j<=256 ^ 3:=Nat.pow_le_pow_right q_e q_o;have h3:256 ^ (j+1)<=256 ^ 4:=Nat.pow_le_pow_right q_e q_o;have hb:=n8_lt (b.getD (4*t+j) 0);have hb0:=n8_nonneg (b.getD (4*t+j) 0);rw [zgX,zgX,Nat.mod_eq_of_lt q_o,Nat.mod_eq_of_lt q_o,zdE];refine ⟨wrapi _ q_o q_o,wrapi _ q_o q_o,?_⟩;rw [wrapi _ q_o q_o];unfold n8;omega
theorem turn2 (x:UInt32) (a b:Nat):turn x [a,b]=rotr x a ^^^ rotr x b:=by show ((0 ^^^ rotr x a) ^^^ rotr x b)=_;rw [UInt32.zero_xor]
theorem turn3 (x:UInt32) (a b c:Nat):turn x [a,b,c]=(rotr x a ^^^ rotr x b) ^^^ rotr x c:=by show (((0 ^^^ rotr x a) ^^^ rotr x b) ^^^ rotr x c)=_;rw [UInt32.zero_xor]
theorem zax {α:Type}{C L:List α}{k:Nat}(h:k < C.length) (hL:C.take k=L) (v:α):(C.set k v).take (k+1)=L ++ [v]:=by
 rw [List.take_succ_eq_append_getElem (by simpa using h),List.take_set_of_le (Nat.le_refl k),hL];simp
theorem zbL {α:Type}{C L:List α}{k i:Nat}(hL:C.take k=L) (hi:i < k) (d:α):C.getD i d=L.getD i d:=by
 subst hL;simp [List.getD,hi]
theorem zbV {α:Type}(f:α->Value) {l:List α}{i:Nat}(h:i < l.length) (d:α):(l.map f)[i]?=some (f (l.getD i d)):=by
 simp [List.getD,h]
theorem zhr {α:Type}{f:α->Value}{w:World}{b o:Nat}{l:List α}(h:w.rangeAt b o (l.map f)) {i:Nat}(hi:i < l.length) (d:α):w.cell? ⟨b,o+i,none⟩=some (f (l.getD i d)):=h i _ (zbV f hi d)
theorem shri32 (x:UInt32) (k:IntKind) (n:Nat) (h:n < 32):Op.shift .shr .i64 (n32 x) k (n:Int)=pure (.int .i64 (n32 (x >>> UInt32.ofNat n))):=by
 rw [shri _ _ n q_o,<-shr32 x n h,Int.natCast_pow];rfl
theorem zix {C:List UInt32}{k:Nat}(h:C.getD k 0=0) (hk:k < C.length):C.set k 0=C:=by
 apply List.ext_getElem q_p;intro i h1 h2;rw [List.getElem_set];split
 ·rename_i hki;subst hki;simp only [List.getD,h2,List.getElem?_eq_getElem,Option.getD_some] at h;rw [h]
 ·rfl
theorem zf6 (k n:Nat) (h:n<=k) (hk:k < 9000000000):IntKind.i64.wrap ((k:Int) - (n:Int))=((k - n:Nat):Int):=by
 rw [wrapi _ q_o q_o];omega
theorem zpd (f:UInt32->UInt32->UInt32) {a b:List UInt32}{k:Nat}(ha:k < a.length) (hb:k < b.length):(List.zipWith f a b).getD k 0=f (a.getD k 0) (b.getD k 0):=by
 simp [List.getD,List.getElem?_zipWith,ha,hb]
theorem zi3 {s r C:List UInt32}{k:Nat}(hs:s.length=8) (hk:k < 8) (hC:C.length=8) (hT:C.take k=(List.zipWith (· + ·) s r).take k) (hr:r.length=8):
  (C.set k (s.getD k 0+r.getD k 0)).take (k+1)=(List.zipWith (· + ·) s r).take (k+1):=by
 have hz:(List.zipWith (· + ·) s r).length=8:=by simp [hs,hr]
 rw [zax q_o hT]
 conv=>rhs;rw [List.take_succ_eq_append_getElem q_o]
 congr 2
 have:=zpd (· + ·) (a:=s) (b:=r) (k:=k) q_o q_o;rw [<-this,List.getD,List.getElem?_eq_getElem q_o];rfl
theorem zrm:List.replicate 64 (Value.int .i64 0)=(List.replicate 64 (0:UInt32)).map vi:=rfl
theorem zmj (s:List UInt32) (hs:s.length=8):(rounds s [] 0).list=s:=by
 match s,hs with
 | [a,b,c,d,e,f,g,h],_=>rfl
theorem zkE (s W:List UInt32):rounds s W 0=rounds s [] 0:=rfl
theorem zsp (v:St):v.list.length=8:=rfl
end Go.Sh
namespace Go.Proofs.YtdnlngbjpdbffaaGreatDoor
open Go Go.Sy Go.Wd Go.Sh
attribute [local irreducible] Sy SyL SyX Sy.Fn callFunc n8 n32 IntKind.wrap Int.tmod
theorem znz (b bo c kb ko kc:Nat) (s:List UInt32) (blk:List UInt8) (w:World) (hs:s.length=8) (hb:blk.length=64)
  (hB:w.rangeAt b bo (blk.map Sy.v8)) (hG:w.cell? ⟨5,0,none⟩=some (.slice (some ⟨kb,ko,none⟩) 64 kc)) (hK:w.rangeAt kb ko (kC.map vi)):
  Sy.Fn Tryz.prog 276 [.agg (s.map vi).toArray,.slice (some ⟨b,bo,none⟩) 64 c] w No (Gives (.agg ((compress s blk).map vi).toArray)):=by
 refine zg Tryz.func276 rfl Tryz.ntmps276 q_p Holds.nil ?_;repeat' (first|refine s_t ?_|(refine zb 0 ?_;refine zj ?_;intro _;refine zj ?_;intro _)|(refine zb 1 ?_;refine zj ?_;intro _)|(refine zb 2 (za ?_)))
 rename_i b2 b4 b5;refine zy (γ:=Nat×List UInt32) (λg=>[(1,.slice (some ⟨b,bo,none⟩) 64 c),(2,.pointer (some ⟨b2,0,none⟩)),(4,.pointer (some ⟨b4,0,none⟩)),(5,.pointer (some ⟨b5,0,none⟩)),(6,.int .i64 g.1)])
  (λg=>[.blk b5 312 (g.2.map vi),.blk b4 275 (List.replicate 8 (.int .i64 0)),.blk b2 275 (s.map vi)])
  (λg=>g.1<=16/\g.2.length=64/\g.2.take g.1=sched blk g.1/\ ∀j,g.1<=j->g.2.getD j 0=0) (λg=>16 - g.1) (0,List.replicate 64 0) ⟨by omega,by simp,rfl,λj _=>by rw [List.getD_eq_getElem?_getD,List.getElem?_replicate];split <;> rfl⟩ ?_ ?_ ?_
 ·exact q_h
 ·(repeat' (first|exact SubR.nil|(apply SubR.same;with_reducible (focus ((repeat (first|exact Rem.here|apply Rem.there));done)))|(apply SubR.blk;(focus ((repeat (first|exact Rem.here|apply Rem.there));done)))|(apply SubR.pick;(focus ((repeat (first|exact Rem.here|apply Rem.there));done)))|rfl))
  exact zrm
 rintro ⟨k,C⟩ ⟨hk,hC,hW,hZ⟩;dsimp only at *;by_cases hlt:k < 16
 ·repeat' (first|refine s_t ?_|(refine zb 3 (za ?_);refine zL ?_)|(refine zb 5 (za ?_)))
  refine zy (γ:=Nat) (λj=>[(1,.slice (some ⟨b,bo,none⟩) 64 c),(2,.pointer (some ⟨b2,0,none⟩)),(4,.pointer (some ⟨b4,0,none⟩)),(5,.pointer (some ⟨b5,0,none⟩)),(6,.int .i64 k),(7,.int .i64 j)])
   (λj=>[.blk b5 312 ((C.set k (UInt32.ofNat (wp blk k j))).map vi),.blk b4 275 (List.replicate 8 (.int .i64 0)),.blk b2 275 (s.map vi)]) (λj=>j<=4) (λj=>4 - j) 0 q_o ?_ ?_ ?_
  ·exact q_h
  ·(repeat' (first|exact SubR.nil|(apply SubR.same;with_reducible (focus ((repeat (first|exact Rem.here|apply Rem.there));done)))|(apply SubR.blk;(focus ((repeat (first|exact Rem.here|apply Rem.there));done)))|(apply SubR.pick;(focus ((repeat (first|exact Rem.here|apply Rem.there));done)))|rfl))
   have:C.set k (UInt32.ofNat (wp blk k 0))=C:=zix (hZ k (Nat.le_refl _)) q_o;rw [this]
  intro j hj;by_cases hlt4:j < 4
  ·obtain ⟨e1,e2,e3⟩:=zrV blk k j hlt4;have cb:=zhr hB (i:=4*k+j) q_o 0;have ct:((C.set k (UInt32.ofNat (wp blk k j))).map vi)[k]?=some (vi (UInt32.ofNat (wp blk k j))):=by rw [List.getElem?_map,List.getElem?_set_self q_o];rfl
   have hl:k < ((C.set k (UInt32.ofNat (wp blk k j))).map vi).length:=by simp [hC];omega
   repeat' (first|refine s_t ?_|(refine zb 6 (za ?_);refine zL ?_)|(refine zM (id:=8) 14 [[],[],[1],[1,2],[1,2,3],[],[],[6],[],[6,7,8],[5,6,7,8,9],[5,6,7,8,9,10],[5,6,7,8,9,10,11],[1,2,3,4,5,6,7,8,9,10,11,12],[0,1,2,3,4,5,6,7,8,9,10,11,12,13],[0,1,2,3,4,5,6,7,8,9,10,11,12,13,14]] mixed ?_ ?_;kernel_rfl;refine zk ?_;refine zk ?_;refine zK ?_;refine dc (λ_ _=>zC rfl rfl (ty rfl) rfl Has.go ct) (k:=?_);refine dc (λ_ _=>zah rfl rfl rfl e1) (k:=?_);refine zk ?_;refine zk ?_;refine zr4 ?_;refine zk ?_;refine zmf ?_;refine zK ?_;refine dc (λ_ _=>zl rfl rfl (ty rfl) rfl cb (λh=>h)) (k:=?_);refine dc (λ_ _=>z5 rfl rfl (tyU rfl) (tyI rfl rfl) e2) (k:=?_);refine dc (λ_ _=>zu rfl rfl rfl e3) (k:=?_);refine zY ?_;refine zw ?_;refine zI ?_)|(refine zb 7 (za ?_);refine zaj ?_;refine za ?_))
   refine zq (j+1) ?_ ?_ ?_ ?_
   ·show j+1<=4;omega
   ·show 4 - (j+1) < 4 - j;omega
   ·exact q_h
   ·(repeat' (first|exact SubR.nil|(apply SubR.same;with_reducible (focus ((repeat (first|exact Rem.here|apply Rem.there));done)))|(apply SubR.blk;(focus ((repeat (first|exact Rem.here|apply Rem.there));done)))|(apply SubR.pick;(focus ((repeat (first|exact Rem.here|apply Rem.there));done)))|rfl))
    show ((C.set k (UInt32.ofNat (wp blk k j))).map vi).set k (vi (UInt32.ofNat (wp blk k (j+1))))=_;rw [<-List.map_set,List.set_set]
  ·obtain rfl:j=4:=q_o;repeat' (first|refine s_0 ?_|(refine zb 6 (za ?_);refine zL ?_)|(refine zb 4 (za ?_);refine zaj ?_;refine za ?_))
   refine zq (k+1,C.set k (UInt32.ofNat (wp blk k 4))) ?_ ?_ ?_ ?_
   ·refine ⟨by omega,by simp [hC],?_,?_⟩
    ·show List.take (k+1) _=sched blk (k+1);rw [zil _ _ hlt,<-zq9];exact zax q_o hW _
    ·intro i hi;have:=hZ i q_o;simp only [List.getD,List.getElem?_set] at this ⊢;rw [if_neg q_o];exact this
   ·show 16 - (k+1) < 16 - k;omega
   ·exact q_h
   ·exact q_h
 obtain rfl:k=16:=q_o;clear hZ;repeat' (first|refine s_t ?_|(refine zb 9 (za ?_))|(refine zP ?_;first|refine zL ?_|refine zaH ?_|fail)|refine zbc ?_)
 refine zy (γ:=Nat×List UInt32) (λg=>[(1,.slice (some ⟨b,bo,none⟩) 64 c),(2,.pointer (some ⟨b2,0,none⟩)),(4,.pointer (some ⟨b4,0,none⟩)),(5,.pointer (some ⟨b5,0,none⟩)),(8,.int .i64 g.1)])
  (λg=>[.blk b5 312 (g.2.map vi),.blk b4 275 (List.replicate 8 (.int .i64 0)),.blk b2 275 (s.map vi)])
  (λg=>16<=g.1/\g.1<=64/\g.2.length=64/\g.2.take g.1=sched blk g.1) (λg=>64 - g.1) (16,C) ⟨by omega,by omega,hC,hW⟩ ?_ ?_ ?_
 ·exact q_h
 ·exact q_h
 clear hW hC C hlt hk;rintro ⟨k,C⟩ ⟨hk0,hk,hC,hW⟩;dsimp only at *;by_cases hlt:k < 64
 ·have c2:=zbV vi (l:=C) (i:=k - 2) q_o 0;have c7:=zbV vi (l:=C) (i:=k - 7) q_o 0;have c15:=zbV vi (l:=C) (i:=k - 15) q_o 0;have c16:=zbV vi (l:=C) (i:=k - 16) q_o 0;repeat' (first|refine s_t ?_|(refine zb 10 (za ?_);refine zL ?_)|(refine zM (id:=12) 9 [[],[0],[0,1],[0,1,2],[],[4],[4,5],[4,5,6],[0,1,2,3],[0,1,2,3,4,5,6,7,8]] mixed ?_ ?_;kernel_rfl;refine zk ?_;refine dc (λ_ _=>zD rfl rfl rfl (zf6 k 15 q_o q_o)) (k:=?_);refine zK ?_;refine zal ?_;refine zk ?_;refine dc (λ_ _=>zD rfl rfl rfl (zf6 k 2 q_o q_o)) (k:=?_);refine zK ?_;refine zal ?_;refine zgO ?_;refine zY ?_;refine zx ?_)|(refine zb 13 (za ?_);refine yv (zd (hc:=λ_ _ _ _=>(zbs _ 7 _ q_e q_e))) (k:=?_);refine za ?_;refine yv (zd (hc:=λ_ _ _ _=>(zbs _ 18 _ q_e q_e))) (k:=?_);refine yv (zb5 rfl rfl rfl (xori _ _)) (k:=za ?_);refine yv (zaJ rfl rfl rfl (shri32 _ _ 3 q_e)) (k:=?_);refine yv (zb5 rfl rfl rfl (xori _ _)) (k:=za ?_))|(refine zb 14 (za ?_);refine yv (zd (hc:=λ_ _ _ _=>(zbs _ 17 _ q_e q_e))) (k:=?_);refine za ?_;refine yv (zd (hc:=λ_ _ _ _=>(zbs _ 19 _ q_e q_e))) (k:=?_);refine yv (zb5 rfl rfl rfl (xori _ _)) (k:=za ?_);refine yv (zaJ rfl rfl rfl (shri32 _ _ 10 q_e)) (k:=?_);refine yv (zb5 rfl rfl rfl (xori _ _)) (k:=za ?_))|(refine zM (id:=15) 15 [[],[],[],[2],[2,3],[2,3,4],[1,2,3,4,5],[],[1,2,3,4,5,6,7],[],[9],[9,10],[9,10,11],[1,2,3,4,5,6,7,8,9,10,11,12],[1,2,3,4,5,6,7,8,9,10,11,12,13],[0,1,2,3,4,5,6,7,8,9,10,11,12,13,14],[0,1,2,3,4,5,6,7,8,9,10,11,12,13,14,15]] mixed ?_ ?_;kernel_rfl;refine zk ?_;refine zk ?_;refine zk ?_;refine dc (λ_ _=>zD rfl rfl rfl (zf6 k 7 q_o q_o)) (k:=?_);refine zK ?_;refine zal ?_;refine dc (λ_ _=>zu rfl rfl rfl (ws2 _ _)) (k:=?_);refine zk ?_;refine dc (λ_ _=>zu rfl rfl rfl (ws3 _ _ _)) (k:=?_);refine zk ?_;refine dc (λ_ _=>zD rfl rfl rfl (zf6 k 16 q_o q_o)) (k:=?_);refine zK ?_;refine zal ?_;refine dc (λ_ _=>zu rfl rfl rfl (ws4 _ _ _ _)) (k:=?_);refine dc (λ_ _=>zap rfl rfl rfl q_e (rs4 _ _ _ _)) (k:=?_);refine zY ?_;refine zw ?_;refine zI ?_)|(refine zb 11 (za ?_);refine zaj ?_;refine za ?_))
  refine zq (k+1,C.set k (next (C.getD (k - 2) 0) (C.getD (k - 7) 0) (C.getD (k - 15) 0) (C.getD (k - 16) 0))) ?_ ?_ ?_ ?_
  ·refine ⟨by omega,by omega,by simp [hC],?_⟩;show List.take (k+1) _=sched blk (k+1);rw [zhh _ _ hk0,<-zbL hW q_o,<-zbL hW q_o,<-zbL hW q_o,<-zbL hW q_o];exact zax q_o hW _
  ·show 64 - (k+1) < 64 - k;omega
  ·exact q_h
  ·(repeat' (first|exact SubR.nil|(apply SubR.same;with_reducible (focus ((repeat (first|exact Rem.here|apply Rem.there));done)))|(apply SubR.blk;(focus ((repeat (first|exact Rem.here|apply Rem.there));done)))|(apply SubR.pick;(focus ((repeat (first|exact Rem.here|apply Rem.there));done)))|rfl))
   rw [List.map_set];simp only [next,turn2];rfl
 obtain rfl:k=64:=q_o;have hW:C=sched blk 64:=by rw [<-hW,List.take_of_length_le q_o]
 repeat' (first|refine s_t ?_|(refine zb 16 ?_;refine zm ?_;refine zj ?_;intro _;refine zI ?_)|(refine zb 17 (za ?_))|(refine zP ?_;first|refine zL ?_|refine zaH ?_|fail)|refine zbc ?_)
 rename_i b13;refine zy (γ:=Nat) (λt=>[(1,.slice (some ⟨b,bo,none⟩) 64 c),(2,.pointer (some ⟨b2,0,none⟩)),(4,.pointer (some ⟨b4,0,none⟩)),(5,.pointer (some ⟨b5,0,none⟩)),(13,.pointer (some ⟨b13,0,none⟩)),(14,.int .i64 t)])
  (λt=>[.blk b13 275 ((rounds s C t).list.map vi),.blk b5 312 (C.map vi),.blk b4 275 (List.replicate 8 (.int .i64 0)),.blk b2 275 (s.map vi)])
  (λt=>t<=64) (λt=>64 - t) 0 q_o ?_ ?_ ?_
 ·exact q_h
 ·(repeat' (first|exact SubR.nil|(apply SubR.same;with_reducible (focus ((repeat (first|exact Rem.here|apply Rem.there));done)))|(apply SubR.blk;(focus ((repeat (first|exact Rem.here|apply Rem.there));done)))|(apply SubR.pick;(focus ((repeat (first|exact Rem.here|apply Rem.there));done)))|rfl))
  rw [zkE,zmj s hs]
 intro t ht;by_cases hlt:t < 64
 ·have ck:=zhr hK (i:=t) (by rw [zkf];exact hlt) 0;have cw:=zbV vi (l:=C) (i:=t) q_o 0;generalize hv:rounds s C t=v;repeat' (first|refine s_t ?_|(refine zb 18 (za ?_);refine zL ?_)|(refine zM (id:=20) 10 [[],[0],[0,1],[],[3],[0,1,2,3,4],[0,1,2,3,4,5],[],[7],[0,1,2,3,4,5,7,8],[0,1,2,3,4,5,6,7,8,9],[0,1,2,3,4,5,6,7,8,9,10]] mixed ?_ ?_;kernel_rfl;refine zK ?_;refine zal ?_;refine dc (λ_ _=>zd (hc:=λ_ _ _ _=>(zbs _ 6 _ q_e q_e))) (k:=?_);refine zK ?_;refine zal ?_;refine dc (λ_ _=>zd (hc:=λ_ _ _ _=>(zbs _ 11 _ q_e q_e))) (k:=?_);refine dc (λ_ _=>zb5 rfl rfl rfl (xori _ _)) (k:=?_);refine zK ?_;refine zal ?_;refine dc (λ_ _=>zd (hc:=λ_ _ _ _=>(zbs _ 25 _ q_e q_e))) (k:=?_);refine zY ?_;refine yv (zb5 rfl rfl rfl (xori _ _)) (k:=?_);refine zx ?_)|(refine zM (id:=21) 10 [[],[0],[0,1],[],[3],[0,1,2,3,4],[0,1,2,3,4,5],[],[7],[0,1,2,3,4,5,7,8],[0,1,2,3,4,5,6,7,8,9],[0,1,2,3,4,5,6,7,8,9,10]] mixed ?_ ?_;kernel_rfl;refine zK ?_;refine zal ?_;refine dc (λ_ _=>zd (hc:=λ_ _ _ _=>(zbs _ 2 _ q_e q_e))) (k:=?_);refine zK ?_;refine zal ?_;refine dc (λ_ _=>zd (hc:=λ_ _ _ _=>(zbs _ 13 _ q_e q_e))) (k:=?_);refine dc (λ_ _=>zb5 rfl rfl rfl (xori _ _)) (k:=?_);refine zK ?_;refine zal ?_;refine dc (λ_ _=>zd (hc:=λ_ _ _ _=>(zbs _ 22 _ q_e q_e))) (k:=?_);refine zY ?_;refine yv (zb5 rfl rfl rfl (xori _ _)) (k:=?_);refine zx ?_)|(refine zM (id:=22) 20 [[],[0],[],[0,1,2],[],[4],[],[6],[],[8],[4,5,6,7,8,9],[0,1,2,3,4,5,6,7,8,9,10],[],[],[12,13],[12,13,14],[0,1,2,3,4,5,6,7,8,9,10,11,12,13,14,15],[],[17],[17,18],[0,1,2,3,4,5,6,7,8,9,10,11,12,13,14,15,16,17,18,19],[0,1,2,3,4,5,6,7,8,9,10,11,12,13,14,15,16,17,18,19,20]] mixed ?_ ?_;kernel_rfl;refine zK ?_;refine zal ?_;refine zk ?_;refine dc (λ_ _=>zu rfl rfl rfl (ws2 _ _)) (k:=?_);refine zK ?_;refine zal ?_;refine zK ?_;refine zal ?_;refine zK ?_;refine zal ?_;refine dc (λ_ _=>zd (hc:=λ_ _ _ _=>(zoU _ _ _ _))) (k:=?_);refine dc (λ_ _=>zu rfl rfl rfl (ws3 _ _ _)) (k:=?_);refine dc (λ_ _=>zl rfl rfl (ty rfl) rfl hG (λh=>h)) (k:=?_);refine zk ?_;refine zK ?_;refine dc (λ_ _=>zl rfl rfl (ty rfl) rfl ck (λh=>h)) (k:=?_);refine dc (λ_ _=>zu rfl rfl rfl (ws4 _ _ _ _)) (k:=?_);refine zk ?_;refine zK ?_;refine zal ?_;refine zY ?_;refine yv (zu rfl rfl rfl (ws5 _ _ _ _ _)) (k:=?_);refine zx ?_)|(refine zb 23 (za ?_);refine zw ?_;refine zm ?_;refine zw ?_;refine zm ?_;refine zw ?_;refine zm ?_;refine yv (zd (hc:=λ_ _ _ _=>(zpc _ _ _ _))) (k:=?_);refine yv (zu rfl rfl rfl (ws2 _ _)) (k:=za ?_))|(refine zb 24 (za ?_);refine yv (zu rfl rfl rfl (ws7 _ _ _ _ _ _ _)) (k:=?_);refine yv (zap rfl rfl rfl q_e (rs7 _ _ _ _ _ _ _)) (k:=?_);refine zw ?_;refine zm ?_;refine zw ?_;refine zm ?_;refine zw ?_;refine zm ?_;refine zw ?_;refine zm ?_;refine za ?_;refine yv (zu rfl rfl rfl (ws6 _ _ _ _ _ _)) (k:=?_);refine yv (zap rfl rfl rfl q_e (rs6 _ _ _ _ _ _)) (k:=?_);refine zw ?_;refine zm ?_;refine zw ?_;refine zm ?_;refine zw ?_;refine zm ?_;refine za4 ?_;refine zI ?_)|(refine zb 19 (za ?_);refine zaj ?_;refine za ?_))
  refine zq (t+1) ?_ ?_ ?_ ?_
  ·show t+1<=64;omega
  ·show 64 - (t+1) < 64 - t;omega
  ·exact q_h
  ·(repeat' (first|exact SubR.nil|(apply SubR.same;with_reducible (focus ((repeat (first|exact Rem.here|apply Rem.there));done)))|(apply SubR.blk;(focus ((repeat (first|exact Rem.here|apply Rem.there));done)))|(apply SubR.pick;(focus ((repeat (first|exact Rem.here|apply Rem.there));done)))|rfl))
   simp only [rounds,hv,St.step,t1,t2,turn2,turn3,St.list];rfl
 obtain rfl:t=64:=q_o;generalize hv:rounds s C 64=v;have hvl:v.list.length=8:=rfl;repeat' (first|refine s_t ?_|(refine zb 25 (za ?_))|(refine zP ?_;first|refine zL ?_|refine zaH ?_|fail)|refine zbc ?_)
 refine zy (γ:=Nat×List UInt32) (λg=>[(2,.pointer (some ⟨b2,0,none⟩)),(4,.pointer (some ⟨b4,0,none⟩)),(13,.pointer (some ⟨b13,0,none⟩)),(19,.int .i64 g.1)])
  (λg=>[.blk b13 275 (v.list.map vi),.blk b4 275 (List.replicate 8 (.int .i64 0)),.blk b2 275 (g.2.map vi)])
  (λg=>g.1<=8/\g.2.length=8/\g.2.take g.1=(List.zipWith (· + ·) s v.list).take g.1/\ ∀j,g.1<=j->g.2.getD j 0=s.getD j 0) (λg=>8 - g.1) (0,s) ⟨by omega,hs,rfl,λ_ _=>rfl⟩ ?_ ?_ ?_
 ·exact q_h
 ·exact q_h
 rintro ⟨k,D⟩ ⟨hk,hD,hT,hU⟩;dsimp only at *;by_cases hlt:k < 8
 ·have ca:=zbV vi (l:=D) (i:=k) q_o 0;have cb:=zbV vi (l:=v.list) (i:=k) q_o 0;generalize v.list=r at *;repeat' (first|refine s_t ?_|(refine zb 26 (za ?_);refine zL ?_)|(refine zM (id:=28) 9 [[],[],[1],[1,2],[],[4],[4,5],[1,2,3,4,5,6],[1,2,3,4,5,6,7],[0,1,2,3,4,5,6,7,8],[0,1,2,3,4,5,6,7,8,9]] mixed ?_ ?_;kernel_rfl;refine zk ?_;refine zk ?_;refine zK ?_;refine zal ?_;refine zk ?_;refine zK ?_;refine zal ?_;refine dc (λ_ _=>zu rfl rfl rfl (ws2 _ _)) (k:=?_);refine dc (λ_ _=>zap rfl rfl rfl q_e (rs2 _ _)) (k:=?_);refine zY ?_;refine zw ?_;refine zI ?_)|(refine zb 27 (za ?_);refine zaj ?_;refine za ?_))
  refine zq (k+1,D.set k (D.getD k 0+r.getD k 0)) ?_ ?_ ?_ ?_
  ·refine ⟨by omega,by simp [hD],?_,?_⟩
   ·show List.take (k+1) _=_;rw [hU k (Nat.le_refl _)];exact zi3 hs hlt hD hT hvl
   ·intro j hj;have:=hU j q_o;simp only [List.getD,List.getElem?_set] at this ⊢;rw [if_neg q_o];exact this
  ·show 8 - (k+1) < 8 - k;omega
  ·exact q_h
  ·(repeat' (first|exact SubR.nil|(apply SubR.same;with_reducible (focus ((repeat (first|exact Rem.here|apply Rem.there));done)))|(apply SubR.blk;(focus ((repeat (first|exact Rem.here|apply Rem.there));done)))|(apply SubR.pick;(focus ((repeat (first|exact Rem.here|apply Rem.there));done)))|rfl))
   rw [List.map_set];rfl
 obtain rfl:k=8:=q_o;repeat' (first|refine s_0 ?_|(refine zb 26 (za ?_);refine zL ?_)|(refine zb 29 ?_;refine zm ?_;refine zI ?_))
 rw [List.take_of_length_le q_o,List.take_of_length_le (by rw [List.length_zipWith,hs];omega)] at hT;subst hT;refine ret1 rfl (resCells rfl (ty rfl) rfl Has.go Seg.all (by first|rfl|(simp only [List.length_map,List.length_set,List.length_replicate,List.length_append];omega)|(simp only [List.length_map];first|assumption|omega)|(simp;omega)|fail)) SubR.nil ⟨?_,rfl⟩;rw [<-hv,hW];rfl
end Go.Proofs.YtdnlngbjpdbffaaGreatDoor
end
section
namespace Go.Sh
open Go.Wd Go.RowKit
def zeros (n:Nat):Nat:=(119 - n % 64) % 64
def padded (b:List UInt8):List UInt8:=b ++ 128::(List.replicate (zeros b.length) 0 ++ be8 (8*b.length))
theorem zn0 (n z:Nat) (hz:z<=zeros n):(n+1+z) % 64≠56↔z < zeros n:=by
 unfold zeros at *;omega
theorem ze0 (b:List UInt8):(padded b).length=b.length+9+zeros b.length:=by simp [padded,zdM];omega
theorem zeM: ∀(n:Nat) (b c:List UInt8),64*n<=b.length->whole n (b ++ c)=whole n b
 |0,_,_,_=>rfl
 |n+1,b,c,h=>by
  simp only [whole];rw [List.take_append_of_le_length q_o,List.drop_append_of_le_length q_o,zeM n _ c (by rw [List.length_drop];omega)]
theorem zim: ∀(n m:Nat) (b:List UInt8),whole (n+m) b=whole n b ++ whole m (b.drop (64*n))
 |0,m,b=>by simp [whole]
 |n+1,m,b=>by
  rw [show n+1+m=(n+m)+1 from by omega];simp only [whole,List.cons_append];rw [zim n m,List.drop_drop];congr 4;omega
theorem ziz (b:List UInt8):blocks b b.length=whole ((padded b).length / 64) (padded b):=by
 have hr:(b.drop (64*(b.length / 64))).length=b.length % 64:=by rw [List.length_drop];omega
 have ht:=zjW (b.drop (64*(b.length / 64))) b.length q_o;have hp:padded b=b.take (64*(b.length / 64)) ++ tail (b.drop (64*(b.length / 64))) b.length:=by
  unfold padded tail;have:zeros b.length=(if b.length % 64+9 > 64 then 128 else 64) - b.length % 64 - 9:=by unfold zeros;split <;> omega
  rw [hr,<-this];simp only [List.append_assoc,List.cons_append];rw [<-List.append_assoc (List.take _ _) (List.drop _ _),List.take_append_drop]
 have hl:=ze0 b;rw [hr] at ht;have hz:zeros b.length=(119 - b.length % 64) % 64:=rfl;have hn:(padded b).length / 64=b.length / 64+(tail (b.drop (64*(b.length / 64))) b.length).length / 64:=by
  rw [ht,hl,hz];split <;> omega
 rw [hn,zim];have e1:whole (b.length / 64) b=whole (b.length / 64) (padded b):=by
  have e2:whole (b.length / 64) (b.take (64*(b.length / 64)) ++ b.drop (64*(b.length / 64)))=whole (b.length / 64) (b.take (64*(b.length / 64))):=zeM _ _ _ (by rw [List.length_take];omega);rw [List.take_append_drop] at e2;rw [e2,hp,zeM _ _ _ (by rw [List.length_take];omega)]
 have e3:(padded b).drop (64*(b.length / 64))=tail (b.drop (64*(b.length / 64))) b.length:=by
  rw [hp];exact List.drop_left' (by rw [List.length_take];omega)
 rw [<-e1,e3];rfl
theorem zn2 (n i:Nat) (hn:n < 1000000000000000) (hi:i < 8):Op.shift .shr .i64 (8*(n:Int)) .i64 (8*(i:Int))=pure (.int .i64 (((8*n) / 256 ^ i:Nat):Int))/\
  (((8*n) / 256 ^ i:Nat):Int).tmod 256=(((8*n) / 256 ^ i % 256:Nat):Int)/\IntKind.u8.wrap (((8*n) / 256 ^ i % 256:Nat):Int)=n8 (UInt8.ofNat ((8*n) / 256 ^ i)):=by
 refine ⟨?_,?_,?_⟩
 ·rw [show (8*(i:Int))=((8*i:Nat):Int) from (Int.natCast_mul 8 i).symm,shri _ _ (8*i) q_o,Nat.pow_mul 2 8 i |> λh=>show ((2:Int) ^ (8*i))=((256 ^ i:Nat):Int) by rw [show (256:Nat)=2 ^ 8 from rfl,<-h,Int.natCast_pow];rfl];rw [show (8*(n:Int))=((8*n:Nat):Int) from (Int.natCast_mul 8 n).symm,<-Int.natCast_ediv]
 ·rw [Int.tmod_eq_emod_of_nonneg (Int.natCast_nonneg _)];rfl
 ·rw [wrap_u8_nat,n8_of_nat,Nat.mod_mod]
theorem zsi:Value.int .u8 0=Go.Sy.v8 0:=rfl
theorem zrw:Value.int .u8 128=Go.Sy.v8 128:=rfl
theorem zn5 (n j:Nat) (hj:j < 8):(be8 n).take (j+1)=(be8 n).take j ++ [UInt8.ofNat (n / 256 ^ (7 - j))]:=by
 have hl:j < (be8 n).length:=by rw [zdM];exact hj
 rw [List.take_succ_eq_append_getElem hl];congr 2;simp [be8]
end Go.Sh
namespace Go.Proofs.YtdnlngbjpdbffaaGreatDoor
open Go Go.Sy Go.Wd Go.Sh
attribute [local irreducible] Sy SyL SyX Sy.Fn callFunc n8 n32
theorem zlM (a0:Option Addr) (n c:Nat) (l:List UInt8) (w:World) (hn:l.length=n) (hb:n < 1000000000000) (hl:SlA w a0 (l.map Sy.v8)) (hc:a0=none->c=0):
  Sy.Fn Tryz.prog 275 [.slice a0 n c] w No (λv R=>∃a k,v= .slice a (padded l).length k/\R= [.row v 5 1 (padded l).length ((padded l).map Sy.v8)]):=by
 refine zg Tryz.func275 rfl Tryz.ntmps275 q_p Holds.nil ?_;repeat' (first|refine s_t ?_|(refine zb 0 (za ?_))|(refine zb 1 ?_;(refine ys zeA (k:=?_);rintro _ _ ⟨_,rfl,rfl⟩);refine za ?_;(refine ys zaW (k:=?_);rintro _ _ ⟨rfl,_,_,rfl⟩);(refine ys zt (k:=?_);rintro _ _ ⟨_,rfl,rfl⟩);(refine ys z9 (k:=?_);rintro _ _ ⟨rfl,_,_,rfl⟩);refine za ?_))
 rename_i b6 a8 c8 b9 a1 c1;refine zy (γ:=Nat×Option Addr×Nat) (λg=>[(0,.slice a0 n c),(2,.slice none 0 0),(3,.slice g.2.1 (n+1+g.1) g.2.2)])
  (λg=>[.row (.slice g.2.1 (n+1+g.1) g.2.2) 5 1 (n+1+g.1) ((l ++ 128::List.replicate g.1 0).map Sy.v8)])
  (λg=>g.1<=zeros n) (λg=>zeros n - g.1) (0,a1,c1) (Nat.zero_le _) ?_ ?_ ?_
 ·exact q_h
 ·(repeat' (first|exact SubR.nil|(apply SubR.same;with_reducible (focus ((repeat (first|exact Rem.here|apply Rem.there));done)))|(apply SubR.blk;(focus ((repeat (first|exact Rem.here|apply Rem.there));done)))|(apply SubR.pick;(focus ((repeat (first|exact Rem.here|apply Rem.there));done)))|rfl))
  simp [zrw]
 rintro ⟨z,a2,c2⟩ hz;dsimp only at *;have hzl:=zn0 n z hz;have hz64:zeros n < 64:=by unfold zeros;omega
 by_cases hlt:z < zeros n
 ·have hne:=hzl.2 hlt;repeat' (first|refine s_t ?_|(refine zb 2 (za ?_);refine zlS ?_;refine z8 ?_)|(refine zb 3 (za ?_);(refine ys zt (k:=?_);rintro _ _ ⟨_,rfl,rfl⟩);(refine ys z9 (k:=?_);rintro _ _ ⟨rfl,_,_,rfl⟩);refine za ?_))
  rename_i b16 a3 c3;refine zq (z+1,a3,c3) ?_ ?_ ?_ ?_
  ·show z+1<=zeros n;omega
  ·show zeros n - (z+1) < zeros n - z;omega
  ·exact q_h
  ·(repeat' (first|exact SubR.nil|(apply SubR.same;with_reducible (focus ((repeat (first|exact Rem.here|apply Rem.there));done)))|(apply SubR.blk;(focus ((repeat (first|exact Rem.here|apply Rem.there));done)))|(apply SubR.pick;(focus ((repeat (first|exact Rem.here|apply Rem.there));done)))|rfl))
   simp [List.replicate_succ',zsi];omega
 obtain rfl:z=zeros n:=q_o;have hne: ¬(n+1+zeros n) % 64≠56:=λh=>hlt (hzl.1 h);repeat' (first|refine s_t ?_|(refine zb 2 (za ?_);refine zlS ?_;refine z8 ?_)|(refine zb 4 (za ?_);refine zdo ?_;refine za ?_)|(refine zb 5 (za ?_)))
 refine zy (γ:=Nat×Option Addr×Nat) (λg=>[(0,.slice a0 n c),(2,.slice none 0 0),(3,.slice g.2.1 (n+1+zeros n+g.1) g.2.2),(4,.int .i64 (8*(n:Int))),(5,.int .i64 (7 - (g.1:Int)))])
  (λg=>[.row (.slice g.2.1 (n+1+zeros n+g.1) g.2.2) 5 1 (n+1+zeros n+g.1) ((l ++ 128::(List.replicate (zeros n) 0 ++ (be8 (8*n)).take g.1)).map Sy.v8)])
  (λg=>g.1<=8) (λg=>8 - g.1) (0,a2,c2) (Nat.zero_le _) ?_ ?_ ?_
 ·exact q_h
 ·(repeat' (first|exact SubR.nil|(apply SubR.same;with_reducible (focus ((repeat (first|exact Rem.here|apply Rem.there));done)))|(apply SubR.blk;(focus ((repeat (first|exact Rem.here|apply Rem.there));done)))|(apply SubR.pick;(focus ((repeat (first|exact Rem.here|apply Rem.there));done)))|rfl))
  simp
 rintro ⟨j,a3,c3⟩ hj;dsimp only at *;by_cases hlt8:j < 8
 ·obtain ⟨i,hi⟩: ∃i,i+j=7:=⟨7 - j,by omega⟩;have e7:7 - (j:Int)=(i:Int):=q_o;rw [e7];obtain ⟨q1,q2,q3⟩:=zn2 n i q_o q_o;repeat' (first|refine s_t ?_|(refine zb 6 (za ?_);refine zad ?_)|(refine zb 8 (za ?_);refine zdo ?_;refine yv (zaJ (hr:=q1)) (k:=?_);refine yv (zap (hr:=q2)) (k:=?_);refine yv (z5 (hr:=q3)) (k:=?_);(refine ys zt (k:=?_);rintro _ _ ⟨_,rfl,rfl⟩);(refine ys z9 (k:=?_);rintro _ _ ⟨rfl,_,_,rfl⟩);refine za ?_)|(refine zb 7 (za ?_);refine zdc ?_;refine za ?_))
  rename_i b32 a4 c4;refine zq (j+1,a4,c4) ?_ ?_ ?_ ?_
  ·show j+1<=8;omega
  ·show 8 - (j+1) < 8 - j;omega
  ·(repeat' (first|exact Sub.nil|refine Sub.cons rfl ?_ ?_|rfl))
   rw [show (i:Int) - 1=7 - ((j+1:Nat):Int) from by omega]
  ·(repeat' (first|exact SubR.nil|(apply SubR.same;with_reducible (focus ((repeat (first|exact Rem.here|apply Rem.there));done)))|(apply SubR.blk;(focus ((repeat (first|exact Rem.here|apply Rem.there));done)))|(apply SubR.pick;(focus ((repeat (first|exact Rem.here|apply Rem.there));done)))|rfl))
   rw [zn5 _ _ hlt8,show 7 - j=i from by omega];simp;exact ⟨by omega,rfl⟩
 obtain rfl:j=8:=q_o;repeat' (first|refine s_0 ?_|(refine zb 6 (za ?_);refine zad ?_)|(refine zb 9 (za ?_)))
 have hp:(padded l).length=n+1+zeros n+8:=by rw [ze0,hn];omega
 have hpe:l ++ 128::(List.replicate (zeros n) 0 ++ (be8 (8*n)).take 8)=padded l:=by
  rw [List.take_of_length_le (by rw [zdM];omega)];unfold padded;rw [hn]
 rw [hpe,<-hp];exact q_r
end Go.Proofs.YtdnlngbjpdbffaaGreatDoor
end
