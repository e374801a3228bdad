/- Lemmas of this proof. -/
import Derived.Test.YtdnlngbjpdbffaaGreatDoorKJ26
set_option maxHeartbeats 4000000
set_option maxRecDepth 10000
set_option linter.all false
namespace Go.Sh
open Go.Wd Go.RowKit
def wp(b:List UInt8)(t j:Nat):Nat:=((List.range j).foldl (λa i=>256*a+(b.getD (4*t+i) 0).toNat) 0)
theorem zfY(b:List UInt8)(t j:Nat):wp b t (j+1)=256*wp b t j+(b.getD (4*t+j) 0).toNat:=by simp[wp,List.range_succ]
theorem zpA(b:List UInt8)(t j:Nat):wp b t j<256^j:=by
 induction j with
 |zero=>simp[wp]
 |succ j ih=>have:=(b.getD (4*t+j) 0).toNat_lt;rw[zfY,AJ];omega
theorem ztp(a b c d:UInt8):(zn2 a b c d).toNat=256*(256*(256*a.toNat+b.toNat)+c.toNat)+d.toNat:=by
 have w:=a.toNat_lt;have A:=b.toNat_lt;have B:=c.toNat_lt;have r:=d.toNat_lt;unfold zn2;simp only[UInt32.toNat_or,Dd,UInt8.toNat_toUInt32];rw[show(24:UInt32).toNat%32=24 from rfl,show(16:UInt32).toNat%32=16 from rfl,show(8:UInt32).toNat%32=8 from rfl];rw[A3 (by rw[C6];omega),A3 (by rw[C6];omega),A3 (by rw[C6];omega)];have t:c.toNat <<< 8=c.toNat*256:=C6 _ _;have q:b.toNat <<< 16=b.toNat*65536:=C6 _ _;have j:c.toNat <<< 8+d.toNat<2^16:=q_o;have m:b.toNat <<< 16+(c.toNat <<< 8+d.toNat)<2^24:=q_o;rw[Nat.or_assoc,Nat.or_assoc,<-CP r,<-CP j,<-CP m];simp only[C6];omega
theorem zuA(b:List UInt8)(t:Nat):UInt32.ofNat (wp b t 4)=ziH b t:=by
 apply UInt32.toNat_inj.1;have:=zpA b t 4;unfold ziH;rw[ztp,Cn,A3 q_o,zfY,zfY,zfY,zfY];simp[wp]
theorem zvN(b:List UInt8)(t j:Nat)(hj:j<4):IntKind.i64.wrap (256*n32 (UInt32.ofNat (wp b t j)))=256*n32 (UInt32.ofNat (wp b t j))/\IntKind.i64.wrap (n8 (b.getD (4*t+j) 0))=n8 (b.getD (4*t+j) 0)/\
  IntKind.i64.wrap (256*n32 (UInt32.ofNat (wp b t j))+n8 (b.getD (4*t+j) 0))=n32 (UInt32.ofNat (wp b t (j+1))):=by
 have h0:=zpA b t j;have q:=zpA b t (j+1);have r:256^j<=256^3:=AA q_e q_o;have w:256^(j+1)<=256^4:=AA q_e q_o;have A:=n8_lt (b.getD (4*t+j) 0);have m:=n8_nonneg (b.getD (4*t+j) 0);rw[zj6,zj6,A3 q_o,A3 q_o,zfY];refine⟨zcJ _ q_o q_o,zcJ _ q_o q_o,?_⟩;rw[zcJ _ q_o q_o];unfold n8;omega
theorem zt9(x:UInt32)(a b:Nat):zdO x [a,b]=zcT x a ^^^ zcT x b:=by show((0 ^^^ zcT x a) ^^^ zcT x b)=_;rw[UInt32.zero_xor]
theorem zw4(x:UInt32)(a b c:Nat):zdO x [a,b,c]=(zcT x a ^^^ zcT x b) ^^^ zcT x c:=by show(((0 ^^^ zcT x a) ^^^ zcT x b) ^^^ zcT x c)=_;rw[UInt32.zero_xor]
theorem za8{α:Type}{C L:List α}{k:Nat}(h:k<C.length)(hL:C.take k=L)(v:α):(C.set k v).take (k+1)=L++[v]:=by
 rw[Aj (by simpa using h),DL (A4 k),hL];simp
theorem zc2{α:Type}{C L:List α}{k i:Nat}(hL:C.take k=L)(j:i<k)(d:α):C.getD i d=L.getD i d:=by
 subst hL;simp[List.getD,j]
theorem zc9{α:Type}(f:α->Value){l:List α}{i:Nat}(h:i<l.length)(d:α):(l.map f)[i]?=some (f (l.getD i d)):=by
 simp[List.getD,h]
theorem zke{α:Type}{f:α->Value}{w:World}{b o:Nat}{l:List α}(h:w.rangeAt b o (l.map f)){i:Nat}(j:i<l.length)(d:α):w.cell? ⟨b,o+i,none⟩=some (f (l.getD i d)):=h i _ (zc9 f j d)
theorem znQ(x:UInt32)(k:IntKind)(n:Nat)(h:n<32):Op.shift .shr .i64 (n32 x) k (n:Int)=pure (.int .i64 (n32 (x >>> UInt32.ofNat n))):=by
 rw[ztI _ _ n q_o,<-zgI x n h,CE];rfl
theorem zlZ{C:List UInt32}{k:Nat}(h:C.getD k 0=0)(hk:k<C.length):C.set k 0=C:=by
 apply List.ext_getElem q_p;intro i q m;rw[List.getElem_set];split
 ·rename_i j;subst j;simp only[List.getD,m,A1,CH] at h;rw[h]
 ·rfl
theorem ziR(k n:Nat)(h:n<=k)(hk:k<9000000000):IntKind.i64.wrap ((k:Int)-(n:Int))=((k-n:Nat):Int):=by
 rw[zcJ _ q_o q_o];omega
theorem ztt(f:UInt32->UInt32->UInt32){a b:List UInt32}{k:Nat}(ha:k<a.length)(hb:k<b.length):(List.zipWith f a b).getD k 0=f (a.getD k 0) (b.getD k 0):=by
 simp[List.getD,Cx,ha,hb]
theorem zmh{s r C:List UInt32}{k:Nat}(m:s.length=8)(hk:k<8)(hC:C.length=8)(j:C.take k=(List.zipWith (· + ·) s r).take k)(hr:r.length=8):
  (C.set k (s.getD k 0+r.getD k 0)).take (k+1)=(List.zipWith (· + ·) s r).take (k+1):=by
 have q:(List.zipWith (· + ·) s r).length=8:=by simp[m,hr]
 rw[za8 q_o j]
 conv=>rhs;rw[Aj q_o]
 congr 2
 have:=ztt (· + ·) (a:=s) (b:=r) (k:=k) q_o q_o;rw[<-this,List.getD,A1 q_o];rfl
theorem zvP:List.replicate 64 (Value.int .i64 0)=(List.replicate 64 (0:UInt32)).map vi:=rfl
theorem zpE(s:List UInt32)(j:s.length=8):(zc3 s [] 0).list=s:=by
 match s,j with
 | [a,b,c,d,e,f,g,h],_=>rfl
theorem zoq(s W:List UInt32):zc3 s W 0=zc3 s [] 0:=rfl
theorem zxv(v:St):v.list.length=8:=rfl
end Go.Sh
namespace Go.Proofs.YtdnlngbjpdbffaaGreatDoor
open Go Go.Sy Go.Wd Go.Sh
attribute [local irreducible] Sy SyL SyX Sy.Fn callFunc n8 n32 IntKind.wrap Int.tmod
theorem zrg(b F c R S kc:Nat)(s:List UInt32)(blk:List UInt8)(w:World)(H:s.length=8)(hb:blk.length=64)
  (hB:w.rangeAt b F (blk.map Sy.v8))(hG:w.cell? ⟨5,0,none⟩=some (.slice (some ⟨R,S,none⟩) 64 kc))(hK:w.rangeAt R S (kC.map vi)):
  q_G 276 [.agg (s.map vi).toArray,.slice (some ⟨b,F,none⟩) 64 c] w (.agg ((zbr s blk).map vi).toArray):=by
 refine zo Tryz.func276 Tryz.ntmps276 ?_;repeat' (first|refine s_t ?_|refine zg 0 ?_;refine zi ?_;intro _;refine zi ?_;intro _|refine zg 1 ?_;refine zi ?_;intro _|refine q_k 2 ?_)
 rename_i q A E;refine zE (γ:=Nat×List UInt32) (λg=>[(1,.slice (some ⟨b,F,none⟩) 64 c),(2,.pointer (some ⟨q,0,none⟩)),(4,.pointer (some ⟨A,0,none⟩)),(5,.pointer (some ⟨E,0,none⟩)),(6,.int .i64 g.1)])
  (λg=>[.blk E 312 (g.2.map vi),.blk A 275 (List.replicate 8 (.int .i64 0)),.blk q 275 (s.map vi)])
  (λg=>g.1<=16/\g.2.length=64/\g.2.take g.1=zbJ blk g.1/\∀j,g.1<=j->g.2.getD j 0=0) (λg=>16-g.1) (0,List.replicate 64 0) ⟨by omega,by simp,rfl,λj _=>by rw[DB,Br];split <;> rfl⟩ ?_ ?_ ?_
 ·exact q_h
 ·(repeat' (first|exact F2|apply F9;with_reducible (focus ((repeat (first|exact F1|apply F3));done))|apply FC;(focus ((repeat (first|exact F1|apply F3));done))|apply FA;(focus ((repeat (first|exact F1|apply F3));done))|rfl))
  exact zvP
 rintro⟨k,C⟩ ⟨K,G,m,J⟩;dsimp only at*;by_cases hlt:k<16
 ·repeat' (first|refine s_t ?_|refine q_k 3 ?_;refine zR ?_|refine q_k 5 ?_)
  refine zE (γ:=Nat) (λj=>[(1,.slice (some ⟨b,F,none⟩) 64 c),(2,.pointer (some ⟨q,0,none⟩)),(4,.pointer (some ⟨A,0,none⟩)),(5,.pointer (some ⟨E,0,none⟩)),(6,.int .i64 k),(7,.int .i64 j)])
   (λj=>[.blk E 312 ((C.set k (UInt32.ofNat (wp blk k j))).map vi),.blk A 275 (List.replicate 8 (.int .i64 0)),.blk q 275 (s.map vi)]) (λj=>j<=4) (λj=>4-j) 0 q_o ?_ ?_ ?_
  ·exact q_h
  ·(repeat' (first|exact F2|apply F9;with_reducible (focus ((repeat (first|exact F1|apply F3));done))|apply FC;(focus ((repeat (first|exact F1|apply F3));done))|apply FA;(focus ((repeat (first|exact F1|apply F3));done))|rfl))
   have:C.set k (UInt32.ofNat (wp blk k 0))=C:=zlZ (J k (A4 _)) q_o;rw[this]
  intro j hj;by_cases hlt4:j<4
  ·obtain⟨X,Y,Z⟩:=zvN blk k j hlt4;have O:=zke hB (i:=4*k+j) q_o 0;have W:((C.set k (UInt32.ofNat (wp blk k j))).map vi)[k]?=some (vi (UInt32.ofNat (wp blk k j))):=by rw[AY,List.getElem?_set_self q_o];rfl
   have hl:k<((C.set k (UInt32.ofNat (wp blk k j))).map vi).length:=by simp[G];omega
   repeat' (first|refine s_t ?_|refine q_k 6 ?_;refine zR ?_|refine z5 (id:=8) 14 [[],[],[1],[1,2],[1,2,3],[],[],[6],[],[6,7,8],[5,6,7,8,9],[5,6,7,8,9,10],[5,6,7,8,9,10,11],[1,2,3,4,5,6,7,8,9,10,11,12],[0,1,2,3,4,5,6,7,8,9,10,11,12,13],[0,1,2,3,4,5,6,7,8,9,10,11,12,13,14]] mixed ?_ ?_;kernel_rfl;refine zt ?_;refine zt ?_;refine zT ?_;refine q_D (zM rfl rfl (ty rfl) rfl F4 W) ?_;refine q_D (zas rfl rfl rfl X) ?_;refine zt ?_;refine zt ?_;refine q_D zas ?_;refine zt ?_;refine dc (by intro _ _;first|exact zA|exact op_addStr) (k:=?_);refine zT ?_;refine q_D (zn rfl rfl (ty rfl) rfl O (λh=>h)) ?_;refine q_D (zal rfl rfl (tyU rfl) (tyI rfl rfl) Y) ?_;refine q_D (zA rfl rfl rfl Z) ?_;refine zam ?_;refine zD ?_;refine zS ?_|refine q_k 7 ?_;refine zaI ?_;refine zb ?_)
   refine zy (j+1) ?_ ?_ ?_ ?_
   ·show j+1<=4;omega
   ·show 4-(j+1)<4-j;omega
   ·exact q_h
   ·(repeat' (first|exact F2|apply F9;with_reducible (focus ((repeat (first|exact F1|apply F3));done))|apply FC;(focus ((repeat (first|exact F1|apply F3));done))|apply FA;(focus ((repeat (first|exact F1|apply F3));done))|rfl))
    show((C.set k (UInt32.ofNat (wp blk k j))).map vi).set k (vi (UInt32.ofNat (wp blk k (j+1))))=_;rw[<-BS,List.set_set]
  ·obtain rfl:j=4:=q_o;repeat' (first|refine s_0 ?_|refine q_k 6 ?_;refine zR ?_|refine q_k 4 ?_;refine zaI ?_;refine zb ?_)
   refine zy (k+1,C.set k (UInt32.ofNat (wp blk k 4))) ?_ ?_ ?_ ?_
   ·refine⟨by omega,by simp[G],?_,?_⟩
    ·show List.take (k+1) _=zbJ blk (k+1);rw[zk8 _ _ hlt,<-zuA];exact za8 q_o m _
    ·intro i hi;have:=J i q_o;simp only[List.getD,List.getElem?_set] at this ⊢;rw[if_neg q_o];exact this
   ·show 16-(k+1)<16-k;omega
   ·exact q_h
   ·exact q_h
 obtain rfl:k=16:=q_o;clear J;repeat' (first|refine s_t ?_|refine q_k 9 ?_|(refine zW ?_;first|refine zR ?_|refine zaS ?_|fail)|refine zbU ?_)
 refine zE (γ:=Nat×List UInt32) (λg=>[(1,.slice (some ⟨b,F,none⟩) 64 c),(2,.pointer (some ⟨q,0,none⟩)),(4,.pointer (some ⟨A,0,none⟩)),(5,.pointer (some ⟨E,0,none⟩)),(8,.int .i64 g.1)])
  (λg=>[.blk E 312 (g.2.map vi),.blk A 275 (List.replicate 8 (.int .i64 0)),.blk q 275 (s.map vi)])
  (λg=>16<=g.1/\g.1<=64/\g.2.length=64/\g.2.take g.1=zbJ blk g.1) (λg=>64-g.1) (16,C) ⟨by omega,by omega,G,m⟩ ?_ ?_ ?_
 ·exact q_h
 ·exact q_h
 clear m G C hlt K;rintro⟨k,C⟩ ⟨L,K,G,m⟩;dsimp only at*;by_cases hlt:k<64
 ·have c2:=zc9 vi (l:=C) (i:=k-2) q_o 0;have c7:=zc9 vi (l:=C) (i:=k-7) q_o 0;have T:=zc9 vi (l:=C) (i:=k-15) q_o 0;have U:=zc9 vi (l:=C) (i:=k-16) q_o 0;repeat' (first|refine s_t ?_|refine q_k 10 ?_;refine zR ?_|refine z5 (id:=12) 9 [[],[0],[0,1],[0,1,2],[],[4],[4,5],[4,5,6],[0,1,2,3],[0,1,2,3,4,5,6,7,8]] mixed ?_ ?_;kernel_rfl;refine zt ?_;refine q_D (zH rfl rfl rfl (ziR k 15 q_o q_o)) ?_;refine zT ?_;refine zaT ?_;refine zt ?_;refine q_D (zH rfl rfl rfl (ziR k 2 q_o q_o)) ?_;refine zT ?_;refine zaT ?_;refine q_D zbM ?_;refine zam ?_;refine zB ?_|refine q_k 13 ?_;refine q_v (za (hc:=λ_ _ _ _=>(zcy _ 7 _ q_e q_e))) ?_;refine zb ?_;refine q_v (za (hc:=λ_ _ _ _=>(zcy _ 18 _ q_e q_e))) ?_;refine q_x (zdt rfl rfl rfl (zgn _ _)) ?_;refine q_v (zbp rfl rfl rfl (znQ _ _ 3 q_e)) ?_;refine q_x (zdt rfl rfl rfl (zgn _ _)) ?_|refine q_k 14 ?_;refine q_v (za (hc:=λ_ _ _ _=>(zcy _ 17 _ q_e q_e))) ?_;refine zb ?_;refine q_v (za (hc:=λ_ _ _ _=>(zcy _ 19 _ q_e q_e))) ?_;refine q_x (zdt rfl rfl rfl (zgn _ _)) ?_;refine q_v (zbp rfl rfl rfl (znQ _ _ 10 q_e)) ?_;refine q_x (zdt rfl rfl rfl (zgn _ _)) ?_|refine z5 (id:=15) 15 [[],[],[],[2],[2,3],[2,3,4],[1,2,3,4,5],[],[1,2,3,4,5,6,7],[],[9],[9,10],[9,10,11],[1,2,3,4,5,6,7,8,9,10,11,12],[1,2,3,4,5,6,7,8,9,10,11,12,13],[0,1,2,3,4,5,6,7,8,9,10,11,12,13,14],[0,1,2,3,4,5,6,7,8,9,10,11,12,13,14,15]] mixed ?_ ?_;kernel_rfl;refine zt ?_;refine zt ?_;refine zt ?_;refine q_D (zH rfl rfl rfl (ziR k 7 q_o q_o)) ?_;refine zT ?_;refine zaT ?_;refine q_D (zA rfl rfl rfl (ws2 _ _)) ?_;refine zt ?_;refine q_D (zA rfl rfl rfl (ws3 _ _ _)) ?_;refine zt ?_;refine q_D (zH rfl rfl rfl (ziR k 16 q_o q_o)) ?_;refine zT ?_;refine zaT ?_;refine q_D (zA rfl rfl rfl (ws4 _ _ _ _)) ?_;refine q_D (zaN rfl rfl rfl q_e (rs4 _ _ _ _)) ?_;refine zam ?_;refine zD ?_;refine zS ?_|refine q_k 11 ?_;refine zaI ?_;refine zb ?_)
  refine zy (k+1,C.set k (next (C.getD (k-2) 0) (C.getD (k-7) 0) (C.getD (k-15) 0) (C.getD (k-16) 0))) ?_ ?_ ?_ ?_
  ·refine⟨by omega,by omega,by simp[G],?_⟩;show List.take (k+1) _=zbJ blk (k+1);rw[zjY _ _ L,<-zc2 m q_o,<-zc2 m q_o,<-zc2 m q_o,<-zc2 m q_o];exact za8 q_o m _
  ·show 64-(k+1)<64-k;omega
  ·exact q_h
  ·(repeat' (first|exact F2|apply F9;with_reducible (focus ((repeat (first|exact F1|apply F3));done))|apply FC;(focus ((repeat (first|exact F1|apply F3));done))|apply FA;(focus ((repeat (first|exact F1|apply F3));done))|rfl))
   rw[BS];simp only[next,zt9];rfl
 obtain rfl:k=64:=q_o;have m:C=zbJ blk 64:=by rw[<-m,A6 q_o]
 repeat' (first|refine s_t ?_|refine zg 16 ?_;refine zk ?_;refine zi ?_;intro _;refine zS ?_|refine q_k 17 ?_|(refine zW ?_;first|refine zR ?_|refine zaS ?_|fail)|refine zbU ?_)
 rename_i B;refine zE (γ:=Nat) (λt=>[(1,.slice (some ⟨b,F,none⟩) 64 c),(2,.pointer (some ⟨q,0,none⟩)),(4,.pointer (some ⟨A,0,none⟩)),(5,.pointer (some ⟨E,0,none⟩)),(13,.pointer (some ⟨B,0,none⟩)),(14,.int .i64 t)])
  (λt=>[.blk B 275 ((zc3 s C t).list.map vi),.blk E 312 (C.map vi),.blk A 275 (List.replicate 8 (.int .i64 0)),.blk q 275 (s.map vi)])
  (λt=>t<=64) (λt=>64-t) 0 q_o ?_ ?_ ?_
 ·exact q_h
 ·(repeat' (first|exact F2|apply F9;with_reducible (focus ((repeat (first|exact F1|apply F3));done))|apply FC;(focus ((repeat (first|exact F1|apply F3));done))|apply FA;(focus ((repeat (first|exact F1|apply F3));done))|rfl))
  rw[zoq,zpE s H]
 intro t ht;by_cases hlt:t<64
 ·have V:=zke hK (i:=t) (by rw[zna];exact hlt) 0;have cw:=zc9 vi (l:=C) (i:=t) q_o 0;generalize M:zc3 s C t=v;repeat' (first|refine s_t ?_|refine q_k 18 ?_;refine zR ?_|refine z5 (id:=20) 10 [[],[0],[0,1],[],[3],[0,1,2,3,4],[0,1,2,3,4,5],[],[7],[0,1,2,3,4,5,7,8],[0,1,2,3,4,5,6,7,8,9],[0,1,2,3,4,5,6,7,8,9,10]] mixed ?_ ?_;kernel_rfl;refine zT ?_;refine zaT ?_;refine q_D (za (hc:=λ_ _ _ _=>(zcy _ 6 _ q_e q_e))) ?_;refine zT ?_;refine zaT ?_;refine q_D (za (hc:=λ_ _ _ _=>(zcy _ 11 _ q_e q_e))) ?_;refine q_D (zdt rfl rfl rfl (zgn _ _)) ?_;refine zT ?_;refine zaT ?_;refine q_D (za (hc:=λ_ _ _ _=>(zcy _ 25 _ q_e q_e))) ?_;refine zam ?_;refine q_v (zdt rfl rfl rfl (zgn _ _)) ?_;refine zB ?_|refine z5 (id:=21) 10 [[],[0],[0,1],[],[3],[0,1,2,3,4],[0,1,2,3,4,5],[],[7],[0,1,2,3,4,5,7,8],[0,1,2,3,4,5,6,7,8,9],[0,1,2,3,4,5,6,7,8,9,10]] mixed ?_ ?_;kernel_rfl;refine zT ?_;refine zaT ?_;refine q_D (za (hc:=λ_ _ _ _=>(zcy _ 2 _ q_e q_e))) ?_;refine zT ?_;refine zaT ?_;refine q_D (za (hc:=λ_ _ _ _=>(zcy _ 13 _ q_e q_e))) ?_;refine q_D (zdt rfl rfl rfl (zgn _ _)) ?_;refine zT ?_;refine zaT ?_;refine q_D (za (hc:=λ_ _ _ _=>(zcy _ 22 _ q_e q_e))) ?_;refine zam ?_;refine q_v (zdt rfl rfl rfl (zgn _ _)) ?_;refine zB ?_|refine z5 (id:=22) 20 [[],[0],[],[0,1,2],[],[4],[],[6],[],[8],[4,5,6,7,8,9],[0,1,2,3,4,5,6,7,8,9,10],[],[],[12,13],[12,13,14],[0,1,2,3,4,5,6,7,8,9,10,11,12,13,14,15],[],[17],[17,18],[0,1,2,3,4,5,6,7,8,9,10,11,12,13,14,15,16,17,18,19],[0,1,2,3,4,5,6,7,8,9,10,11,12,13,14,15,16,17,18,19,20]] mixed ?_ ?_;kernel_rfl;refine zT ?_;refine zaT ?_;refine zt ?_;refine q_D (zA rfl rfl rfl (ws2 _ _)) ?_;refine zT ?_;refine zaT ?_;refine zT ?_;refine zaT ?_;refine zT ?_;refine zaT ?_;refine q_D (za (hc:=λ_ _ _ _=>(zsu _ _ _ _))) ?_;refine q_D (zA rfl rfl rfl (ws3 _ _ _)) ?_;refine q_D (zn rfl rfl (ty rfl) rfl hG (λh=>h)) ?_;refine zt ?_;refine zT ?_;refine q_D (zn rfl rfl (ty rfl) rfl V (λh=>h)) ?_;refine q_D (zA rfl rfl rfl (ws4 _ _ _ _)) ?_;refine zt ?_;refine zT ?_;refine zaT ?_;refine zam ?_;refine q_v (zA rfl rfl rfl (ws5 _ _ _ _ _)) ?_;refine zB ?_|refine q_k 23 ?_;refine zD ?_;refine zk ?_;refine zD ?_;refine zk ?_;refine zD ?_;refine zk ?_;refine q_v (za (hc:=λ_ _ _ _=>(zr4 _ _ _ _))) ?_;refine q_x (zA rfl rfl rfl (ws2 _ _)) ?_|refine q_k 24 ?_;refine q_v (zA rfl rfl rfl (ws7 _ _ _ _ _ _ _)) ?_;refine q_v (zaN rfl rfl rfl q_e (rs7 _ _ _ _ _ _ _)) ?_;refine zD ?_;refine zk ?_;refine zD ?_;refine zk ?_;refine zD ?_;refine zk ?_;refine zD ?_;refine zk ?_;refine zb ?_;refine q_v (zA rfl rfl rfl (ws6 _ _ _ _ _ _)) ?_;refine q_v (zaN rfl rfl rfl q_e (rs6 _ _ _ _ _ _)) ?_;refine zD ?_;refine zk ?_;refine zD ?_;refine zk ?_;refine zD ?_;refine zk ?_;refine zbj ?_;refine zS ?_|refine q_k 19 ?_;refine zaI ?_;refine zb ?_)
  refine zy (t+1) ?_ ?_ ?_ ?_
  ·show t+1<=64;omega
  ·show 64-(t+1)<64-t;omega
  ·exact q_h
  ·(repeat' (first|exact F2|apply F9;with_reducible (focus ((repeat (first|exact F1|apply F3));done))|apply FC;(focus ((repeat (first|exact F1|apply F3));done))|apply FA;(focus ((repeat (first|exact F1|apply F3));done))|rfl))
   simp only[zc3,M,St.step,t1,t2,zt9,zw4,St.list];rfl
 obtain rfl:t=64:=q_o;generalize M:zc3 s C 64=v;have N:v.list.length=8:=rfl;repeat' (first|refine s_t ?_|refine q_k 25 ?_|(refine zW ?_;first|refine zR ?_|refine zaS ?_|fail)|refine zbU ?_)
 refine zE (γ:=Nat×List UInt32) (λg=>[(2,.pointer (some ⟨q,0,none⟩)),(4,.pointer (some ⟨A,0,none⟩)),(13,.pointer (some ⟨B,0,none⟩)),(19,.int .i64 g.1)])
  (λg=>[.blk B 275 (v.list.map vi),.blk A 275 (List.replicate 8 (.int .i64 0)),.blk q 275 (g.2.map vi)])
  (λg=>g.1<=8/\g.2.length=8/\g.2.take g.1=(List.zipWith (· + ·) s v.list).take g.1/\∀j,g.1<=j->g.2.getD j 0=s.getD j 0) (λg=>8-g.1) (0,s) ⟨by omega,H,rfl,λ_ _=>rfl⟩ ?_ ?_ ?_
 ·exact q_h
 ·exact q_h
 rintro⟨k,D⟩ ⟨K,P,I,Q⟩;dsimp only at*;by_cases hlt:k<8
 ·have ca:=zc9 vi (l:=D) (i:=k) q_o 0;have O:=zc9 vi (l:=v.list) (i:=k) q_o 0;generalize v.list=r at*;repeat' (first|refine s_t ?_|refine q_k 26 ?_;refine zR ?_|refine z5 (id:=28) 9 [[],[],[1],[1,2],[],[4],[4,5],[1,2,3,4,5,6],[1,2,3,4,5,6,7],[0,1,2,3,4,5,6,7,8],[0,1,2,3,4,5,6,7,8,9]] mixed ?_ ?_;kernel_rfl;refine zt ?_;refine zt ?_;refine zT ?_;refine zaT ?_;refine zt ?_;refine zT ?_;refine zaT ?_;refine q_D (zA rfl rfl rfl (ws2 _ _)) ?_;refine q_D (zaN rfl rfl rfl q_e (rs2 _ _)) ?_;refine zam ?_;refine zD ?_;refine zS ?_|refine q_k 27 ?_;refine zaI ?_;refine zb ?_)
  refine zy (k+1,D.set k (D.getD k 0+r.getD k 0)) ?_ ?_ ?_ ?_
  ·refine⟨by omega,by simp[P],?_,?_⟩
   ·show List.take (k+1) _=_;rw[Q k (A4 _)];exact zmh H hlt P I N
   ·intro j hj;have:=Q j q_o;simp only[List.getD,List.getElem?_set] at this ⊢;rw[if_neg q_o];exact this
  ·show 8-(k+1)<8-k;omega
  ·exact q_h
  ·(repeat' (first|exact F2|apply F9;with_reducible (focus ((repeat (first|exact F1|apply F3));done))|apply FC;(focus ((repeat (first|exact F1|apply F3));done))|apply FA;(focus ((repeat (first|exact F1|apply F3));done))|rfl))
   rw[BS];rfl
 obtain rfl:k=8:=q_o;repeat' (first|refine s_0 ?_|refine q_k 26 ?_;refine zR ?_|refine zg 29 ?_;refine zk ?_;refine zS ?_)
 rw[A6 q_o,A6 (by rw[DO,H];omega)] at I;subst I;refine zaw rfl (zz rfl (ty rfl) rfl F4 F0 (by first|rfl|simp only[A0,AI,AK,A2];omega|(simp only[A0];first|assumption|omega)|simp;omega|fail)) F2 ⟨?_,rfl⟩;rw[<-M,m];rfl
end Go.Proofs.YtdnlngbjpdbffaaGreatDoor
namespace Go.Sh
open Go.Wd Go.RowKit
def zbC(n:Nat):Nat:=(119-n%64)%64
def zcd(b:List UInt8):List UInt8:=b++128::(List.replicate (zbC b.length) 0++be8 (8*b.length))
theorem zs8(n z:Nat)(hz:z<=zbC n):(n+1+z)%64≠56↔z<zbC n:=by
 unfold zbC at*;omega
theorem zhD(b:List UInt8):(zcd b).length=b.length+9+zbC b.length:=by simp[zcd,zfT];omega
theorem zhJ:∀(n:Nat) (b c:List UInt8),64*n<=b.length->whole n (b++c)=whole n b
 |0,_,_,_=>rfl
 |n+1,b,c,h=>by
  simp only[whole];rw[By q_o,Dx q_o,zhJ n _ c (by rw[B5];omega)]
theorem zlq:∀(n m:Nat) (b:List UInt8),whole (n+m) b=whole n b++whole m (b.drop (64*n))
 |0,m,b=>by simp[whole]
 |n+1,m,b=>by
  rw[show n+1+m=(n+m)+1 from by omega];simp only[whole,An];rw[zlq n m,DD];congr 4;omega
theorem zl2(b:List UInt8):zaL b b.length=whole ((zcd b).length/64) (zcd b):=by
 have q:(b.drop (64*(b.length/64))).length=b.length%64:=by rw[B5];omega
 have r:=znB (b.drop (64*(b.length/64))) b.length q_o;have m:zcd b=b.take (64*(b.length/64))++tail (b.drop (64*(b.length/64))) b.length:=by
  unfold zcd tail;have:zbC b.length=(if b.length%64+9>64 then 128 else 64)-b.length%64-9:=by unfold zbC;split <;> omega
  rw[q,<-this];simp only[AL,An];rw[<-AL (List.take _ _) (List.drop _ _),B7]
 have A:=zhD b;rw[q] at r;have C:zbC b.length=(119-b.length%64)%64:=rfl;have B:(zcd b).length/64=b.length/64+(tail (b.drop (64*(b.length/64))) b.length).length/64:=by
  rw[r,A,C];split <;> omega
 rw[B,zlq];have t:whole (b.length/64) b=whole (b.length/64) (zcd b):=by
  have j:whole (b.length/64) (b.take (64*(b.length/64))++b.drop (64*(b.length/64)))=whole (b.length/64) (b.take (64*(b.length/64))):=zhJ _ _ _ (by rw[AU];omega);rw[B7] at j;rw[j,m,zhJ _ _ _ (by rw[AU];omega)]
 have w:(zcd b).drop (64*(b.length/64))=tail (b.drop (64*(b.length/64))) b.length:=by
  rw[m];exact E3 (by rw[AU];omega)
 rw[<-t,w];rfl
theorem ztd(n i:Nat)(hn:n<1000000000000000)(j:i<8):Op.shift .shr .i64 (8*(n:Int)) .i64 (8*(i:Int))=pure (.int .i64 (((8*n)/256^i:Nat):Int))/\
  (((8*n)/256^i:Nat):Int).tmod 256=(((8*n)/256^i%256:Nat):Int)/\IntKind.u8.wrap (((8*n)/256^i%256:Nat):Int)=n8 (UInt8.ofNat ((8*n)/256^i)):=by
 refine⟨?_,?_,?_⟩
 ·rw[show(8*(i:Int))=((8*i:Nat):Int) from (BW 8 i).symm,ztI _ _ (8*i) q_o,B8 2 8 i |> λh=>show((2:Int)^(8*i))=((256^i:Nat):Int) by rw[show(256:Nat)=2^8 from rfl,<-h,CE];rfl];rw[show(8*(n:Int))=((8*n:Nat):Int) from (BW 8 n).symm,<-DG]
 ·rw[Bu (BV _)];rfl
 ·rw[wrap_u8_nat,n8_of_nat,EM]
theorem zxe:Value.int .u8 0=Go.Sy.v8 0:=rfl
theorem zvL:Value.int .u8 128=Go.Sy.v8 128:=rfl
theorem zr9(n j:Nat)(hj:j<8):(be8 n).take (j+1)=(be8 n).take j++[UInt8.ofNat (n/256^(7-j))]:=by
 have m:j<(be8 n).length:=by rw[zfT];exact hj
 rw[Aj m];congr 2;simp[be8]
end Go.Sh
namespace Go.Proofs.YtdnlngbjpdbffaaGreatDoor
open Go Go.Sy Go.Wd Go.Sh
attribute [local irreducible] Sy SyL SyX Sy.Fn callFunc n8 n32
theorem zpJ(a0:Option Addr)(n c:Nat)(l:List UInt8)(w:World)(hn:l.length=n)(hb:n<1000000000000)(U:SlA w a0 (l.map Sy.v8))(hc:a0=none->c=0):
  Sy.Fn Tryz.prog 275 [.slice a0 n c] w No (λv R=>∃a k,v= .slice a (zcd l).length k/\R= [.row v 5 1 (zcd l).length ((zcd l).map Sy.v8)]):=by
 refine zo Tryz.func275 Tryz.ntmps275 ?_;repeat' (first|refine s_t ?_|refine q_k 0 ?_|refine zg 1 ?_;(refine q_s zg6 ?_;rintro _ _ ⟨_,rfl,rfl⟩);refine zb ?_;(refine q_s zbH ?_;rintro _ _ ⟨rfl,_,_,rfl⟩);(refine q_s zw ?_;rintro _ _ ⟨_,rfl,rfl⟩);(refine q_s zak ?_;rintro _ _ ⟨rfl,_,_,rfl⟩);refine zb ?_)
 rename_i O N Q P a1 E;refine zE (γ:=Nat×Option Addr×Nat) (λg=>[(0,.slice a0 n c),(2,.slice none 0 0),(3,.slice g.2.1 (n+1+g.1) g.2.2)])
  (λg=>[.row (.slice g.2.1 (n+1+g.1) g.2.2) 5 1 (n+1+g.1) ((l++128::List.replicate g.1 0).map Sy.v8)])
  (λg=>g.1<=zbC n) (λg=>zbC n-g.1) (0,a1,E) (AE _) ?_ ?_ ?_
 ·exact q_h
 ·(repeat' (first|exact F2|apply F9;with_reducible (focus ((repeat (first|exact F1|apply F3));done))|apply FC;(focus ((repeat (first|exact F1|apply F3));done))|apply FA;(focus ((repeat (first|exact F1|apply F3));done))|rfl))
  simp[zvL]
 rintro⟨z,a2,F⟩ J;dsimp only at*;have m:=zs8 n z J;have A:zbC n<64:=by unfold zbC;omega
 by_cases hlt:z<zbC n
 ·have q:=m.2 hlt;repeat' (first|refine s_t ?_|refine q_k 2 ?_;refine q_v zaN ?_;refine zat ?_|refine q_k 3 ?_;(refine q_s zw ?_;rintro _ _ ⟨_,rfl,rfl⟩);(refine q_s zak ?_;rintro _ _ ⟨rfl,_,_,rfl⟩);refine zb ?_)
  rename_i B a3 t;refine zy (z+1,a3,t) ?_ ?_ ?_ ?_
  ·show z+1<=zbC n;omega
  ·show zbC n-(z+1)<zbC n-z;omega
  ·exact q_h
  ·(repeat' (first|exact F2|apply F9;with_reducible (focus ((repeat (first|exact F1|apply F3));done))|apply FC;(focus ((repeat (first|exact F1|apply F3));done))|apply FA;(focus ((repeat (first|exact F1|apply F3));done))|rfl))
   simp[Dw,zxe];omega
 obtain rfl:z=zbC n:=q_o;have q:¬(n+1+zbC n)%64≠56:=λh=>hlt (m.1 h);repeat' (first|refine s_t ?_|refine q_k 2 ?_;refine q_v zaN ?_;refine zat ?_|refine q_k 4 ?_;refine q_x zas ?_|refine q_k 5 ?_)
 refine zE (γ:=Nat×Option Addr×Nat) (λg=>[(0,.slice a0 n c),(2,.slice none 0 0),(3,.slice g.2.1 (n+1+zbC n+g.1) g.2.2),(4,.int .i64 (8*(n:Int))),(5,.int .i64 (7-(g.1:Int)))])
  (λg=>[.row (.slice g.2.1 (n+1+zbC n+g.1) g.2.2) 5 1 (n+1+zbC n+g.1) ((l++128::(List.replicate (zbC n) 0++(be8 (8*n)).take g.1)).map Sy.v8)])
  (λg=>g.1<=8) (λg=>8-g.1) (0,a2,F) (AE _) ?_ ?_ ?_
 ·exact q_h
 ·(repeat' (first|exact F2|apply F9;with_reducible (focus ((repeat (first|exact F1|apply F3));done))|apply FC;(focus ((repeat (first|exact F1|apply F3));done))|apply FA;(focus ((repeat (first|exact F1|apply F3));done))|rfl))
  simp
 rintro⟨j,a3,t⟩ T;dsimp only at*;by_cases hlt8:j<8
 ·obtain⟨i,S⟩:∃i,i+j=7:=⟨7-j,by omega⟩;have H:7-(j:Int)=(i:Int):=q_o;rw[H];obtain⟨K,L,M⟩:=ztd n i q_o q_o;repeat' (first|refine s_t ?_|refine q_k 6 ?_;refine q_v zP ?_|refine q_k 8 ?_;refine q_v zas ?_;refine q_v (zbp (hr:=K)) ?_;refine q_v (zaN (hr:=L)) ?_;refine q_v (zal (hr:=M)) ?_;(refine q_s zw ?_;rintro _ _ ⟨_,rfl,rfl⟩);(refine q_s zak ?_;rintro _ _ ⟨rfl,_,_,rfl⟩);refine zb ?_|refine q_k 7 ?_;refine q_x zH ?_)
  rename_i C a4 G;refine zy (j+1,a4,G) ?_ ?_ ?_ ?_
  ·show j+1<=8;omega
  ·show 8-(j+1)<8-j;omega
  ·(repeat' (first|exact FQ|refine FX rfl ?_ ?_|rfl))
   rw[show(i:Int)-1=7-((j+1:Nat):Int) from by omega]
  ·(repeat' (first|exact F2|apply F9;with_reducible (focus ((repeat (first|exact F1|apply F3));done))|apply FC;(focus ((repeat (first|exact F1|apply F3));done))|apply FA;(focus ((repeat (first|exact F1|apply F3));done))|rfl))
   rw[zr9 _ _ hlt8,show 7-j=i from by omega];simp;exact⟨by omega,rfl⟩
 obtain rfl:j=8:=q_o;repeat' (first|refine s_0 ?_|refine q_k 6 ?_;refine q_v zP ?_|refine q_k 9 ?_)
 have I:(zcd l).length=n+1+zbC n+8:=by rw[zhD,hn];omega
 have r:l++128::(List.replicate (zbC n) 0++(be8 (8*n)).take 8)=zcd l:=by
  rw[A6 (by rw[zfT];omega)];unfold zcd;rw[hn]
 rw[r,<-I];exact q_r
end Go.Proofs.YtdnlngbjpdbffaaGreatDoor
