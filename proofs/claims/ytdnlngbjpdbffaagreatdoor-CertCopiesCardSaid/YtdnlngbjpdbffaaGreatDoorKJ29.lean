/- Lemmas of this proof. -/
import Derived.Test.YtdnlngbjpdbffaaGreatDoorKJ28
import Derived.Test.YtdnlngbjpdbffaaGreatDoorKJ27
import Derived.ScopeJumps
set_option maxHeartbeats 1000000
set_option maxRecDepth 10000
set_option linter.all false
namespace Go.Sh
open Go.Wd Go.RowKit
theorem ziZ(s:List UInt32):(ser s).length=4*s.length:=by
 induction s with
 |nil=>rfl
 |cons x s ih=>simp only[ser,Dg,A2] at*;rw[ih];simp[be4];omega
theorem zpf:∀(s:List UInt32) (i:Nat),i<4*s.length->(ser s)[i]?=some ((s.getD (i/4) 0 >>> UInt32.ofNat (24-8*(i%4))).toUInt8)
 | [],i,h=>by simp at h
 |x::s,i,h=>by
  have e:ser (x::s)=be4 x++ser s:=by simp[ser]
  rw[e];by_cases h4:i<4
  ·rw[Aq (by simp[be4];omega)];have:i=0\/i=1\/i=2\/i=3:=q_o;rcases this with rfl|rfl|rfl|rfl <;> rfl
  ·rw[BA (by simp[be4];omega)];have j:(be4 x).length=4:=rfl;rw[j,zpf s (i-4) (by simp at h;omega)];rw[show i/4=(i-4)/4+1 from by omega,show i%4=(i-4)%4 from by omega];rfl
theorem zlX{α:Type}{C L:List α}{k:Nat}{v:α}(h:k<C.length)(hL:C.take k=L.take k)(hv:L[k]?=some v):(C.set k v).take (k+1)=L.take (k+1):=by
 obtain⟨m,j⟩:=AQ.1 hv;rw[za8 h hL v,Aj m,j]
def zeb(b:List UInt8)(q:Nat):List UInt8:=(b.drop (64*q)).take 64
theorem zkp(n q:Nat)(b:List UInt8)(h:q<n):(whole n b).take (q+1)=(whole n b).take q++[zeb b q]:=by
 have:=ziy n q b h;obtain⟨m,j⟩:=AQ.1 this;rw[Aj m,j];rfl
theorem fold_snoc(s:List UInt32)(l:List (List UInt8))(x:List UInt8):zc5 s (l++[x])=zbr (zc5 s l) x:=by simp[zc5]
theorem zeJ:∀(l:List (List UInt8)) (s:List UInt32),s.length=8->(zc5 s l).length=8
 | [],s,h=>h
 |x::l,s,h=>zeJ l _ (zc0 s x h)
theorem zte(x:UInt32)(m:Nat):(n32 (x >>> UInt32.ofNat m)).tmod 256=n32 (x >>> UInt32.ofNat m)%256/\IntKind.u8.wrap (n32 (x >>> UInt32.ofNat m)%256)=n8 ((x >>> UInt32.ofNat m).toUInt8):=by
 refine⟨Bu (zQ _),?_⟩;rw[<-zdz,IntKind.wrap_u8,IntKind.wrap_u8,Int.emod_emod_of_dvd _ (Int.dvd_refl _)]
end Go.Sh
namespace Go.Proofs.YtdnlngbjpdbffaaGreatDoor
section
open Go Go.Sy Go.Wd Go.Sh
attribute [local irreducible] Sy SyL SyX Sy.Fn callFunc
theorem zsd(a0:Option Addr)(n c T U kc:Nat)(l:List UInt8)(w:World)(hn:l.length=n)(hb:n<1000000000000)(hl:SlA w a0 (l.map Sy.v8))(hc:a0=none->c=0)
  (hG:w.cell? ⟨5,0,none⟩=some (.slice (some ⟨T,U,none⟩) 64 kc))(hK:w.rangeAt T U (kC.map vi)):
  q_G 224 [.slice a0 n c] w (.agg ((sum l).map Sy.v8).toArray):=by
 refine zo Tryz.func224 Tryz.ntmps224 ?_;repeat' (first|refine s_0 ?_|refine zg 0 ?_;refine zi ?_;intro _|refine zg 1 ?_;refine zbj ?_;refine zi ?_;intro _;refine zS ?_|refine q_k 2 ?_)
 rename_i G H;refine q_s (zh (hc:=λI X A Z=>zpJ a0 n c l I hn hb (hl.keep A (λ_ _ h=>h)) hc)) ?_;rintro _ _ ⟨R,rfl,a,Y,rfl,rfl⟩;repeat' (first|refine s_t ?_|refine q_k 3 ?_|(refine zW ?_;first|refine zB ?_|fail)|fail)
 have b0:=zhD l;have hz:zbC l.length=(119-l.length%64)%64:=rfl;generalize hp:zcd l=p at*;generalize hm:p.length=m at*;refine ziQ (by exact F1) q_o ?_;rintro b J rfl h1 h2 h3 h4;obtain⟨r,b1⟩:∃r,m=64*r:=⟨m/64,by omega⟩;refine zE (γ:=Nat) (λq=>[(2,.pointer (some ⟨G,0,none⟩)),(3,.pointer (some ⟨H,0,none⟩)),(4,.slice (some ⟨b,0,none⟩) m Y),(5,.int .i64 ((64*q:Nat):Int))])
  (λq=>[.blk b 5 (p.map Sy.v8++J),.blk H 275 ((zc5 h0 ((whole r p).take q)).map vi),.blk G 199 (List.replicate 32 (.int .u8 0))])
  (λq=>q<=r) (λq=>r-q) 0 (AE _) ?_ ?_ ?_
 ·exact q_h
 ·exact q_h
 intro q hq;by_cases hlt:q<r
 ·generalize B:zc5 h0 ((whole r p).take q)=s;have t:s.length=8:=by rw[<-B];exact zeJ _ _ rfl
  have S:(zeb p q).length=64:=by unfold zeb;rw[AU,B5];omega
  have a7:=zc0 s (zeb p q) t;have E:Seg (p.map Sy.v8++J) (64*q) ((zeb p q).map Sy.v8):=by
   refine FG ?_;unfold zeb;rw[A0,AU,B5,BO q_o,Dx (by simp;omega),By (by simp;omega)];rw[<-Cm,<-CN]
  have a9:zb4 (some ⟨b,0,none⟩) (64*q) Y 1=some ⟨b,64*q,none⟩:=by rw[zg7 q_o];simp
  repeat' (first|refine s_t ?_|refine q_k 4 ?_;refine zR ?_|refine z5 (id:=6) 6 [[],[],[],[],[3],[1,2,3,4],[0,1,2,3,4,5],[0,1,2,3,4,5,6]] mixed ?_ ?_;kernel_rfl;refine zaT ?_;refine zt ?_;refine zt ?_;refine zt ?_;refine dc (by intro _ _;first|exact zA|exact op_addStr) (k:=?_);refine dc (by intro _ _;first|exact zbN|exact zcZ|exact zff) (k:=?_);refine zam ?_;refine q_v (za (hc:=λI X A Z=>zrg b (64*q) _ T U kc s (zeb p q) I t S (Fb (by exact F6) E I X A Z) (A.cell hG (λh=>h)) (λj v hj=>A.cell (hK j v hj) (λh=>h)))) ?_;refine zS ?_|refine q_k 5 ?_;refine zaI ?_;refine zb ?_)
  refine zy (q+1) ?_ ?_ ?_ ?_
  ·show q+1<=r;omega
  ·show r-(q+1)<r-q;omega
  ·exact q_h
  ·(repeat' (first|exact F2|apply F9;with_reducible (focus ((repeat (first|exact F1|apply F3));done))|apply FC;(focus ((repeat (first|exact F1|apply F3));done))|apply FA;(focus ((repeat (first|exact F1|apply F3));done))|rfl))
   rw[zkp _ _ _ hlt,fold_snoc,B]
 obtain rfl:q=r:=q_o;have hw:zc5 h0 ((whole q p).take q)=zc5 h0 (zaL l l.length):=by
  rw[A6 (by rw[zfC];omega),zl2,hp,hm];congr 2;omega
 rw[hw];generalize B:zc5 h0 (zaL l l.length)=s;have t:s.length=8:=by rw[<-B];exact zeJ _ _ rfl
 have a6:(ser s).length=32:=by rw[ziZ,t]
 repeat' (first|refine s_t ?_|refine q_k 4 ?_;refine zR ?_|refine zg 7 ?_;refine zi ?_;intro _|refine q_k 8 ?_)
 rename_i V;refine zE (γ:=Nat×List UInt8) (λg=>[(2,.pointer (some ⟨G,0,none⟩)),(3,.pointer (some ⟨H,0,none⟩)),(6,.pointer (some ⟨V,0,none⟩)),(7,.int .i64 g.1)])
  (λg=>[.blk V 199 (g.2.map Sy.v8),.blk H 275 (s.map vi),.blk G 199 (List.replicate 32 (.int .u8 0))])
  (λg=>g.1<=32/\g.2.length=32/\g.2.take g.1=(ser s).take g.1) (λg=>32-g.1) (0,List.replicate 32 0) ⟨by omega,by simp,rfl⟩ ?_ ?_ ?_
 ·exact q_h
 ·exact q_h
 rintro⟨i,C⟩ ⟨hi,hC,O⟩;dsimp only at*;by_cases hlt:i<32
 ·have cw:=zc9 vi (l:=s) (i:=i/4) q_o 0;have W:=zpf s i q_o;generalize hx:s.getD (i/4) 0=x at*;obtain⟨m,a8⟩:∃m,m+8*(i%4)=24:=⟨24-8*(i%4),by omega⟩;have K:IntKind.i64.wrap (24-8*((i%4:Nat):Int))=(m:Int):=by rw[zcJ _ q_o q_o];omega
  rw[show 24-8*(i%4)=m from by omega] at W;obtain⟨q1,q2⟩:=zte x m;repeat' (first|refine s_t ?_|refine q_k 9 ?_;refine zR ?_|refine q_k 11 ?_;refine q_v zbb ?_;refine zD ?_;refine zk ?_;refine zb ?_;refine q_v zaN ?_;refine q_v zas ?_;refine q_v (zH (hr:=K)) ?_;refine q_v (zbp (hr:=znQ _ _ m q_o)) ?_;refine q_v (zaN (hr:=q1)) ?_;refine q_v (zal (hr:=q2)) ?_;refine zD ?_;refine zS ?_|refine q_k 10 ?_;refine zaI ?_;refine zb ?_)
  refine zy (i+1,C.set i ((x >>> UInt32.ofNat m).toUInt8)) ?_ ?_ ?_ ?_
  ·exact⟨by omega,by simp[hC],zlX q_o O W⟩
  ·show 32-(i+1)<32-i;omega
  ·exact q_h
  ·(repeat' (first|exact F2|apply F9;with_reducible (focus ((repeat (first|exact F1|apply F3));done))|apply FC;(focus ((repeat (first|exact F1|apply F3));done))|apply FA;(focus ((repeat (first|exact F1|apply F3));done))|rfl))
   rw[BS];rfl
 obtain rfl:i=32:=q_o;rw[A6 q_o,A6 q_o] at O;repeat' (first|refine s_0 ?_|refine q_k 9 ?_;refine zR ?_|refine zg 12 ?_;refine zk ?_;refine zS ?_)
 refine zaw rfl (zz rfl (ty rfl) rfl F4 F0 (by first|rfl|simp only[A0,AI,AK,A2];omega|(simp only[A0];first|assumption|omega)|simp;omega|fail)) F2 ⟨?_,rfl⟩;rw[O,<-B];rfl
end
section
open Go Go.Sy Go.Sh Go.RowKit
attribute [local irreducible] Sy SyL SyX Sy.Fn callFunc
structure Tab(w:World)(M:Nat->Prop):Prop where
 start:w.rangeAt 1 0 (h0.map Sy.v32)
 konst:w.rangeAt 3 0 (kC.map Sy.v32)
 ns:¬M 1
 nk:¬M 3
theorem Tab.to{w0 w:World}{M Mi:Nat->Prop}(h:Tab w0 M)(hk:Keep M w0 w)(hm:∀b,Mi b->w0.heap.size<=b\/M b):Tab w Mi:=by
 obtain⟨a1,a2⟩:=zdy h.start q_e h.ns hk hm;obtain⟨a3,a4⟩:=zdy h.konst q_e h.nk hk hm;exact⟨a1,a3,a2,a4⟩
theorem Tab.no{w0 w:World}{M:Nat->Prop}(h:Tab w0 M)(hk:Keep M w0 w):Tab w No:=h.to hk (λ_ h=>h.elim)
theorem ztD(S T o b q:Nat)(C:List Value)(s:List UInt32)(blk:List UInt8)(w:World)(I:s.length=8)(hb:blk.length=64)(hC:(Res.blk S T C).holds w)(m:Seg C o (s.map Sy.v32))(H:o+8<=C.length)
  (K:w.rangeAt b q (blk.map Sy.v8))(O:w.rangeAt 3 0 (kC.map Sy.v32)):
  Sy.Fn Tryz.prog 247 [.pointer (some ⟨S,o,none⟩),.slice (some ⟨b,q,none⟩) 64 64] w (λx=>x=S) (λv R=>v= .tuple #[]/\R= [.blk S T (zaz C o ((zbr s blk).map Sy.v32))]):=by
 have h:=zvt S o b q s blk w I hb (zp hC m) (zie hC H) K O;unfold Sy.Fn;refine Calls.mono h ?_;rintro e U ⟨rfl,J⟩;have G:(w.setCells S o ((zbr s blk).map Sy.v32)).heap.size=w.heap.size:=Go.Wd.size_setCells S _ o w;have A:=Sy.Keep.setCells S ((zbr s blk).map Sy.v32) o w;have B:Sy.Keep (λx=>x=S) (w.setCells S o ((zbr s blk).map Sy.v32)) U:=Sy.Keep.of_below (by rw[G];exact J);have t:=zex ((zbr s blk).map Sy.v32) C o w hC (by rw[A0,zc0 _ _ I];exact H);refine⟨_,_,rfl,⟨rfl,rfl⟩,A.trans B (λx j=> .inr j),⟨?_,Bh _ _,?_⟩⟩
 ·intro r E;obtain rfl:=AF.1 E;refine GZ t λx j=>?_;have j:S=x:=j;subst j;exact J.block _ (FN hC rfl)
 ·intro r E x j;obtain rfl:=AF.1 E;exact .inr (E7 j)
theorem zuw(S T b m:Nat)(s:List UInt32)(blk:List UInt8)(w:World)(j:s.length=8)(hb:blk.length=64)(hC:(Res.blk S T (s.map Sy.v32)).holds w)
  (q:w.rangeAt b m (blk.map Sy.v8))(r:w.rangeAt 3 0 (kC.map Sy.v32)):
  Sy.Fn Tryz.prog 247 [.pointer (some ⟨S,0,none⟩),.slice (some ⟨b,m,none⟩) 64 64] w (λx=>x=S) (λv R=>v= .tuple #[]/\R= [.blk S T ((zbr s blk).map Sy.v32)]):=by
 have h:=ztD S T 0 b m _ s blk w j hb hC F0 (by simp[j]) q r;rw[zhI (by simp[j,zc0 s blk j])] at h;exact h
theorem zkI(s:List UInt32)(bs:List (List UInt8))(k:Nat)(h:k<bs.length):zc5 s (bs.take (k+1))=zbr (zc5 s (bs.take k)) bs[k]:=by
 rw[Aj h,Sh.fold_snoc]
theorem zsa(a0:Option Addr)(n c:Nat)(l:List UInt8)(w:World)(hn:l.length=n)(hc:n<=c)(hb:n<1000000000000)(S:SlA w a0 (l.map Sy.v8))(V:Tab w No):
  q_G 185 [.slice a0 n c] w (.agg ((sum l).map Sy.v8).toArray):=by
 refine zo Tryz.func185 Tryz.ntmps185 ?_;have E:=V.start;repeat' (first|refine s_0 ?_|refine zg 0 ?_;refine zi ?_;intro _|refine zg 1 ?_;refine zk ?_;refine zi ?_;intro _;refine zS ?_|refine q_k 2 ?_)
 rename_i bo bs;refine q_s (zh (hc:=λm X j Y=>zrT _ _ m rfl)) ?_;rintro _ _ ⟨R,rfl,T,U,rfl,rfl⟩;repeat' (first|refine s_t ?_|fail)
 refine zf8 (γ:=Nat) (xs:=zaL l n) (Arg:=zqe) zcM rfl (en rfl) rfl (λk s=>s=k) (λ_ _ _=>False) (λk=>[.blk bs 249 ((zc5 h0 ((zaL l n).take k)).map Sy.v32)])
  [.blk T 23 [.slice a0 n c],.blk U 3 [.int .i64 n]] [.blk bo 199 (List.replicate 32 (.int .u8 0))] 0 rfl ?_ ?_ ?_ ?_ ?_ ?_
 ·exact(BU (l₁:=[_,_]) (l₂:=[_])).append_right _
 ·exact λm Mi X j hm _ _=>zpF T U a0 n c n l m Mi hn hc q_o (S.to j hm)
 ·rintro O x vs RA m ⟨b,o,rfl,_⟩;rfl
 ·rintro lp k j s vs RA W rec Z rfl ⟨b,o,rfl,rfl,K,J⟩ I q;have G:=V.to I q;have A:(zc5 h0 ((zaL l n).take s)).length=8:=zeJ _ _ rfl;have t:(zaL l n)[s].length=64:=zpr _ _ _ (Ah j);have H:=zkI h0 (zaL l n) s j;generalize (zaL l n)[s]=x,zc5 h0 ((zaL l n).take s)=C at*;have a7:=zc0 C x A;repeat' (first|refine s_t ?_|apply zbT;(focus ((repeat (first|exact F1|apply F3));done));assumption|refine q_k 3 ?_|refine q_k 4 ?_;refine q_v (zmp (hc:=λm X j Y=>zuw bs 249 b o C x m A t (Y.has (F5 (FB F6))) (za5 K j J) (G.no j).konst)) ?_)
  refine zfR (s+1) rfl ?_
  (repeat' (first|exact F2|apply F9;with_reducible (focus ((repeat (first|exact F1|apply F3));done))|apply FC;(focus ((repeat (first|exact F1|apply F3));done))|apply FA;(focus ((repeat (first|exact F1|apply F3));done))|rfl))
  rw[H]
 ·rintro s rfl;rw[CZ];have r:(zc5 h0 (zaL l n)).length=8:=zeJ _ _ rfl;have B:ser (zc5 h0 (zaL l n))=sum l:=by subst hn;rfl
  generalize zc5 h0 (zaL l n)=C at*;have a6:(ser C).length=32:=by rw[ziZ,r]
  repeat' (first|refine s_0 ?_|refine zg 5 ?_;refine zk ?_;refine q_v (za (hc:=λm _ _ _=>zqR C m r)) ?_;refine zS ?_)
  exact zaw rfl (zz rfl (ty rfl) rfl F4 F0 (by first|rfl|simp only[A0,AI,AK,A2];omega|(simp only[A0];first|assumption|omega)|simp;omega|fail)) F2 ⟨by rw[B],rfl⟩
 ·exact λ_ _ _ _ h=>h.elim
structure RTab(w:World)(M:Nat->Prop)(kb ko kc:Nat):Prop where
 cell:w.cell? ⟨5,0,none⟩=some (.slice (some ⟨kb,ko,none⟩) 64 kc)
 row:w.rangeAt kb ko (kC.map Wd.vi)
 nc:¬M 5
 nr:¬M kb
theorem RTab.to{w0 w:World}{M Mi:Nat->Prop}{m r q:Nat}(h:RTab w0 M m r q)(hk:Keep M w0 w)(hm:∀b,Mi b->w0.heap.size<=b\/M b):RTab w Mi m r q:=by
 obtain⟨a1,a2⟩:=zdy h.row q_e h.nr hk hm;have j:=World.block_lt_of_cell? w0 _ h.cell;exact⟨hk.cell h.cell h.nc,a1,λt=>(hm _ t).elim (λA=>by dsimp only at j;omega) h.nc,a2⟩
theorem RTab.no{w0 w:World}{M:Nat->Prop}{j q m:Nat}(h:RTab w0 M j q m)(hk:Keep M w0 w):RTab w No j q m:=h.to hk (λ_ h=>h.elim)
theorem zoS(l:List UInt8):(Sh.sum l).length=32:=by
 unfold Sh.sum;rw[ziZ,zeJ _ _ rfl]
end
open Go Go.Sy Go.Nt Go.RowKit
attribute [local irreducible] Sy SyL SyX Sy.Fn callFunc zf z8 zG iC gP gQ gL zap zab zaF zaK gel zaJ zaZ Sh.sum
def zbm(i:Nat)(y:List UInt8)(r:Nat)(m:List UInt8):List UInt8:=UInt8.ofNat i::(y++(zaF (gL i) r++m))
theorem zoD(i:Nat)(y:List UInt8)(r:Nat)(m:List UInt8):zaZ i y r m=bev 256 (bn (Sh.sum (zbm i y r m)))%gQ i:=by unfold zaZ zbm;rfl
theorem zm3{i:Nat}(h0:1<=i)(j:i<=4)(l:List UInt8):zaJ (i:Int) l=(bev 256 (bn l)%gQ i,0):=by
 unfold zaJ;rw[if_pos ⟨by omega,by omega⟩,B6]
theorem znJ{A J:List Value} :Seg (A++J) 0 A:=λj v m=>by
 rw[AR,Aq (AQ.1 m).1];exact m
theorem znz{j:Nat}{w:World}{M:Nat->Prop}{E n c:Nat}{a:Option Addr}{l:List UInt8}{L:List Res}(hh:Holds j M L w)(m:l.length=n)(hL:Has L (.row (.slice a n c) E 1 n (l.map v8))):(⟨a,n,c,l⟩:Bs).ok w:=
 ⟨m,FR hh hL,zI hh hL,λh=>(Fv hh hL h).1⟩
theorem zis(i:Nat)(S K:Option Addr)(C pc A O r:Nat)(pl ml:List UInt8)(w:World)(h0:1<=i)(U:i<=4)(hG:GT w)(hT:Tab w No)(hp:(⟨S,C,pc,pl⟩:Bs).ok w)(hm:(⟨K,A,O,ml⟩:Bs).ok w)(b9:C<=1000)(b7:A<=100000)(hr:zap (gP i) (gQ i) r=true):
  q_G 102 [.int .i64 (i:Int),.slice S C pc,zm r,.slice K A O] w (zm (zaZ i pl r ml)):=by
 refine zo Tryz.func102 Tryz.ntmps102 ?_;have b1:=AS (zbE hr) (zbw i h0 U);have b5:=zd r;have hu:=zoC i U;have V:=λj (t:Keep No w j)=>zlw i r j h0 U (hG.to t) b1 hr;unfold ziG at V
 have Y:=zbZ (gL i) r (zfN h0 U (zbE hr));have b3:gL i<=96:=by have:=zdp (z:=(i:Int)) ⟨by omega,by omega⟩;rwa[B6] at this
 have hd:=λa n c j=>znb a n c 0 j;have W:zbm i pl r ml=Bs.cat [⟨none,1,1,[UInt8.ofNat i]⟩,⟨S,C,pc,pl⟩,⟨none,gL i,0,zaF (gL i) r⟩,⟨K,A,O,ml⟩]:=by unfold zbm Bs.cat;simp
 have b2:(zbm i pl r ml).length<1000000:=by
  unfold zbm;rw[Ac,A2,A2,Y,hp.len,hm.len];show C+(gL i+A)+1<1000000;omega
 have hj:∀j,Keep No w j->∀q m G I,j.rangeAt m 0 ([UInt8.ofNat i].map v8)->(⟨G,gL i,I,zaF (gL i) r⟩:Bs).ok j->j.rangeAt q 0 [Value.slice (some ⟨m,0,none⟩) 1 1,.slice S C pc,.slice G (gL i) I,.slice K A O]->
   Sy.Fn Tryz.prog 186 [.slice (some ⟨q,0,none⟩) 4 4,.slice none 0 0] j No (zrZ (zbm i pl r ml)):=by
  intro j t q m G I a8 hF a9;have h:=zuV (some ⟨q,0,none⟩) 4 4 [⟨some ⟨m,0,none⟩,1,1,[UInt8.ofNat i]⟩,⟨S,C,pc,pl⟩,⟨G,gL i,I,zaF (gL i) r⟩,⟨K,A,O,ml⟩] j rfl q_e q_e q_e (.inr ⟨q,0,rfl,a9⟩) (λs hs=>?_) (by
    have:Bs.cat [⟨some ⟨m,0,none⟩,1,1,[UInt8.ofNat i]⟩,⟨S,C,pc,pl⟩,⟨G,gL i,I,zaF (gL i) r⟩,⟨K,A,O,ml⟩]=zbm i pl r ml:=by rw[W];rfl
    rw[this];omega)
  ·have e:Bs.cat [⟨some ⟨m,0,none⟩,1,1,[UInt8.ofNat i]⟩,⟨S,C,pc,pl⟩,⟨G,gL i,I,zaF (gL i) r⟩,⟨K,A,O,ml⟩]=zbm i pl r ml:=by rw[W];rfl
   rw[e] at h;exact h
  ·simp only[Ag,Bm,or_false] at hs;rcases hs with rfl|rfl|rfl|rfl
   ·exact⟨rfl,A4 _,.inr ⟨m,0,rfl,a8⟩,λh=>by cases h⟩
   ·exact hp.keep t
   ·exact hF
   ·exact hm.keep t
 have a7:=λj b (t:Keep No w j) (h:j.rangeAt b 0 ((zbm i pl r ml).map v8))=>zsa (some ⟨b,0,none⟩) (zbm i pl r ml).length (zbm i pl r ml).length (zbm i pl r ml) j rfl (A4 _) q_o (.inr ⟨b,0,rfl,h⟩) (hT.no t);have Z:=zoS (zbm i pl r ml);have a6:=λj b (t:Keep No w j) (h:j.rangeAt b 0 ((Sh.sum (zbm i pl r ml)).map v8))=>zkh i (some ⟨b,0,none⟩) 32 32 (Sh.sum (zbm i pl r ml)) j h0 U (hG.to t) Z (A4 _) q_e (.inr ⟨b,0,rfl,h⟩);rw[<-zoD] at a6;have b0:=λj=>zcQ (zaZ i pl r ml) 0 j;have b4:=zd (zaZ i pl r ml);generalize gL i=len,zaF (gL i) r=lb,zbm i pl r ml=B,zaZ i pl r ml=e,Sh.sum (zbm i pl r ml)=H at*;repeat' (first|refine s_0 ?_|refine zg 0 ?_;refine zi ?_;intro _;refine zi ?_;intro _|refine q_k 1 ?_;refine q_v (zal (hr:=hu)) ?_;(refine q_s zw ?_;rintro _ _ ⟨_,rfl,rfl⟩);refine zb ?_;refine q_v (ze (B:=zf r)) ?_;(refine q_s (zh (hc:=zq V)) ?_;rintro _ _ ⟨R,rfl,G,I,rfl,rfl⟩);refine zb ?_;refine q_v (za (hc:=λ_ _ _ _=>(hd _ _ _ _))) ?_;refine zb ?_;(refine q_s zw ?_;rintro _ _ ⟨_,rfl,rfl⟩))
 rename_i b6 b8 m q;refine q_s (zh (hc:=λj X t T=>hj j t q m G I (zp (T.has (r:=.blk m 5 ([UInt8.ofNat i].map v8)) q_h) F0) (znz (E:=5) T Y q_h) (zp (T.has (r:=.blk q 23 [Value.slice (some ⟨m,0,none⟩) 1 1,.slice S C pc,.slice G len I,.slice K A O]) q_h) F0))) ?_;rintro _ _ ⟨R,rfl,bJ,J,rfl,rfl⟩;repeat' (first|refine s_0 ?_|refine q_k 2 ?_;refine zcC ?_;refine q_v (za (hc:=λj X t T=>a6 j _ t (zp (T.has q_h) F0))) ?_;refine zb ?_;refine q_v (za (hc:=q_c b0)) ?_;refine q_n (zj (n:=e)) ?_|(refine zW ?_;first|refine q_v (za (hc:=λj X t T=>a7 j bJ t (zp (T.has (r:=.blk bJ 5 (B.map v8++J)) q_h) znJ))) ?_|refine zS ?_|refine zi ?_;intro _|fail)|fail)
 exact zaw rfl (zz (B:=zf e) rfl (ty rfl) rfl F4 F0 (zd _).symm) F2 ⟨rfl,rfl⟩
end Go.Proofs.YtdnlngbjpdbffaaGreatDoor
namespace Go
variable {F:Fence}{n:Nat}{P:Program}{Q:Exit->Act->World->Prop}{a:Act}{w:World}
theorem zl0{c rest:Code}(l:Nat)(J:Act->World->Prop)(Y:findLabel c l=some rest)(first:c.wpIn F n P (Exit.jump l J Q) a w)
  (pass:∀a w,J a w->rest.wpIn F n P (Exit.noGoto Q) a w):(Code.scope c).wpIn F n P Q a w:=by
 intro b k S K H I;have h0:(lone (b.atR a (.code (.scope c)::k)) S w).fenced P F:=fenced_calm H I rfl;have Z:gotoIn l (.inScope c::k)=some (.code rest:: .inScope c::k):=by simp[gotoIn,Y]
 have R:∀m,exitTo m (.inScope c::k)=exitTo m k:=λm=>by simp[exitTo]
 obtain⟨e,C,E,r,j⟩:=first b (.inScope c::k) S K H I
 cases e with
 |normal=>exact⟨.normal,C,E,r,.head h0 za9 (StepsIn.trans j (.one (fenced_calm H I rfl) zeO))⟩
 |exit m=>
  exact⟨.exit m,C,E,r,λV A=> .head h0 za9 (j.1 V (by rw[R];exact A)),
   λB A=>let ⟨W,T,U⟩:=j.2 B (by rw[R];exact A);⟨W,T,.head h0 za9 U⟩⟩
 |goto l'=>
  obtain⟨rfl,X⟩:=r;have t:=StepsIn.head h0 za9 (j.1 _ Z);obtain⟨e,G,O,r,q⟩:=pass C E X b (.inScope c::k) S K H I;cases e with
  |normal=>exact⟨.normal,G,O,r,t.trans (StepsIn.trans q (.one (fenced_calm H I rfl) zeO))⟩
  |exit m=>
   exact⟨.exit m,G,O,r,λV A=>t.trans (q.1 V (by rw[R];exact A)),
    λB A=>let ⟨W,T,U⟩:=q.2 B (by rw[R];exact A);⟨W,T,t.trans U⟩⟩
  |goto l=>exact r.elim
  |ret=>exact⟨_,G,O,r,.of_steps t q⟩
  |panic ch=>exact⟨_,G,O,r,.of_steps t q⟩
  |outgrown=>exact⟨_,G,O,r,.of_steps t q⟩
 |ret=>exact⟨_,C,E,r,.of_steps (.one h0 za9) j⟩
 |panic ch=>exact⟨_,C,E,r,.of_steps (.one h0 za9) j⟩
 |outgrown=>exact⟨_,C,E,r,.of_steps (.one h0 za9) j⟩
end Go
namespace Go.Sy
open Go
variable {P:Program}{ro:Option Nat}{N:Nat}{w0:World}{M:Nat->Prop}{ds:List Deferred}{L:List Res}{fr:Fr}{Q:Exit->Act->World->Prop}
theorem zjl{γ:Type}(l:Nat){c rest:Code}(f:γ->Fr)(R:γ->List Res)(I:γ->Prop)(r:findLabel c l=some rest)(h:Sy P ro N w0 M ds c (Exit.jump l (zk5 N w0 M ds f R I) Q) fr L)
  (h2:∀g,I g->Sy P ro N w0 M ds rest (Exit.noGoto Q) (f g) (R g)):Sy P ro N w0 M ds (.scope c) Q fr L:=
 λa w t=>zl0 l _ r (h a w t) (λa w q=>by obtain⟨g,m,j⟩:=q;exact h2 g m a w j)
theorem zeS{l:Nat}{J:Act->World->Prop}(h:SyX N w0 M ds J fr L):SyX N w0 M ds (Exit.jump l J Q (.goto l)) fr L:=λa w j=>⟨rfl,h a w j⟩
end Go.Sy
