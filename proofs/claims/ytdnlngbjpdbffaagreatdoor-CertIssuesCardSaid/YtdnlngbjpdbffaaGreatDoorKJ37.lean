/- Lemmas of this proof. -/
import Derived.Test.YtdnlngbjpdbffaaGreatDoorKJ35
import Derived.Test.YtdnlngbjpdbffaaGreatDoorKJ36
set_option maxHeartbeats 2000000
set_option maxRecDepth 10000
set_option linter.all false
namespace Go.Proofs.YtdnlngbjpdbffaaGreatDoor
open Go Go.Sy Go.Nt Go.RowKit
attribute [local irreducible] Sy SyL SyX Sy.Fn callFunc zf z8 zG iC gP gQ gL zap zab zaF zaK gel zaJ zaZ Sh.sum zaY
theorem zpu(z:Int)(pa ma sa:Option Addr)(pn pc Y mc P N kb ko kc:Nat)(pl ml O:List UInt8)(w:World)(hR:RTab w No kb ko kc)(hp:(⟨pa,pn,pc,pl⟩:Bs).ok w)(hm:(⟨ma,Y,mc,ml⟩:Bs).ok w)(hs:(⟨sa,P,N,O⟩:Bs).ok w)(c5:pn<=1000)(c2:Y<=100000)(e3:P<=1000):
  q_G 70 [.int .i64 z,.slice pa pn pc,.slice ma Y mc,.slice sa P N] w (.int .i64 (zdM z pl ml O)):=by
 refine zo Tryz.func70 Tryz.ntmps70 ?_;have F:=λj (B:Keep No w j)=>zjW z pa pn pc pl j hp.len (hp.keep B).sla;have d9:ml.length=Y:=hm.len;have e2:O.length=P:=hs.len;unfold ziD at F;by_cases hw:(gel z pl).2≠0\/65536<ml.length
 ·rw[zmU hw];by_cases he:(gel z pl).2=0
  ·have gm:decide (65536<(Y:Int))=true:=decide_eq_true (by have:=hw.resolve_left (λh=>h he);omega);rw[decide_eq_true he] at F;generalize (zbi z pl).1=x at*;repeat' (first|refine s_0 ?_|refine zK [0,3] ?_;refine zb ?_|refine q_k 1 ?_;(refine q_s (zh (hc:=zq F)) ?_;rintro _ _ ⟨R,rfl,aY,cY,rfl,rfl⟩);refine zb ?_|refine q_k 2 ?_;refine zJ ?_;refine zb ?_;refine q_x (zF (hr:=gm)) ?_)
   exact q_r
  ·rw[decide_eq_false he] at F;generalize (zbi z pl).1=x at*;repeat' (first|refine s_0 ?_|refine zK [0,3] ?_;refine zb ?_|refine q_k 1 ?_;(refine q_s (zh (hc:=zq F)) ?_;rintro _ _ ⟨R,rfl,aY,cY,rfl,rfl⟩);refine zb ?_|refine q_k 2 ?_;refine zJ ?_;refine zb ?_)
   exact q_r
 have he:(gel z pl).2=0:=EI λh=>hw (.inl h);have J:=zg1 he;obtain⟨i,rfl,hi,h0,E⟩:=zcs J.1;rw[hi] at J;have hy:zap (gP i) (gQ i) (gel (i:Int) pl).1=true:=by rw[J.2.2.2];exact J.2.2.1
 rw[decide_eq_true he,zuL he] at F;have b1:=λj=>zkC i j h0 E;have a8:=zdp J.1;rw[hi] at a8;have gm:decide (65536<(Y:Int))=false:=decide_eq_false (λh=>hw (.inr q_o));have b2:IntKind.i64.wrap (2*((gL i:Nat):Int))=((2*gL i:Nat):Int):=q_w;by_cases hlen:O.length=2*gL i;rotate_left
 ·rw[zjD hw (by rw[hi];exact hlen)];have g2:decide ((P:Int)≠((2*gL i:Nat):Int))=true:=decide_eq_true (λh=>hlen q_o);generalize gL i=len,(gel (i:Int) pl).1=y at*;repeat' (first|refine s_0 ?_|refine zK [0,6] ?_;refine zb ?_|refine q_k 1 ?_;(refine q_s (zh (hc:=zq F)) ?_;rintro _ _ ⟨R,rfl,aY,cY,rfl,rfl⟩);refine zb ?_|refine q_k 2 ?_;refine zJ ?_;refine zb ?_;refine q_x (zF (hr:=gm)) ?_|refine q_k 4 ?_;refine q_v (za (hc:=q_c b1)) ?_;refine zb ?_|refine q_k 5 ?_;refine q_v (zas (hr:=b2)) ?_;refine q_v (zaC (hr:=g2)) ?_)
  exact q_r
 have g2:decide ((P:Int)≠((2*gL i:Nat):Int))=false:=decide_eq_false (λh=>h q_o);obtain⟨m,e0⟩:∃x,x=bev 256 (bn (O.take (gL i))):=⟨_,rfl⟩;obtain⟨t,e1⟩:∃x,x=bev 256 (bn (O.drop (gL i))):=⟨_,rfl⟩;rw[zo7 hw hlen e0 e1];have V:m<18446744073709551616^16:=by rw[e0];exact zi6 (by rw[AU];omega)
 have W:t<18446744073709551616^16:=by rw[e1];exact zi6 (by rw[B5];omega)
 have c8:P<=N:=hs.cap;obtain⟨a2,a9⟩:∃a2,a2=zb4 sa (gL i) N 1:=⟨_,rfl⟩;have a6:=λj (B:Keep No w j)=>zi1 sa (gL i) N (O.take (gL i)) j (by rw[AU];omega) (by rw[CN];exact(hs.keep B).sla.take _) q_o;have a7:=λj (B:Keep No w j)=>zi1 a2 (gL i) (N-gL i) (O.drop (gL i)) j (by rw[B5];omega) (by rw[Cm,a9];exact(hs.keep B).sla.mov (by rw[A0];show O.length<=N;omega)) q_o;rw[<-e0] at a6;rw[<-e1] at a7;have hW:=zba i h0 E;have b6:0<gQ i:=AG q_e (za3 i h0 E);have c6:=AS (zbE hy) (zbw i h0 E);generalize (gel (i:Int) pl).1=y at*;have d8:P=2*gL i:=q_o;have c0:P-gL i=gL i:=q_o;have c9:gL i<=N:=q_o;unfold zaW at a6 a7;generalize gL i=len at*;repeat' (first|refine s_0 ?_|refine q_k 0 ?_|refine q_k 1 ?_;(refine q_s (zh (hc:=zq F)) ?_;rintro _ _ ⟨R,rfl,aY,cY,rfl,rfl⟩);refine zb ?_|refine q_k 2 ?_;refine zJ ?_;refine zb ?_;refine q_x (zF (hr:=gm)) ?_|refine q_k 4 ?_;refine q_v (za (hc:=q_c b1)) ?_;refine zb ?_|refine q_k 5 ?_;refine q_v (zas (hr:=b2)) ?_;refine q_v (zaC (hr:=g2)) ?_)
 refine zb2 (id:=7) mixed ?_
 (refine zbY 8 8 [[],[],[0,1],[0,1,2],[],[],[4,5],[0,1,2,3,4,5,6],[0,1,2,3,4,5,6,7],[0,1,2,3,4,5,6,7,8]] [[],[],[],[],[],[],[],[],[],[]] none rfl ?_ ?_ ?_;kernel_rfl;kernel_rfl;refine q_E zao ?_;refine q_E zao ?_;refine q_E (zbN (h:=len) (n':=len) (c':=N) (a':=sa)) ?_;try refine dh_0nE (h:=?_))
 refine zcW (R:=λ_=>zaW m) (λ_ _ _=>rfl) (λρ hρ=>zh (hc:=zq a6)) (h:=?_)
 (skip;refine q_E zao ?_;refine q_E zao ?_;refine q_E (zbN (l:=len) (a':=a2) (ha:=a9.symm) (n':=len) (hn':=c0)) ?_;try refine dh_0nE (h:=?_))
 refine zcW (R:=λ_=>zaW t) (λ_ _ _=>rfl) (λρ hρ=>zh (hc:=zq a7)) (h:=?_);refine zdI (h:=?_);rintro ρ ⟨⟨aS,cS,f3,f4⟩,⟨aE,cE,f1,f2⟩,-⟩;have f2:(ρ 3).2= [.row (.slice aE (nd 65536 m) cE) 3 1 (nd 65536 m) (zG m)]:=f2;have f4:(ρ 7).2= [.row (.slice aS (nd 65536 t) cS) 3 1 (nd 65536 t) (zG t)]:=f4
 (refine zb1 [[],[],[0,1],[0,1,2],[],[],[4,5],[0,1,2,3,4,5,6],[0,1,2,3,4,5,6,7],[0,1,2,3,4,5,6,7,8]] ?_ ?_;kernel_rfl)
 refine FI (fr':=[(39,.slice aE (nd 65536 m) cE),(43,.slice aS (nd 65536 t) cS),(0,.int .i64 (i:Int)),(1,.slice pa pn pc),(2,.slice ma Y mc),(9,.slice aY (nd 65536 y) cY)]) (L':=[.row (.slice aE (nd 65536 m) cE) 3 1 (nd 65536 m) (zG m),.row (.slice aS (nd 65536 t) cS) 3 1 (nd 65536 t) (zG t),.row (.slice aY (nd 65536 y) cY) 3 1 (nd 65536 y) (zG y)]) ?_ ?_ ?_;rotate_left
 ·(repeat' (first|exact FQ|refine FX rfl ?_ ?_|rfl))
  ·exact f1
  ·exact f3
 ·show SubR _ ((ρ 7).2++((ρ 3).2++_));rw[f2,f4];exact q_h
 repeat' (first|refine s_0 ?_|(refine zW ?_;first|refine zB ?_|fail)|fail)
 have C:=λj a c (h:SlA j a (zG m))=>zf3 i a c m j h0 E h (zbS V);have G:=λj a c (h:SlA j a (zG t))=>zf3 i a c t j h0 E h (zbS W);by_cases hi0:m<gQ i;rotate_left
 ·rw[show([true,decide (m<gQ i),decide (t<gQ i),decide (zaZ i pl (sR i y m t) ml=m)].all id)=false by simp[hi0]];rw[decide_eq_false hi0] at C;repeat' (first|refine s_0 ?_|refine q_k 8 ?_;refine q_v (za (hc:=λj X B A=>C j _ _ (zI A q_h))) ?_;refine zJ ?_;refine zb ?_|refine q_k 9 ?_)
  exact q_r
 by_cases hi1:t<gQ i
 rotate_left
 ·rw[show([true,decide (m<gQ i),decide (t<gQ i),decide (zaZ i pl (sR i y m t) ml=m)].all id)=false by simp[hi1]];rw[decide_eq_true hi0] at C;rw[decide_eq_false hi1] at G;repeat' (first|refine s_0 ?_|refine q_k 8 ?_;refine q_v (za (hc:=λj X B A=>C j _ _ (zI A q_h))) ?_;refine zJ ?_;refine zb ?_;refine q_v (za (hc:=λj X B A=>G j _ _ (zI A q_h))) ?_;refine zJ ?_;refine zb ?_|refine q_k 9 ?_)
  exact q_r
 rw[show([true,decide (m<gQ i),decide (t<gQ i),decide (zaZ i pl (sR i y m t) ml=m)].all id)=decide (zaZ i pl (sR i y m t) ml=m) by simp[hi0,hi1]];rw[decide_eq_true hi0] at C;rw[decide_eq_true hi1] at G;have S:=λj=>zeg i j h0 E;have b5:=λj=>zho 0 j q_e;have T:=λj a c (h:SlA j a (zG t))=>zia i a c t j h0 E h (zbS W);have U:=λj a c a1 K (h:SlA j a (zG (gQ i))) (L:SlA j a1 (zG m))=>ziL a a1 c K (gQ i) m j h L (AS (zbS hW) q_e) (BH hi0);have c4:gQ i-m<18446744073709551616^16:=Av (EE _ _) hW;have H:=λj a c a1 K (h:SlA j a (zG (gQ i-m))) (L:SlA j a1 (zG 0))=>zmH i a a1 c K (gQ i-m) 0 j h0 E h L (zbS c4) (by rw[zbv];decide);rw[BI] at H;have b9:(gQ i-m)%gQ i<gQ i:=A7 _ b6;have Q:=λj a c a1 K (h:SlA j a (zG y)) (L:SlA j a1 (zG ((gQ i-m)%gQ i)))=>zoF i a a1 c K y _ j h0 E h L (zbS c6) (zbS (AS b9 hW));have b3:zap (gP i) (gQ i) (y^((gQ i-m)%gQ i)%gP i)=true:=zbq.2 (zms h0 E (zbq.1 hy) _);have b4:zap (gP i) (gQ i) (4^t%gP i)=true:=zbq.2 (zeU h0 E _);have I:=λj a c a1 K (h:SlA j a (zG (4^t%gP i))) (L:SlA j a1 (zG (y^((gQ i-m)%gQ i)%gP i)))=>zuK i a a1 c K _ _ j h0 E h L (zbS (AS (zbE b4) (zbw i h0 E))) (zbS (AS (zbE b3) (zbw i h0 E)));have c3:zap (gP i) (gQ i) (sR i y m t)=true:=zbq.2 (zpi h0 E (zbq.1 b4) (zbq.1 b3));have b7:sR i y m t=(4^t%gP i)*(y^((gQ i-m)%gQ i)%gP i)%gP i:=rfl;rw[<-b7] at I;have Z:=λj (B:Keep No w j) ra rc (hr:SlA j ra (zG (sR i y m t)))=>zhQ i pa ma ra pn pc Y mc rc (sR i y m t) kb ko kc pl ml j h0 E (hR.no B) (hp.keep B) (hm.keep B) hr c5 c2 c3;have b8:zaZ i pl (sR i y m t) ml<gQ i:=zfV h0 E _ _ _;have b0:=λj a c a1 K (h:SlA j a (zG (zaZ i pl (sR i y m t) ml))) (L:SlA j a1 (zG m))=>zdQ a a1 c K _ _ j h L (AS (zbS (AS b8 hW)) q_e) (AS (zbS V) q_e);have M:decide (za0 (zaZ i pl (sR i y m t) ml) m≠0)=!decide (zaZ i pl (sR i y m t) ml=m):=by
  rw[<-znN];by_cases h:za0 (zaZ i pl (sR i y m t) ml) m=0 <;> simp[h]
 unfold zaW at S b5 T U H Q I Z;generalize gQ i=q,gQ i-m=dq,(gQ i-m)%gQ i=ne,y^((gQ i-m)%gQ i)%gP i=c7,4^t%gP i=ps,sR i y m t=r,zaZ i pl (sR i y m t) ml=e at*;repeat' (first|refine s_0 ?_|refine q_k 8 ?_;refine q_v (za (hc:=λj X B A=>C j _ _ (zI A q_h))) ?_;refine zJ ?_;refine zb ?_;refine q_v (za (hc:=λj X B A=>G j _ _ (zI A q_h))) ?_;refine zJ ?_;refine zb ?_)
 repeat' (first|refine s_0 ?_|refine q_k 10 ?_;(refine q_s (zh (hc:=λj X B A=>S j)) ?_;rintro _ _ ⟨R,rfl,aQ,cQ,rfl,rfl⟩);refine zb ?_;(refine q_s (zh (hc:=λj X B A=>U j _ _ _ _ (zI A q_h) (zI A q_h))) ?_;rintro _ _ ⟨R,rfl,aD,cD,rfl,rfl⟩);(refine q_s (zh (hc:=λj X B A=>b5 j)) ?_;rintro _ _ ⟨R,rfl,aO,cO,rfl,rfl⟩);(refine q_s (zh (hc:=λj X B A=>H j _ _ _ _ (zI A q_h) (zI A q_h))) ?_;rintro _ _ ⟨R,rfl,aN,cN,rfl,rfl⟩);refine zb ?_)
 repeat' (first|refine s_0 ?_|refine q_k 11 ?_;(refine q_s (zh (hc:=λj X B A=>T j _ _ (zI A q_h))) ?_;rintro _ _ ⟨R,rfl,aP,cP,rfl,rfl⟩);refine zb ?_;(refine q_s (zh (hc:=λj X B A=>Q j _ _ _ _ (zI A q_h) (zI A q_h))) ?_;rintro _ _ ⟨R,rfl,aB,cB,rfl,rfl⟩);(refine q_s (zh (hc:=λj X B A=>I j _ _ _ _ (zI A q_h) (zI A q_h))) ?_;rintro _ _ ⟨R,rfl,aR,cR,rfl,rfl⟩);refine zb ?_)
 by_cases hee:e=m
 ·rw[decide_eq_true hee] at M ⊢;repeat' (first|refine s_0 ?_|refine q_k 12 ?_;(refine q_s (zh (hc:=λj X B A=>Z j B _ _ (zI A q_h))) ?_;rintro _ _ ⟨R,rfl,aC,cC,rfl,rfl⟩);refine zb ?_;refine q_v (za (hc:=λj X B A=>b0 j _ _ _ _ (zI A q_h) (zI A q_h))) ?_;refine q_v (zaC (hr:=M)) ?_|refine q_k 14 ?_)
  exact q_r
 ·rw[decide_eq_false hee] at M ⊢;repeat' (first|refine s_0 ?_|refine q_k 12 ?_;(refine q_s (zh (hc:=λj X B A=>Z j B _ _ (zI A q_h))) ?_;rintro _ _ ⟨R,rfl,aC,cC,rfl,rfl⟩);refine zb ?_;refine q_v (za (hc:=λj X B A=>b0 j _ _ _ _ (zI A q_h) (zI A q_h))) ?_;refine q_v (zaC (hr:=M)) ?_|refine q_k 13 ?_)
  exact q_r
end Go.Proofs.YtdnlngbjpdbffaaGreatDoor
namespace Go.Ct
open Go Go.Sy
theorem znh{w:World}{a:Option Addr}{k:Nat}{m:List (List Value)}(h:SlA w a m.flatten)(hk:∀C∈m,C.length=k)(h0:0<k){i:Nat}(B:i<m.length):∃b o,a=some ⟨b,o,none⟩/\∀(j:Nat) (q:j<m.length),w.rangeAt b (o+j*k) m[j]:=by
 rcases h with h|⟨b,o,rfl,G⟩
 ·have r:=hk m[i] (Ah B);have F:m[i]= []:=List.flatten_eq_nil_iff.1 h _ (Ah B);rw[F] at r;simp at r;omega
 ·refine⟨b,o,rfl,λj q t v E=>?_⟩;have H:t<k:=by have:=(AQ.1 E).1;rw[hk m[j] (Ah q)] at this;exact this
  have A:=zf4 (f:=λ(z:List Value)=>z) (k:=k) m hk j t H;rw[List.flatMap_id',A1 q] at A;have:=G (j*k+t) v (by rw[A];exact E);rw[Az];exact this
def zi2{α:Type}(E k:Nat)(zs:List (List Value×α))(v:Value)(R:List Res):Prop:=∃a c,v= .slice a zs.length c/\R= [.row (.slice a zs.length c) E k zs.length (zs.map (·.1)).flatten]
def zgV(es:List Int):Int:=(es.find? λe=>!decide (e=0)).getD 0
end Go.Ct
namespace Go.Proofs.YtdnlngbjpdbffaaGreatDoor
open Go Go.Sy Go.Ct Go.Nt Go.RowKit
attribute [local irreducible] Sy SyL SyX SyC SyF Sy.Fn callFunc
theorem zsA(a:Option Addr)(n c f:Nat)(cap:List Value)(xs:List Anch)(r:List (List Value))(q:Anch->Bool)(w:World)(H:∀args w,(callFunc f args).run Tryz.prog w= .ok (.enter f args) w)(hn:xs.length=n)(hC:r.length=n)(hk:∀C∈r,C.length=4/\C.all (·.oneCell')=true)(Y:SlA w a r.flatten)(hb:n<1000)
  (V:∀(i:Nat) (C:List Value) (x:Anch),r[i]?=some C->xs[i]?=some x->∀N,Keep No w N->q_G f (.agg C.toArray::cap) N (.bool (q x))):
  Sy.Fn Tryz.prog 141 [.slice a n c,.func (.func f) #[] cap.toArray] w No (zi2 65 4 ((List.zip r xs).filter (λp=>q p.2))):=by
 refine zo Tryz.func141 Tryz.ntmps141 ?_;unfold zi2;repeat' (first|refine s_t ?_|refine zK [0,1,2] ?_;refine zb ?_)
 refine zbn (zaO 65 4) ?_;refine zE (γ:=Nat×Option Addr×Nat) (λg=>[(1,.func (.func f) #[] cap.toArray),(8,.slice a n c),(9,.int .i64 (n:Int)),(10,.int .i64 (g.1:Int)),(5,.slice g.2.1 (((List.zip r xs).take g.1).filter (λp=>q p.2)).length g.2.2)])
  (λg=>[.row (.slice g.2.1 (((List.zip r xs).take g.1).filter (λp=>q p.2)).length g.2.2) 65 4 (((List.zip r xs).take g.1).filter (λp=>q p.2)).length ((((List.zip r xs).take g.1).filter (λp=>q p.2)).map (·.1)).flatten]) (λg=>g.1<=n) (λg=>n-g.1) (0,none,0) (AE _) ?_ ?_ ?_
 ·exact q_h
 ·exact q_h
 rintro⟨i,Q,S⟩ X;dsimp only at X ⊢;have Z:(List.zip r xs).length=n:=by simp[hn,hC]
 by_cases hlt:i<n
 ·obtain⟨bl,ol,rfl,G⟩:=znh (k:=4) Y (λC h=>(hk C h).1) q_e (i:=i) q_o;have hc:=G i q_o;have I:=hk r[i] (Ah q_o);have M:=V i r[i] xs[i] (A1 q_o) (A1 q_o);have K:(List.zip r xs).take (i+1)=(List.zip r xs).take i++[(r[i],xs[i])]:=by rw[zaP q_o,List.getElem_zip]
  generalize xs[i]=x,r[i]=C at*;have t:=I.1;have F:=I.2;have g1:decide ((i:Int)<(n:Int))=true:=q_d;have g5:IntKind.i64.wrap ((i:Int)+1)=((i+1:Nat):Int):=q_w;have W:((((List.zip r xs).take i).filter (λp=>q p.2))).length<=n:=by
   refine BG (Cy _ _) ?_;rw[AU];omega
  have J:q x=false->((List.zip r xs).take (i+1)).filter (λp=>q p.2)=((List.zip r xs).take i).filter (λp=>q p.2):=λh=>by rw[K,DY];simp[h]
  have E:q x=true->((List.zip r xs).take (i+1)).filter (λp=>q p.2)=((List.zip r xs).take i).filter (λp=>q p.2)++[(C,x)]:=λh=>by rw[K,DY];simp[h]
  obtain⟨L,A⟩:∃z,z=((List.zip r xs).take (i+1)).filter (λp=>q p.2):=⟨_,rfl⟩;rw[<-A] at J E;generalize ((List.zip r xs).take i).filter (λp=>q p.2)=O at*;cases hqx:q x
  ·have hz:=J hqx;rw[hqx] at M;repeat' (first|refine s_t ?_|refine zg 3 ?_;refine q_v (zl (hr:=g1)) ?_|refine zg 4 ?_;refine q_v (zay (j:=i)) ?_;refine q_v (z9 (hv:=hc) (hz:=t.symm)) ?_;refine zi ?_;intro _;refine q_n (zC (B:=C) (hv:=F) (h1:=t.symm) (hC:=by exact t.symm)) ?_|refine q_k 5 ?_;refine q_v (ze (B:=C) (hz:=t.symm)) ?_;(refine q_v (za (f:=f) (cap:=cap) (vs:=[.agg C.toArray]) (he:=H) (hc:=zq M)) ?_)|refine zg 7 ?_;refine q_x (zA (hr:=g5)) ?_)
   refine zy (i+1,Q,S) hlt ?_ ?_ ?_
   ·show n-(i+1)<n-i;omega
   ·dsimp only;rw[<-A,hz];exact q_h
   ·dsimp only;rw[<-A,hz];exact q_h
  ·have hz:=E hqx;rw[hqx] at M;have T:(O.map (·.1)).flatten++C=(L.map (·.1)).flatten:=by rw[hz,Aw,DP];simp
   have U:O.length+1=L.length:=by rw[hz];simp
   repeat' (first|refine s_t ?_|refine zg 3 ?_;refine q_v (zl (hr:=g1)) ?_|refine zg 4 ?_;refine q_v (zay (j:=i)) ?_;refine q_v (z9 (hv:=hc) (hz:=t.symm)) ?_;refine zi ?_;intro _;refine q_n (zC (B:=C) (hv:=F) (h1:=t.symm) (hC:=by exact t.symm)) ?_|refine q_k 5 ?_;refine q_v (ze (B:=C) (hz:=t.symm)) ?_;(refine q_v (za (f:=f) (cap:=cap) (vs:=[.agg C.toArray]) (he:=H) (hc:=zq M)) ?_)|refine q_k 6 ?_;refine q_v (ze (B:=C) (hz:=t.symm)) ?_;(refine q_s (zbu (vs:=[.agg C.toArray]) (zdB t rfl)) ?_;rintro _ _ ⟨bL,rfl,rfl⟩);(refine q_s (zak (size:=4) (news:=C) (m:=1) (hn:=t) (h1:=F) (hys:=T) (hkm:=U)) ?_;rintro _ _ ⟨rfl,P,R,rfl⟩);refine zb ?_|refine zg 7 ?_;refine q_x (zA (hr:=g5)) ?_)
   refine zy (i+1,P,R) hlt ?_ ?_ ?_
   ·show n-(i+1)<n-i;omega
   ·dsimp only;rw[<-A];exact q_h
   ·dsimp only;rw[<-A];exact q_h
 obtain rfl:i=n:=q_o;rw[A6 q_o];have g1:decide ((i:Int)<(i:Int))=false:=q_f;repeat' (first|refine s_0 ?_|refine zg 3 ?_;refine q_v (zl (hr:=g1)) ?_|refine q_k 8 ?_)
 exact q_r
theorem zss(a:Option Addr)(n c f:Nat)(cap:List Value)(xs:List Revo)(r:List (List Value))(q:Revo->Bool)(w:World)(H:∀args w,(callFunc f args).run Tryz.prog w= .ok (.enter f args) w)(hn:xs.length=n)(hC:r.length=n)(hk:∀C∈r,C.length=3/\C.all (·.oneCell')=true)(Y:SlA w a r.flatten)(hb:n<1000)
  (V:∀(i:Nat) (C:List Value) (x:Revo),r[i]?=some C->xs[i]?=some x->∀N,Keep No w N->q_G f (.agg C.toArray::cap) N (.bool (q x))):
  Sy.Fn Tryz.prog 143 [.slice a n c,.func (.func f) #[] cap.toArray] w No (zi2 67 3 ((List.zip r xs).filter (λp=>q p.2))):=by
 refine zo Tryz.func143 Tryz.ntmps143 ?_;unfold zi2;repeat' (first|refine s_t ?_|refine zK [0,1,2] ?_;refine zb ?_)
 refine zbn (zaO 67 3) ?_;refine zE (γ:=Nat×Option Addr×Nat) (λg=>[(1,.func (.func f) #[] cap.toArray),(8,.slice a n c),(9,.int .i64 (n:Int)),(10,.int .i64 (g.1:Int)),(5,.slice g.2.1 (((List.zip r xs).take g.1).filter (λp=>q p.2)).length g.2.2)])
  (λg=>[.row (.slice g.2.1 (((List.zip r xs).take g.1).filter (λp=>q p.2)).length g.2.2) 67 3 (((List.zip r xs).take g.1).filter (λp=>q p.2)).length ((((List.zip r xs).take g.1).filter (λp=>q p.2)).map (·.1)).flatten]) (λg=>g.1<=n) (λg=>n-g.1) (0,none,0) (AE _) ?_ ?_ ?_
 ·exact q_h
 ·exact q_h
 rintro⟨i,Q,S⟩ X;dsimp only at X ⊢;have Z:(List.zip r xs).length=n:=by simp[hn,hC]
 by_cases hlt:i<n
 ·obtain⟨bl,ol,rfl,G⟩:=znh (k:=3) Y (λC h=>(hk C h).1) q_e (i:=i) q_o;have hc:=G i q_o;have I:=hk r[i] (Ah q_o);have M:=V i r[i] xs[i] (A1 q_o) (A1 q_o);have K:(List.zip r xs).take (i+1)=(List.zip r xs).take i++[(r[i],xs[i])]:=by rw[zaP q_o,List.getElem_zip]
  generalize xs[i]=x,r[i]=C at*;have t:=I.1;have F:=I.2;have g1:decide ((i:Int)<(n:Int))=true:=q_d;have g5:IntKind.i64.wrap ((i:Int)+1)=((i+1:Nat):Int):=q_w;have W:((((List.zip r xs).take i).filter (λp=>q p.2))).length<=n:=by
   refine BG (Cy _ _) ?_;rw[AU];omega
  have J:q x=false->((List.zip r xs).take (i+1)).filter (λp=>q p.2)=((List.zip r xs).take i).filter (λp=>q p.2):=λh=>by rw[K,DY];simp[h]
  have E:q x=true->((List.zip r xs).take (i+1)).filter (λp=>q p.2)=((List.zip r xs).take i).filter (λp=>q p.2)++[(C,x)]:=λh=>by rw[K,DY];simp[h]
  obtain⟨L,A⟩:∃z,z=((List.zip r xs).take (i+1)).filter (λp=>q p.2):=⟨_,rfl⟩;rw[<-A] at J E;generalize ((List.zip r xs).take i).filter (λp=>q p.2)=O at*;cases hqx:q x
  ·have hz:=J hqx;rw[hqx] at M;repeat' (first|refine s_t ?_|refine zg 3 ?_;refine q_v (zl (hr:=g1)) ?_|refine zg 4 ?_;refine q_v (zay (j:=i)) ?_;refine q_v (z9 (hv:=hc) (hz:=t.symm)) ?_;refine zi ?_;intro _;refine q_n (zC (B:=C) (hv:=F) (h1:=t.symm) (hC:=by exact t.symm)) ?_|refine q_k 5 ?_;refine q_v (ze (B:=C) (hz:=t.symm)) ?_;(refine q_v (za (f:=f) (cap:=cap) (vs:=[.agg C.toArray]) (he:=H) (hc:=zq M)) ?_)|refine zg 7 ?_;refine q_x (zA (hr:=g5)) ?_)
   refine zy (i+1,Q,S) hlt ?_ ?_ ?_
   ·show n-(i+1)<n-i;omega
   ·dsimp only;rw[<-A,hz];exact q_h
   ·dsimp only;rw[<-A,hz];exact q_h
  ·have hz:=E hqx;rw[hqx] at M;have T:(O.map (·.1)).flatten++C=(L.map (·.1)).flatten:=by rw[hz,Aw,DP];simp
   have U:O.length+1=L.length:=by rw[hz];simp
   repeat' (first|refine s_t ?_|refine zg 3 ?_;refine q_v (zl (hr:=g1)) ?_|refine zg 4 ?_;refine q_v (zay (j:=i)) ?_;refine q_v (z9 (hv:=hc) (hz:=t.symm)) ?_;refine zi ?_;intro _;refine q_n (zC (B:=C) (hv:=F) (h1:=t.symm) (hC:=by exact t.symm)) ?_|refine q_k 5 ?_;refine q_v (ze (B:=C) (hz:=t.symm)) ?_;(refine q_v (za (f:=f) (cap:=cap) (vs:=[.agg C.toArray]) (he:=H) (hc:=zq M)) ?_)|refine q_k 6 ?_;refine q_v (ze (B:=C) (hz:=t.symm)) ?_;(refine q_s (zbu (vs:=[.agg C.toArray]) (zdB t rfl)) ?_;rintro _ _ ⟨bL,rfl,rfl⟩);(refine q_s (zak (size:=3) (news:=C) (m:=1) (hn:=t) (h1:=F) (hys:=T) (hkm:=U)) ?_;rintro _ _ ⟨rfl,P,R,rfl⟩);refine zb ?_|refine zg 7 ?_;refine q_x (zA (hr:=g5)) ?_)
   refine zy (i+1,P,R) hlt ?_ ?_ ?_
   ·show n-(i+1)<n-i;omega
   ·dsimp only;rw[<-A];exact q_h
   ·dsimp only;rw[<-A];exact q_h
 obtain rfl:i=n:=q_o;rw[A6 q_o];have g1:decide ((i:Int)<(i:Int))=false:=q_f;repeat' (first|refine s_0 ?_|refine zg 3 ?_;refine q_v (zl (hr:=g1)) ?_|refine q_k 8 ?_)
 exact q_r
theorem zuG(b n c:Nat)(B:List Value)(es:List Int)(w:World)(hn:B.length=n)(hb:es.length=n)(J:n<=1000)(K:w.rangeAt b 0 B)
  (I:∀(k:Nat) (e:Int),es[k]?=some e->(∀H∈es.take k,H=0)->∃(f:Nat) (cap:List Value),B[k]?=some (.func (.func f) #[] cap.toArray)/\(∀args w,(callFunc f args).run Tryz.prog w= .ok (.enter f args) w)/\∀G,Keep No w G->q_G f cap G (.int .i64 e)):
  q_G 60 [.slice (some ⟨b,0,none⟩) n c] w (.int .i64 (zgV es)):=by
 refine zo Tryz.func60 Tryz.ntmps60 ?_;repeat' (first|refine s_t ?_|refine zK [0,1] ?_;refine zb ?_)
 refine zE (γ:=Nat) (λk=>[(6,.slice (some ⟨b,0,none⟩) n c),(7,.int .i64 n),(8,.int .i64 k)]) (λ_=>[]) (λk=>k<=n/\∀e∈es.take k,e=0) (λk=>n-k) 0 ⟨AE _,λe h=>by cases h⟩ ?_ ?_ ?_
 ·exact q_h
 ·exact q_h
 rintro k ⟨L,m⟩;rcases AH k n with h|h
 ·obtain⟨v,hv⟩:∃v,es[k]?=some v:=⟨_,A1 q_o⟩;obtain⟨f,cap,C,A,hc⟩:=I k v hv m;have q:w.cell? ⟨b,0+k,none⟩=some (.func (.func f) #[] cap.toArray):=K k _ C;have r:decide ((k:Int)<(n:Int))=true:=q_d;have t:IntKind.i64.wrap ((k:Int)+1)=((k+1:Nat):Int):=q_w;have E:es.take (k+1)=es.take k++[v]:=by rw[CB,hv];rfl
  by_cases hz:v=0
  ·have g:decide (v≠0)=false:=decide_eq_false (λh=>h hz);repeat' (first|refine s_t ?_|refine zg 2 ?_;refine q_v (zl (hr:=r)) ?_|refine zg 3 ?_;refine q_v (zL (j:=k)) ?_;refine q_x (zn (hv:=q)) ?_|refine q_k 4 ?_;(refine q_v (za (f:=f) (cap:=cap) (vs:=[]) (he:=A) (hc:=zq hc)) ?_);refine zb ?_|refine q_k 5 ?_;refine q_v (zaC (hr:=g)) ?_|refine zg 7 ?_;refine q_x (zA (hr:=t)) ?_)
   refine zy (k+1) ⟨h,λe he=>?_⟩ ?_ ?_ ?_
   ·rw[E] at he;rcases BE.1 he with he|he
    ·exact m e he
    ·rw[AF.1 he,hz]
   ·show n-(k+1)<n-k;omega
   ·exact q_h
   ·exact q_h
  ·have g:decide (v≠0)=true:=decide_eq_true hz;have hex:zgV es=v:=by
    have e:es=es.take k++(v::es.drop (k+1)):=by
     have C:es.drop k=v::es.drop (k+1):=by
      rw[BK q_o];rw[A1 q_o] at hv;rw[Ap hv]
     rw[<-C,B7]
    have h0:(es.take k).find? (λe=>!decide (e=0))=none:=EF.2 (λx F=>by simp[m x F]);unfold zgV;rw[e,List.find?_append,h0];simp[hz]
   rw[hex];repeat' (first|refine s_t ?_|refine zg 2 ?_;refine q_v (zl (hr:=r)) ?_|refine zg 3 ?_;refine q_v (zL (j:=k)) ?_;refine q_x (zn (hv:=q)) ?_|refine q_k 4 ?_;(refine q_v (za (f:=f) (cap:=cap) (vs:=[]) (he:=A) (hc:=zq hc)) ?_);refine zb ?_|refine q_k 5 ?_;refine q_v (zaC (hr:=g)) ?_|refine q_k 6 ?_)
   exact q_r
 ·obtain rfl:k=n:=q_o;rw[A6 q_o] at m;have r:decide ((k:Int)<(k:Int))=false:=q_f;have hex:zgV es=0:=by
   unfold zgV;rw[EF.2 (λx F=>by simp[m x F])];rfl
  rw[hex];repeat' (first|refine s_0 ?_|refine zg 2 ?_;refine q_v (zl (hr:=r)) ?_|refine q_k 8 ?_)
  exact q_r
end Go.Proofs.YtdnlngbjpdbffaaGreatDoor
