/- Lemmas of this proof. -/
import Derived.Test.YtdnlngbjpdbffaaGreatDoorKJ40
set_option maxHeartbeats 1000000
set_option maxRecDepth 10000
set_option linter.all false
namespace Go.Ct
theorem zoo(s:List UInt8)(h:1<=s.length)(j:zcj true s=true):zbk s=decide (s.length<=32):=by
 unfold zbk;rw[j,decide_eq_true h];simp
end Go.Ct
namespace Go.Proofs.YtdnlngbjpdbffaaGreatDoor
open Go Go.Sy Go.Ct Go.Nt Go.RowKit
attribute [local irreducible] Sy SyL SyX SyC SyF Sy.Fn callFunc
theorem zui(l:List UInt8)(w:World)(E:l.length<1000000000):q_G 163 [zX l] w (.bool (l.all ze7)):=by
 refine zo Tryz.func163 Tryz.ntmps163 ?_;unfold zX;repeat' (first|refine s_t ?_|refine zK [0,1] ?_;refine zb ?_)
 refine zE (γ:=Nat) (λi=>[(0,.string (str l)),(3,.int .i64 (i:Int))]) (λ_=>[]) (λi=>i<=l.length/\(l.take i).all ze7=true) (λi=>l.length-i) 0 ⟨AE _,rfl⟩ ?_ ?_ ?_
 ·exact q_h
 ·exact q_h
 rintro i ⟨C,q⟩;by_cases hlt:i<l.length
 ·have g1:decide ((i:Int)<(l.length:Int))=true:=q_d;have g5:IntKind.i64.wrap ((i:Int)+1)=((i+1:Nat):Int):=q_w;have hv:(str l).data[i]?=some l[i]:=by show l.toArray[i]?=_;rw[BM,A1 hlt]
  have t:l.take (i+1)=l.take i++[l[i]]:=zaP hlt;have r:l[i]∈l:=Ah hlt;generalize l[i]=x at*;have B:x.toNat<33\/(33<=x.toNat/\126<x.toNat)\/(33<=x.toNat/\x.toNat<=126):=q_o;have m:¬(33<=x.toNat/\x.toNat<=126)->l.all ze7=false:=λh=>by
   rw[Bi];exact⟨x,r,by simp only[ze7,AB,decide_eq_true_eq];exact h⟩
  rcases B with h|⟨h,A⟩|⟨h,A⟩
  ·rw[m q_o];repeat' (first|refine s_t ?_|refine q_k 2 ?_;refine q_v (zl (hr:=g1)) ?_|refine q_k 4 ?_;refine q_v (zN (j:=i) (hv:=hv)) ?_;refine zR ?_;refine zb ?_|refine q_k 5 ?_)
   exact q_r
  ·rw[m q_o];repeat' (first|refine s_t ?_|refine q_k 2 ?_;refine q_v (zl (hr:=g1)) ?_|refine q_k 4 ?_;refine q_v (zN (j:=i) (hv:=hv)) ?_;refine zR ?_;refine zb ?_;refine q_v (zN (j:=i) (hv:=hv)) ?_;refine q_x zF ?_|refine q_k 5 ?_)
   exact q_r
  ·repeat' (first|refine s_t ?_|refine q_k 2 ?_;refine q_v (zl (hr:=g1)) ?_|refine q_k 4 ?_;refine q_v (zN (j:=i) (hv:=hv)) ?_;refine zR ?_;refine zb ?_;refine q_v (zN (j:=i) (hv:=hv)) ?_;refine q_x zF ?_|refine q_k 3 ?_;refine q_x (zA (hr:=g5)) ?_)
   refine zy (i+1) ⟨hlt,?_⟩ ?_ ?_ ?_
   ·rw[t,Bc,q];simp only[BP,E9,ze7,decide_eq_true h,decide_eq_true A,Ax]
   ·show l.length-(i+1)<l.length-i;omega
   ·exact q_h
   ·exact q_h
 obtain rfl:i=l.length:=q_o;rw[A6 (A4 _)] at q;have g1:decide ((l.length:Int)<(l.length:Int))=false:=q_f;rw[q];repeat' (first|refine s_0 ?_|refine q_k 2 ?_;refine q_v (zl (hr:=g1)) ?_|refine q_k 6 ?_)
 exact q_r
def zhL(l:List UInt8)(i:Nat):Bool:=decide (i=0) || decide (l[i-1]?=some 46)
theorem zqx(l:List UInt8)(w:World)(O:l.length<1000000000):q_G 164 [zX l] w (.bool (zbk l)):=by
 refine zo Tryz.func164 Tryz.ntmps164 ?_;unfold zX;repeat' (first|refine s_t ?_|refine zK [0,1] ?_;refine zb ?_)
 refine zE (γ:=Nat) (λi=>[(0,.string (str l)),(3,.int .i64 (i:Int))]) (λ_=>[]) (λi=>i<=l.length/\zcj true l=zcj (zhL l i) (l.drop i)/\(i=l.length->0<l.length->zhL l i=false)) (λi=>l.length-i) 0 ⟨AE _,rfl,λL M=>by omega⟩ ?_ ?_ ?_
 ·exact q_h
 ·exact q_h
 rintro i ⟨N,t,C⟩;by_cases hlt:i<l.length
 ·have g1:decide ((i:Int)<(l.length:Int))=true:=q_d;have g5:IntKind.i64.wrap ((i:Int)+1)=((i+1:Nat):Int):=q_w;have g6:IntKind.i64.wrap ((l.length:Int)-1)=(l.length:Int)-1:=IntWalk.i64_in _ q_o;have hv:(str l).data[i]?=some l[i]:=by show l.toArray[i]?=_;rw[BM,A1 hlt]
  have J:l.drop i=l[i]::l.drop (i+1):=BK hlt;have q:∀c,l[i]=c->zhL l (i+1)=decide (c=46):=λc I=>by
   unfold zhL;rw[show i+1-1=i by omega,A1 hlt,I];simp
  have m:zcj (zhL l i) (l.drop i)=false->zbk l=false:=λh=>by
   unfold zbk;rw[t,h,De]
  rw[J,zcj] at t m;generalize P:l[i]=x at*;have q:=q x rfl;by_cases h46:x=46
  ·subst h46;rw[if_pos rfl] at t m;rw[decide_eq_true rfl] at q;by_cases h0:i=0
   ·subst h0;rw[m (by simp[zhL])];repeat' (first|refine s_t ?_|refine q_k 2 ?_;refine q_v (zl (hr:=g1)) ?_|refine q_k 4 ?_;refine q_x (zN (j:=0) (hv:=hv)) ?_|refine q_k 5 ?_;refine zaH ?_;refine zb ?_;refine zaH ?_;refine zb ?_|refine q_k 6 ?_)
    exact q_r
   by_cases hz:i+1=l.length
   ·rw[m (by rw[Bd q_o];simp[zcj])];have G:decide ((i:Int)=0)=false:=q_f;have k1:decide ((i:Int)=(l.length:Int)-1)=true:=q_d;repeat' (first|refine s_t ?_|refine q_k 2 ?_;refine q_v (zl (hr:=g1)) ?_|refine q_k 4 ?_;refine q_x (zN (j:=i) (hv:=hv)) ?_|refine q_k 5 ?_;refine zaH ?_;refine zb ?_;refine q_x (zaa (hr:=G)) ?_;refine q_v (zH (hr:=g6)) ?_;refine q_x (zaa (hr:=k1)) ?_|refine q_k 6 ?_)
    exact q_r
   have G:decide ((i:Int)=0)=false:=q_f;have k1:decide ((i:Int)=(l.length:Int)-1)=false:=q_f;have g7:IntKind.i64.wrap ((i:Int)-1)=((i-1:Nat):Int):=q_w;have F:(str l).data[i-1]?=some l[i-1]:=by show l.toArray[i-1]?=_;rw[BM,A1 q_o]
   have E:zhL l i=decide (l[i-1]=46):=by
    unfold zhL;rw[decide_eq_false h0,A1 (show i-1<l.length by omega)];simp
   generalize l[i-1]'q_o=y at*;by_cases hy:y=46
   ·subst hy;rw[m (by rw[E];simp)];repeat' (first|refine s_t ?_|refine q_k 2 ?_;refine q_v (zl (hr:=g1)) ?_|refine q_k 4 ?_;refine q_x (zN (j:=i) (hv:=hv)) ?_|refine q_k 5 ?_;refine zaH ?_;refine zb ?_;refine q_x (zaa (hr:=G)) ?_;refine q_v (zH (hr:=g6)) ?_;refine q_x (zaa (hr:=k1)) ?_;refine q_v (zH (hr:=g7)) ?_;refine q_v (zN (j:=i-1) (hv:=F)) ?_;refine zaH ?_;refine zb ?_|refine q_k 6 ?_)
    exact q_r
   ·have k2:decide ((y.toNat:Int)=46)=false:=decide_eq_false (λh=>hy (by
     apply C4.1;show y.toNat=46;omega))
    repeat' (first|refine s_t ?_|refine q_k 2 ?_;refine q_v (zl (hr:=g1)) ?_|refine q_k 4 ?_;refine q_x (zN (j:=i) (hv:=hv)) ?_|refine q_k 5 ?_;refine zaH ?_;refine zb ?_;refine q_x (zaa (hr:=G)) ?_;refine q_v (zH (hr:=g6)) ?_;refine q_x (zaa (hr:=k1)) ?_;refine q_v (zH (hr:=g7)) ?_;refine q_v (zN (j:=i-1) (hv:=F)) ?_;refine q_x (zaa (hr:=k2)) ?_|refine q_k 7 ?_;refine zat ?_;refine zb ?_|refine q_k 3 ?_;refine q_x (zA (hr:=g5)) ?_)
    refine zy (i+1) ⟨hlt,?_,λL M=>by omega⟩ ?_ ?_ ?_
    ·rw[t,E,q,decide_eq_false hy];simp
    ·show l.length-(i+1)<l.length-i;omega
    ·exact q_h
    ·exact q_h
  rw[if_neg h46] at t m;rw[decide_eq_false h46] at q;have K:x.toNat≠46:=λh=>h46 (by apply C4.1;exact h);have I:x.toNat=45\/(65<=x.toNat/\x.toNat<=90)\/(48<=x.toNat/\x.toNat<=57)\/(x.toNat≠45/\x.toNat<48)\/(57<x.toNat/\x.toNat<65)\/90<x.toNat:=q_o;have r:zce x=decide (x.toNat=45\/(65<=x.toNat/\x.toNat<=90)\/(48<=x.toNat/\x.toNat<=57)):=by
   rw[CR];simp only[zce,Bl,AB,decide_eq_true_eq];omega
  have B:zce x=true->zcj true l=zcj (zhL l (i+1)) (l.drop (i+1)):=λh=>by rw[t,h,Ax,q]
  have A:zce x=false->zbk l=false:=λh=>m (by rw[h,BX]);rcases I with h|⟨h,H⟩|⟨h,H⟩|⟨h,H⟩|⟨h,H⟩|h
  ·have e:=B (by rw[r];exact decide_eq_true q_o);repeat' (first|refine s_t ?_|refine q_k 2 ?_;refine q_v (zl (hr:=g1)) ?_|refine q_k 4 ?_;refine q_x (zN (j:=i) (hv:=hv)) ?_|refine q_k 5 ?_;refine zaH ?_;refine zb ?_|refine q_k 7 ?_;refine zat ?_;refine zb ?_;refine zat ?_;refine zb ?_|refine q_k 3 ?_;refine q_x (zA (hr:=g5)) ?_)
   refine zy (i+1) ⟨hlt,e,λ_ _=>q⟩ ?_ ?_ ?_
   ·show l.length-(i+1)<l.length-i;omega
   ·exact q_h
   ·exact q_h
  ·have e:=B (by rw[r];exact decide_eq_true q_o);repeat' (first|refine s_t ?_|refine q_k 2 ?_;refine q_v (zl (hr:=g1)) ?_|refine q_k 4 ?_;refine q_x (zN (j:=i) (hv:=hv)) ?_|refine q_k 5 ?_;refine zaH ?_;refine zb ?_|refine q_k 7 ?_;refine zat ?_;refine zb ?_;refine zat ?_;refine zb ?_;refine q_x zP ?_;refine q_x zax ?_;refine zJ ?_;refine zb ?_|refine q_k 3 ?_;refine q_x (zA (hr:=g5)) ?_)
   refine zy (i+1) ⟨hlt,e,λ_ _=>q⟩ ?_ ?_ ?_
   ·show l.length-(i+1)<l.length-i;omega
   ·exact q_h
   ·exact q_h
  ·have e:=B (by rw[r];exact decide_eq_true q_o);repeat' (first|refine s_t ?_|refine q_k 2 ?_;refine q_v (zl (hr:=g1)) ?_|refine q_k 4 ?_;refine q_x (zN (j:=i) (hv:=hv)) ?_|refine q_k 5 ?_;refine zaH ?_;refine zb ?_|refine q_k 7 ?_;refine zat ?_;refine zb ?_;refine zat ?_;refine zb ?_;refine q_x zP ?_;refine zJ ?_;refine zb ?_;refine q_x zP ?_;refine q_x zax ?_;refine zJ ?_;refine zb ?_|refine q_k 3 ?_;refine q_x (zA (hr:=g5)) ?_)
   refine zy (i+1) ⟨hlt,e,λ_ _=>q⟩ ?_ ?_ ?_
   ·show l.length-(i+1)<l.length-i;omega
   ·exact q_h
   ·exact q_h
  ·rw[A (by rw[r];exact decide_eq_false q_o)];repeat' (first|refine s_t ?_|refine q_k 2 ?_;refine q_v (zl (hr:=g1)) ?_|refine q_k 4 ?_;refine q_x (zN (j:=i) (hv:=hv)) ?_|refine q_k 5 ?_;refine zaH ?_;refine zb ?_|refine q_k 7 ?_;refine zat ?_;refine zb ?_;refine zat ?_;refine zb ?_;refine q_x zP ?_;refine zJ ?_;refine zb ?_;refine q_x zP ?_;refine zJ ?_;refine zb ?_|refine q_k 8 ?_)
   exact q_r
  ·rw[A (by rw[r];exact decide_eq_false q_o)];repeat' (first|refine s_t ?_|refine q_k 2 ?_;refine q_v (zl (hr:=g1)) ?_|refine q_k 4 ?_;refine q_x (zN (j:=i) (hv:=hv)) ?_|refine q_k 5 ?_;refine zaH ?_;refine zb ?_|refine q_k 7 ?_;refine zat ?_;refine zb ?_;refine zat ?_;refine zb ?_;refine q_x zP ?_;refine zJ ?_;refine zb ?_;refine q_x zP ?_;refine q_x zax ?_;refine zJ ?_;refine zb ?_|refine q_k 8 ?_)
   exact q_r
  ·rw[A (by rw[r];exact decide_eq_false q_o)];repeat' (first|refine s_t ?_|refine q_k 2 ?_;refine q_v (zl (hr:=g1)) ?_|refine q_k 4 ?_;refine q_x (zN (j:=i) (hv:=hv)) ?_|refine q_k 5 ?_;refine zaH ?_;refine zb ?_|refine q_k 7 ?_;refine zat ?_;refine zb ?_;refine zat ?_;refine zb ?_;refine q_x zP ?_;refine q_x zax ?_;refine zJ ?_;refine zb ?_;refine q_x zP ?_;refine q_x zax ?_;refine zJ ?_;refine zb ?_|refine q_k 8 ?_)
   exact q_r
 obtain rfl:i=l.length:=q_o;have g1:decide ((l.length:Int)<(l.length:Int))=false:=q_f;rcases AD l.length with h0|h0
 ·have e:zbk l=false:=by unfold zbk;rw[h0];rfl
  rw[e];have k1:decide ((l.length:Int)>=1)=false:=q_f;repeat' (first|refine s_0 ?_|refine q_k 2 ?_;refine q_v (zl (hr:=g1)) ?_|refine q_k 9 ?_;refine q_x (zP (hr:=k1)) ?_)
  exact q_r
 have e:zbk l=decide (l.length<=32):=zoo l h0 (by rw[t,C rfl h0,List.drop_length];rfl);rw[e];have k1:decide ((l.length:Int)>=1)=true:=q_d;have k2:decide ((l.length:Int)<=32)=decide (l.length<=32):=decide_eq_decide.2 q_o;repeat' (first|refine s_0 ?_|refine q_k 2 ?_;refine q_v (zl (hr:=g1)) ?_|refine q_k 9 ?_;refine q_x (zP (hr:=k1)) ?_;refine q_x (zax (hr:=k2)) ?_)
 exact q_r
theorem zqX(a:Option Addr)(k:Nat)(p:Prin)(w:World)(h:PrinIn w (za7 a k p) p)(hb:p.parts.length<1000000)(hr:p.realm.length<1000000000)(hx:∀x∈p.parts,x.length<1000000000):q_G 71 [.agg (za7 a k p).toArray] w (.bool p.ok):=by
 obtain⟨⟨M,P,K,R,Q,s1,T⟩,-⟩:=h;cases K;refine zo Tryz.func71 Tryz.ntmps71 ?_;have H:=λJ=>zqx p.realm J hr;unfold Prin.ok za7 zX at*;obtain⟨m,I⟩:=p;dsimp only at*;repeat' (first|refine s_t ?_|refine zg 0 ?_;refine zV ?_;intro _|refine q_k 1 ?_)
 rename_i b;refine zE (γ:=Nat) (λi=>[(1,.pointer (some ⟨b,0,none⟩)),(3,.int .i64 (i:Int))]) (λ_=>[.blk b 43 [.slice a m.length k,.string (str I)]]) (λi=>i<=m.length/\(m.take i).all zbO=true) (λi=>m.length-i) 0 ⟨AE _,rfl⟩ ?_ ?_ ?_
 ·exact q_h
 ·exact q_h
 rintro i ⟨O,E⟩;by_cases hlt:i<m.length
 ·obtain⟨N,S,rfl,B⟩:=zdV s1 (i:=i) (by rw[A0];omega);have q:=B i _ (zdg zX q_o);unfold zX at q;have g2:decide ((i:Int)<(m.length:Int))=true:=q_d;have g5:IntKind.i64.wrap ((i:Int)+1)=((i+1:Nat):Int):=q_w;have t1:m.take (i+1)=m.take i++[m[i]]:=zaP q_o;have F:m[i]∈m:=Ah hlt;have A:=λJ=>zui m[i] J (hx _ F);unfold zX at A;have t:zbO m[i]=false->(decide (1<=m.length)&&decide (m.length<=4)&&zbk I&&m.all zbO)=false:=λh=>by
   have:m.all zbO=false:=by rw[Bi];exact⟨_,F,by rw[h];decide⟩
   rw[this,De]
  have G:zbO m[i]=true->(m.take (i+1)).all zbO=true:=λh=>by rw[t1,Bc,E];simp[h]
  generalize m[i]=y at*;have hc:y.length<1\/(1<=y.length/\32<y.length)\/(1<=y.length/\y.length<=32/\y.all ze7=false)\/(1<=y.length/\y.length<=32/\y.all ze7=true):=by
   rcases AH y.length 1 with h|h
   ·exact .inl h
   rcases AH 32 y.length with C|C
   ·exact .inr (.inl ⟨h,C⟩)
   cases hb:y.all ze7
   ·exact .inr (.inr (.inl ⟨h,C,rfl⟩))
   ·exact .inr (.inr (.inr ⟨h,C,rfl⟩))
  rcases hc with h|⟨h,C⟩|⟨h,C,r⟩|⟨h,C,r⟩
  ·rw[t (by unfold zbO;rw[decide_eq_false q_o];rfl)];have k1:decide ((y.length:Int)<1)=true:=q_d;repeat' (first|refine s_t ?_|refine q_k 2 ?_;refine zk ?_;refine zb ?_;refine q_v (zl (hr:=g2)) ?_|refine q_k 4 ?_;refine zk ?_;refine zb ?_;refine q_v (zL (j:=i)) ?_;refine q_x (zn (hv:=q)) ?_;refine q_x (zl (hr:=k1)) ?_|refine q_k 5 ?_)
   exact q_r
  ·rw[t (by unfold zbO;rw[decide_eq_true h,decide_eq_false q_o];rfl)];have k1:decide ((y.length:Int)<1)=false:=q_f;have k2:decide ((y.length:Int)>32)=true:=q_d;repeat' (first|refine s_t ?_|refine q_k 2 ?_;refine zk ?_;refine zb ?_;refine q_v (zl (hr:=g2)) ?_|refine q_k 4 ?_;refine zk ?_;refine zb ?_;refine q_v (zL (j:=i)) ?_;refine q_x (zn (hv:=q)) ?_;refine q_x (zl (hr:=k1)) ?_;refine zk ?_;refine zb ?_;refine q_v (zL (j:=i)) ?_;refine q_x (zn (hv:=q)) ?_;refine q_x (zF (hr:=k2)) ?_|refine q_k 5 ?_)
   exact q_r
  ·rw[t (by unfold zbO;rw[r,De])];rw[r] at A;have k1:decide ((y.length:Int)<1)=false:=q_f;have k2:decide ((y.length:Int)>32)=false:=q_f;repeat' (first|refine s_t ?_|refine q_k 2 ?_;refine zk ?_;refine zb ?_;refine q_v (zl (hr:=g2)) ?_|refine q_k 4 ?_;refine zk ?_;refine zb ?_;refine q_v (zL (j:=i)) ?_;refine q_x (zn (hv:=q)) ?_;refine q_x (zl (hr:=k1)) ?_;refine zk ?_;refine zb ?_;refine q_v (zL (j:=i)) ?_;refine q_x (zn (hv:=q)) ?_;refine q_x (zF (hr:=k2)) ?_;refine zk ?_;refine zb ?_;refine q_v (zL (j:=i)) ?_;refine q_v (zn (hv:=q)) ?_;refine q_v (za (hc:=q_c A)) ?_;refine zJ ?_;refine zb ?_|refine q_k 5 ?_)
   exact q_r
  ·have L:=G (by unfold zbO;rw[decide_eq_true h,decide_eq_true C,r];rfl);rw[r] at A;have k1:decide ((y.length:Int)<1)=false:=q_f;have k2:decide ((y.length:Int)>32)=false:=q_f;repeat' (first|refine s_t ?_|refine q_k 2 ?_;refine zk ?_;refine zb ?_;refine q_v (zl (hr:=g2)) ?_|refine q_k 4 ?_;refine zk ?_;refine zb ?_;refine q_v (zL (j:=i)) ?_;refine q_x (zn (hv:=q)) ?_;refine q_x (zl (hr:=k1)) ?_;refine zk ?_;refine zb ?_;refine q_v (zL (j:=i)) ?_;refine q_x (zn (hv:=q)) ?_;refine q_x (zF (hr:=k2)) ?_;refine zk ?_;refine zb ?_;refine q_v (zL (j:=i)) ?_;refine q_v (zn (hv:=q)) ?_;refine q_v (za (hc:=q_c A)) ?_;refine zJ ?_;refine zb ?_|refine q_k 3 ?_;refine q_x (zA (hr:=g5)) ?_)
   refine zy (i+1) ⟨hlt,L⟩ ?_ ?_ ?_
   ·show m.length-(i+1)<m.length-i;omega
   ·exact q_h
   ·exact q_h
 obtain rfl:i=m.length:=q_o;rw[CZ] at E;rw[E,Dp];have g2:decide ((m.length:Int)<(m.length:Int))=false:=q_f;have g6:decide ((m.length:Int)>=1)=decide (1<=m.length):=decide_eq_decide.2 q_o;have g7:decide ((m.length:Int)<=4)=decide (m.length<=4):=decide_eq_decide.2 q_o;generalize zbk I=z,decide (m.length<=4)=y,decide (1<=m.length)=x at*;have hc:x=false\/(x=true/\y=false)\/(x=true/\y=true):=by cases x <;> cases y <;> simp
 rcases hc with rfl|⟨rfl,rfl⟩|⟨rfl,rfl⟩;all_goals repeat' (first|refine s_0 ?_|refine q_k 2 ?_;refine zk ?_;refine zb ?_;refine q_v (zl (hr:=g2)) ?_|refine q_k 6 ?_;refine zk ?_;refine zb ?_;refine q_x (zP (hr:=g6)) ?_;(first|refine zk ?_|skip|fail);(try refine zb ?_);(first|refine q_v (zax (hr:=g7)) ?_|skip|fail);(try refine zb ?_);(first|refine zk ?_|skip|fail);(first|refine q_v (za (hc:=q_c H)) ?_|refine zaf rfl rfl rfl ?_|skip);(try refine zb ?_))
 all_goals exact q_r
theorem zvM(v a b:Int)(w:World):q_G 41 [.int .i64 v,.int .i64 a,.int .i64 b] w (.bool (decide (a<=v)&&decide (v<=b))):=by
 refine zo Tryz.func41 Tryz.ntmps41 ?_;obtain⟨x,g1⟩:∃x,decide (v>=a)=x:=⟨_,rfl⟩;rw[show decide (a<=v)=x from g1];generalize j:decide (v<=b)=y at*;cases x;all_goals repeat' (first|refine s_0 ?_|refine q_k 0 ?_|refine q_k 1 ?_;refine q_x (zP (hr:=g1)) ?_;(first|refine q_v (zax (hr:=j)) ?_|skip|fail);(try refine zb ?_))
 all_goals exact q_r
end Go.Proofs.YtdnlngbjpdbffaaGreatDoor
