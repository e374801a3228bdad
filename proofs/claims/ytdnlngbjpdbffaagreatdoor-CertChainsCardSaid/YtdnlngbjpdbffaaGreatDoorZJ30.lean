/- Lemmas. -/
import Derived.Test.YtdnlngbjpdbffaaGreatDoorZJ28
import Derived.Test.YtdnlngbjpdbffaaGreatDoorZJ29
import Derived.Lib.Bytealg
set_option maxHeartbeats 1000000
set_option maxRecDepth 10000
set_option linter.all false
namespace Go.Proofs.YtdnlngbjpdbffaaGreatDoor
open Sy Ct RowKit
attribute [local irreducible] Sy SyL SyX Sy.Fn callFunc
theorem zca{w:World}{a:Option Addr}{B:List Value}(h:SlA w a B){i:Nat}(m:i<B.length):∃b o,a=some ⟨b,o,none⟩/\∀(j:Nat) (v:Value),B[j]?=some v->w.cell? ⟨b,o+j,none⟩=some v:=by
 rcases h with rfl|⟨b,o,rfl,q⟩
 ·exact absurd m q_p
 ·exact⟨b,o,rfl,q⟩
theorem zcX{α β:Type}(f:α->β){l:List α}{i:Nat}(h:i<l.length):(l.map f)[i]?=some (f l[i]):=by rw[AW,A2 h];rfl
theorem zaE{α:Type}{l:List α}{i:Nat}(h:i<l.length):l.take (i+1)=l.take i++[l[i]]:=BN h
theorem zpk:∀bs:List Bool,bs.all id=!bs.contains false
 | []=>rfl
 |x::l=>by
  have j:=zpk l;cases x
  ·simp
  ·simp only[BV,id,B2,j,List.contains_cons];rfl
theorem zwE(a:Option Addr)(m c:Nat)(bs:List Bool)(u:Bool)(w:World)(hm:bs.length=m)(F:m<1000000)(G:SlA w a (bs.map Value.bool)):
  Sy.Fn Tryz.prog 280 [.slice a m c,.bool u] w No (λv R=>∃z:Int,v= .int .i64 z/\decide (z>=0)=bs.contains u/\R= []):=by
 refine zt Tryz.func280 Tryz.ntmps280 ?_;repeat' first|refine s_t ?_|refine zA [0,1] ?_;refine zb ?_
 refine zL (γ:=Nat) (λi=>[(0,.slice a m c),(1,.bool u),(7,.int .i64 (m:Int)),(8,.int .i64 (i:Int))]) (λ_=>[]) (λi=>i<=m/\(bs.take i).contains u=false) (λi=>m-i) 0 ⟨AA _,rfl⟩ ?_ ?_ ?_
 ·exact q_h
 ·exact q_h
 rintro i ⟨I,q⟩;by_cases hlt:i<m
 ·obtain⟨H,J,rfl,r⟩:=zca G (i:=i) (by rw[A0];omega);have E:=r i _ (zcX Value.bool q_o);have g1:decide ((i:Int)<(m:Int))=true:=q_d;have g5:IntKind.i64.wrap ((i:Int)+1)=((i+1:Nat):Int):=q_w;have B:bs.take (i+1)=bs.take i++[bs[i]]:=zaE q_o;have A:bs[i]∈bs:=AX q_o;generalize bs[i]=x at*;by_cases hx:u=x
  ·have g2:(u==x)=true:=by simp[hx]
   repeat' first|refine s_t ?_|refine zf 2 ?_;refine q_v (zn (hr:=g1)) ?_|refine zA [3,5] ?_;refine zb ?_|refine q_k 4 ?_;refine q_v (zq (j:=i)) ?_;refine q_v (zo (hv:=E)) ?_;refine q_v (zjb (hr:=g2)) ?_
   exact zar rfl (zh rfl) Ev ⟨i,rfl,by rw[decide_eq_true q_o];symm;simp[hx,A],rfl⟩
  ·have g2:(u==x)=false:=by simp[hx]
   repeat' first|refine s_t ?_|refine zf 2 ?_;refine q_v (zn (hr:=g1)) ?_|refine q_k 3 ?_|refine q_k 4 ?_;refine q_v (zq (j:=i)) ?_;refine q_v (zo (hv:=E)) ?_;refine q_v (zjb (hr:=g2)) ?_|refine zf 6 ?_;refine q_x (zD (hr:=g5)) ?_
   refine zC (i+1) ⟨hlt,?_⟩ ?_ ?_ ?_
   ·rw[B];simp only[B6,Ap,AD,decide_eq_false_iff_not] at q ⊢;rintro(h|h)
    ·exact q h
    ·exact hx h
   ·show m-(i+1)<m-i;omega
   ·exact q_h
   ·exact q_h
 obtain rfl:i=m:=q_o;rw[A6 q_o] at q;have g1:decide ((i:Int)<(i:Int))=false:=q_f;repeat' first|refine s_0 ?_|refine zf 2 ?_;refine q_v (zn (hr:=g1)) ?_|refine q_k 7 ?_
 exact zar rfl (zh rfl) Ev ⟨-1,rfl,by rw[q];rfl,rfl⟩
theorem zoi(a:Option Addr)(m c:Nat)(bs:List Bool)(u:Bool)(w:World)(hm:bs.length=m)(j:m<1000000)(B:SlA w a (bs.map Value.bool)):
  q_G 234 [.slice a m c,.bool u] w (.bool (bs.contains u)):=by
 refine zt Tryz.func234 Tryz.ntmps234 ?_;have r:=λq (A:Keep No w q)=>zwE a m c bs u q hm j ((Fi B).to (Mi:=No) A (λ_ h=> .inr h)).sla;repeat' first|refine s_0 ?_|refine q_k 0 ?_|refine q_k 1 ?_;(refine q_s (zi (hc:=zr r)) ?_;rintro _ _ ⟨R,rfl,z,rfl,E,rfl⟩);refine q_x (zO (hr:=E)) ?_
 exact q_r
theorem zwH(b m:Nat)(bs:List Bool)(w:World)(hm:bs.length=m)(j:m<1000000)(B:w.rangeAt b 0 (bs.map Value.bool)):
  q_G 167 [.slice (some ⟨b,0,none⟩) m m] w (.bool (bs.all id)):=by
 refine zt Tryz.func167 Tryz.ntmps167 ?_;have r:=λq (A:Keep No w q)=>zoi (some ⟨b,0,none⟩) m m bs false q hm j ((Fi (w:=w) (.inr ⟨b,0,rfl,B⟩)).to (Mi:=No) A (λ_ h=> .inr h)).sla;rw[zpk];repeat' first|refine s_0 ?_|refine q_k 0 ?_|refine q_k 1 ?_;refine q_v (za (hc:=zr r)) ?_;refine zI ?_;refine zb ?_
 exact q_r
theorem zxI(b m:Nat)(bs:List Bool)(w:World)(hm:bs.length=m)(j:m<1000000)(B:w.rangeAt b 0 (bs.map Value.bool)):
  q_G 216 [.slice (some ⟨b,0,none⟩) m m] w (.bool (bs.all id)):=by
 refine zt Tryz.func216 Tryz.ntmps216 ?_;have r:=λq (A:Keep No w q)=>zoi (some ⟨b,0,none⟩) m m bs false q hm j ((Fi (w:=w) (.inr ⟨b,0,rfl,B⟩)).to (Mi:=No) A (λ_ h=> .inr h)).sla;rw[zpk];repeat' first|refine s_0 ?_|refine q_k 0 ?_|refine q_k 1 ?_;refine q_v (za (hc:=zr r)) ?_;refine zI ?_;refine zb ?_
 exact q_r
theorem zxz(l:List UInt8)(w:World)(H:l.length<1000000000):q_G 169 [zT l] w (.bool (zb6 l)):=by
 refine zt Tryz.func169 Tryz.ntmps169 ?_;unfold zT;have I:((str l).size:Int)=(l.length:Int):=rfl;have E:=λF=>zoL l F;unfold zT at E;repeat' first|refine s_t ?_|refine zA [0,1] ?_;refine zb ?_
 refine zL (γ:=Nat) (λi=>[(0,.string (str l)),(5,.int .i64 (l.length:Int)),(6,.int .i64 (i:Int))]) (λ_=>[]) (λi=>i<=l.length/\(l.take i).all zfT=true) (λi=>l.length-i) 0 ⟨AA _,rfl⟩ ?_ ?_ ?_
 ·exact q_h
 ·exact q_h
 rintro i ⟨G,q⟩;by_cases hlt:i<l.length
 ·have g1:decide ((i:Int)<(l.length:Int))=true:=q_d;have g5:IntKind.i64.wrap ((i:Int)+1)=((i+1:Nat):Int):=q_w;have hv:(str l).data[i]?=some l[i]:=by show l.toArray[i]?=_;rw[BJ,A2 hlt]
  have A:l.take (i+1)=l.take i++[l[i]]:=zaE hlt;have r:l[i]∈l:=AX hlt;generalize l[i]=x at*;have hc:x.toNat<33\/(33<=x.toNat/\126<x.toNat)\/(33<=x.toNat/\x.toNat<=126):=q_o;have m:¬(33<=x.toNat/\x.toNat<=126)->zb6 l=false:=λh=>by
   have:l.all zfT=false:=by
    rw[BW];exact⟨x,r,by simp only[zfT,A8,decide_eq_true_eq];exact h⟩
   simp[zb6,this]
  rcases hc with h|⟨h,B⟩|⟨h,B⟩
  ·rw[m q_o];repeat' first|refine s_t ?_|refine zf 2 ?_;refine q_v (zn (hr:=g1)) ?_|refine zA [3,5] ?_;refine zb ?_|refine q_k 4 ?_;refine q_v (zR (j:=i) (hv:=hv)) ?_;refine zaf ?_;refine zb ?_
   exact q_r
  ·rw[m q_o];repeat' first|refine s_t ?_|refine zf 2 ?_;refine q_v (zn (hr:=g1)) ?_|refine zA [3,5] ?_;refine zb ?_|refine q_k 4 ?_;refine q_v (zR (j:=i) (hv:=hv)) ?_;refine zaf ?_;refine zb ?_;refine q_v (zR (j:=i) (hv:=hv)) ?_;refine q_x zH ?_
   exact q_r
  ·repeat' first|refine s_t ?_|refine zf 2 ?_;refine q_v (zn (hr:=g1)) ?_|refine q_k 3 ?_|refine q_k 4 ?_;refine q_v (zR (j:=i) (hv:=hv)) ?_;refine zaf ?_;refine zb ?_;refine q_v (zR (j:=i) (hv:=hv)) ?_;refine q_x zH ?_|refine zf 6 ?_;refine q_x (zD (hr:=g5)) ?_
   refine zC (i+1) ⟨hlt,?_⟩ ?_ ?_ ?_
   ·rw[A,BQ,q];simp only[BV,Dt,zfT,decide_eq_true h,decide_eq_true B,B2]
   ·show l.length-(i+1)<l.length-i;omega
   ·exact q_h
   ·exact q_h
 obtain rfl:i=l.length:=q_o;rw[A6 (A7 _)] at q;have g1:decide ((l.length:Int)<(l.length:Int))=false:=q_f;repeat' first|refine s_0 ?_|refine zf 2 ?_;refine q_v (zn (hr:=g1)) ?_|refine q_k 7 ?_;refine q_v (za (hc:=q_c E)) ?_;refine zb ?_
 exact zar rfl (zh rfl) Ev ⟨by simp[zb6,q],rfl⟩
theorem ztB(a1 a2:Option Addr)(m I H J:Nat)(q r:List (List UInt8))(w:World)(h1:q.length=m)(h2:r.length=H)(hb:m<1000000)(s1:SlA w a1 (q.map zT))(s2:SlA w a2 (r.map zT)):
  q_G 165 [.slice a1 m I,.slice a2 H J] w (.bool (q==r)):=by
 refine zt Tryz.func165 Tryz.ntmps165 ?_;by_cases hn:¬m=H
 ·have g1:decide ((m:Int)≠(H:Int))=true:=q_d;have e:(q==r)=false:=by
   rw[beq_eq_false_iff_ne];intro e;exact hn (by rw[<-h1,<-h2,e])
  rw[e];repeat' first|refine s_0 ?_|refine zA [0,2] ?_;refine zb ?_|refine q_k 1 ?_;refine q_v (zad (hr:=g1)) ?_
  exact q_r
 have g1:decide ((m:Int)≠(H:Int))=false:=q_f;repeat' first|refine s_t ?_|refine zA [0,3] ?_;refine zb ?_|refine q_k 1 ?_;refine q_v (zad (hr:=g1)) ?_
 refine zL (γ:=Nat) (λi=>[(0,.slice a1 m I),(1,.slice a2 H J),(12,.int .i64 (m:Int)),(13,.int .i64 (i:Int))]) (λ_=>[]) (λi=>i<=m/\q.take i=r.take i) (λi=>m-i) 0 ⟨AA _,rfl⟩ ?_ ?_ ?_
 ·exact q_h
 ·exact q_h
 rintro i ⟨M,G⟩;by_cases hlt:i<m
 ·obtain⟨K,N,rfl,A⟩:=zca s1 (i:=i) (by rw[A0];omega);obtain⟨L,O,rfl,B⟩:=zca s2 (i:=i) (by rw[A0];omega);have E:=A i _ (zcX zT q_o);have F:=B i _ (zcX zT q_o);unfold zT at E F;have g2:decide ((i:Int)<(m:Int))=true:=q_d;have g5:IntKind.i64.wrap ((i:Int)+1)=((i+1:Nat):Int):=q_w;have t1:q.take (i+1)=q.take i++[q[i]]:=zaE q_o;have t2:r.take (i+1)=r.take i++[r[i]]:=zaE q_o;by_cases hx:q[i]=r[i]
  ·have g3:decide (q[i]≠r[i])=false:=decide_eq_false (λh=>h hx);repeat' first|refine s_t ?_|refine zf 4 ?_;refine q_v (zn (hr:=g2)) ?_|refine q_k 5 ?_|refine zai (id:=6) 8 [[],[],[0,1],[0,1,2],[],[],[4,5],[4,5,6],[0,1,2,3,4,5,6,7]] mixed ?_ ?_;kernel_rfl;refine zB ?_;refine zB ?_;refine q_D (zq (j:=i)) ?_;refine q_D (zo (hv:=E)) ?_;refine zB ?_;refine zB ?_;refine q_D (zq (j:=i)) ?_;refine q_D (zo (hv:=F)) ?_;refine zaF ?_;refine q_v (zco (hr:=g3)) ?_|refine zf 8 ?_;refine q_x (zD (hr:=g5)) ?_
   refine zC (i+1) ⟨hlt,by rw[t1,t2,G,hx]⟩ ?_ ?_ ?_
   ·show m-(i+1)<m-i;omega
   ·exact q_h
   ·exact q_h
  ·have g3:decide (q[i]≠r[i])=true:=decide_eq_true hx;have e:(q==r)=false:=by
    rw[beq_eq_false_iff_ne];intro e;subst e;exact hx rfl
   rw[e];repeat' first|refine s_t ?_|refine zf 4 ?_;refine q_v (zn (hr:=g2)) ?_|refine zA [5,7] ?_;refine zb ?_|refine zai (id:=6) 8 [[],[],[0,1],[0,1,2],[],[],[4,5],[4,5,6],[0,1,2,3,4,5,6,7]] mixed ?_ ?_;kernel_rfl;refine zB ?_;refine zB ?_;refine q_D (zq (j:=i)) ?_;refine q_D (zo (hv:=E)) ?_;refine zB ?_;refine zB ?_;refine q_D (zq (j:=i)) ?_;refine q_D (zo (hv:=F)) ?_;refine zaF ?_;refine q_v (zco (hr:=g3)) ?_|fail
   exact q_r
 obtain rfl:i=m:=q_o;have e:(q==r)=true:=by
  rw[beq_iff_eq];rw[A6 q_o,A6 q_o] at G;exact G
 rw[e];have g2:decide ((i:Int)<(i:Int))=false:=q_f;repeat' first|refine s_0 ?_|refine zf 4 ?_;refine q_v (zn (hr:=g2)) ?_|refine q_k 9 ?_
 exact q_r
theorem ziX(C1 C2:List Value)(p q:Prin)(w:World)(h1:PrinIn w C1 p)(h2:PrinIn w C2 q)(hb:p.parts.length<1000000):q_G 73 [.agg C1.toArray,.agg C2.toArray] w (.bool (p.same q)):=by
 obtain⟨⟨a1,r,rfl,G,E,s1,I⟩,-⟩:=h1;obtain⟨⟨a2,A,rfl,H,F,s2,J⟩,-⟩:=h2;refine zt Tryz.func73 Tryz.ntmps73 ?_;unfold zT Prin.same;have B:=λm (j:Keep No w m)=>ztB a1 a2 p.parts.length r q.parts.length A p.parts q.parts m rfl rfl hb ((Fi s1).to (Mi:=No) j (λ_ h=> .inr h)).sla ((Fi s2).to (Mi:=No) j (λ_ h=> .inr h)).sla;by_cases hr:p.realm=q.realm
 ·have g:decide (p.realm=q.realm)=true:=decide_eq_true hr;have e:(p.realm==q.realm)=true:=beq_iff_eq.2 hr;rw[e,B2];repeat' first|refine s_0 ?_|refine zf 0 ?_;refine zk λ_=>?_;refine z9 λ_=>?_|refine q_k 1 ?_;refine zm ?_;refine zb ?_;refine zm ?_;refine q_x (zbJ (hr:=g)) ?_;refine zm ?_;refine zb ?_;refine zm ?_;refine q_v (za (hc:=zr B)) ?_;refine zb ?_
  exact q_r
 ·have g:decide (p.realm=q.realm)=false:=decide_eq_false hr;have e:(p.realm==q.realm)=false:=beq_eq_false_iff_ne.2 hr;rw[e,BX];repeat' first|refine s_0 ?_|refine zf 0 ?_;refine zk λ_=>?_;refine z9 λ_=>?_|refine q_k 1 ?_;refine zm ?_;refine zb ?_;refine zm ?_;refine q_x (zbJ (hr:=g)) ?_
  exact q_r
theorem zpL(a0:Option Addr)(n c:Nat)(l:List (List UInt8))(w:World)(hn:l.length=n)(hb:n<1000000)(j:SlA w a0 (l.map zT))(hc:n<=c)(hnil:a0=none->c=0):
  Sy.Fn Tryz.prog 166 [.slice a0 n c] w No (zbK 9 n (l.map zT)):=by
 refine zt Tryz.func166 Tryz.ntmps166 ?_;cases a0 with
 |none=>
  obtain rfl:=hnil rfl;obtain rfl:n=0:=q_o;obtain rfl:l= []:=Av.1 hn;repeat' first|refine s_0 ?_|refine zA [0,2] ?_;refine zb ?_|refine q_k 1 ?_;refine zaH ?_
  exact zcp (zaT 9 1) (zar rfl (zh rfl) q_h ⟨_,_,rfl,rfl⟩)
 |some ad=>
  repeat' first|refine s_0 ?_|refine q_k 0 ?_|refine q_k 1 ?_;refine zaH ?_|refine zf 3 ?_;(refine q_s zfH ?_;rintro _ _ ⟨_,rfl,rfl⟩);refine zb ?_;(refine q_s zb9 ?_;rintro _ _ ⟨rfl,_,_,rfl⟩);refine zb ?_
  exact q_r
theorem zoo(C:List Value)(p:Prin)(w:World)(h:PrinIn w C p)(hb:p.parts.length<1000000):Sy.Fn Tryz.prog 75 [.agg C.toArray] w No (λv R=>∃a c,v= .agg #[.slice a p.parts.length c,zT p.realm]/\R= [.row (.slice a p.parts.length c) 9 1 p.parts.length (p.parts.map zT)]):=by
 obtain⟨⟨a1,A,rfl,F,H,s1,G⟩,-⟩:=h;refine zt Tryz.func75 Tryz.ntmps75 ?_;have q:=λr (E:Keep No w r)=>zpL a1 p.parts.length A p.parts r rfl hb ((Fi s1).to (Mi:=No) E (λ_ h=> .inr h)).sla F G;unfold zbK at q;repeat' first|refine s_0 ?_|refine zf 0 ?_;refine zk λ_=>?_;refine zk λ_=>?_|refine q_k 1 ?_;refine zm ?_;(refine q_s (zi (hc:=zr q)) ?_;rintro _ _ ⟨R,rfl,j,m,rfl,rfl⟩);refine zb ?_;refine zP ?_|refine zf 2 ?_;refine zm ?_;refine zP ?_
 exact zar rfl (zE (B:=[.slice j p.parts.length m,zT p.realm]) rfl (ty rfl) rfl Ey Ex rfl) q_h ⟨j,m,rfl,rfl⟩
def zaR:List UInt8->List (List UInt8)
 | []=>[[]]
 |c::r=>if c=46 then []::zaR r else match zaR r with
  | []=>[[c]]
  |l::ls=>(c::l)::ls
theorem zfZ:∀l:List UInt8,(∀c∈l,c≠46)->zaR l= [l]
 | [],_=>rfl
 |c::l,h=>by
  rw[zaR,if_neg (h c A3),zfZ l (λx j=>h x (A1 _ j))]
theorem zgw:∀(l r:List UInt8),(∀c∈l,c≠46)->zaR (l++46::r)=l::zaR r
 | [],r,_=>by rw[Ag,zaR,if_pos rfl]
 |c::l,r,h=>by
  rw[Ae,zaR,if_neg (h c A3),zgw l r (λx j=>h x (A1 _ j))]
theorem zf4:∀s:List UInt8,(∀c∈s,c≠46)\/∃l r,s=l++46::r/\∀c∈l,c≠46
 | []=> .inl (λc q=>by cases q)
 |c::s=>by
  by_cases h:c=46
  ·exact .inr ⟨[],s,by rw[h];rfl,λc q=>by cases q⟩
  ·rcases zf4 s with m|⟨l,r,rfl,m⟩
   ·refine .inl (λx j=>?_);rcases AV.1 j with rfl|j
    ·exact h
    ·exact m x j
   ·refine .inr ⟨c::l,r,rfl,λx j=>?_⟩;rcases AV.1 j with rfl|j
    ·exact h
    ·exact m x j
theorem zkm(l:List UInt8)(a b:Nat):(Sy.str l).extract a b=Sy.str ((l.drop a).take (b-a)):=by
 apply ByteArray.ext;rw[ByteArray.data_extract];show l.toArray.extract a b=_;rw[List.extract_toArray];rfl
def zfu(l:List UInt8):Bool:=!l.isEmpty&&l.all zcL
theorem zkf:∀(n:Nat) (s:List UInt8),s.length<=n->zcE true s=(zaR s).all zfu
 |n,s,hn=>by
  rcases zf4 s with h|⟨l,r,rfl,h⟩
  ·rw[zrz s h,zfZ s h];simp[zfu]
  ·cases n with
   |zero=>simp at hn
   |succ n=>
    rw[ztE l r h,zgw l r h,BV,zkf n r (by simp at hn;omega)];rfl
theorem zlc:∀(n:Nat) (s:List UInt8),s.length<=n->∀x∈zaR s,x.length<=s.length
 |n,s,hn,x,j=>by
  rcases zf4 s with h|⟨l,r,rfl,h⟩
  ·rw[zfZ s h,AD] at j;rw[j];exact A7 _
  ·cases n with
   |zero=>simp at hn
   |succ n=>
    rw[zgw l r h] at j;rw[A4,AQ];rcases AV.1 j with rfl|j
    ·omega
    ·have:=zlc n r (by simp at hn;omega) x j;omega
theorem zln:∀l:List UInt8,(∀c∈l,c≠46)->Lib.indexByte l 46= -1
 | [],_=>rfl
 |c::l,h=>by
  have j:(c==46)=false:=beq_eq_false_iff_ne.2 (h c A3);rw[Lib.indexByte,j,zln l (λx m=>h x (A1 _ m))];rfl
theorem zmT:∀(l r:List UInt8),(∀c∈l,c≠46)->Lib.indexByte (l++46::r) 46=(l.length:Int)
 | [],r,_=>rfl
 |c::l,r,h=>by
  have j:(c==46)=false:=beq_eq_false_iff_ne.2 (h c A3);have m:=zmT l r (λx w=>h x (A1 _ w));have q:(((l.length:Int)) == -1)=false:=beq_eq_false_iff_ne.2 q_o;rw[Ae,Lib.indexByte,j,m,q];simp
theorem zri(l:List UInt8)(w:World):(callFunc 338 [Value.string (str l),.int .u8 46].toArray).run Tryz.prog w= .ok (.value (.int .i64 (Lib.indexByte l 46))) w:=by
 show(callFunc 338 #[.string (str l),.int .u8 46]).run Tryz.prog w=_;rw[run_callFunc_extern Tryz.func338 (by kernel_rfl) (by kernel_rfl) (by kernel_rfl) (e:=Extern.BytealgIndexByte.indexByte) (by kernel_rfl),Lib.run_indexByteString];rfl
theorem zy8(l:List UInt8)(w:World):q_G 334 [.string (str l),.int .u8 46] w (.int .i64 (Lib.indexByte l 46)):=by
 refine zt Tryz.func334 Tryz.ntmps334 ?_;have h:=λj=>zri l j;repeat' first|refine s_0 ?_|refine q_k 0 ?_|refine q_k 1 ?_;refine q_x (zdA (hr:=h)) ?_
 exact q_r
theorem zzk(l:List UInt8)(w:World):q_G 325 [.string (str l),.string (str [46])] w (.int .i64 (Lib.indexByte l 46)):=by
 refine zt Tryz.func325 Tryz.ntmps325 ?_;have h:=λm=>zy8 l m;have q:((str [46]).size:Int)=1:=rfl;by_cases hl: [46]=l
 ·subst hl;repeat' first|refine s_t ?_|refine zA [0,1,3] ?_;refine zb ?_|refine q_k 2 ?_;refine zaH ?_;refine zb ?_;refine q_x (zbJ (hr:=decide_eq_true rfl)) ?_
  exact q_r
 ·have g:=decide_eq_false hl;repeat' first|refine s_t ?_|refine zA [0,1] ?_;refine zb ?_|refine q_k 2 ?_;refine zaH ?_;refine zb ?_;refine q_x (zbJ (hr:=g)) ?_|refine q_k 4 ?_;refine zaH ?_;refine zb ?_|refine q_k 5 ?_;refine q_v (zR (j:=0) (u:=46) (hv:=rfl)) ?_;refine q_v (za (hc:=q_c h)) ?_;refine zb ?_
  exact q_r
theorem zxD(l:List UInt8)(w:World):q_G 315 [.string (str l),.string (str [46])] w (.int .i64 (Lib.indexByte l 46)):=by
 refine zt Tryz.func315 Tryz.ntmps315 ?_;repeat' first|refine s_0 ?_|refine q_k 0 ?_|refine q_k 1 ?_;refine q_v (za (hc:=λ_ _ _ _=>(zzk l _))) ?_;refine zb ?_
 exact q_r
def zlH(l:List UInt8)(v:Value)(R:List Res):Prop:=∃b3 b4 b5,v= .func (.func 313) #[] #[.pointer (some ⟨b4,0,none⟩),.pointer (some ⟨b3,0,none⟩),.pointer (some ⟨b5,0,none⟩)]/\R= [.blk b4 9 [.string (str [46])],.blk b3 9 [.string (str l)],.blk b5 3 [.int .i64 0]]
theorem zu3(l:List UInt8)(w:World):Sy.Fn Tryz.prog 281 [.string (str l),.string (str [46]),.int .i64 0] w No (zlH l):=by
 refine zt Tryz.func281 Tryz.ntmps281 ?_;repeat' first|refine s_0 ?_|refine zf 0 ?_;refine zk λ_=>?_;refine zk λ_=>?_;refine z9 λ_=>?_|refine zf 1 ?_;refine q_x zab ?_
 exact zar rfl (zh rfl) q_h ⟨_,_,_,rfl,rfl⟩
theorem zpJ(l:List UInt8)(w:World):Sy.Fn Tryz.prog 236 [.string (str l),.string (str [46])] w No (zlH l):=by
 refine zt Tryz.func236 Tryz.ntmps236 ?_;have h:=λj=>zu3 l j;unfold zlH at*;repeat' first|refine s_0 ?_|refine q_k 0 ?_|refine q_k 1 ?_;(refine q_s (zi (hc:=λj X B A=>h j)) ?_;rintro _ _ ⟨R,rfl,m,q,r,rfl,rfl⟩);refine zb ?_
 exact zar rfl (zh rfl) q_h ⟨_,_,_,rfl,rfl⟩
def zzV(_:Nat->Prop)(x:List UInt8)(vs:List Value)(RA:List Res)(_:World):Prop:=vs= [.string (str x)]/\RA= []
theorem zsA(H I K:Nat)(s:List UInt8)(w:World)(M:Nat->Prop)(hs:s.length<1000000000):
  zrZ False Tryz.prog 313 [.pointer (some ⟨I,0,none⟩),.pointer (some ⟨H,0,none⟩),.pointer (some ⟨K,0,none⟩)] (zaR s) zzV w M [.blk I 9 [.string (str [46])],.blk H 9 [.string (str s)],.blk K 3 [.int .i64 0]] []:=by
 intro lp J Jx j0 _ O hh W;refine zaX Tryz.func313 rfl Tryz.ntmps313 q_p hh ?_;have Q:=λl V=>zxD l V;have a6:((str [46]).size:Int)=1:=rfl;repeat' first|refine s_t ?_|refine zf 0 ?_;refine zm ?_;refine zb ?_;refine zaH ?_
 refine zL (γ:=List UInt8×Nat×Res) (λg=>[(0,.func (.yield lp) #[] #[]),(1,.pointer (some ⟨I,0,none⟩)),(2,.pointer (some ⟨H,0,none⟩)),(3,.pointer (some ⟨K,0,none⟩))]) (λg=>[g.2.2,.blk I 9 [.string (str [46])],.blk H 9 [.string (str g.1)],.blk K 3 [.int .i64 0]])
  (λg=>(zaR s).drop g.2.1=zaR g.1/\J g.2.1 g.2.2/\g.1.length<=s.length) (λg=>g.1.length) (s,0,j0) ⟨BL,O,A7 _⟩ ?_ ?_ ?_
 ·exact q_h
 ·exact q_h
 rintro⟨r,k,j⟩ ⟨q,N,E⟩;dsimp only at q N E ⊢;have L:=Q r;rcases zf4 r with h|⟨l,m,rfl,h⟩
 ·rw[zln r h] at L;rw[zfZ r h] at q;have A:k<(zaR s).length:=by
   rcases AG k (zaR s).length with h|h
   ·exact h
   ·rw[Ba h] at q;cases q
  have U:(zaR s)[k]=r:=by rw[BS A] at q;exact(E6 q).1
  have B:(zaR s).length=k+1:=by have:=congrArg List.length q;rw[As] at this;simp at this;omega
  repeat' first|refine s_t ?_|refine zf 5 ?_;refine zm ?_;refine zm ?_;refine q_v (za (hc:=q_c L)) ?_;refine zb ?_|refine q_k 6 ?_;refine zaf ?_|refine q_k 10 ?_;refine zm ?_
  refine q_s (zdK W A N (hL:=F0 (by exact Eu) rfl F2) (harg:=λV X q P=>⟨by rw[U],rfl⟩)) ?_;rintro _ _ ⟨y,G,rfl,rfl,F⟩;cases y
  ·repeat' first|refine zap ?_|fail
   exact zft rfl q_h ⟨G,rfl,.inr ⟨k+1,by omega,F⟩⟩
  ·repeat' first|refine zap ?_|fail
   exact zft rfl q_h ⟨G,rfl,.inl (by rw[B];exact F)⟩
 ·rw[zmT l m h] at L;rw[zgw l m h] at q;have A:k<(zaR s).length:=by
   rcases AG k (zaR s).length with h|h
   ·exact h
   ·rw[Ba h] at q;cases q
  have U:(zaR s)[k]=l:=by rw[BS A] at q;exact(E6 q).1
  have R:(zaR s).drop (k+1)=zaR m:=by rw[BS A] at q;exact(E6 q).2
  have Y:l.length+1+m.length<=s.length:=by rw[A4,AQ] at E;omega
  have g0:decide ((l.length:Int)<0)=false:=q_f;have g1:IntKind.i64.wrap ((l.length:Int)+0)=((l.length:Nat):Int):=q_w;have g2:IntKind.i64.wrap ((l.length:Int)+1)=((l.length+1:Nat):Int):=q_w;have T:(str (l++46::m)).size=l.length+1+m.length:=by rw[zky];simp;omega
  have Z:(str (l++46::m)).extract 0 l.length=str l:=by
   rw[zkm,BL,CD,Dj];rfl
  have e2:(str (l++46::m)).extract (l.length+1) (l.length+1+m.length)=str m:=by
   rw[zkm,show l++46::m=(l++[46])++m by simp,EU q_p,Bk,A6 (A7 _)]
  generalize str (l++46::m)=S at*;repeat' first|refine s_t ?_|refine zf 5 ?_;refine zm ?_;refine zm ?_;refine q_v (za (hc:=q_c L)) ?_;refine zb ?_|refine q_k 6 ?_;refine q_v (zn (hr:=g0)) ?_|refine zf 7 ?_;refine zm ?_;refine zb ?_;refine zm ?_;refine q_v (zD (hr:=g1)) ?_;refine q_x (zeA (l:=0) (h:=l.length) (h2:=by omega)) ?_|refine q_k 8 ?_
  rw[Z];refine q_s (zdK W A N (hL:=F0 (by exact Eu) rfl F2) (harg:=λV X q P=>⟨by rw[U],rfl⟩)) ?_;rintro _ _ ⟨y,G,rfl,rfl,F⟩;cases y
  ·repeat' first|refine s_0 ?_|(refine zx ?_;first|refine zI ?_|fail)|fail
   exact zmr rfl q_h ⟨G,rfl,.inr ⟨k+1,by omega,F⟩⟩
  ·repeat' first|refine s_0 ?_|refine zf 9 ?_;refine zm ?_;refine zb ?_;refine zm ?_;refine zb ?_;refine q_v (zD (hr:=g2)) ?_;refine q_v (zeA (l:=l.length+1) (h:=l.length+1+m.length) (hh:=by rw[<-T];exact zbN) (h2:=by omega)) ?_;refine zP ?_|(refine zx ?_;first|refine zI ?_|fail)|fail
   rw[e2];refine zC (m,k+1,G) ⟨R,F,by dsimp only;omega⟩ ?_ ?_ ?_
   ·show m.length<(l++46::m).length;simp;omega
   ·exact q_h
   ·exact q_h
attribute [local irreducible] zaR
theorem zrB(c:UInt8):(65<=c.toNat/\c.toNat<=90/\zcL c=true)\/(c.toNat<65/\48<=c.toNat/\c.toNat<=57/\zcL c=true)\/(c.toNat=45/\zcL c=true)\/(c.toNat<48/\c.toNat≠45/\zcL c=false)\/(57<c.toNat/\c.toNat<65/\zcL c=false)\/(90<c.toNat/\zcL c=false):=by
 have h:(65<=c.toNat/\c.toNat<=90)\/(c.toNat<65/\48<=c.toNat/\c.toNat<=57)\/(c.toNat=45)\/(c.toNat<48/\c.toNat≠45)\/(57<c.toNat/\c.toNat<65)\/(90<c.toNat):=q_o;have j:((65<=c.toNat/\c.toNat<=90)\/(48<=c.toNat/\c.toNat<=57))\/c.toNat=45->zcL c=true:=λh=>by
  simp only[zcL,Be,A8,decide_eq_true_eq];exact h
 have no:¬(((65<=c.toNat/\c.toNat<=90)\/(48<=c.toNat/\c.toNat<=57))\/c.toNat=45)->zcL c=false:=λh=>by
  rw[Co];intro m;apply h;simpa only[zcL,Be,A8,decide_eq_true_eq] using m
 rcases h with h|h|h|h|h|h
 ·exact .inl ⟨h.1,h.2,j (.inl (.inl h))⟩
 ·exact .inr (.inl ⟨h.1,h.2.1,h.2.2,j (.inl (.inr h.2))⟩)
 ·exact .inr (.inr (.inl ⟨h,j (.inr h)⟩))
 ·exact .inr (.inr (.inr (.inl ⟨h.1,h.2,no q_o⟩)))
 ·exact .inr (.inr (.inr (.inr (.inl ⟨h.1,h.2,no q_o⟩))))
 ·exact .inr (.inr (.inr (.inr (.inr ⟨h,no q_o⟩))))
theorem zuM(l:List UInt8)(w:World)(hl:l.length<1000000000):q_G 168 [zT l] w (.bool (zbD l)):=by
 refine zt Tryz.func168 Tryz.ntmps168 ?_;have hz:=λB=>zoL l B;have V:=λB=>zpJ l B;unfold zT zlH at*;have U:zbD l=((decide (1<=l.length)&&decide (l.length<=32))&&(zaR l).all zfu):=by rw[zbD,zkf l.length l (A7 _)]
 rw[U];generalize (decide (1<=l.length)&&decide (l.length<=32))=s at*;cases s
 ·rw[BX];repeat' first|refine s_0 ?_|refine zf 0 ?_;refine zk λ_=>?_|refine q_k 1 ?_;refine q_v (za (hc:=q_c hz)) ?_;refine zI ?_|refine zf 2 ?_;refine zP ?_
  exact zar rfl (zdD rfl (ty rfl) rfl Ey rfl) Ev ⟨rfl,rfl⟩
 rw[B2];repeat' first|refine s_t ?_|refine zf 0 ?_;refine zk λ_=>?_|refine q_k 1 ?_;refine q_v (za (hc:=q_c hz)) ?_;refine zI ?_|refine q_k 3 ?_;(refine q_s (zi (hc:=λB X L hh=>V B)) ?_;rintro _ _ ⟨R,rfl,b3,b4,b5,rfl,rfl⟩)
 rename_i P;refine zmC False (γ:=Unit) (xs:=zaR l) (Arg:=zzV) zde rfl (en rfl) rfl (λk _=>((zaR l).take k).all zfu=true) (λc _ _=>c= .ret/\(zaR l).all zfu=false)
  (λ_=>[.blk P 4 [.bool false]]) [.blk b4 9 [.string (str [46])],.blk b3 9 [.string (str l)],.blk b5 3 [.int .i64 0]] [] [] () rfl ?_ ?_ (λh=>h.elim) ?_ ?_ ?_ ?_
 ·exact Aj (l₁:=[_,_,_]) (l₂:=[_])
 ·exact λB Mi X L hm _ _=>zsA b3 b4 b5 l B Mi hl
 ·rintro O x vs RA B ⟨rfl,_⟩;rfl
 ·rintro lp k L ⟨⟩ vs RA W rec a7 N ⟨rfl,rfl⟩ a8 F;clear F;have K:(zaR l)[k]∈zaR l:=AX L;have Y:(zaR l).take (k+1)=(zaR l).take k++[(zaR l)[k]]:=zaE L;have m:zfu (zaR l)[k]=false->(zaR l).all zfu=false:=λh=>by
   rw[BW];exact⟨_,K,by rw[h];decide⟩
  have q:zfu (zaR l)[k]=true->((zaR l).take (k+1)).all zfu=true:=λh=>by
   rw[Y,BQ,N];simp[h]
  have a6:=zlc l.length l (A7 _) _ K;generalize (zaR l)[k]=x at*;by_cases hx:x= []
  ·subst hx;have hb:=m rfl;repeat' first|refine s_t ?_|apply zcR;(focus ((repeat (first|exact Eu|apply Ew));done));assumption|refine q_k 4 ?_|refine q_k 5 ?_;refine q_v (zbJ (hr:=decide_eq_true rfl)) ?_|refine zf 6 ?_;refine zP ?_
   exact zfY () ⟨rfl,hb⟩ q_h
  have g0:=decide_eq_false hx;have T:zfu x=x.all zcL:=by
   cases x with
   |nil=>exact absurd rfl hx
   |cons c x=>simp[zfu]
  rw[T] at m q;have hs:((str x).size:Int)=(x.length:Int):=rfl;repeat' first|refine s_t ?_|apply zcR;(focus ((repeat (first|exact Eu|apply Ew));done));assumption|refine zA [4,7] ?_;refine zb ?_|refine q_k 5 ?_;refine q_v (zbJ (hr:=g0)) ?_
  refine zL (γ:=Nat) (λi=>[(2,.pointer (some ⟨P,0,none⟩)),(3,.string (str x)),(15,.int .i64 (x.length:Int)),(16,.int .i64 (i:Int))]) (λ_=>[.obj lp (.loop (busy rec)),.blk P 4 [.bool false]]) (λi=>i<=x.length/\(x.take i).all zcL=true) (λi=>x.length-i) 0 ⟨AA _,rfl⟩ ?_ ?_ ?_
  ·exact q_h
  ·exact q_h
  rintro i ⟨hi,E⟩;by_cases hlt:i<x.length
  ·have g1:decide ((i:Int)<(x.length:Int))=true:=q_d;have g5:IntKind.i64.wrap ((i:Int)+1)=((i+1:Nat):Int):=q_w;have hv:(str x).data[i]?=some x[i]:=by show x.toArray[i]?=_;rw[BJ,A2 hlt]
   have Z:x.take (i+1)=x.take i++[x[i]]:=zaE hlt;have S:x[i]∈x:=AX hlt;have G:zcL x[i]=false->x.all zcL=false:=λh=>by
    rw[BW];exact⟨_,S,by rw[h];decide⟩
   have I:zcL x[i]=true->(x.take (i+1)).all zcL=true:=λh=>by
    rw[Z,BQ,E];simp[h]
   have A:=zrB x[i];generalize x[i]=c at*;rcases A with ⟨J,Q,r⟩|⟨J,Q,r,h4⟩|⟨J,r⟩|⟨J,Q,r⟩|⟨J,Q,r⟩|⟨J,r⟩
   ·have H:=I r;repeat' first|refine s_t ?_|refine zf 8 ?_;refine q_v (zn (hr:=g1)) ?_|refine q_k 9 ?_|refine q_k 10 ?_;refine q_x (zR (j:=i) (hv:=hv)) ?_|refine q_k 11 ?_;refine zaf ?_;refine zb ?_;refine q_x zH ?_|refine zf 13 ?_;refine q_x (zD (hr:=g5)) ?_
    refine zC (i+1) ⟨hlt,H⟩ ?_ ?_ ?_
    ·show x.length-(i+1)<x.length-i;omega
    ·exact q_h
    ·exact q_h
   ·have H:=I h4;repeat' first|refine s_t ?_|refine zf 8 ?_;refine q_v (zn (hr:=g1)) ?_|refine q_k 9 ?_|refine q_k 10 ?_;refine q_x (zR (j:=i) (hv:=hv)) ?_|refine q_k 11 ?_;refine zaf ?_;refine zb ?_;refine zaf ?_;refine zb ?_;refine q_x zH ?_|refine zf 13 ?_;refine q_x (zD (hr:=g5)) ?_
    refine zC (i+1) ⟨hlt,H⟩ ?_ ?_ ?_
    ·show x.length-(i+1)<x.length-i;omega
    ·exact q_h
    ·exact q_h
   ·have H:=I r;repeat' first|refine s_t ?_|refine zf 8 ?_;refine q_v (zn (hr:=g1)) ?_|refine q_k 9 ?_|refine q_k 10 ?_;refine q_x (zR (j:=i) (hv:=hv)) ?_|refine q_k 11 ?_;refine zaf ?_;refine zb ?_;refine zaf ?_;refine zb ?_;refine zaJ ?_;refine zb ?_|refine zf 13 ?_;refine q_x (zD (hr:=g5)) ?_
    refine zC (i+1) ⟨hlt,H⟩ ?_ ?_ ?_
    ·show x.length-(i+1)<x.length-i;omega
    ·exact q_h
    ·exact q_h
   ·have M:=m (G r);repeat' first|refine s_t ?_|refine zf 8 ?_;refine q_v (zn (hr:=g1)) ?_|refine q_k 9 ?_|refine q_k 10 ?_;refine q_x (zR (j:=i) (hv:=hv)) ?_|refine q_k 11 ?_;refine zaf ?_;refine zb ?_;refine zaf ?_;refine zb ?_;refine zaJ ?_;refine zb ?_|refine zf 12 ?_;refine zP ?_
    exact zfY () ⟨rfl,M⟩ q_h
   ·have M:=m (G r);repeat' first|refine s_t ?_|refine zf 8 ?_;refine q_v (zn (hr:=g1)) ?_|refine q_k 9 ?_|refine q_k 10 ?_;refine q_x (zR (j:=i) (hv:=hv)) ?_|refine q_k 11 ?_;refine zaf ?_;refine zb ?_;refine zaf ?_;refine zb ?_;refine q_x zH ?_;refine zaJ ?_;refine zb ?_|refine zf 12 ?_;refine zP ?_
    exact zfY () ⟨rfl,M⟩ q_h
   ·have M:=m (G r);repeat' first|refine s_t ?_|refine zf 8 ?_;refine q_v (zn (hr:=g1)) ?_|refine q_k 9 ?_|refine q_k 10 ?_;refine q_x (zR (j:=i) (hv:=hv)) ?_|refine q_k 11 ?_;refine zaf ?_;refine zb ?_;refine q_x zH ?_;refine zaf ?_;refine zb ?_;refine q_x zH ?_;refine zaJ ?_;refine zb ?_|refine zf 12 ?_;refine zP ?_
    exact zfY () ⟨rfl,M⟩ q_h
  obtain rfl:i=x.length:=q_o;rw[A6 (A7 _)] at E;have H:=q E;have g1:decide ((x.length:Int)<(x.length:Int))=false:=q_f;repeat' first|refine s_0 ?_|refine zf 8 ?_;refine q_v (zn (hr:=g1)) ?_
  exact zgE () H q_h
 ·rintro⟨⟩ N;rw[A6 (A7 _)] at N;rw[N];repeat' first|refine s_0 ?_|refine zf 14 ?_;refine zP ?_
  exact zar rfl (zdD rfl (ty rfl) rfl Ey rfl) Ev ⟨rfl,rfl⟩
 ·rintro c k ⟨⟩ L ⟨rfl,m⟩;rw[m];repeat' first|refine s_0 ?_|fail
  exact zar rfl (zdD rfl (ty rfl) rfl Ey rfl) Ev ⟨rfl,rfl⟩
theorem zgm(C:List Value)(p:Prin)(w:World)(h:PrinIn w C p)(hb:p.parts.length<1000000)(hr:p.realm.length<1000000000)(hp:∀x∈p.parts,x.length<1000000000):q_G 76 [.agg C.toArray] w (.bool p.ok):=by
 obtain⟨⟨a1,L,rfl,V,U,s1,z1⟩,-⟩:=h;refine zt Tryz.func76 Tryz.ntmps76 ?_;have I:=λm=>zuM p.realm m hr;have G:p.ok=([decide (1<=p.parts.length),decide (p.parts.length<=4),zbD p.realm].all id&&p.parts.all zb6):=by simp[Prin.ok,EZ]
 have B:=λm b (h:m.rangeAt b 0 [.bool (decide (1<=p.parts.length)),.bool (decide (p.parts.length<=4)),.bool (zbD p.realm)])=>zwH b 3 [decide (1<=p.parts.length),decide (p.parts.length<=4),zbD p.realm] m rfl q_e h;have N:decide ((p.parts.length:Int)>=1)=decide (1<=p.parts.length):=decide_eq_decide.2 q_o;have O:decide ((p.parts.length:Int)<=4)=decide (p.parts.length<=4):=decide_eq_decide.2 q_o;have H:=λx (A:x∈p.parts) m=>zxz x m (hp x A);unfold zT at*;rw[G];generalize zbD p.realm=u3,decide (p.parts.length<=4)=Z,decide (1<=p.parts.length)=Y,[decide (1<=p.parts.length),decide (p.parts.length<=4),zbD p.realm].all id=u at*;obtain⟨parts,realm⟩:=p;dsimp only at*;generalize T:parts.length=n at*;repeat' first|refine s_0 ?_|refine zf 0 ?_;refine z9 λ_=>?_
 rename_i P
 (refine zdp (id:=1) [0,1,2,3,4,5,6,7,8,9] [10,11,12,13] mixed ?_ ?_;kernel_rfl;refine yfv zN (k:=?_);refine yfv zM (k:=?_);refine yfv zfk (k:=?_);refine yfv (zO (hr:=N)) (k:=?_);refine yfv zN (k:=?_);refine yfv zM (k:=?_);refine yfv zfk (k:=?_);refine yfv (zaA (hr:=O)) (k:=?_);refine yfv zN (k:=?_);refine yfv zM (k:=?_);refine yf0 ?_;refine ycv (za (hc:=q_c I)) (k:=?_);(refine ycs zz (k:=?_);rintro _ _ ⟨K,rfl,rfl⟩);refine ycv (za (hc:=λm X S M=>B m K (zp (M.has q_h) Ex))) (k:=?_);refine ycv zh2 (k:=?_);try refine yc0 (k:=?_))
 cases u
 ·rw[BX];repeat' first|refine s_0 ?_|refine q_k 2 ?_
  exact q_r
 rw[B2];repeat' first|refine s_t ?_|refine q_k 3 ?_;refine zm ?_;refine zb ?_
 refine zL (γ:=Nat) (λi=>[(20,.slice a1 n L),(21,.int .i64 (n:Int)),(22,.int .i64 (i:Int))]) (λ_=>[]) (λi=>i<=n/\(parts.take i).all zb6=true) (λi=>n-i) 0 ⟨AA _,rfl⟩ ?_ ?_ ?_
 ·exact q_h
 ·exact q_h
 rintro i ⟨R,q⟩;by_cases hlt:i<n
 ·obtain⟨Q,W,rfl,r⟩:=zca s1 (i:=i) (by rw[A0];omega);have hc:=r i _ (zcX _ q_o);have g1:decide ((i:Int)<(n:Int))=true:=q_d;have g5:IntKind.i64.wrap ((i:Int)+1)=((i+1:Nat):Int):=q_w;have J:parts.take (i+1)=parts.take i++[parts[i]]:=zaE q_o;have F:parts[i]∈parts:=AX q_o;have A:=H parts[i] F;generalize parts[i]=x at*;by_cases hxo:zb6 x=true
  ·rw[hxo] at A;repeat' first|refine s_t ?_|refine zf 4 ?_;refine q_v (zn (hr:=g1)) ?_|refine zf 5 ?_;refine q_v (zq (j:=i)) ?_;refine q_x (zo (hv:=hc)) ?_|refine q_k 6 ?_;refine q_v (za (hc:=q_c A)) ?_;refine zI ?_|refine zf 8 ?_;refine q_x (zD (hr:=g5)) ?_
   refine zC (i+1) ⟨hlt,by rw[J,BQ,q];simp[hxo]⟩ ?_ ?_ ?_
   ·show n-(i+1)<n-i;omega
   ·exact q_h
   ·exact q_h
  ·rw[Br] at hxo;rw[hxo] at A;have E:parts.all zb6=false:=by rw[BW];exact⟨x,F,by rw[hxo];decide⟩
   rw[E];repeat' first|refine s_t ?_|refine zf 4 ?_;refine q_v (zn (hr:=g1)) ?_|refine zf 5 ?_;refine q_v (zq (j:=i)) ?_;refine q_x (zo (hv:=hc)) ?_|refine q_k 6 ?_;refine q_v (za (hc:=q_c A)) ?_;refine zI ?_|refine q_k 7 ?_
   exact q_r
 obtain rfl:i=n:=q_o;rw[A6 q_o] at q;rw[q];have g1:decide ((i:Int)<(i:Int))=false:=q_f;repeat' first|refine s_0 ?_|refine zf 4 ?_;refine q_v (zn (hr:=g1)) ?_|refine q_k 9 ?_
 exact q_r
end Go.Proofs.YtdnlngbjpdbffaaGreatDoor
