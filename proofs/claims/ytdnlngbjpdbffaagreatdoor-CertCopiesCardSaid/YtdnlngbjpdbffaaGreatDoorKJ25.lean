/- Lemmas of this proof. -/
import Derived.Test.YtdnlngbjpdbffaaGreatDoorKJ24
import Derived.Test.YtdnlngbjpdbffaaGreatDoorKJ20
set_option maxHeartbeats 1000000
set_option maxRecDepth 10000
set_option linter.all false
namespace Go.Nt
open Go Go.Sy
theorem zrL:∀d:Fin 16,zcx (zgW d.1)=some d.1:=by decide +kernel
theorem zuT:∀u:Fin 256,∀d:Fin 16,zcx (UInt8.ofNat u.1)=some d.1->zgW d.1=UInt8.ofNat u.1:=by decide +kernel
theorem zwe{u:UInt8}{d:Nat}(h:zcx u=some d):zgW d=u:=by
 have:=zuT ⟨u.toNat,u.toNat_lt⟩ ⟨d,zhf h⟩;rw[show UInt8.ofNat u.toNat=u from UInt8.ofNat_toNat] at this;exact this h
theorem zuS{u:UInt8}{d q:Nat}(h:zcx u=some d)(j:q<16)(hn:q≠d):zgW q≠u:=λm=>by
 have:=zrL ⟨q,j⟩;rw[show zgW (⟨q,j⟩:Fin 16).1=u from m,h] at this;exact hn (Ap this).symm
theorem zqN{u:UInt8}{q:Nat}(h:zcx u=none)(j:q<16):zgW q≠u:=λm=>by
 have:=zrL ⟨q,j⟩;rw[show zgW (⟨q,j⟩:Fin 16).1=u from m,h] at this;cases this
theorem ztV{u v:UInt8}(h:u≠v):decide (Wd.n8 u≠Wd.n8 v)=true:=decide_eq_true (λe=>h (C4.1 (Int.ofNat.inj e)))
def zcH(l:List UInt8):List Nat:=l.map (λu=>(zcx u).getD 0)
theorem zoH:∀ {l:List UInt8}{r:List Nat},zcS l=some r->r=zcH l
 | [],_,h=>by cases h;rfl
 |u::l,r,h=>by
  unfold zcS at h;split at h
  ·rename_i d q j m;cases h;rw[zoH m];simp only[zcH,Ay,j,CH]
  ·cases h
theorem ztm{l:List UInt8}{i d:Nat}{u:UInt8}(h:l[i]?=some u)(j:zcx u=some d):(zcH l)[i]?=some d:=by
 simp only[zcH,AY,h,C3,j,CH]
theorem zup(l:List UInt8):∀d∈zcH l,d<16:=by
 intro d j;simp only[zcH,C0] at j;obtain⟨u,-,rfl⟩:=j;cases h:zcx u with
 |none=>decide
 |some d=>exact zhf h
theorem zvx(l:List UInt8)(i:Nat):nd 65536 (bev 16 ((zcH l).take i))<=l.length:=by
 refine zaQ _ _ _ q_e ?_;refine AG (zdR 16 _ (λd j=>zup l d (Cj j))) ?_;refine BG (Er q_e _) (AA q_e ?_);rw[AU,zcH,A0];exact Nat.min_le_right _ _
end Go.Nt
namespace Go.Proofs.YtdnlngbjpdbffaaGreatDoor
open Go Go.Sy Go.Nt Go.RowKit
theorem zqJ:zG 0= []:=by unfold zG cd;rw[zbv];rfl
attribute [local irreducible] Sy SyL SyX Sy.Fn callFunc zf zG iC
theorem zqo(l:List UInt8)(w:World)(hx:l.length<10000):
  Sy.Fn Tryz.prog 279 [.string (str l)] w No (λv R=>match zi7 l with
   |none=>v= .tuple #[.slice none 0 0,.bool false]/\R= []
   |some x=>∃a c,v= .tuple #[.slice a (nd 65536 x) c,.bool true]/\R= [.row (.slice a (nd 65536 x) c) 3 1 (nd 65536 x) (zG x)]):=by
 refine zo Tryz.func279 Tryz.ntmps279 ?_;repeat' (first|refine s_0 ?_|refine q_k 0 ?_)
 refine zb9 (γ:=Unit) (λ_=>[(0,.string (str l)),(2,.slice none 0 0),(3,.bool false),(19,.bool (zcU l))]) (λ_=>[]) (λ_=>True) ?_ ?_
 ·cases l with
  |nil=>
   rw[show zcU []=true from rfl];have T:decide ((((str []).size:Nat):Int)=0)=true:=rfl;repeat' (first|refine zav ?_|refine zai ?_|refine q_k 1 ?_;refine q_x (zaa (hr:=T)) ?_)
   exact zZ () trivial q_h q_h
  |cons u r=>
   have C:(str (u::r)).size=r.length+1:=rfl;have T:decide ((((str (u::r)).size:Nat):Int)=0)=false:=decide_eq_false (by rw[C];omega);by_cases hu:u=48
   ·have E:decide (((u.toNat:Nat):Int)=48)=true:=decide_eq_true (by rw[hu];rfl);by_cases hr:0<r.length
    ·rw[show zcU (u::r)=true by simp only[zcU,hu,decide_true,hr,Ev]];have V:decide (1<(((str (u::r)).size:Nat):Int))=true:=decide_eq_true (by rw[C];omega);repeat' (first|refine zav ?_|refine zai ?_|refine q_k 1 ?_;refine q_x (zaa (hr:=T)) ?_;refine q_v (zN (s:=str (u::r)) (u:=u) (hv:=rfl)) ?_;refine q_x (zaa (hr:=E)) ?_;refine q_x (zF (hr:=V)) ?_)
     exact zZ () trivial q_h q_h
    ·rw[show zcU (u::r)=false by simp only[zcU,hr,decide_false,De]];have V:decide (1<(((str (u::r)).size:Nat):Int))=false:=decide_eq_false (by rw[C];omega);repeat' (first|refine zav ?_|refine zai ?_|refine q_k 1 ?_;refine q_x (zaa (hr:=T)) ?_;refine q_v (zN (s:=str (u::r)) (u:=u) (hv:=rfl)) ?_;refine q_x (zaa (hr:=E)) ?_;refine q_x (zF (hr:=V)) ?_)
     exact zZ () trivial q_h q_h
   ·rw[show zcU (u::r)=false by simp only[zcU,hu,decide_false,BX]];have E:decide (((u.toNat:Nat):Int)=48)=false:=decide_eq_false (λh=>hu (C4.1 (show u.toNat=48 by omega)));repeat' (first|refine zav ?_|refine zai ?_|refine q_k 1 ?_;refine q_x (zaa (hr:=T)) ?_;refine q_v (zN (s:=str (u::r)) (u:=u) (hv:=rfl)) ?_;refine q_x (zaa (hr:=E)) ?_)
    exact zZ () trivial q_h q_h
 rintro - -;unfold zi7;cases hb:zcU l with
 |true=>
  rw[if_pos rfl];repeat' (first|refine s_0 ?_|refine q_k 2 ?_)
  exact q_r
 |false=>
 rw[if_neg q_e];repeat' (first|refine s_t ?_|refine zK [3,4] ?_;refine zb ?_)
 refine zbn (zaO 3 1) ?_;obtain⟨n,hn⟩:∃n,n=l.length:=⟨_,rfl⟩;have C:(str l).size=n:=by rw[hn];rfl
 have J:=zvx l;rw[<-hn] at hx J;refine zE (γ:=Nat×Option Addr×Nat) (λg=>[(0,.string (str l)),(4,.slice g.2.1 (nd 65536 (bev 16 ((zcH l).take g.1))) g.2.2),(5,.int .i64 g.1)])
  (λg=>[.row (.slice g.2.1 (nd 65536 (bev 16 ((zcH l).take g.1))) g.2.2) 3 1 (nd 65536 (bev 16 ((zcH l).take g.1))) (zG (bev 16 ((zcH l).take g.1)))])
  (λg=>g.1<=n/\∀j<g.1,∃v d,l[j]?=some v/\zcx v=some d) (λg=>n-g.1) (0,none,0) ⟨AE _,λj W=>absurd W q_o⟩ ?_ ?_ ?_
 ·rw[show bev 16 ((zcH l).take 0)=0 from rfl,zbv];exact q_h
 ·show SubR [.row (.slice none (nd 65536 (bev 16 ((zcH l).take 0))) 0) 3 1 (nd 65536 (bev 16 ((zcH l).take 0))) (zG (bev 16 ((zcH l).take 0)))] _;rw[show bev 16 ((zcH l).take 0)=0 from rfl,zbv,zqJ];exact q_h
 rintro⟨i,a,c⟩ ⟨hi,L⟩;dsimp only at hi L ⊢;have hX:=J i;have m:decide (((i:Nat):Int)<(((str l).size:Nat):Int))=decide (i<n):=decide_eq_decide.2 (by rw[C];omega);by_cases hlt:i<n
 ·obtain⟨u,hu⟩:∃u,l[i]?=some u:=⟨l[i]'q_o,A1 _⟩;have I:(str l).data[i]?=some u:=by
   show l.toArray[i]?=_;rw[BM,hu]
  rw[decide_eq_true hlt] at m;have M:=λd (F:zcx u=some d)=>zhP 16 (zcH l) i d (ztm hu F);have a8:=J (i+1);generalize a9:bev 16 ((zcH l).take i)=X at*;repeat' (first|refine s_t ?_|refine q_k 5 ?_;refine q_v (zl (hr:=m)) ?_|refine q_k 7 ?_)
  have A:∀q<16,(str hexT).data[q]?=some (zgW q):=λq hq=>by
   show hexT.toArray[q]?=_;rw[BM];exact zsw q hq
  cases F:zcx u with
  |none=>
   have K:zcS l=none:=by
    cases G:zcS l with
    |none=>rfl
    |some r=>
     obtain⟨d,H,_⟩:=zeV G i u hu;rw[F] at H;cases H
   rw[K];refine zE (γ:=Nat) (λq=>[(0,.string (str l)),(5,.int .i64 i),(6,.int .i64 q)]) (λ_=>[]) (λq=>q<=16) (λq=>16-q) 0 (AE _) ?_ ?_ ?_
   ·exact q_h
   ·exact F2
   intro q hq;by_cases hq6:q<16
   ·have N:=A q hq6;have B:=ztV (zqN F hq6);repeat' (first|refine s_t ?_|refine z5 (id:=8) 8 [[],[0],[0,1],[0,1,2],[0,1,2,3],[0,1,2],[0,1,2],[0,1,2,5,6],[0,1,2,3,4,5,6,7],[0,1,2,3,4,5,6,7,8]] mixed ?_ ?_;kernel_rfl;refine zt ?_;refine q_D zl ?_;refine zt ?_;refine zt ?_;refine q_D (zN (s:=str hexT) (hv:=N)) ?_;refine zt ?_;refine zt ?_;refine q_D (zN (s:=str l) (u:=u) (hv:=I)) ?_;refine zam ?_;refine q_v (zaC (hr:=B)) ?_;refine zcb ?_|refine q_k 9 ?_;refine zaI ?_;refine zb ?_)
    refine zy (q+1) ?_ ?_ ?_ ?_
    ·show q+1<=16;omega
    ·show 16-(q+1)<16-q;omega
    ·exact q_h
    ·exact F2
   obtain rfl:q=16:=q_o;repeat' (first|refine s_0 ?_|refine z5 (id:=8) 8 [[],[0],[0,1],[0,1,2],[0,1,2,3],[0,1,2],[0,1,2],[0,1,2,5,6],[0,1,2,3,4,5,6,7],[0,1,2,3,4,5,6,7,8]] mixed ?_ ?_;kernel_rfl;refine zt ?_;refine q_D zl ?_;refine zt ?_;refine zdG (λ_=>rfl) rfl ?_;refine zdG (λ_=>rfl) rfl ?_;refine zdG (λ_=>rfl) rfl ?_;refine zdG (λ_=>rfl) rfl ?_;refine zdG (λ_=>rfl) rfl ?_;refine zam ?_;refine zaf rfl rfl rfl ?_;refine zcb ?_|refine q_k 10 ?_;refine zaH ?_|refine q_k 11 ?_)
   exact q_r
  |some d=>
   have P:=zhf F;have M:=M d F;refine zE (γ:=Nat) (λq=>[(0,.string (str l)),(4,.slice a (nd 65536 X) c),(5,.int .i64 i),(6,.int .i64 q)]) (λ_=>[.row (.slice a (nd 65536 X) c) 3 1 (nd 65536 X) (zG X)]) (λq=>q<=d) (λq=>d-q) 0 (AE _) ?_ ?_ ?_
   ·exact q_h
   ·exact q_h
   intro q hq;by_cases hqd:q<d
   ·have N:=A q q_o;have B:=ztV (zuS F (show q<16 by omega) q_o);repeat' (first|refine s_t ?_|refine z5 (id:=8) 8 [[],[0],[0,1],[0,1,2],[0,1,2,3],[0,1,2],[0,1,2],[0,1,2,5,6],[0,1,2,3,4,5,6,7],[0,1,2,3,4,5,6,7,8]] mixed ?_ ?_;kernel_rfl;refine zt ?_;refine q_D zl ?_;refine zt ?_;refine zt ?_;refine q_D (zN (s:=str hexT) (hv:=N)) ?_;refine zt ?_;refine zt ?_;refine q_D (zN (s:=str l) (u:=u) (hv:=I)) ?_;refine zam ?_;refine q_v (zaC (hr:=B)) ?_;refine zcb ?_|refine q_k 9 ?_;refine zaI ?_;refine zb ?_)
    refine zy (q+1) ?_ ?_ ?_ ?_
    ·show q+1<=d;omega
    ·show d-(q+1)<d-q;omega
    ·exact q_h
    ·exact q_h
   obtain rfl:q=d:=q_o;have N:=A q P;rw[zwe F] at N;have B:decide (Wd.n8 u≠Wd.n8 u)=false:=decide_eq_false (λh=>h rfl);have S:=λt (h:SlA t a (zG X))=>zrv a c X 4 t h q_o q_e;rw[show X*2^4=X*16 from rfl] at S;have a6:=λt=>zho q t q_o;have Q:nd 65536 (X*16)<100000000:=by
    refine Av (zaQ 65536 (X*16) (nd 65536 X+1) q_e ?_) q_o;have:=zaE 65536 X q_e;rw[AJ];omega
   have Z:nd 65536 q<100000000:=Av (zaQ 65536 q 1 q_e q_o) q_e;have O:=λt a1 c1 a2 c2 (H:SlA t a1 (zG (X*16))) (U:SlA t a2 (zG q))=>zo9 a1 a2 c1 c2 (X*16) q t H U Q Z;rw[<-M] at O;generalize X*16=Y at*;repeat' (first|refine s_0 ?_|refine z5 (id:=8) 8 [[],[0],[0,1],[0,1,2],[0,1,2,3],[0,1,2],[0,1,2],[0,1,2,5,6],[0,1,2,3,4,5,6,7],[0,1,2,3,4,5,6,7,8]] mixed ?_ ?_;kernel_rfl;refine zt ?_;refine q_D zl ?_;refine zt ?_;refine zt ?_;refine q_D (zN (s:=str hexT) (hv:=N)) ?_;refine zt ?_;refine zt ?_;refine q_D (zN (s:=str l) (u:=u) (hv:=I)) ?_;refine zam ?_;refine q_v (zaC (hr:=B)) ?_;refine zcb ?_|refine q_k 10 ?_;refine zaH ?_|refine q_k 12 ?_;(refine q_s (zh (hc:=λt X hk G=>S t (zI G q_h))) ?_;rintro _ _ ⟨R,rfl,a3,c3,rfl,rfl⟩);refine zb ?_;(refine q_s (zh (hc:=λt X hk G=>a6 t)) ?_;rintro _ _ ⟨R,rfl,a4,c4,rfl,rfl⟩);(refine q_s (zh (hc:=λt X hk G=>O t _ _ _ _ (zI G q_h) (zI G q_h))) ?_;rintro _ _ ⟨R,rfl,a5,c5,rfl,rfl⟩);refine zb ?_|refine q_k 6 ?_;refine zaI ?_;refine zb ?_)
   refine zy (i+1,a5,c5) ⟨by show i+1<=n;omega,λj W=>?_⟩ ?_ ?_ ?_
   ·rcases AH j i with h|h
    ·exact L j h
    ·obtain rfl:j=i:=q_o;exact⟨u,q,hu,F⟩
   ·show n-(i+1)<n-i;omega
   ·exact q_h
   ·exact q_h
 obtain rfl:i=n:=q_o;obtain⟨r,hr⟩:∃r,zcS l=some r:=by
  cases G:zcS l with
  |some r=>exact⟨r,rfl⟩
  |none=>
   obtain⟨j,u,H,U,_⟩:=zin G;have W:j<l.length:=by
    rcases AH j l.length with h|h
    ·exact h
    ·rw[BL h] at H;cases H
   obtain⟨v,d,h3,h4⟩:=L j q_o;rw[H] at h3;cases h3;rw[U] at h4;cases h4
 have a7:(zcH l).take i=zcH l:=A6 (by rw[zcH,A0];omega);rw[hr,C3];dsimp only;rw[a7,zoH hr];rw[decide_eq_false hlt] at m;generalize bev 16 (zcH l)=X at*;repeat' (first|refine s_0 ?_|refine q_k 5 ?_;refine q_v (zl (hr:=m)) ?_|refine q_k 13 ?_)
 exact zad rfl (zr rfl) (zr rfl) q_h ⟨a,c,rfl,rfl⟩
end Go.Proofs.YtdnlngbjpdbffaaGreatDoor
namespace Go.Nt
open Go Go.Sy
theorem zxq:18446744073709551616^16=65536^64:=zgU 65536 16 64 rfl rfl
theorem ndW{x:Nat}(h:x<18446744073709551616^16):nd 65536 x<=64:=zaQ _ _ _ q_e (by rw[<-zxq];exact h)
theorem zuz(i:Nat)(h0:1<=i)(j:i<=4):(gP i-1)/2=gQ i:=by
 have:=zrR i h0 j;omega
end Go.Nt
namespace Go.Proofs.YtdnlngbjpdbffaaGreatDoor
open Go Go.Sy Go.Nt Go.RowKit
attribute [local irreducible] Sy SyL SyX Sy.Fn callFunc zf zG iC gP gQ gL zap
theorem zkM(z:Int)(w:World):q_G 228 [.int .i64 z] w (.bool (decide (1<=z/\z<=4))):=by
 refine zo Tryz.func228 Tryz.ntmps228 ?_;by_cases h1:1<=z
 ·have g1:decide (z>=1)=true:=decide_eq_true h1;have g2:decide (z<=4)=decide (1<=z/\z<=4):=decide_eq_decide.2 ⟨λh=>⟨h1,h⟩,λh=>h.2⟩;generalize decide (1<=z/\z<=4)=b at*;repeat' (first|refine s_0 ?_|refine q_k 0 ?_|refine q_k 1 ?_;refine q_x (zP (hr:=g1)) ?_;refine q_x (zax (hr:=g2)) ?_)
  exact q_r
 ·have g1:decide (z>=1)=false:=decide_eq_false h1;rw[show decide (1<=z/\z<=4)=false from decide_eq_false (λh=>h1 h.1)];repeat' (first|refine s_0 ?_|refine q_k 0 ?_|refine q_k 1 ?_;refine q_x (zP (hr:=g1)) ?_)
  exact q_r
theorem zfB(i:Nat)(w:World)(h0:1<=i)(r:i<=4):Sy.Fn Tryz.prog 229 [.int .i64 (i:Int)] w No (zaW (gP i)):=by
 refine zo Tryz.func229 Tryz.ntmps229 ?_;have g3:IntKind.i64.wrap ((i:Int)-1)=((i-1:Nat):Int):=q_w;have m:=zkl i h0 r;have q:=λt=>zqo (gS i) t (by have:=zrq i h0 r;omega);rw[znE i h0 r] at q;dsimp only at q;unfold zaW;repeat' (first|refine s_0 ?_|refine q_k 0 ?_)
 refine zg 1 ?_;refine q_s (zw (vs:=zdD)) ?_;rintro _ _ ⟨B,rfl,rfl⟩;generalize gS i=S,zdD=A at*;repeat' (first|refine s_0 ?_|refine q_k 2 ?_;(refine q_s (zh (hc:=λt X F E=>q t)) ?_;rintro _ _ ⟨R,rfl,a1,C,rfl,rfl⟩);refine zb ?_|refine q_k 3 ?_|(refine zW ?_;first|refine q_v (zH (hr:=g3)) ?_|refine q_v (zcE (j:=i-1)) ?_|refine q_v (zM (hv:=m)) ?_|refine zB ?_|refine zaS ?_|fail)|fail)
 exact q_r
theorem zeg(i:Nat)(w:World)(h0:1<=i)(A:i<=4):Sy.Fn Tryz.prog 158 [.int .i64 (i:Int)] w No (zaW (gQ i)):=by
 refine zo Tryz.func158 Tryz.ntmps158 ?_;have I:=zbw i h0 A;have U:=ndW I;have K:=zbh i h0 A;have J:=λj=>zfB i j h0 A;have G:=λj=>zho 1 j q_e;have H:=λj=>zho 2 j q_e;have V:=zaQ 65536 1 1 q_e q_e;have W:=zaQ 65536 2 1 q_e q_e;have Y:=zo8 65536 (gP i-1) (gP i) q_e (EE _ _);have L:=λj a c t C (h:SlA j a (zG (gP i))) (E:SlA j t (zG 1))=>ziL a t c C (gP i) 1 j h E q_o q_o;have F:=λj a c t C (h:SlA j a (zG (gP i-1))) (E:SlA j t (zG 2))=>zjZ a t c C (gP i-1) 2 j h E q_o q_o q_e;rw[zuz i h0 A] at F;unfold zaW at*;generalize gQ i=q,gP i=p,gP i-1=Z,(gP i-1)%2=r at*;repeat' (first|refine s_0 ?_|refine zK [0,2] ?_;refine zb ?_|refine q_k 1 ?_;(refine q_s (zh (hc:=λj X B m=>J j)) ?_;rintro _ _ ⟨R,rfl,a1,N,rfl,rfl⟩);(refine q_s (zh (hc:=λj X B m=>G j)) ?_;rintro _ _ ⟨R,rfl,a2,O,rfl,rfl⟩);(refine q_s (zh (hc:=λj X B m=>L j _ _ _ _ (zI m q_h) (zI m q_h))) ?_;rintro _ _ ⟨R,rfl,a3,P,rfl,rfl⟩);(refine q_s (zh (hc:=λj X B m=>H j)) ?_;rintro _ _ ⟨R,rfl,a4,Q,rfl,rfl⟩);(refine q_s (zh (hc:=λj X B m=>F j _ _ _ _ (zI m q_h) (zI m q_h))) ?_;rintro _ _ ⟨R,rfl,a5,S,M,T,rfl,rfl⟩);refine zb ?_)
 exact q_r
theorem zwA(i:Nat)(h0:1<=i)(j:i<=4):decide (1<=(i:Int)/\(i:Int)<=4)=true:=decide_eq_true ⟨by omega,by omega⟩
theorem zkC(i:Nat)(w:World)(h0:1<=i)(q:i<=4):q_G 154 [.int .i64 (i:Int)] w (.int .i64 ((gL i:Nat):Int)):=by
 refine zo Tryz.func154 Tryz.ntmps154 ?_;have m:=λj=>zkM (i:Int) j;rw[zwA i h0 q] at m;have E:=ndW (zbw i h0 q);have t:=λj=>zfB i j h0 q;have r:=λj a c (h:SlA j a (zG (gP i)))=>zlr a c (gP i) j h q_o;rw[zkr i h0 q] at r;unfold zaW at t;generalize gL i=l,gP i=p,byt (gP i)=D at*;repeat' (first|refine s_0 ?_|refine q_k 0 ?_|refine q_k 1 ?_;refine q_v (za (hc:=q_c m)) ?_;refine zJ ?_|refine q_k 3 ?_;(refine q_s (zh (hc:=λj X A m=>t j)) ?_;rintro _ _ ⟨R,rfl,a1,B,rfl,rfl⟩);(refine q_s (zh (hc:=λj X A m=>r j _ _ (zI m q_h))) ?_;rintro _ _ ⟨R,rfl,a2,C,rfl,rfl⟩);refine zb ?_)
 exact q_r
theorem zoF(i:Nat)(a b:Option Addr)(F G x e:Nat)(w:World)(h0:1<=i)(t:i<=4)(ha:SlA w a (zG x))(hb:SlA w b (zG e))(hx:nd 65536 x<20000)(he:nd 65536 e<20000):
  Sy.Fn Tryz.prog 161 [.int .i64 (i:Int),.slice a (nd 65536 x) F,.slice b (nd 65536 e) G] w No (zaW (x^e%gP i)):=by
 refine zo Tryz.func161 Tryz.ntmps161 ?_;have I:=ndW (zbw i h0 t);have H:=zbh i h0 t;have A:=λj=>zfB i j h0 t;have B:=λj d cd (m:Keep No w j) (h:SlA j d (zG (gP i)))=>zox a b d F G cd x e (gP i) j (ha.to m (λ_ h=> .inr h)).sla (hb.to m (λ_ h=> .inr h)).sla h hx he q_o q_o;unfold zaW at*;generalize gP i=p,x^e%gP i=r at*;repeat' (first|refine s_t ?_|apply zbT;(focus ((repeat (first|exact F1|apply F3));done));assumption|(refine zg 0 ?_;try refine zB ?_)|(refine zg 1 ?_;try refine zaS ?_;try refine zaS ?_;try refine zaS ?_;try (first|refine q_s (zh (hc:=λj X m q=>A j)) ?_;rintro _ _ ⟨R,rfl,a1,C,rfl,rfl⟩|refine q_s (zh (hc:=λj X m q=>B j _ _ m (zI q q_h))) ?_;rintro _ _ ⟨R,rfl,a2,E,rfl,rfl⟩|fail);try (first|refine q_s (zh (hc:=λj X m q=>A j)) ?_;rintro _ _ ⟨R,rfl,a1,C,rfl,rfl⟩|refine q_s (zh (hc:=λj X m q=>B j _ _ m (zI q q_h))) ?_;rintro _ _ ⟨R,rfl,a2,E,rfl,rfl⟩|fail);try refine zB ?_)|(refine zW ?_;first|refine q_s (zh (hc:=λj X m q=>A j)) ?_;rintro _ _ ⟨R,rfl,a1,C,rfl,rfl⟩|refine q_s (zh (hc:=λj X m q=>B j _ _ m (zI q q_h))) ?_;rintro _ _ ⟨R,rfl,a2,E,rfl,rfl⟩|refine zB ?_|refine zaS ?_|fail)|refine zbU ?_)
 exact q_r
theorem zia(i:Nat)(b:Option Addr)(E e:Nat)(w:World)(h0:1<=i)(G:i<=4)(hb:SlA w b (zG e))(he:nd 65536 e<20000):
  Sy.Fn Tryz.prog 149 [.int .i64 (i:Int),.slice b (nd 65536 e) E] w No (zaW (4^e%gP i)):=by
 refine zo Tryz.func149 Tryz.ntmps149 ?_;have t:=λj=>zho 4 j q_e;have H:=zaQ 65536 4 1 q_e q_e;have A:=λj a F (m:Keep No w j) (h:SlA j a (zG 4))=>zoF i a b F E 4 e j h0 G h (hb.to m (λ_ h=> .inr h)).sla q_o he;unfold zaW at*;generalize 4^e%gP i=r at*;repeat' (first|refine s_t ?_|apply zbT;(focus ((repeat (first|exact F1|apply F3));done));assumption|(refine zg 0 ?_;try refine zB ?_)|(refine zg 1 ?_;try refine zaS ?_;try (first|refine q_s (zh (hc:=λj X m q=>t j)) ?_;rintro _ _ ⟨R,rfl,a1,B,rfl,rfl⟩|refine q_s (zh (hc:=λj X m q=>A j _ _ m (zI q q_h))) ?_;rintro _ _ ⟨R,rfl,a2,C,rfl,rfl⟩|fail);try refine zaS ?_;try (first|refine q_s (zh (hc:=λj X m q=>t j)) ?_;rintro _ _ ⟨R,rfl,a1,B,rfl,rfl⟩|refine q_s (zh (hc:=λj X m q=>A j _ _ m (zI q q_h))) ?_;rintro _ _ ⟨R,rfl,a2,C,rfl,rfl⟩|fail);try refine zB ?_)|(refine zW ?_;first|refine q_s (zh (hc:=λj X m q=>t j)) ?_;rintro _ _ ⟨R,rfl,a1,B,rfl,rfl⟩|refine q_s (zh (hc:=λj X m q=>A j _ _ m (zI q q_h))) ?_;rintro _ _ ⟨R,rfl,a2,C,rfl,rfl⟩|refine zB ?_|refine zaS ?_|fail)|refine zbU ?_)
 exact q_r
theorem zuK(i:Nat)(a b:Option Addr)(t A x y:Nat)(w:World)(h0:1<=i)(q:i<=4)(ha:SlA w a (zG x))(hb:SlA w b (zG y))(hx:nd 65536 x<20000)(J:nd 65536 y<20000):
  Sy.Fn Tryz.prog 160 [.int .i64 (i:Int),.slice a (nd 65536 x) t,.slice b (nd 65536 y) A] w No (zaW (x*y%gP i)):=by
 refine zo Tryz.func160 Tryz.ntmps160 ?_;have K:=ndW (zbw i h0 q);have E:=zbh i h0 q;have G:=za3 i h0 q;have C:=λj=>zfB i j h0 q;have F:=λj d cd (m:Keep No w j) (h:SlA j d (zG (gP i)))=>zkK a b d t A cd x y (gP i) j (ha.to m (λ_ h=> .inr h)).sla (hb.to m (λ_ h=> .inr h)).sla h q_o q_o q_o q_o;unfold zaW at*;generalize gP i=p,x*y%gP i=r at*;repeat' (first|refine s_0 ?_|refine q_k 0 ?_|refine q_k 1 ?_;(refine q_s (zh (hc:=λj X m B=>C j)) ?_;rintro _ _ ⟨R,rfl,a1,H,rfl,rfl⟩);(refine q_s (zh (hc:=λj X m B=>F j _ _ m (zI B q_h))) ?_;rintro _ _ ⟨R,rfl,a2,I,rfl,rfl⟩);refine zb ?_)
 exact q_r
theorem zmH(i:Nat)(a b:Option Addr)(t A x y:Nat)(w:World)(h0:1<=i)(q:i<=4)(ha:SlA w a (zG x))(hb:SlA w b (zG y))(hx:nd 65536 x<20000)(J:nd 65536 y<20000):
  Sy.Fn Tryz.prog 151 [.int .i64 (i:Int),.slice a (nd 65536 x) t,.slice b (nd 65536 y) A] w No (zaW ((x+y)%gQ i)):=by
 refine zo Tryz.func151 Tryz.ntmps151 ?_;have K:=ndW (zba i h0 q);have E:=zbh i h0 q;have G:=za3 i h0 q;have C:=λj=>zeg i j h0 q;have F:=λj d cd (m:Keep No w j) (h:SlA j d (zG (gQ i)))=>zu4 a b d t A cd x y (gQ i) j (ha.to m (λ_ h=> .inr h)).sla (hb.to m (λ_ h=> .inr h)).sla h q_o q_o q_o q_o;unfold zaW at*;generalize gQ i=p,(x+y)%gQ i=r at*;repeat' (first|refine s_0 ?_|refine q_k 0 ?_|refine q_k 1 ?_;(refine q_s (zh (hc:=λj X m B=>C j)) ?_;rintro _ _ ⟨R,rfl,a1,H,rfl,rfl⟩);(refine q_s (zh (hc:=λj X m B=>F j _ _ m (zI B q_h))) ?_;rintro _ _ ⟨R,rfl,a2,I,rfl,rfl⟩);refine zb ?_)
 exact q_r
theorem zsb(i:Nat)(a b:Option Addr)(t A x y:Nat)(w:World)(h0:1<=i)(q:i<=4)(ha:SlA w a (zG x))(hb:SlA w b (zG y))(hx:nd 65536 x<20000)(J:nd 65536 y<20000):
  Sy.Fn Tryz.prog 152 [.int .i64 (i:Int),.slice a (nd 65536 x) t,.slice b (nd 65536 y) A] w No (zaW (x*y%gQ i)):=by
 refine zo Tryz.func152 Tryz.ntmps152 ?_;have K:=ndW (zba i h0 q);have E:=zbh i h0 q;have G:=za3 i h0 q;have C:=λj=>zeg i j h0 q;have F:=λj d cd (m:Keep No w j) (h:SlA j d (zG (gQ i)))=>zkK a b d t A cd x y (gQ i) j (ha.to m (λ_ h=> .inr h)).sla (hb.to m (λ_ h=> .inr h)).sla h q_o q_o q_o q_o;unfold zaW at*;generalize gQ i=p,x*y%gQ i=r at*;repeat' (first|refine s_0 ?_|refine q_k 0 ?_|refine q_k 1 ?_;(refine q_s (zh (hc:=λj X m B=>C j)) ?_;rintro _ _ ⟨R,rfl,a1,H,rfl,rfl⟩);(refine q_s (zh (hc:=λj X m B=>F j _ _ m (zI B q_h))) ?_;rintro _ _ ⟨R,rfl,a2,I,rfl,rfl⟩);refine zb ?_)
 exact q_r
theorem zjT(i:Nat)(a:Option Addr)(n c:Nat)(j:List UInt8)(w:World)(h0:1<=i)(A:i<=4)(F:j.length=n)(ha:SlA w a (j.map v8))(hn:n<80000):
  Sy.Fn Tryz.prog 147 [.int .i64 (i:Int),.slice a n c] w No (zaW (bev 256 (bn j)%gQ i)):=by
 refine zo Tryz.func147 Tryz.ntmps147 ?_;have O:=ndW (zba i h0 A);have K:=za3 i h0 A;have I:=λm=>zeg i m h0 A;have H:=λm (C:Keep No w m)=>zi1 a n c j m F (ha.to C (λ_ h=> .inr h)).sla q_o;have P:nd 65536 (bev 256 (bn j))<=n:=zaQ 65536 _ _ q_e (AG (zdR 256 (bn j) (zgC j)) (by rw[show(bn j).length=n by unfold bn;rw[A0,F]];exact Er q_e _));have J:=λm d cd E t (h:SlA m d (zG (bev 256 (bn j)))) (G:SlA m E (zG (gQ i)))=>zfM d E cd t (bev 256 (bn j)) (gQ i) m h G q_o q_o q_o;unfold zaW at*;generalize gQ i=q,bev 256 (bn j)=x,bev 256 (bn j)%gQ i=r at*;repeat' (first|refine s_0 ?_|refine q_k 0 ?_|refine q_k 1 ?_;(refine q_s (zh (hc:=zq H)) ?_;rintro _ _ ⟨R,rfl,a0,L,rfl,rfl⟩);refine zb ?_;(refine q_s (zh (hc:=λm X C B=>I m)) ?_;rintro _ _ ⟨R,rfl,a1,M,rfl,rfl⟩);(refine q_s (zh (hc:=λm X C B=>J m _ _ _ _ (zI B q_h) (zI B q_h))) ?_;rintro _ _ ⟨R,rfl,a2,N,rfl,rfl⟩);refine zb ?_)
 exact q_r
theorem zf3(i:Nat)(a:Option Addr)(r x:Nat)(w:World)(h0:1<=i)(t:i<=4)(ha:SlA w a (zG x))(hx:nd 65536 x<20000):
  q_G 156 [.int .i64 (i:Int),.slice a (nd 65536 x) r] w (.bool (decide (x<gQ i))):=by
 refine zo Tryz.func156 Tryz.ntmps156 ?_;have G:=ndW (zba i h0 t);have B:=λj=>zeg i j h0 t;have C:=λj d cd (m:Keep No w j) (h:SlA j d (zG (gQ i)))=>zdQ a d r cd x (gQ i) j (ha.to m (λ_ h=> .inr h)).sla h q_o q_o;have hr:decide (za0 x (gQ i)<0)=decide (x<gQ i):=decide_eq_decide.2 (by
  unfold za0;by_cases h:x<gQ i
  ·rw[if_pos h];exact⟨λ_=>h,λ_=>by decide⟩
  ·rw[if_neg h];split <;> omega)
 unfold zaW at*;generalize gQ i=q,za0 x (gQ i)=F,decide (x<gQ i)=b at*;repeat' (first|refine s_0 ?_|refine q_k 0 ?_|refine q_k 1 ?_;(refine q_s (zh (hc:=λj X m A=>B j)) ?_;rintro _ _ ⟨R,rfl,a1,E,rfl,rfl⟩);refine q_v (za (hc:=λj X m A=>C j _ _ m (zI A q_h))) ?_;refine q_x (zl (hr:=hr)) ?_)
 exact q_r
theorem zpw(i:Nat)(a:Option Addr)(E x:Nat)(w:World)(h0:1<=i)(B:i<=4)(ha:SlA w a (zG x))(hx:nd 65536 x<20000):
  q_G 227 [.int .i64 (i:Int),.slice a (nd 65536 x) E] w (.bool (zap (gP i) (gQ i) x)):=by
 refine zo Tryz.func227 Tryz.ntmps227 ?_;have m:=λj=>zkM (i:Int) j;rw[zwA i h0 B] at m;have V:=ndW (zbw i h0 B);have W:=ndW (zba i h0 B);have Q:=zbh i h0 B;have O:=(zj1 65536 x q_e).1;rcases AD x with h|h
 ·subst h;have G:zap (gP i) (gQ i) 0=false:=by unfold zap;exact decide_eq_false (λh=>absurd h.1 q_o)
  rw[G];have g1:decide (((nd 65536 0:Nat):Int)=0)=true:=decide_eq_true (by rw[zbv];rfl);repeat' (first|refine s_0 ?_|refine zK [0,2] ?_;refine zb ?_|refine q_k 1 ?_;refine q_v (za (hc:=q_c m)) ?_;refine zJ ?_;refine zb ?_;refine q_x (zaa (hr:=g1)) ?_)
  exact q_r
 have g1:decide (((nd 65536 x:Nat):Int)=0)=false:=q_f;have I:=λj=>zfB i j h0 B;have hc:=λj d cd (t:Keep No w j) (h:SlA j d (zG (gP i)))=>zdQ a d E cd x (gP i) j (ha.to t (λ_ h=> .inr h)).sla h q_o q_o;by_cases hxp:x<gP i
 ·have g2:decide (za0 x (gP i)>=0)=false:=by rw[zha hxp];rfl
  have P:=λj=>zeg i j h0 B;have N:=λj d cd C A (t:Keep No w j) (h:SlA j d (zG (gQ i))) (F:SlA j C (zG (gP i)))=>zox a d C E cd A x (gQ i) (gP i) j (ha.to t (λ_ h=> .inr h)).sla h F hx q_o q_o q_o;have M:=λj=>zho 1 j q_e;have Y:=zaQ 65536 1 1 q_e q_e;have nr:=zqq 65536 (x^gQ i) (gP i) q_e q_o;have H:=λj d cd C A (h:SlA j d (zG (x^gQ i%gP i))) (F:SlA j C (zG 1))=>zdQ d C cd A (x^gQ i%gP i) 1 j h F q_o q_o;have g3:decide (za0 (x^gQ i%gP i) 1=0)=zap (gP i) (gQ i) x:=by
   unfold zap;refine decide_eq_decide.2 ⟨λe=>⟨h,hxp,zqU e⟩,λe=>?_⟩;rw[e.2.2];exact zh4 1
  unfold zaW at*;generalize x^gQ i%gP i=r,zap (gP i) (gQ i) x=b at*;generalize za0 x (gP i)=K,za0 r 1=L at*;generalize gQ i=q,gP i=p at*;repeat' (first|refine s_0 ?_|refine q_k 0 ?_|refine q_k 1 ?_;refine q_v (za (hc:=q_c m)) ?_;refine zJ ?_;refine zb ?_;refine q_x (zaa (hr:=g1)) ?_;(refine q_s (zh (hc:=λj X t m=>I j)) ?_;rintro _ _ ⟨R,rfl,a1,J,rfl,rfl⟩);refine q_v (za (hc:=λj X t m=>hc j _ _ t (zI m q_h))) ?_;refine q_x (zP (hr:=g2)) ?_|refine q_k 3 ?_;(refine q_s (zh (hc:=λj X t m=>P j)) ?_;rintro _ _ ⟨R,rfl,a2,S,rfl,rfl⟩);refine zb ?_;(refine q_s (zh (hc:=λj X t m=>I j)) ?_;rintro _ _ ⟨R,rfl,a1,J,rfl,rfl⟩);(refine q_s (zh (hc:=λj X t m=>N j _ _ _ _ t (zI m q_h) (zI m q_h))) ?_;rintro _ _ ⟨R,rfl,a3,T,rfl,rfl⟩);(refine q_s (zh (hc:=λj X t m=>M j)) ?_;rintro _ _ ⟨R,rfl,a4,U,rfl,rfl⟩);refine q_v (za (hc:=λj X t m=>H j _ _ _ _ (zI m q_h) (zI m q_h))) ?_;refine q_x (zaa (hr:=g3)) ?_)
  exact q_r
 ·have g2:decide (za0 x (gP i)>=0)=true:=decide_eq_true (zkJ q_o);have G:zap (gP i) (gQ i) x=false:=by unfold zap;exact decide_eq_false (λh=>hxp h.2.1)
  rw[G];unfold zaW at*;generalize gP i=p,za0 x (gP i)=K at*;repeat' (first|refine s_0 ?_|refine zK [0,2] ?_;refine zb ?_|refine q_k 1 ?_;refine q_v (za (hc:=q_c m)) ?_;refine zJ ?_;refine zb ?_;refine q_x (zaa (hr:=g1)) ?_;(refine q_s (zh (hc:=λj X t m=>I j)) ?_;rintro _ _ ⟨R,rfl,a1,J,rfl,rfl⟩);refine q_v (za (hc:=λj X t m=>hc j _ _ t (zI m q_h))) ?_;refine q_x (zP (hr:=g2)) ?_)
  exact q_r
theorem zgB(i:Nat)(a:Option Addr)(F x:Nat)(w:World)(h0:1<=i)(H:i<=4)(ha:SlA w a (zG x))(hx:nd 65536 x<20000)(hn:nd 256 x<=gL i):
  Sy.Fn Tryz.prog 148 [.int .i64 (i:Int),.slice a (nd 65536 x) F] w No (zcK 5 (gL i) ((zaF (gL i) x).map v8)):=by
 refine zo Tryz.func148 Tryz.ntmps148 ?_;have I:=(zdp i h0 H).2;have r:=λt=>zkC i t h0 H;have B:=λt (Q:Keep No w t)=>zlr a F x t (ha.to Q (λ_ h=> .inr h)).sla q_o;have A:=zf0 x;unfold zcK zaF;generalize gL i=l,nd 256 x=n,byt x=D at*;repeat' (first|refine s_t ?_|refine q_k 0 ?_|refine q_k 1 ?_;(refine q_s (zh (hc:=zq B)) ?_;rintro _ _ ⟨R,rfl,a0,K,rfl,rfl⟩);refine zb ?_)
 refine zE (γ:=Nat×Option Addr×Nat) (λg=>[(0,.int .i64 (i:Int)),(5,.slice g.2.1 (g.1+n) g.2.2)]) (λg=>[.row (.slice g.2.1 (g.1+n) g.2.2) 5 1 (g.1+n) ((List.replicate g.1 0++D).map v8)])
  (λg=>g.1+n<=l) (λg=>l-g.1) (0,a0,K) (by show 0+n<=l;omega) ?_ ?_ ?_
 ·dsimp only;rw[Nat.zero_add];exact q_h
 ·dsimp only;rw[Nat.zero_add,List.replicate_zero,List.nil_append];exact q_h
 rintro⟨j,C,G⟩ P;dsimp only at P ⊢;rcases AH (j+n) l with h|h
 ·have q:decide (((j+n:Nat):Int)<(l:Int))=true:=q_d;have M:(List.replicate j (0:UInt8)++D).length=j+n:=by rw[List.length_append,List.length_replicate,A]
  have N:List.replicate (j+1) (0:UInt8)++D=0::(List.replicate j 0++D):=by rw[CT,An]
  generalize List.replicate j (0:UInt8)++D=E at*;refine zen (λt O=>(Fi O (a:=C) (n:=j+n) (c:=G) F6:C=none->G=0)) λhnil=>?_;repeat' (first|refine s_t ?_|refine q_k 2 ?_;refine q_v (za (hc:=q_c r)) ?_;refine q_v (zl (hr:=q)) ?_|refine zg 3 ?_;(refine q_s zw ?_;rintro _ _ ⟨_,rfl,rfl⟩);refine zb ?_;(refine q_s (zbH (xs:=[.int .u8 0]) (k:=1) (m:=j+n) (km:=j+1+n) (hxn:=rfl) (hr:=Rd.row F4) (hn:=by rw[A0,M,Af]) (hnil:=hnil) (hkm:=by omega) (hys:=rfl)) ?_;rintro _ _ ⟨rfl,J,L,rfl⟩);refine zb ?_)
  refine zy (j+1,J,L) ?_ ?_ ?_ ?_
  ·show j+1+n<=l;omega
  ·show l-(j+1)<l-j;omega
  ·exact q_h
  ·dsimp only;rw[N];exact q_h
 ·obtain rfl:l=j+n:=q_o;have q:decide (((j+n:Nat):Int)<((j+n:Nat):Int))=false:=q_f;rw[show j+n-n=j by omega];repeat' (first|refine s_0 ?_|refine q_k 2 ?_;refine q_v (za (hc:=q_c r)) ?_;refine q_v (zl (hr:=q)) ?_|refine q_k 4 ?_)
  exact q_r
end Go.Proofs.YtdnlngbjpdbffaaGreatDoor
