/- Lemmas of this proof. -/
import Derived.Test.YtdnlngbjpdbffaaGreatDoorKJ18
set_option maxHeartbeats 1000000
set_option maxRecDepth 10000
set_option linter.all false
namespace Go.Proofs.YtdnlngbjpdbffaaGreatDoor
open Go Go.Sy Go.Nt Go.RowKit
variable {ro:Option Nat}{N:Nat}{w0:World}{M:Nat->Prop}{ds:List Deferred}{g:Nat->Option Value}{L:List Res}{o:Oper}{z:Operand}
theorem zfm{n:Nat}(j:o.op= .build 227 #[(0,z)]:=by exact rfl)(hz:ev g z=some (zm n):=by exact rfl):OpT Tryz.prog ro N w0 M ds o g L (Det (zm n) L):=
 zfz (parts:=#[(0,z)]) (vs:=[zm n]) (C:=zf n) (znK n) j (by simp[evs,hz]) (ty rfl) rfl rfl (zc rfl)
def zwF(T n:Nat)(C:List Value)(v:Value)(Nw:List Res):Prop:=∃b,v= .slice (some ⟨b,0,none⟩) n n/\Nw= [.blk b T C]
def zud:Value->Value
 | .slice (some a) _ _=> .pointer (some a)
 |v=>v
attribute [local irreducible] Sy SyL SyX Sy.Fn callFunc zf z8
def zco(m r:Nat):Value:=if m=0 then .tuple #[zm 0,.int .i64 2] else .tuple #[zm r,.int .i64 0]
theorem zqW(a m:Nat)(w:World)(ha:a<18446744073709551616^16)(hm:m<18446744073709551616^16):
  q_G 182 [zm a,zm m] w (zco m (a%m)):=by
 refine zo Tryz.func182 Tryz.ntmps182 ?_;have H:=zd a;have I:=zd m;have G:=zd 0;have A:=λq=>zc6 m q hm;rcases AD m with h|h
 ·subst h;unfold zco;rw[if_pos rfl];repeat' (first|refine s_0 ?_|refine zg 0 ?_;refine zi ?_;intro _;refine zi ?_;intro _;refine zV ?_;intro _|refine zg 1 ?_;refine q_v (ze (B:=zf 0)) ?_;refine q_v (za (hc:=q_c A)) ?_|refine zg 2 ?_;refine q_v zcP ?_;refine q_y (zj (n:=0)) ?_)
  exact zad rfl (zz (B:=zf 0) rfl (ty rfl) rfl F4 F0 (zd _).symm) (zr rfl) F2 ⟨rfl,rfl⟩
 ·simp only[decide_eq_false (show ¬m=0 by omega)] at A;unfold zco;rw[if_neg q_o];have K:=λq C (E:q.rangeAt C 0 (z8 [a]))=>zeA m a C q hm h ha E;have J:=zd (a%m);generalize a%m=r at*;repeat' (first|refine s_0 ?_|refine zg 0 ?_;refine zi ?_;intro _;refine zi ?_;intro _;refine zV ?_;intro _|refine zg 1 ?_;refine q_v (ze (B:=zf m)) ?_;refine q_v (za (hc:=q_c A)) ?_|refine zg 3 ?_;refine q_v (ze (B:=zf m)) ?_;refine q_v (zfm (n:=m)) ?_;refine q_v (ze (B:=zf a)) ?_|refine q_s (zbR (x:=a)) ?_;rintro _ _ ⟨O,rfl,rfl⟩|(refine zW ?_;first|refine q_v (ze (B:=zf r)) ?_|refine q_s (zh (hc:=λq X Q F=>K q _ (zp (F.has (by exact F5 F6)) F0))) ?_;rintro _ _ ⟨R,rfl,bc,rfl,rfl⟩|refine q_v (zbc (j:=0)) ?_|refine q_n (zj (n:=r)) ?_|refine zB ?_|fail)|fail)
  exact zad rfl (zz (B:=zf r) rfl (ty rfl) rfl F4 F0 (zd _).symm) (zr rfl) F2 ⟨rfl,rfl⟩
theorem zjA(f:Nat)(F:Nat->Nat->Nat)(a b m:Nat)(w:World)(ha:a<18446744073709551616^16)(hb:b<18446744073709551616^16)(hm:m<18446744073709551616^16)
  (A:∀args w,(callFunc f args).run Tryz.prog w= .ok (.enter f args) w)(C:∀a b w,a<m->b<m->q_G f [zm m,zm a,zm b] w (zm (F a b))):
  q_G 214 [zm m,.func (.func f) #[] #[],zm a,zm b] w (zco m (F (a%m) (b%m))):=by
 refine zo Tryz.func214 Tryz.ntmps214 ?_;have U:=zd a;have V:=zd b;have W:=zd m;have T:=zd 0;have E:=λq=>zc6 m q hm;rcases AD m with h|h
 ·subst h;unfold zco;rw[if_pos rfl];repeat' (first|refine s_0 ?_|refine zg 0 ?_;refine zi ?_;intro _;refine zi ?_;intro _;refine zi ?_;intro _;refine zV ?_;intro _|refine zg 1 ?_;refine q_v (ze (B:=zf 0)) ?_;refine q_v (za (hc:=q_c E)) ?_|refine zg 2 ?_;refine q_v zcP ?_;refine q_y (zj (n:=0)) ?_)
  exact zad rfl (zz (B:=zf 0) rfl (ty rfl) rfl F4 F0 (zd _).symm) (zr rfl) F2 ⟨rfl,rfl⟩
 ·simp only[decide_eq_false (show ¬m=0 by omega)] at E;unfold zco;rw[if_neg q_o];have Z:=λq I (Q:q.rangeAt I 0 (z8 [a,b]))=>zit m a b I q hm h ha hb Q;have C:=λq=>C (a%m) (b%m) q (A7 _ h) (A7 _ h);have Y:=zd (F (a%m) (b%m));have K:=zd (a%m);have O:=zd (b%m);generalize b%m=H,a%m=G,F (a%m) (b%m)=r at*;repeat' (first|refine s_0 ?_|refine zg 0 ?_;refine zi ?_;intro _;refine zi ?_;intro _;refine zi ?_;intro _;refine zV ?_;intro _|refine zg 1 ?_;refine q_v (ze (B:=zf m)) ?_;refine q_v (za (hc:=q_c E)) ?_|refine zg 3 ?_;refine q_v (ze (B:=zf m)) ?_;refine q_v (zfm (n:=m)) ?_;refine q_v (ze (B:=zf a)) ?_;refine q_v (ze (B:=zf b)) ?_|refine z5 (id:=4) 9 [[],[],[1],[],[3],[3,4],[],[6],[6,7],[0,1,2,3,4,5,6,7,8],[0,1,2,3,4,5,6,7,8,9],[0,1,2,3,4,5,6,7,8,9,10]] mixed ?_ ?_;kernel_rfl;refine zt ?_;refine q_D (ze (B:=zf m)) ?_;refine q_D (zfm (n:=m)) ?_;refine zt ?_;refine q_D (zbc (j:=0)) ?_;refine q_D (ze (B:=zf G) (hv:=(zp6 G H).1)) ?_;refine zt ?_;refine q_D (zbc (j:=1)) ?_;refine q_D (ze (B:=zf H) (hv:=(zp6 G H).2)) ?_;refine zam ?_;refine q_v (zem (he:=A) (fst:=[]) (cap:=[]) (hc:=λq X S J=>C q)) ?_;refine q_n (zj (n:=r)) ?_;refine zB ?_|refine q_s (zes (x:=a) (x':=b)) ?_;rintro _ _ ⟨bb,rfl,rfl⟩|(refine zW ?_;first|refine q_s (zh (hc:=λq X S J=>Z q _ (zp (J.has (by exact F5 F6)) F0))) ?_;rintro _ _ ⟨R,rfl,bc,rfl,rfl⟩|refine zB ?_|fail)|fail)
  exact zad rfl (zz (B:=zf r) rfl (ty rfl) rfl F4 F0 (zd _).symm) (zr rfl) F2 ⟨rfl,rfl⟩
theorem zpj(a b m:Nat)(w:World)(ha:a<18446744073709551616^16)(hb:b<18446744073709551616^16)(hm:m<18446744073709551616^16):
  q_G 184 [zm a,zm b,zm m] w (zco m ((a+b)%m)):=by
 refine zo Tryz.func184 Tryz.ntmps184 ?_;have C:=zd a;have E:=zd b;have F:=zd m;have A:=zd 0;have j:=λq=>zjA 245 (λx y=>(x+y)%m) a b m q ha hb hm (en rfl) (λx y q H I=>zjS m x y q hm H I);rcases AD m with h|h
 ·subst h;unfold zco at*;simp only[if_pos rfl] at j ⊢;repeat' (first|refine s_0 ?_|refine zg 0 ?_;refine zi ?_;intro _;refine zi ?_;intro _;refine zi ?_;intro _;refine zV ?_;intro _|refine zg 1 ?_;refine q_v (ze (B:=zf 0)) ?_;refine q_v (ze (B:=zf a)) ?_;refine q_v (ze (B:=zf b)) ?_;refine q_v (za (hc:=q_c j)) ?_;refine zb ?_;refine q_y (zj (n:=0)) ?_)
  exact zad rfl (zz (B:=zf 0) rfl (ty rfl) rfl F4 F0 (zd _).symm) (zr rfl) F2 ⟨rfl,rfl⟩
 ·have e:(λx y=>(x+y)%m) (a%m) (b%m)=(a+b)%m:=by
   exact(Nat.add_mod a b m).symm
  dsimp only at e;rw[e] at j;unfold zco at*;simp only[if_neg (show ¬m=0 by omega)] at j ⊢;have G:=zd ((a+b)%m);generalize (a+b)%m=r at*;repeat' (first|refine s_0 ?_|refine zg 0 ?_;refine zi ?_;intro _;refine zi ?_;intro _;refine zi ?_;intro _;refine zV ?_;intro _|refine zg 1 ?_;refine q_v (ze (B:=zf m)) ?_;refine q_v (ze (B:=zf a)) ?_;refine q_v (ze (B:=zf b)) ?_;refine q_v (za (hc:=q_c j)) ?_;refine zb ?_;refine q_y (zj (n:=r)) ?_)
  exact zad rfl (zz (B:=zf r) rfl (ty rfl) rfl F4 F0 (zd _).symm) (zr rfl) F2 ⟨rfl,rfl⟩
theorem zvg(a b m:Nat)(w:World)(ha:a<18446744073709551616^16)(hb:b<18446744073709551616^16)(hm:m<18446744073709551616^16):
  q_G 138 [zm a,zm b,zm m] w (zco m (dm m a b)):=by
 refine zo Tryz.func138 Tryz.ntmps138 ?_;have C:=zd a;have E:=zd b;have F:=zd m;have A:=zd 0;have j:=λq=>zjA 215 (λx y=>dm m x y) a b m q ha hb hm (en rfl) (λx y q H I=>zlR m x y q hm H I);rcases AD m with h|h
 ·subst h;unfold zco at*;simp only[if_pos rfl] at j ⊢;repeat' (first|refine s_t ?_|apply zbT;(focus ((repeat (first|exact F1|apply F3));done));assumption|(refine zg 0 ?_;try (refine zi ?_;intro _);try (refine zi ?_;intro _);try (refine zi ?_;intro _);try (refine zi ?_;intro _);try refine zB ?_)|(refine zg 1 ?_;try (first|refine q_v (ze (B:=zf a)) ?_|refine q_v (ze (B:=zf b)) ?_|refine q_v (ze (B:=zf 0)) ?_|refine zk ?_|fail);try (first|refine q_v (ze (B:=zf a)) ?_|refine q_v (ze (B:=zf b)) ?_|refine q_v (ze (B:=zf 0)) ?_|refine zk ?_|fail);try (first|refine q_v (ze (B:=zf a)) ?_|refine q_v (ze (B:=zf b)) ?_|refine q_v (ze (B:=zf 0)) ?_|refine zk ?_|fail);try refine q_v (za (hc:=q_c j)) ?_;try refine zaX ?_;try refine zaX ?_;try (first|refine q_n (zj (n:=0)) ?_|refine zS ?_|fail);try refine zB ?_)|(refine zW ?_;first|refine q_v (ze (B:=zf a)) ?_|refine q_v (ze (B:=zf b)) ?_|refine q_v (ze (B:=zf 0)) ?_|refine q_v (za (hc:=q_c j)) ?_|refine q_n (zj (n:=0)) ?_|refine zB ?_|refine zaX ?_|refine zk ?_|refine zS ?_|refine zi ?_;intro _|fail)|refine zbU ?_)
  exact zad rfl (zz (B:=zf 0) rfl (ty rfl) rfl F4 F0 (zd _).symm) (zr rfl) F2 ⟨rfl,rfl⟩
 ·have e:(λx y=>dm m x y) (a%m) (b%m)=dm m a b:=by
   exact zwU h (zdS m a) (zdS m b)
  dsimp only at e;rw[e] at j;unfold zco at*;simp only[if_neg (show ¬m=0 by omega)] at j ⊢;have G:=zd (dm m a b);generalize dm m a b=r at*;repeat' (first|refine s_t ?_|apply zbT;(focus ((repeat (first|exact F1|apply F3));done));assumption|(refine zg 0 ?_;try (refine zi ?_;intro _);try (refine zi ?_;intro _);try (refine zi ?_;intro _);try (refine zi ?_;intro _);try refine zB ?_)|(refine zg 1 ?_;try (first|refine q_v (ze (B:=zf a)) ?_|refine q_v (ze (B:=zf b)) ?_|refine q_v (ze (B:=zf m)) ?_|refine zk ?_|fail);try (first|refine q_v (ze (B:=zf a)) ?_|refine q_v (ze (B:=zf b)) ?_|refine q_v (ze (B:=zf m)) ?_|refine zk ?_|fail);try (first|refine q_v (ze (B:=zf a)) ?_|refine q_v (ze (B:=zf b)) ?_|refine q_v (ze (B:=zf m)) ?_|refine zk ?_|fail);try refine q_v (za (hc:=q_c j)) ?_;try refine zaX ?_;try refine zaX ?_;try (first|refine q_n (zj (n:=r)) ?_|refine zS ?_|fail);try refine zB ?_)|(refine zW ?_;first|refine q_v (ze (B:=zf a)) ?_|refine q_v (ze (B:=zf b)) ?_|refine q_v (ze (B:=zf m)) ?_|refine q_v (za (hc:=q_c j)) ?_|refine q_n (zj (n:=r)) ?_|refine zB ?_|refine zaX ?_|refine zk ?_|refine zS ?_|refine zi ?_;intro _|fail)|refine zbU ?_)
  exact zad rfl (zz (B:=zf r) rfl (ty rfl) rfl F4 F0 (zd _).symm) (zr rfl) F2 ⟨rfl,rfl⟩
theorem zkT(a b m:Nat)(w:World)(ha:a<18446744073709551616^16)(hb:b<18446744073709551616^16)(hm:m<18446744073709551616^16):
  q_G 183 [zm a,zm b,zm m] w (zco m (a*b%m)):=by
 refine zo Tryz.func183 Tryz.ntmps183 ?_;have C:=zd a;have E:=zd b;have F:=zd m;have A:=zd 0;have j:=λq=>zjA 244 (λx y=>x*y%m) a b m q ha hb hm (en rfl) (λx y q H I=>zhm m x y q hm H I);rcases AD m with h|h
 ·subst h;unfold zco at*;simp only[if_pos rfl] at j ⊢;repeat' (first|refine s_0 ?_|refine zg 0 ?_;refine zi ?_;intro _;refine zi ?_;intro _;refine zi ?_;intro _;refine zV ?_;intro _|refine zg 1 ?_;refine q_v (ze (B:=zf 0)) ?_;refine q_v (ze (B:=zf a)) ?_;refine q_v (ze (B:=zf b)) ?_;refine q_v (za (hc:=q_c j)) ?_;refine zb ?_;refine q_y (zj (n:=0)) ?_)
  exact zad rfl (zz (B:=zf 0) rfl (ty rfl) rfl F4 F0 (zd _).symm) (zr rfl) F2 ⟨rfl,rfl⟩
 ·have e:(λx y=>x*y%m) (a%m) (b%m)=a*b%m:=by
   exact(Dt a b m).symm
  dsimp only at e;rw[e] at j;unfold zco at*;simp only[if_neg (show ¬m=0 by omega)] at j ⊢;have G:=zd (a*b%m);generalize a*b%m=r at*;repeat' (first|refine s_0 ?_|refine zg 0 ?_;refine zi ?_;intro _;refine zi ?_;intro _;refine zi ?_;intro _;refine zV ?_;intro _|refine zg 1 ?_;refine q_v (ze (B:=zf m)) ?_;refine q_v (ze (B:=zf a)) ?_;refine q_v (ze (B:=zf b)) ?_;refine q_v (za (hc:=q_c j)) ?_;refine zb ?_;refine q_y (zj (n:=r)) ?_)
  exact zad rfl (zz (B:=zf r) rfl (ty rfl) rfl F4 F0 (zd _).symm) (zr rfl) F2 ⟨rfl,rfl⟩
theorem zvU(a e m:Nat)(w:World)(ha:a<18446744073709551616^16)(he:e<18446744073709551616^16)(hm:m<18446744073709551616^16):
  q_G 252 [zm a,zm e,zm m] w (zco m (a^e%m)):=by
 refine zo Tryz.func252 Tryz.ntmps252 ?_;have a9:=zd a;have b0:=zd e;have b1:=zd m;have a6:=zd 0;have hz:=λq=>zc6 m q hm;rcases AD m with h|h
 ·subst h;unfold zco;rw[if_pos rfl];repeat' (first|refine s_0 ?_|refine zg 0 ?_;refine zi ?_;intro _;refine zi ?_;intro _;refine zi ?_;intro _;refine zV ?_;intro _|refine zg 1 ?_;refine q_v (ze (B:=zf 0)) ?_;refine q_v (za (hc:=q_c hz)) ?_|refine zg 2 ?_;refine q_v zcP ?_;refine q_y (zj (n:=0)) ?_)
  exact zad rfl (zz (B:=zf 0) rfl (ty rfl) rfl F4 F0 (zd _).symm) (zr rfl) F2 ⟨rfl,rfl⟩
 ·simp only[decide_eq_false (show ¬m=0 by omega)] at hz;unfold zco;rw[if_neg q_o];have hr:=λq K (W:q.rangeAt K 0 (z8 [a]))=>zeA m a K q hm h ha W;have h1:=λq=>zv0 m q hm h;obtain⟨V,A⟩:∃V:Nat->Nat,∀k,V k=(a%m)^k%m:=⟨λk=>(a%m)^k%m,λ_=>rfl⟩;have G:∀k,V k<m:=λk=>by rw[A];exact A7 _ h
  have S:∀k q,q_G 300 ([zm m]++[zm (V k)]++[]) q (zm (V (2*k))):=λk q=>by
   have:=zq9 m (V k) q hm (G k);rw[show V k*V k%m=V (2*k) by rw[A,A,<-Dt,<-As,Ez]] at this;exact this
  have Q:∀k q,q_G 244 ([zm m]++[zm (V k),zm (a%m)]++[]) q (zm (V (k+1))):=λk q=>by
   have:=zhm m (V k) (a%m) q hm (G k) (A7 _ h);rw[show V k*(a%m)%m=V (k+1) by rw[A,A,Dz,AJ]] at this;exact this
  have C:=λq=>zlf e (a%m) V 300 244 [zm m] [] [zm m] [] q he (en rfl) (en rfl) S Q;rw[show V 0=1%m by rw[A,Ad],show V e=a^e%m by rw[A,((zdS m a).pow e).mod]] at C;have J:=zd (a%m);have a8:=zd (a^e%m);have a7:=zd (1%m);clear S Q A G;generalize 1%m=u,a%m=r,a^e%m=R at*;repeat' (first|refine s_0 ?_|refine zg 0 ?_;refine zi ?_;intro _;refine zi ?_;intro _;refine zi ?_;intro _;refine zV ?_;intro _|refine zg 1 ?_;refine q_v (ze (B:=zf m)) ?_;refine q_v (za (hc:=q_c hz)) ?_|refine zg 3 ?_;refine q_v (ze (B:=zf m)) ?_;refine q_v (zfm (n:=m)) ?_;refine zi ?_;intro _;refine q_n (zC (B:=zf m) (hv:=zeK m) (h1:=(zd m).symm)) ?_)
  rename_i b3 b4 b5 O b8;refine zb2 (id:=4) mixed ?_
  (refine zbY 14 14 [[],[],[1],[],[],[4],[1,2,3,4,5],[1,2,3,4,5,6],[1,2,3,4,5,6,7],[],[9],[],[11],[0,1,2,3,4,5,6,7,8,9,10,11,12],[0,1,2,3,4,5,6,7,8,9,10,11,12,13],[0,1,2,3,4,5,6,7,8,9,10,11,12,13,14]] [[],[],[],[],[],[],[],[],[],[],[],[],[],[],[],[]] none rfl ?_ ?_ ?_;kernel_rfl;kernel_rfl;refine q_E (ze (B:=zf e)) ?_;refine q_E (ze (B:=zf m)) ?_;refine q_E (za (hc:=q_c h1)) ?_;refine q_E (ze (B:=zf m)) ?_;refine q_E (ze (B:=zf a)) ?_;try refine dh_0nE (h:=?_))
  refine zcW (R:=λ_=>zwF 133 1 (z8 [a])) (λ_ _ _=>rfl) (λρ I=>FF (zbR (x:=a)) λv L' h=>?_) (h:=?_)
  ·obtain⟨b,rfl,rfl⟩:=h;exact⟨[_],rfl,b,rfl,rfl⟩
  refine zcW (R:=λ_=>zwF 133 1 (zf r)) (λ_ _ _=>rfl) (λρ I=>?_) (h:=?_)
  ·obtain⟨⟨E,F,H⟩,-⟩:=I;refine FF (zh (vs:=[zm m,.slice (some ⟨E,0,none⟩) 1 1]) (ha:=by show some [_,(ρ 5).1]=_;rw[F];rfl) (hc:=λq X Z Y=>hr q E ((Fb (T:=133) (by show Has ((ρ 5).2++_) _;rw[H];exact F6) F0) q X Z Y))) λv L' h=>?_;obtain⟨R,rfl,bc,rfl,rfl⟩:=h;exact⟨_,rfl,bc,rfl,rfl⟩
  refine zpS (u:=λρ=>zud (ρ 6).1) (λρ I=>?_) (λ_=>rfl) rfl (λρ ρ' h=>by rw[h 6 q_e]) (h:=?_)
  ·obtain⟨⟨E,F,H⟩,-⟩:=I;refine FF (zbc (b:=E) (off:=0) (n:=1) (c:=1) (j:=0) (hx:=by show some (ρ 6).1=_;rw[F])) λv L' h=>?_;obtain⟨rfl,rfl⟩:=h;exact⟨by rw[F];rfl,rfl⟩
  refine dcE (u:=zm r) (λρ I=>?_) (k:=?_)
  ·obtain⟨⟨E,F,H⟩,-⟩:=I;exact ze (B:=zf r) (b:=E) (off:=0) (T:=133) (hx:=by show some (zud (ρ 6).1)=_;rw[F];rfl) (hL:=by show Has ((ρ 6).2++_) _;rw[H];exact F6) (hv:=F0) (hz:=J.symm)
  (skip;refine q_E (ze (B:=zf m)) ?_;refine q_E zaj ?_;refine q_E (ze (B:=zf m)) ?_;refine q_E zaj ?_;refine q_E (za (hc:=q_c C)) ?_;try refine dh_0nE (h:=?_))
  refine zdI (h:=?_);rintro ρ ⟨⟨E,F,H⟩,⟨bz,e3,U⟩,-⟩
  (refine zb1 [[],[],[1],[],[],[4],[1,2,3,4,5],[1,2,3,4,5,6],[1,2,3,4,5,6,7],[],[9],[],[11],[0,1,2,3,4,5,6,7,8,9,10,11,12],[0,1,2,3,4,5,6,7,8,9,10,11,12,13],[0,1,2,3,4,5,6,7,8,9,10,11,12,13,14]] ?_ ?_;kernel_rfl)
  refine FI (fr':=[(27,zm R),(6,.pointer (some ⟨O,0,none⟩)),(7,.int .i64 0)]) (L':=[.blk O 133 (List.replicate 16 (Value.int IntKind.u64 0))]) ?_ ?_ ?_;rotate_left
  ·exact q_h
  ·show SubR _ ((ρ 6).2++((ρ 5).2++_));rw[H,U];exact q_h
  repeat' (first|refine s_0 ?_|(refine zW ?_;first|refine q_n (zj (n:=R)) ?_|refine zB ?_|fail)|fail)
  exact zad rfl (zz (B:=zf R) rfl (ty rfl) rfl F4 F0 (zd _).symm) (zr rfl) F2 ⟨rfl,rfl⟩
end Go.Proofs.YtdnlngbjpdbffaaGreatDoor
namespace Go.Sy
open Go
theorem zld{N:Nat}{w0:World}{M:Nat->Prop}{ds:List Deferred}{L L':List Res}(j:L.Perm L'):Conv N w0 M ds L L':=λ_ _ _ X m=>m.perm (j.append_right X)
end Go.Sy
namespace Go.Nt
open Go Go.Sy
def gS:Nat->List UInt8
 |1=>[98,51,102]
 |2=>[52,52,56,53,56,102,102]
 |3=>[57,49,98,56,56,55,102,102]
 |_=>[102,102,102,102,102,102,102,102,102,102,102,102,102,102,102,102,99,57,48,102,100,97,97,50,50,49,54,56,99,50,51,52,99,52,99,54,54,50,56,98,56,48,100,99,49,99,100,49,50,57,48,50,52,101,48,56,56,97,54,55,99,99,55,52,48,50,48,98,98,101,97,54,51,98,49,51,57,98,50,50,53,49,52,97,48,56,55,57,56,101,51,52,48,52,100,100,101,102,57,53,49,57,98,51,99,100,51,97,52,51,49,98,51,48,50,98,48,97,54,100,102,50,53,102,49,52,51,55,52,102,101,49,51,53,54,100,54,100,53,49,99,50,52,53,101,52,56,53,98,53,55,54,54,50,53,101,55,101,99,54,102,52,52,99,52,50,101,57,97,54,51,97,51,54,50,48,102,102,102,102,102,102,102,102,102,102,102,102,102,102,102,102]
theorem znE(i:Nat)(h0:1<=i)(j:i<=4):zi7 (gS i)=some (gP i):=
 zck (p:=λi=>zi7 (gS i)=some (gP i)) (by decide +kernel) (by decide +kernel) (by decide +kernel) (by decide +kernel) i h0 j
theorem zrq(i:Nat)(h0:1<=i)(j:i<=4):(gS i).length<=192:=
 zck (p:=λi=>(gS i).length<=192) (by decide +kernel) (by decide +kernel) (by decide +kernel) (by decide +kernel) i h0 j
theorem zvT(i:Nat):gP i/2^1=gQ i:=rfl
def zdD:List Value:=[.string (str (gS 1)),.string (str (gS 2)),.string (str (gS 3)),.string (str (gS 4))]
theorem zkl(i:Nat)(h0:1<=i)(j:i<=4):zdD[i-1]?=some (.string (str (gS i))):=
 zck (p:=λi=>zdD[i-1]?=some (.string (str (gS i)))) rfl rfl rfl rfl i h0 j
theorem zdp(i:Nat)(h0:1<=i)(j:i<=4):1<=gL i/\gL i<=96:=
 zck (p:=λi=>1<=gL i/\gL i<=96) q_e q_e q_e q_e i h0 j
theorem zbw(i:Nat)(h0:1<=i)(j:i<=4):gP i<18446744073709551616^16:=by
 rw[zgU 256 8 128 rfl rfl];have h:=zaE 256 (gP i) q_e;rw[zkr i h0 j] at h;exact AG h (AA q_e (by have:=(zdp i h0 j).2;omega))
theorem zba(i:Nat)(h0:1<=i)(j:i<=4):gQ i<18446744073709551616^16:=Av (Bv _ _) (zbw i h0 j)
def zab(p q l:Nat):List Value:=zf p++(zf q++[.int .i64 l])
theorem zY(p q l:Nat):(zab p q l).length=33:=by
 unfold zab;rw[A2,A2,zd,zd];rfl
theorem zaU(p q l:Nat):(zab p q l).all (·.oneCell')=true:=by
 unfold zab;rw[Bc,Bc,zeK,zeK];rfl
theorem zb8(p q l:Nat):Seg (zab p q l) 0 (zf p):=by
 have:=Seg.mid (A:=[]) (B:=zf p) (D:=zf q++[Value.int .i64 l]);rw[B3] at this;exact this
theorem zb6(p q l:Nat):Seg (zab p q l) 16 (zf q):=by
 have:=Seg.mid (A:=zf p) (B:=zf q) (D:=[Value.int .i64 l]);rw[zd,AL] at this;exact this
theorem zcG(p q l:Nat):(zab p q l)[32]?=some (.int .i64 (l:Int)):=by
 unfold zab;rw[BA (by rw[zd];decide),BA (by rw[zd,zd];decide),zd,zd];rfl
theorem zrQ(p q l:Nat):FillTo (nth [(0,16),(16,16),(32,1)]) [(0,zm p),(1,zm q),(2,Value.int .i64 l)] (List.replicate 32 (Value.int IntKind.u64 0)++[.int .i64 0]) (zab p q l):=by
 have m:List.replicate 32 (Value.int IntKind.u64 0)=List.replicate 16 (Value.int IntKind.u64 0)++List.replicate 16 (Value.int IntKind.u64 0):=rfl;have s1:zaz (List.replicate 32 (Value.int IntKind.u64 0)++[.int .i64 0]) 0 (zf p)=zf p++(List.replicate 16 (Value.int IntKind.u64 0)++[.int .i64 0]):=by
  unfold zaz;rw[zd,m];simp
 have s2:zaz (zf p++(List.replicate 16 (Value.int IntKind.u64 0)++[.int .i64 0])) 16 (zf q)=zf p++(zf q++[.int .i64 0]):=by
  unfold zaz;rw[zd,By (by rw[zd];decide),A6 (by rw[zd];decide),List.drop_append,zd,Ec (by rw[zd];decide)];simp
 have r:zaz (zf p++(zf q++[.int .i64 0])) 32 [Value.int .i64 (l:Int)]=zab p q l:=by
  have e:zf p++(zf q++[Value.int .i64 0])=(zf p++zf q)++[Value.int .i64 0]:=by rw[AL]
  have j:(zf p++zf q).length=32:=by rw[A2,zd,zd]
  unfold zaz zab;rw[e,By (by rw[j];decide),A6 (by rw[j];decide),Ec (by rw[A2,j];exact A4 _)];simp
 refine .cons (cs:=zf p) rfl rfl (zd p) q_p ?_;rw[s1];refine .cons (cs:=zf q) rfl rfl (zd q) (by simp[zd]) ?_;rw[s2];refine .cons (cs:=[.int .i64 l]) rfl rfl rfl (by simp[zd]) ?_;rw[r];exact .nil
theorem zq1:List.replicate 32 (Value.int IntKind.u64 0)++[Value.int .i64 0]=zab 0 0 0:=by
 unfold zab zf;rw[zf1,Ba];rfl
end Go.Nt
namespace Go.Proofs.YtdnlngbjpdbffaaGreatDoor
section
open Go Go.Sy Go.Nt Go.RowKit
def zcu(p q l:Nat):Value:=.agg (zab p q l).toArray
def GT(w:World):Prop:=w.rangeAt 0 0 zdD
theorem GT.to{w w':World}(h:GT w)(hk:Keep No w w'):GT w':=za5 h hk (λh=>h)
variable {ro:Option Nat}{N:Nat}{w0:World}{M:Nat->Prop}{ds:List Deferred}{g:Nat->Option Value}{L:List Res}{o:Oper}{z z' z'':Operand}
theorem znw{p q l:Nat}(r:o.op= .build 194 #[(0,z),(1,z'),(2,z'')]:=by exact rfl)(hz:ev g z=some (zm p):=by exact rfl)(m:ev g z'=some (zm q):=by exact rfl)(j:ev g z''=some (.int .i64 (l:Int)):=by exact rfl):OpT Tryz.prog ro N w0 M ds o g L (Det (zcu p q l) L):=
 zfz (parts:=#[(0,z),(1,z'),(2,z'')]) (vs:=[zm p,zm q,.int .i64 l]) (C:=zab p q l) (zrQ p q l) r (by simp[evs,hz,m,j]) (ty rfl) rfl rfl (zc rfl)
theorem zjh(j:o.op= .build 194 #[]:=by exact rfl):OpT Tryz.prog ro N w0 M ds o g L (Det (zcu 0 0 0) L):=by
 unfold zcu;rw[<-zq1];exact zek j (ty rfl) (.inl ⟨rfl,rfl⟩) (zc rfl)
attribute [local irreducible] Sy SyL SyX Sy.Fn callFunc zf z8 zab gP gQ gL gS zdD
theorem zhn(z:Int)(w:World)(hz:¬(1<=z/\z<=4)):q_G 180 [.int .i64 z] w (.tuple #[zcu 0 0 0,.int .i64 2]):=by
 refine zo Tryz.func180 Tryz.ntmps180 ?_;have j:=zY 0 0 0;by_cases h:z<1
 ·have g1:decide (z<1)=true:=decide_eq_true h;repeat' (first|refine s_0 ?_|refine zg 0 ?_;refine zV ?_;intro _|refine q_k 1 ?_;refine q_x (zl (hr:=g1)) ?_|refine zg 2 ?_;refine q_v zjh ?_;refine q_y (zC (B:=zab 0 0 0) (hv:=zaU 0 0 0) (h1:=(zY 0 0 0).symm)) ?_)
  exact zad rfl (zz (B:=zab 0 0 0) rfl (ty rfl) rfl F4 F0 (zY _ _ _).symm) (zr rfl) F2 ⟨rfl,rfl⟩
 ·have g1:decide (z<1)=false:=decide_eq_false h;have g2:decide (z>4)=true:=q_d;repeat' (first|refine s_0 ?_|refine zg 0 ?_;refine zV ?_;intro _|refine q_k 1 ?_;refine q_x (zl (hr:=g1)) ?_;refine q_x (zF (hr:=g2)) ?_|refine zg 2 ?_;refine q_v zjh ?_;refine q_y (zC (B:=zab 0 0 0) (hv:=zaU 0 0 0) (h1:=(zY 0 0 0).symm)) ?_)
  exact zad rfl (zz (B:=zab 0 0 0) rfl (ty rfl) rfl F4 F0 (zY _ _ _).symm) (zr rfl) F2 ⟨rfl,rfl⟩
theorem zcD(i:Nat)(w:World)(h0:1<=i)(C:i<=4)(K:GT w):q_G 180 [.int .i64 (i:Int)] w (.tuple #[zcu (gP i) (gQ i) (gL i),.int .i64 0]):=by
 refine zo Tryz.func180 Tryz.ntmps180 ?_;have g1:decide ((i:Int)<1)=false:=q_f;have g2:decide ((i:Int)>4)=false:=q_f;have g3:IntKind.i64.wrap ((i:Int)-1)=((i-1:Nat):Int):=q_w;have A:w.cell? ⟨0,i-1,none⟩=some (.string (str (gS i))):=by
  have:=K (i-1) _ (zkl i h0 C);rwa[AR] at this
 have G:=zbw i h0 C;have J:=zrq i h0 C;have r:=λF=>zto (gS i) F q_o;rw[znE i h0 C] at r;dsimp only at r;rw[if_pos G] at r;have E:=λF=>zwm (gP i) 1 F G q_e;rw[zvT] at E;have H:=λF=>zca (gP i) F G;have I:=zm1 8 (gP i) q_e;rw[show(2:Nat)^8=256 from rfl,zkr i h0 C] at I;have O:=zew G;have Q:=zd (gP i);have R:=zd (gQ i);have S:=zY (gP i) (gQ i) (gL i);generalize nd 2 (gP i)=m at*;have g4:IntKind.i64.wrap ((m:Int)+7)=((m+7:Nat):Int):=q_w;have g5:IntKind.i64.wrap (((m+7:Nat):Int).tdiv 8)=((gL i:Nat):Int):=by
  have:=zcV (p:=m+7) (k:=8) q_o;rw[show m+7=m+(8-1) from rfl,<-I] at this;exact this
 clear I J;generalize gL i=l,gQ i=q,gP i=p at*;repeat' (first|refine s_0 ?_|refine zg 0 ?_;refine zV ?_;intro _|refine q_k 1 ?_;refine q_x (zl (hr:=g1)) ?_;refine q_x (zF (hr:=g2)) ?_|refine q_k 3 ?_;refine q_v (zH (hr:=g3)) ?_;refine q_v (zdY (j:=i-1)) ?_;refine q_v (zn (hv:=A)) ?_;refine q_v (za (hc:=q_c r)) ?_;refine zb ?_;refine zi ?_;intro _;refine q_y (zj (n:=p)) ?_|refine zg 4 ?_;refine q_v (ze (B:=zf p)) ?_;refine q_v (za (hc:=q_c E)) ?_;refine zb ?_;refine zi ?_;intro _;refine q_y (zj (n:=q)) ?_|refine z5 (id:=5) 6 [[],[],[],[2],[2,3],[2,3,4],[0,1,2,3,4,5],[0,1,2,3,4,5,6],[0,1,2,3,4,5,6,7]] mixed ?_ ?_;kernel_rfl;refine q_D (ze (B:=zf p)) ?_;refine q_D (ze (B:=zf q)) ?_;refine q_D (ze (B:=zf p)) ?_;refine q_D (za (hc:=q_c H)) ?_;refine q_D (zA (hr:=g4)) ?_;refine q_D (zbb (hr:=g5)) ?_;refine zam ?_;refine q_v (znw (p:=p) (q:=q) (l:=l)) ?_;refine q_n (zC (B:=zab p q l) (hv:=zaU p q l) (h1:=(zY p q l).symm)) ?_;refine zB ?_|fail)
 exact zad rfl (zz (B:=zab p q l) rfl (ty rfl) rfl F4 F0 (zY _ _ _).symm) (zr rfl) F2 ⟨rfl,rfl⟩
end
open Go Go.Sy Go.Nt Go.RowKit
theorem zl3{H:Type}{enc:TypeId×Value->H}{P:Program}{w:World}{base:Nat}{U:Nat->Bool}{held:Bool}{j:Nat}{t e:TypeId}{n:Nat}{cs:List Value}{q:List (List UInt8)}{p:List MemPlace}
  (Q:P.underlying t=some (.array n e))(he:P.underlying e=some .string)(A:P.cellsOf e=1)(B:P.cellsOf t=n)
  (h:DataW.trod enc P w base U held j t cs=some (.agg (q.map λs=> .lit (.string s)),p)):cs=q.map λs=>Value.string (str s):=by
 cases j with
 |zero=>simp[DataW.trod] at h
 |succ j=>
  simp only[DataW.trod,Q,A,B,Af] at h;split at h
  ·rename_i V;obtain⟨E,F,R⟩:=Ai.1 h;have m:E.map (·.1)=q.map λs=>(DataW.lit (.string s):DataW H):=by
    have:=congrArg Prod.fst R;simpa using this
   have S:E.length=n:=by simpa using Lib.mapM_length F
   have T:q.length=n:=by
    have:=congrArg List.length m;simp at this;omega
   apply Cz;intro i;by_cases hi:i<n
   ·obtain⟨b,J,O⟩:=Lib.mapM_at F i i (by simp[hi]);obtain⟨s,K,rfl,_⟩:=DataW.trod_string he O;have G:cs[i]?=some (.string s):=by
     have:=congrArg (·[0]?) K;simpa [Bt,Be] using this
    have r:(E.map (·.1))[i]?=some (DataW.lit (.string s.data.toList):DataW H):=by simp[J]
    rw[m] at r;simp only[AY,Ai,DataW.lit.injEq,Lit.string.injEq] at r;obtain⟨z',C,rfl⟩:=r;have I:str s.data.toList=s:=rfl;rw[G,AY,C,C3,I]
   ·rw[BL (by omega),BL (by simp;omega)]
  ·cases h
theorem zre{P:Program}{w:World}{l:List (String×DataW Unit)}(h:laidMet P l w){n:String}{I:List (List UInt8)}{g t e m:Nat}(hm:(n,(.agg (I.map λs=> .lit (.string s)):DataW Unit))∈l)(H:P.globalNamed n=some g)(F:(P.globals[g]?).map (·.type)=some t)
  (Q:P.underlying t=some (.array m e))(he:P.underlying e=some .string)(r:P.cellsOf e=1)(B:P.cellsOf t=m):w.rangeAt g 0 (I.map λs=>Value.string (str s)):=by
 obtain⟨T,O,_⟩:=h;obtain⟨S,U,R,G,p,C,E,q,J⟩:=ziY O hm;obtain rfl:=Ap (H.symm.trans C);obtain rfl:=Ap (F.symm.trans E);have A:=zl3 Q he r B J;intro j v K;rw[World.var?_cell H q,AR,<-Cw,A];exact K
theorem zvC:Tryz.prog.globalNamed "watchword/group.primes" =some 0:=by kernel_rfl
theorem ztL:(Tryz.prog.globals[0]?).map (·.type)=some 244:=by kernel_rfl
theorem zr2:Tryz.prog.underlying 244=some (.array 4 9):=by kernel_rfl
theorem zwv:Tryz.prog.underlying 9=some .string:=by kernel_rfl
theorem ztR:Tryz.prog.cellsOf 9=1:=by kernel_rfl
theorem zot:Tryz.prog.cellsOf 244=4:=by kernel_rfl
theorem zvB:(Rows.laid_watchword_group_primes:DataW Unit)= .agg ([gS 1,gS 2,gS 3,gS 4].map λs=> .lit (.string s)):=by kernel_rfl
theorem zpI{W:World}{l:List (String×DataW Unit)}(h:laidMet Tryz.prog l W)(h1:("watchword/group.primes",Rows.laid_watchword_group_primes)∈l):GT W:=by
 rw[zvB] at h1;exact zre h h1 zvC ztL zr2 zwv ztR zot
def zwo:Nat->DataW Unit->List Value
 |n+1,.agg l=>l.flatMap (zwo n)
 |_,.lit (.int k z)=>[.int k z]
 |_,.lit (.string s)=>[.string (str s)]
 |_,_=>[]
noncomputable def zhN(os:Os):World:=
 { zlM os with heap:=(zlM os).heap.modify 0 (zea (zwo 3 Rows.laid_watchword_group_primes)) }
end Go.Proofs.YtdnlngbjpdbffaaGreatDoor
namespace Go.Sy
open Go
variable {P:Program}{ro:Option Nat}{N:Nat}{w0:World}{M:Nat->Prop}{ds:List Deferred}{o:Oper}{g:Nat->Option Value}{L:List Res}{t:TypeId}{y:Ty}
theorem zkk{e n c':Nat}{lo co:Operand}{k1 k2:IntKind}{z0:Value}{l c:Int}{ye:Ty}(Z:n<=c')(C:l=(n:Int):=by exact rfl)(r:c=(c':Int):=by exact rfl)(J:o.op= .makeSlice t lo co:=by exact rfl)(W:ev g lo=some (.int k1 l):=by exact rfl)(hc:ev g co=some (.int k2 c):=by exact rfl)(ht:zac P t=some y:=by exact ty rfl)(hy:y.desc= .slice e:=by exact rfl)(he:zac P e=some ye:=by exact ty rfl)
  (hz:zaV P e=some [z0]:=by exact zc rfl)(h1:ye.size=1:=by exact rfl)(hb:ye.bytes*c'<=281474976710656:=by first|(dsimp only;omega)|omega|fail)(hm:c'<=maxLen:=by first|(unfold maxLen;omega)|fail):
  OpT P ro N w0 M ds o g L (λv O=>∃b,v= .slice (some ⟨b,0,none⟩) n c'/\O= .blk b e (List.replicate c' z0)::L):=
 FK (by rw[J];rfl) λa w X j=>by
  obtain⟨d,i',T,V,q,_⟩:=zU ht;rw[hy] at q;have:=za6 q;subst this;obtain⟨de,K,U,m,_,B,A,_⟩:=zU he;unfold zaV at hz;rw[m] at hz;simp only[BB,Ai] at hz;obtain⟨I,H,F⟩:=hz;subst C;subst r;obtain⟨R,S⟩:=zbG j e (List.replicate c' z0);refine⟨_,_,w.alloc (.cells (List.replicate c' z0).toArray e),_,?_,.inl rfl,⟨w.heap.size,rfl,rfl⟩,R,S⟩;have Y:c'<=9223372036854775807:=by unfold maxLen at hm;omega
  have G:I.cells= #[z0]:=BC.1 F;have E:=run_make (P:=P) w t e K I T m H k1 k2 n c' q_o q_o (by rw[A,<-BW];omega) q_o;simp only[B6] at E;have Q:madeCells I.cells (c'*K.size)=(List.replicate c' z0).toArray:=by
   rw[B,h1,Af,G];exact BC.1 (toList_madeCells_one z0 c')
  rw[Q] at E;simp[execOp,J,j.agr.eval W,j.agr.eval hc,E]
end Go.Sy
