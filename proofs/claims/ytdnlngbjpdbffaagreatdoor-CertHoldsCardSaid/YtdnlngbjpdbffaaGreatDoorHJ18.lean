/- Lemmas of this proof. -/
import Derived.Test.YtdnlngbjpdbffaaGreatDoorHJ17
set_option maxHeartbeats 1000000
set_option maxRecDepth 10000
set_option linter.all false
namespace Go.Proofs.YtdnlngbjpdbffaaGreatDoor
open Go Go.Sy Go.Nt Go.RowKit
variable {ro:Option Nat}{N:Nat}{w0:World}{M:Nat->Prop}{ds:List Deferred}{g:Nat->Option Value}{L:List Res}{o:Oper}{z:Operand}
theorem zfw{n:Nat}(j:o.op= .build 227 #[(0,z)]:=by exact rfl)(hz:ev g z=some (zu n):=by exact rfl):OpT Tryz.prog ro N w0 M ds o g L (Det (zu n) L):=
 zgJ (parts:=#[(0,z)]) (vs:=[zu n]) (C:=zg n) (zn3 n) j (by simp[evs,hz]) (ty rfl) rfl rfl (zc rfl)
def zxp(T n:Nat)(C:List Value)(v:Value)(Nw:List Res):Prop:=∃b,v= .slice (some ⟨b,0,none⟩) n n/\Nw= [.blk b T C]
def zuK:Value->Value
 | .slice (some a) _ _=> .pointer (some a)
 |v=>v
attribute [local irreducible] Sy SyL SyX Sy.Fn callFunc zg zad
def zco(m r:Nat):Value:=if m=0 then .tuple #[zu 0,.int .i64 2] else .tuple #[zu r,.int .i64 0]
theorem zsq(a m:Nat)(w:World)(ha:a<18446744073709551616^16)(hm:m<18446744073709551616^16):
  q_G 182 [zu a,zu m] w (zco m (a%m)):=by
 refine zz Tryz.func182 Tryz.ntmps182 ?_;have I:=zb a;have J:=zb m;have H:=zb 0;have A:=λq=>zdg m q hm;rcases AM m with h|h
 ·subst h;unfold zco;rw[if_pos rfl];repeat' (first|refine s_0 ?_|refine ze 0 ?_;refine zi ?_;intro _;refine zi ?_;intro _;refine z9 ?_;intro _|refine ze 1 ?_;refine q_v (zd (B:=zg 0)) ?_;refine q_v (za (hc:=q_c A)) ?_|refine ze 2 ?_;refine q_v zc0 ?_;refine q_y (zk (n:=0)) ?_)
  exact zT rfl (zB (B:=zg 0) rfl (ty rfl) rfl En Em (zb _).symm) (zj rfl) El ⟨rfl,rfl⟩
 ·simp only[decide_eq_false (show ¬m=0 by omega)] at A;unfold zco;rw[if_neg q_o];have O:=λq E (F:q.rangeAt E 0 (zad [a]))=>zeN m a E q hm h ha F;have K:=zb (a%m);generalize a%m=r at*;repeat' (first|refine s_0 ?_|refine ze 0 ?_;refine zi ?_;intro _;refine zi ?_;intro _;refine z9 ?_;intro _|refine ze 1 ?_;refine q_v (zd (B:=zg m)) ?_;refine q_v (za (hc:=q_c A)) ?_|refine ze 3 ?_;refine q_v (zd (B:=zg m)) ?_;refine q_v (zfw (n:=m)) ?_;refine q_v (zd (B:=zg a)) ?_|refine q_s (zbX (x:=a)) ?_;rintro _ _ ⟨Q,rfl,rfl⟩|(refine zx ?_;first|refine q_v (zd (B:=zg r)) ?_|refine q_s (zn (hc:=λq X S G=>O q _ (zq (G.has (by exact Et Ev)) Em))) ?_;rintro _ _ ⟨R,rfl,bc,rfl,rfl⟩|refine q_v (zbk (j:=0)) ?_|refine q_n (zk (n:=r)) ?_|refine zo ?_|fail)|fail)
  exact zT rfl (zB (B:=zg r) rfl (ty rfl) rfl En Em (zb _).symm) (zj rfl) El ⟨rfl,rfl⟩
theorem zjC(f:Nat)(F:Nat->Nat->Nat)(a b m:Nat)(w:World)(ha:a<18446744073709551616^16)(hb:b<18446744073709551616^16)(hm:m<18446744073709551616^16)
  (A:∀args w,(callFunc f args).run Tryz.prog w= .ok (.enter f args) w)(E:∀a b w,a<m->b<m->q_G f [zu m,zu a,zu b] w (zu (F a b))):
  q_G 214 [zu m,.func (.func f) #[] #[],zu a,zu b] w (zco m (F (a%m) (b%m))):=by
 refine zz Tryz.func214 Tryz.ntmps214 ?_;have V:=zb a;have W:=zb b;have Y:=zb m;have U:=zb 0;have G:=λq=>zdg m q hm;rcases AM m with h|h
 ·subst h;unfold zco;rw[if_pos rfl];repeat' (first|refine s_0 ?_|refine ze 0 ?_;refine zi ?_;intro _;refine zi ?_;intro _;refine zi ?_;intro _;refine z9 ?_;intro _|refine ze 1 ?_;refine q_v (zd (B:=zg 0)) ?_;refine q_v (za (hc:=q_c G)) ?_|refine ze 2 ?_;refine q_v zc0 ?_;refine q_y (zk (n:=0)) ?_)
  exact zT rfl (zB (B:=zg 0) rfl (ty rfl) rfl En Em (zb _).symm) (zj rfl) El ⟨rfl,rfl⟩
 ·simp only[decide_eq_false (show ¬m=0 by omega)] at G;unfold zco;rw[if_neg q_o];have hr:=λq J (S:q.rangeAt J 0 (zad [a,b]))=>zis m a b J q hm h ha hb S;have E:=λq=>E (a%m) (b%m) q (AG _ h) (AG _ h);have Z:=zb (F (a%m) (b%m));have O:=zb (a%m);have Q:=zb (b%m);generalize b%m=I,a%m=H,F (a%m) (b%m)=r at*;repeat' (first|refine s_0 ?_|refine ze 0 ?_;refine zi ?_;intro _;refine zi ?_;intro _;refine zi ?_;intro _;refine z9 ?_;intro _|refine ze 1 ?_;refine q_v (zd (B:=zg m)) ?_;refine q_v (za (hc:=q_c G)) ?_|refine ze 3 ?_;refine q_v (zd (B:=zg m)) ?_;refine q_v (zfw (n:=m)) ?_;refine q_v (zd (B:=zg a)) ?_;refine q_v (zd (B:=zg b)) ?_|refine zal (id:=4) 9 [[],[],[1],[],[3],[3,4],[],[6],[6,7],[0,1,2,3,4,5,6,7,8],[0,1,2,3,4,5,6,7,8,9],[0,1,2,3,4,5,6,7,8,9,10]] mixed ?_ ?_;kernel_rfl;refine zO ?_;refine q_D (zd (B:=zg m)) ?_;refine q_D (zfw (n:=m)) ?_;refine zO ?_;refine q_D (zbk (j:=0)) ?_;refine q_D (zd (B:=zg H) (hv:=(zqG H I).1)) ?_;refine zO ?_;refine q_D (zbk (j:=1)) ?_;refine q_D (zd (B:=zg I) (hv:=(zqG H I).2)) ?_;refine zaG ?_;refine q_v (zeu (he:=A) (fst:=[]) (cap:=[]) (hc:=λq X T K=>E q)) ?_;refine q_n (zk (n:=r)) ?_;refine zo ?_|refine q_s (zeO (x:=a) (x':=b)) ?_;rintro _ _ ⟨bb,rfl,rfl⟩|(refine zx ?_;first|refine q_s (zn (hc:=λq X T K=>hr q _ (zq (K.has (by exact Et Ev)) Em))) ?_;rintro _ _ ⟨R,rfl,bc,rfl,rfl⟩|refine zo ?_|fail)|fail)
  exact zT rfl (zB (B:=zg r) rfl (ty rfl) rfl En Em (zb _).symm) (zj rfl) El ⟨rfl,rfl⟩
theorem zpC(a b m:Nat)(w:World)(ha:a<18446744073709551616^16)(hb:b<18446744073709551616^16)(hm:m<18446744073709551616^16):
  q_G 184 [zu a,zu b,zu m] w (zco m ((a+b)%m)):=by
 refine zz Tryz.func184 Tryz.ntmps184 ?_;have E:=zb a;have F:=zb b;have G:=zb m;have A:=zb 0;have j:=λq=>zjC 245 (λx y=>(x+y)%m) a b m q ha hb hm (en rfl) (λx y q I J=>zki m x y q hm I J);rcases AM m with h|h
 ·subst h;unfold zco at*;simp only[if_pos rfl] at j ⊢;repeat' (first|refine s_0 ?_|refine ze 0 ?_;refine zi ?_;intro _;refine zi ?_;intro _;refine zi ?_;intro _;refine z9 ?_;intro _|refine ze 1 ?_;refine q_v (zd (B:=zg 0)) ?_;refine q_v (zd (B:=zg a)) ?_;refine q_v (zd (B:=zg b)) ?_;refine q_v (za (hc:=q_c j)) ?_;refine zf ?_;refine q_y (zk (n:=0)) ?_)
  exact zT rfl (zB (B:=zg 0) rfl (ty rfl) rfl En Em (zb _).symm) (zj rfl) El ⟨rfl,rfl⟩
 ·have e:(λx y=>(x+y)%m) (a%m) (b%m)=(a+b)%m:=by
   exact(Nat.add_mod a b m).symm
  dsimp only at e;rw[e] at j;unfold zco at*;simp only[if_neg (show ¬m=0 by omega)] at j ⊢;have H:=zb ((a+b)%m);generalize (a+b)%m=r at*;repeat' (first|refine s_0 ?_|refine ze 0 ?_;refine zi ?_;intro _;refine zi ?_;intro _;refine zi ?_;intro _;refine z9 ?_;intro _|refine ze 1 ?_;refine q_v (zd (B:=zg m)) ?_;refine q_v (zd (B:=zg a)) ?_;refine q_v (zd (B:=zg b)) ?_;refine q_v (za (hc:=q_c j)) ?_;refine zf ?_;refine q_y (zk (n:=r)) ?_)
  exact zT rfl (zB (B:=zg r) rfl (ty rfl) rfl En Em (zb _).symm) (zj rfl) El ⟨rfl,rfl⟩
theorem zvX(a b m:Nat)(w:World)(ha:a<18446744073709551616^16)(hb:b<18446744073709551616^16)(hm:m<18446744073709551616^16):
  q_G 138 [zu a,zu b,zu m] w (zco m (dm m a b)):=by
 refine zz Tryz.func138 Tryz.ntmps138 ?_;have E:=zb a;have F:=zb b;have G:=zb m;have A:=zb 0;have j:=λq=>zjC 215 (λx y=>dm m x y) a b m q ha hb hm (en rfl) (λx y q I J=>zmi m x y q hm I J);rcases AM m with h|h
 ·subst h;unfold zco at*;simp only[if_pos rfl] at j ⊢;repeat' (first|refine s_t ?_|apply zaJ;(focus ((repeat (first|exact Ej|apply Ek));done));assumption|(refine ze 0 ?_;try (refine zi ?_;intro _);try (refine zi ?_;intro _);try (refine zi ?_;intro _);try (refine zi ?_;intro _);try refine zo ?_)|(refine ze 1 ?_;try (first|refine q_v (zd (B:=zg a)) ?_|refine q_v (zd (B:=zg b)) ?_|refine q_v (zd (B:=zg 0)) ?_|refine zl ?_|fail);try (first|refine q_v (zd (B:=zg a)) ?_|refine q_v (zd (B:=zg b)) ?_|refine q_v (zd (B:=zg 0)) ?_|refine zl ?_|fail);try (first|refine q_v (zd (B:=zg a)) ?_|refine q_v (zd (B:=zg b)) ?_|refine q_v (zd (B:=zg 0)) ?_|refine zl ?_|fail);try refine q_v (za (hc:=q_c j)) ?_;try refine zC ?_;try refine zC ?_;try (first|refine q_n (zk (n:=0)) ?_|refine zJ ?_|fail);try refine zo ?_)|(refine zx ?_;first|refine q_v (zd (B:=zg a)) ?_|refine q_v (zd (B:=zg b)) ?_|refine q_v (zd (B:=zg 0)) ?_|refine q_v (za (hc:=q_c j)) ?_|refine q_n (zk (n:=0)) ?_|refine zo ?_|refine zC ?_|refine zl ?_|refine zJ ?_|refine zi ?_;intro _|fail)|refine zb3 ?_)
  exact zT rfl (zB (B:=zg 0) rfl (ty rfl) rfl En Em (zb _).symm) (zj rfl) El ⟨rfl,rfl⟩
 ·have e:(λx y=>dm m x y) (a%m) (b%m)=dm m a b:=by
   exact zx2 h (zeb m a) (zeb m b)
  dsimp only at e;rw[e] at j;unfold zco at*;simp only[if_neg (show ¬m=0 by omega)] at j ⊢;have H:=zb (dm m a b);generalize dm m a b=r at*;repeat' (first|refine s_t ?_|apply zaJ;(focus ((repeat (first|exact Ej|apply Ek));done));assumption|(refine ze 0 ?_;try (refine zi ?_;intro _);try (refine zi ?_;intro _);try (refine zi ?_;intro _);try (refine zi ?_;intro _);try refine zo ?_)|(refine ze 1 ?_;try (first|refine q_v (zd (B:=zg a)) ?_|refine q_v (zd (B:=zg b)) ?_|refine q_v (zd (B:=zg m)) ?_|refine zl ?_|fail);try (first|refine q_v (zd (B:=zg a)) ?_|refine q_v (zd (B:=zg b)) ?_|refine q_v (zd (B:=zg m)) ?_|refine zl ?_|fail);try (first|refine q_v (zd (B:=zg a)) ?_|refine q_v (zd (B:=zg b)) ?_|refine q_v (zd (B:=zg m)) ?_|refine zl ?_|fail);try refine q_v (za (hc:=q_c j)) ?_;try refine zC ?_;try refine zC ?_;try (first|refine q_n (zk (n:=r)) ?_|refine zJ ?_|fail);try refine zo ?_)|(refine zx ?_;first|refine q_v (zd (B:=zg a)) ?_|refine q_v (zd (B:=zg b)) ?_|refine q_v (zd (B:=zg m)) ?_|refine q_v (za (hc:=q_c j)) ?_|refine q_n (zk (n:=r)) ?_|refine zo ?_|refine zC ?_|refine zl ?_|refine zJ ?_|refine zi ?_;intro _|fail)|refine zb3 ?_)
  exact zT rfl (zB (B:=zg r) rfl (ty rfl) rfl En Em (zb _).symm) (zj rfl) El ⟨rfl,rfl⟩
theorem zlb(a b m:Nat)(w:World)(ha:a<18446744073709551616^16)(hb:b<18446744073709551616^16)(hm:m<18446744073709551616^16):
  q_G 183 [zu a,zu b,zu m] w (zco m (a*b%m)):=by
 refine zz Tryz.func183 Tryz.ntmps183 ?_;have E:=zb a;have F:=zb b;have G:=zb m;have A:=zb 0;have j:=λq=>zjC 244 (λx y=>x*y%m) a b m q ha hb hm (en rfl) (λx y q I J=>zhI m x y q hm I J);rcases AM m with h|h
 ·subst h;unfold zco at*;simp only[if_pos rfl] at j ⊢;repeat' (first|refine s_0 ?_|refine ze 0 ?_;refine zi ?_;intro _;refine zi ?_;intro _;refine zi ?_;intro _;refine z9 ?_;intro _|refine ze 1 ?_;refine q_v (zd (B:=zg 0)) ?_;refine q_v (zd (B:=zg a)) ?_;refine q_v (zd (B:=zg b)) ?_;refine q_v (za (hc:=q_c j)) ?_;refine zf ?_;refine q_y (zk (n:=0)) ?_)
  exact zT rfl (zB (B:=zg 0) rfl (ty rfl) rfl En Em (zb _).symm) (zj rfl) El ⟨rfl,rfl⟩
 ·have e:(λx y=>x*y%m) (a%m) (b%m)=a*b%m:=by
   exact(Ei a b m).symm
  dsimp only at e;rw[e] at j;unfold zco at*;simp only[if_neg (show ¬m=0 by omega)] at j ⊢;have H:=zb (a*b%m);generalize a*b%m=r at*;repeat' (first|refine s_0 ?_|refine ze 0 ?_;refine zi ?_;intro _;refine zi ?_;intro _;refine zi ?_;intro _;refine z9 ?_;intro _|refine ze 1 ?_;refine q_v (zd (B:=zg m)) ?_;refine q_v (zd (B:=zg a)) ?_;refine q_v (zd (B:=zg b)) ?_;refine q_v (za (hc:=q_c j)) ?_;refine zf ?_;refine q_y (zk (n:=r)) ?_)
  exact zT rfl (zB (B:=zg r) rfl (ty rfl) rfl En Em (zb _).symm) (zj rfl) El ⟨rfl,rfl⟩
theorem zwI(a e m:Nat)(w:World)(ha:a<18446744073709551616^16)(he:e<18446744073709551616^16)(hm:m<18446744073709551616^16):
  q_G 252 [zu a,zu e,zu m] w (zco m (a^e%m)):=by
 refine zz Tryz.func252 Tryz.ntmps252 ?_;have a9:=zb a;have b0:=zb e;have b1:=zb m;have a6:=zb 0;have hz:=λq=>zdg m q hm;rcases AM m with h|h
 ·subst h;unfold zco;rw[if_pos rfl];repeat' (first|refine s_0 ?_|refine ze 0 ?_;refine zi ?_;intro _;refine zi ?_;intro _;refine zi ?_;intro _;refine z9 ?_;intro _|refine ze 1 ?_;refine q_v (zd (B:=zg 0)) ?_;refine q_v (za (hc:=q_c hz)) ?_|refine ze 2 ?_;refine q_v zc0 ?_;refine q_y (zk (n:=0)) ?_)
  exact zT rfl (zB (B:=zg 0) rfl (ty rfl) rfl En Em (zb _).symm) (zj rfl) El ⟨rfl,rfl⟩
 ·simp only[decide_eq_false (show ¬m=0 by omega)] at hz;unfold zco;rw[if_neg q_o];have hr:=λq O (Y:q.rangeAt O 0 (zad [a]))=>zeN m a O q hm h ha Y;have h1:=λq=>zxf m q hm h;obtain⟨V,A⟩:∃V:Nat->Nat,∀k,V k=(a%m)^k%m:=⟨λk=>(a%m)^k%m,λ_=>rfl⟩;have H:∀k,V k<m:=λk=>by rw[A];exact AG _ h
  have U:∀k q,q_G 300 ([zu m]++[zu (V k)]++[]) q (zu (V (2*k))):=λk q=>by
   have:=zse m (V k) q hm (H k);rw[show V k*V k%m=V (2*k) by rw[A,A,<-Ei,<-B6,Nat.two_mul]] at this;exact this
  have S:∀k q,q_G 244 ([zu m]++[zu (V k),zu (a%m)]++[]) q (zu (V (k+1))):=λk q=>by
   have:=zhI m (V k) (a%m) q hm (H k) (AG _ h);rw[show V k*(a%m)%m=V (k+1) by rw[A,A,Nat.mod_mul_mod,AS]] at this;exact this
  have E:=λq=>zlG e (a%m) V 300 244 [zu m] [] [zu m] [] q he (en rfl) (en rfl) U S;rw[show V 0=1%m by rw[A,Ax],show V e=a^e%m by rw[A,((zeb m a).pow e).mod]] at E;have K:=zb (a%m);have a8:=zb (a^e%m);have a7:=zb (1%m);clear U S A H;generalize 1%m=u,a%m=r,a^e%m=R at*;repeat' (first|refine s_0 ?_|refine ze 0 ?_;refine zi ?_;intro _;refine zi ?_;intro _;refine zi ?_;intro _;refine z9 ?_;intro _|refine ze 1 ?_;refine q_v (zd (B:=zg m)) ?_;refine q_v (za (hc:=q_c hz)) ?_|refine ze 3 ?_;refine q_v (zd (B:=zg m)) ?_;refine q_v (zfw (n:=m)) ?_;refine zi ?_;intro _;refine q_n (zA (B:=zg m) (hv:=zfa m) (h1:=(zb m).symm)) ?_)
  rename_i b3 b4 b5 Q b8;refine zcB (id:=4) mixed ?_
  (refine zcC 14 14 [[],[],[1],[],[],[4],[1,2,3,4,5],[1,2,3,4,5,6],[1,2,3,4,5,6,7],[],[9],[],[11],[0,1,2,3,4,5,6,7,8,9,10,11,12],[0,1,2,3,4,5,6,7,8,9,10,11,12,13],[0,1,2,3,4,5,6,7,8,9,10,11,12,13,14]] [[],[],[],[],[],[],[],[],[],[],[],[],[],[],[],[]] none rfl ?_ ?_ ?_;kernel_rfl;kernel_rfl;refine q_E (zd (B:=zg e)) ?_;refine q_E (zd (B:=zg m)) ?_;refine q_E (za (hc:=q_c h1)) ?_;refine q_E (zd (B:=zg m)) ?_;refine q_E (zd (B:=zg a)) ?_;try refine dh_0nE (h:=?_))
  refine zfq (R:=λ_=>zxp 133 1 (zad [a])) (λ_ _ _=>rfl) (λρ J=>FA (zbX (x:=a)) λv L' h=>?_) (h:=?_)
  ·obtain⟨b,rfl,rfl⟩:=h;exact⟨[_],rfl,b,rfl,rfl⟩
  refine zfq (R:=λ_=>zxp 133 1 (zg r)) (λ_ _ _=>rfl) (λρ J=>?_) (h:=?_)
  ·obtain⟨⟨F,G,I⟩,-⟩:=J;refine FA (zn (vs:=[zu m,.slice (some ⟨F,0,none⟩) 1 1]) (ha:=by show some [_,(ρ 5).1]=_;rw[G];rfl) (hc:=λq X hk Z=>hr q F ((FP (T:=133) (by show Has ((ρ 5).2++_) _;rw[I];exact Ev) Em) q X hk Z))) λv L' h=>?_;obtain⟨R,rfl,bc,rfl,rfl⟩:=h;exact⟨_,rfl,bc,rfl,rfl⟩
  refine zpS (u:=λρ=>zuK (ρ 6).1) (λρ J=>?_) (λ_=>rfl) rfl (λρ ρ' h=>by rw[h 6 q_e]) (h:=?_)
  ·obtain⟨⟨F,G,I⟩,-⟩:=J;refine FA (zbk (b:=F) (off:=0) (n:=1) (c:=1) (j:=0) (hx:=by show some (ρ 6).1=_;rw[G])) λv L' h=>?_;obtain⟨rfl,rfl⟩:=h;exact⟨by rw[G];rfl,rfl⟩
  refine dcE (u:=zu r) (λρ J=>?_) (k:=?_)
  ·obtain⟨⟨F,G,I⟩,-⟩:=J;exact zd (B:=zg r) (b:=F) (off:=0) (T:=133) (hx:=by show some (zuK (ρ 6).1)=_;rw[G];rfl) (hL:=by show Has ((ρ 6).2++_) _;rw[I];exact Ev) (hv:=Em) (hz:=K.symm)
  (skip;refine q_E (zd (B:=zg m)) ?_;refine q_E zZ ?_;refine q_E (zd (B:=zg m)) ?_;refine q_E zZ ?_;refine q_E (za (hc:=q_c E)) ?_;try refine dh_0nE (h:=?_))
  refine zeJ (h:=?_);rintro ρ ⟨⟨F,G,I⟩,⟨bz,e3,W⟩,-⟩
  (refine zcD [[],[],[1],[],[],[4],[1,2,3,4,5],[1,2,3,4,5,6],[1,2,3,4,5,6,7],[],[9],[],[11],[0,1,2,3,4,5,6,7,8,9,10,11,12],[0,1,2,3,4,5,6,7,8,9,10,11,12,13],[0,1,2,3,4,5,6,7,8,9,10,11,12,13,14]] ?_ ?_;kernel_rfl)
  refine F9 (fr':=[(27,zu R),(6,.pointer (some ⟨Q,0,none⟩)),(7,.int .i64 0)]) (L':=[.blk Q 133 (List.replicate 16 (Value.int IntKind.u64 0))]) ?_ ?_ ?_;rotate_left
  ·exact q_h
  ·show SubR _ ((ρ 6).2++((ρ 5).2++_));rw[I,W];exact q_h
  repeat' (first|refine s_0 ?_|(refine zx ?_;first|refine q_n (zk (n:=R)) ?_|refine zo ?_|fail)|fail)
  exact zT rfl (zB (B:=zg R) rfl (ty rfl) rfl En Em (zb _).symm) (zj rfl) El ⟨rfl,rfl⟩
end Go.Proofs.YtdnlngbjpdbffaaGreatDoor
namespace Go.Nt
open Go Go.Sy
def gS:Nat->List UInt8
 |1=>[98,51,102]
 |2=>[52,52,56,53,56,102,102]
 |3=>[57,49,98,56,56,55,102,102]
 |_=>[102,102,102,102,102,102,102,102,102,102,102,102,102,102,102,102,99,57,48,102,100,97,97,50,50,49,54,56,99,50,51,52,99,52,99,54,54,50,56,98,56,48,100,99,49,99,100,49,50,57,48,50,52,101,48,56,56,97,54,55,99,99,55,52,48,50,48,98,98,101,97,54,51,98,49,51,57,98,50,50,53,49,52,97,48,56,55,57,56,101,51,52,48,52,100,100,101,102,57,53,49,57,98,51,99,100,51,97,52,51,49,98,51,48,50,98,48,97,54,100,102,50,53,102,49,52,51,55,52,102,101,49,51,53,54,100,54,100,53,49,99,50,52,53,101,52,56,53,98,53,55,54,54,50,53,101,55,101,99,54,102,52,52,99,52,50,101,57,97,54,51,97,51,54,50,48,102,102,102,102,102,102,102,102,102,102,102,102,102,102,102,102]
theorem zth(i:Nat)(h0:1<=i)(j:i<=4):parse (gS i)=some (gP i):=
 zcm (p:=λi=>parse (gS i)=some (gP i)) (by decide +kernel) (by decide +kernel) (by decide +kernel) (by decide +kernel) i h0 j
theorem zw7(i:Nat)(h0:1<=i)(j:i<=4):(gS i).length<=192:=
 zcm (p:=λi=>(gS i).length<=192) (by decide +kernel) (by decide +kernel) (by decide +kernel) (by decide +kernel) i h0 j
theorem zxj(i:Nat):gP i/2^1=gQ i:=rfl
def ze4:List Value:=[.string (str (gS 1)),.string (str (gS 2)),.string (str (gS 3)),.string (str (gS 4))]
theorem zqe(i:Nat)(h0:1<=i)(j:i<=4):ze4[i-1]?=some (.string (str (gS i))):=
 zcm (p:=λi=>ze4[i-1]?=some (.string (str (gS i)))) rfl rfl rfl rfl i h0 j
theorem zgM(i:Nat)(h0:1<=i)(j:i<=4):1<=gL i/\gL i<=96:=
 zcm (p:=λi=>1<=gL i/\gL i<=96) q_e q_e q_e q_e i h0 j
theorem zcr(i:Nat)(h0:1<=i)(j:i<=4):gP i<18446744073709551616^16:=by
 rw[zht 256 8 128 rfl rfl];have h:=zcg 256 (gP i) q_e;rw[zn5 i h0 j] at h;exact AZ h (AR q_e (by have:=(zgM i h0 j).2;omega))
theorem zb7(i:Nat)(h0:1<=i)(j:i<=4):gQ i<18446744073709551616^16:=BQ (C6 _ _) (zcr i h0 j)
def zaf(p q l:Nat):List Value:=zg p++(zg q++[.int .i64 l])
theorem zaa(p q l:Nat):(zaf p q l).length=33:=by
 unfold zaf;rw[A3,A3,zb,zb];rfl
theorem za6(p q l:Nat):(zaf p q l).all (·.oneCell')=true:=by
 unfold zaf;rw[BK,BK,zfa,zfa];rfl
theorem zb8(p q l:Nat):Seg (zaf p q l) 0 (zg p):=by
 have:=Seg.mid (A:=[]) (B:=zg p) (D:=zg q++[Value.int .i64 l]);rw[AY] at this;exact this
theorem zcb(p q l:Nat):Seg (zaf p q l) 16 (zg q):=by
 have:=Seg.mid (A:=zg p) (B:=zg q) (D:=[Value.int .i64 l]);rw[zb,AF] at this;exact this
theorem zcF(p q l:Nat):(zaf p q l)[32]?=some (.int .i64 (l:Int)):=by
 unfold zaf;rw[Bn (by rw[zb];decide),Bn (by rw[zb,zb];decide),zb,zb];rfl
theorem zq8(p q l:Nat):FillTo (nth [(0,16),(16,16),(32,1)]) [(0,zu p),(1,zu q),(2,Value.int .i64 l)] (List.replicate 32 (Value.int IntKind.u64 0)++[.int .i64 0]) (zaf p q l):=by
 have m:List.replicate 32 (Value.int IntKind.u64 0)=List.replicate 16 (Value.int IntKind.u64 0)++List.replicate 16 (Value.int IntKind.u64 0):=rfl;have s1:zaz (List.replicate 32 (Value.int IntKind.u64 0)++[.int .i64 0]) 0 (zg p)=zg p++(List.replicate 16 (Value.int IntKind.u64 0)++[.int .i64 0]):=by
  unfold zaz;rw[zb,m];simp
 have s2:zaz (zg p++(List.replicate 16 (Value.int IntKind.u64 0)++[.int .i64 0])) 16 (zg q)=zg p++(zg q++[.int .i64 0]):=by
  unfold zaz;rw[zb,Dd (by rw[zb];decide),A9 (by rw[zb];decide),List.drop_append,zb,ED (by rw[zb];decide)];simp
 have r:zaz (zg p++(zg q++[.int .i64 0])) 32 [Value.int .i64 (l:Int)]=zaf p q l:=by
  have e:zg p++(zg q++[Value.int .i64 0])=(zg p++zg q)++[Value.int .i64 0]:=by rw[AF]
  have j:(zg p++zg q).length=32:=by rw[A3,zb,zb]
  unfold zaz zaf;rw[e,Dd (by rw[j];decide),A9 (by rw[j];decide),ED (by rw[A3,j];exact A8 _)];simp
 refine .cons (cs:=zg p) rfl rfl (zb p) q_p ?_;rw[s1];refine .cons (cs:=zg q) rfl rfl (zb q) (by simp[zb]) ?_;rw[s2];refine .cons (cs:=[.int .i64 l]) rfl rfl rfl (by simp[zb]) ?_;rw[r];exact .nil
theorem zrp:List.replicate 32 (Value.int IntKind.u64 0)++[Value.int .i64 0]=zaf 0 0 0:=by
 unfold zaf zg;rw[zg9,BU];rfl
end Go.Nt
namespace Go.Proofs.YtdnlngbjpdbffaaGreatDoor
section
open Go Go.Sy Go.Nt Go.RowKit
def zcu(p q l:Nat):Value:=.agg (zaf p q l).toArray
def GT(w:World):Prop:=w.rangeAt 0 0 ze4
theorem GT.to{w w':World}(h:GT w)(hk:Keep No w w'):GT w':=zaW h hk (λh=>h)
variable {ro:Option Nat}{N:Nat}{w0:World}{M:Nat->Prop}{ds:List Deferred}{g:Nat->Option Value}{L:List Res}{o:Oper}{z z' z'':Operand}
theorem znm{p q l:Nat}(r:o.op= .build 194 #[(0,z),(1,z'),(2,z'')]:=by exact rfl)(hz:ev g z=some (zu p):=by exact rfl)(m:ev g z'=some (zu q):=by exact rfl)(j:ev g z''=some (.int .i64 (l:Int)):=by exact rfl):OpT Tryz.prog ro N w0 M ds o g L (Det (zcu p q l) L):=
 zgJ (parts:=#[(0,z),(1,z'),(2,z'')]) (vs:=[zu p,zu q,.int .i64 l]) (C:=zaf p q l) (zq8 p q l) r (by simp[evs,hz,m,j]) (ty rfl) rfl rfl (zc rfl)
theorem zjq(j:o.op= .build 194 #[]:=by exact rfl):OpT Tryz.prog ro N w0 M ds o g L (Det (zcu 0 0 0) L):=by
 unfold zcu;rw[<-zrp];exact zeE j (ty rfl) (.inl ⟨rfl,rfl⟩) (zc rfl)
attribute [local irreducible] Sy SyL SyX Sy.Fn callFunc zg zad zaf gP gQ gL gS ze4
theorem zhi(z:Int)(w:World)(hz:¬(1<=z/\z<=4)):q_G 180 [.int .i64 z] w (.tuple #[zcu 0 0 0,.int .i64 2]):=by
 refine zz Tryz.func180 Tryz.ntmps180 ?_;have j:=zaa 0 0 0;by_cases h:z<1
 ·have g1:decide (z<1)=true:=decide_eq_true h;repeat' (first|refine s_0 ?_|refine ze 0 ?_;refine z9 ?_;intro _|refine q_k 1 ?_;refine q_x (zm (hr:=g1)) ?_|refine ze 2 ?_;refine q_v zjq ?_;refine q_y (zA (B:=zaf 0 0 0) (hv:=za6 0 0 0) (h1:=(zaa 0 0 0).symm)) ?_)
  exact zT rfl (zB (B:=zaf 0 0 0) rfl (ty rfl) rfl En Em (zaa _ _ _).symm) (zj rfl) El ⟨rfl,rfl⟩
 ·have g1:decide (z<1)=false:=decide_eq_false h;have g2:decide (z>4)=true:=q_d;repeat' (first|refine s_0 ?_|refine ze 0 ?_;refine z9 ?_;intro _|refine q_k 1 ?_;refine q_x (zm (hr:=g1)) ?_;refine q_x (zF (hr:=g2)) ?_|refine ze 2 ?_;refine q_v zjq ?_;refine q_y (zA (B:=zaf 0 0 0) (hv:=za6 0 0 0) (h1:=(zaa 0 0 0).symm)) ?_)
  exact zT rfl (zB (B:=zaf 0 0 0) rfl (ty rfl) rfl En Em (zaa _ _ _).symm) (zj rfl) El ⟨rfl,rfl⟩
theorem zcy(i:Nat)(w:World)(h0:1<=i)(E:i<=4)(O:GT w):q_G 180 [.int .i64 (i:Int)] w (.tuple #[zcu (gP i) (gQ i) (gL i),.int .i64 0]):=by
 refine zz Tryz.func180 Tryz.ntmps180 ?_;have g1:decide ((i:Int)<1)=false:=q_f;have g2:decide ((i:Int)>4)=false:=q_f;have g3:IntKind.i64.wrap ((i:Int)-1)=((i-1:Nat):Int):=q_w;have A:w.cell? ⟨0,i-1,none⟩=some (.string (str (gS i))):=by
  have:=O (i-1) _ (zqe i h0 E);rwa[AU] at this
 have H:=zcr i h0 E;have K:=zw7 i h0 E;have r:=λG=>zta (gS i) G q_o;rw[zth i h0 E] at r;dsimp only at r;rw[if_pos H] at r;have F:=λG=>zwD (gP i) 1 G H q_e;rw[zxj] at F;have I:=λG=>zca (gP i) G H;have J:=zro 8 (gP i) q_e;rw[show(2:Nat)^8=256 from rfl,zn5 i h0 E] at J;have Q:=zeM H;have R:=zb (gP i);have S:=zb (gQ i);have T:=zaa (gP i) (gQ i) (gL i);generalize nd 2 (gP i)=m at*;have g4:IntKind.i64.wrap ((m:Int)+7)=((m+7:Nat):Int):=q_w;have g5:IntKind.i64.wrap (((m+7:Nat):Int).tdiv 8)=((gL i:Nat):Int):=by
  have:=zfJ (p:=m+7) (k:=8) q_o;rw[show m+7=m+(8-1) from rfl,<-J] at this;exact this
 clear J K;generalize gL i=l,gQ i=q,gP i=p at*;repeat' (first|refine s_0 ?_|refine ze 0 ?_;refine z9 ?_;intro _|refine q_k 1 ?_;refine q_x (zm (hr:=g1)) ?_;refine q_x (zF (hr:=g2)) ?_|refine q_k 3 ?_;refine q_v (zab (hr:=g3)) ?_;refine q_v (zby (j:=i-1)) ?_;refine q_v (zp (hv:=A)) ?_;refine q_v (za (hc:=q_c r)) ?_;refine zf ?_;refine zi ?_;intro _;refine q_y (zk (n:=p)) ?_|refine ze 4 ?_;refine q_v (zd (B:=zg p)) ?_;refine q_v (za (hc:=q_c F)) ?_;refine zf ?_;refine zi ?_;intro _;refine q_y (zk (n:=q)) ?_|refine zal (id:=5) 6 [[],[],[],[2],[2,3],[2,3,4],[0,1,2,3,4,5],[0,1,2,3,4,5,6],[0,1,2,3,4,5,6,7]] mixed ?_ ?_;kernel_rfl;refine q_D (zd (B:=zg p)) ?_;refine q_D (zd (B:=zg q)) ?_;refine q_D (zd (B:=zg p)) ?_;refine q_D (za (hc:=q_c I)) ?_;refine q_D (zN (hr:=g4)) ?_;refine q_D (zcp (hr:=g5)) ?_;refine zaG ?_;refine q_v (znm (p:=p) (q:=q) (l:=l)) ?_;refine q_n (zA (B:=zaf p q l) (hv:=za6 p q l) (h1:=(zaa p q l).symm)) ?_;refine zo ?_|fail)
 exact zT rfl (zB (B:=zaf p q l) rfl (ty rfl) rfl En Em (zaa _ _ _).symm) (zj rfl) El ⟨rfl,rfl⟩
end
open Go Go.Sy Go.Nt Go.RowKit
theorem zmk{H:Type}{enc:TypeId×Value->H}{P:Program}{w:World}{base:Nat}{V:Nat->Bool}{held:Bool}{j:Nat}{t e:TypeId}{n:Nat}{cs:List Value}{q:List (List UInt8)}{p:List MemPlace}
  (R:P.underlying t=some (.array n e))(he:P.underlying e=some .string)(A:P.cellsOf e=1)(B:P.cellsOf t=n)
  (h:DataW.trod enc P w base V held j t cs=some (.agg (q.map λs=> .lit (.string s)),p)):cs=q.map λs=>Value.string (str s):=by
 cases j with
 |zero=>simp[DataW.trod] at h
 |succ j=>
  simp only[DataW.trod,R,A,B,Al] at h;split at h
  ·rename_i W;obtain⟨F,G,S⟩:=AV.1 h;have m:F.map (·.1)=q.map λs=>(DataW.lit (.string s):DataW H):=by
    have:=congrArg Prod.fst S;simpa using this
   have T:F.length=n:=by simpa using Lib.mapM_length G
   have U:q.length=n:=by
    have:=congrArg List.length m;simp at this;omega
   apply Cl;intro i;by_cases hi:i<n
   ·obtain⟨b,K,Q⟩:=Lib.mapM_at G i i (by simp[hi]);obtain⟨s,O,rfl,_⟩:=DataW.trod_string he Q;have I:cs[i]?=some (.string s):=by
     have:=congrArg (·[0]?) O;simpa [C7,Bl] using this
    have r:(F.map (·.1))[i]?=some (DataW.lit (.string s.data.toList):DataW H):=by simp[K]
    rw[m] at r;simp only[Ak,AV,DataW.lit.injEq,Lit.string.injEq] at r;obtain⟨z',E,rfl⟩:=r;have J:str s.data.toList=s:=rfl;rw[I,Ak,E,CP,J]
   ·rw[BJ (by omega),BJ (by simp;omega)]
  ·cases h
theorem zq1{P:Program}{w:World}{l:List (String×DataW Unit)}(h:laidMet P l w){n:String}{J:List (List UInt8)}{g t e m:Nat}(hm:(n,(.agg (J.map λs=> .lit (.string s)):DataW Unit))∈l)(I:P.globalNamed n=some g)(G:(P.globals[g]?).map (·.type)=some t)
  (R:P.underlying t=some (.array m e))(he:P.underlying e=some .string)(r:P.cellsOf e=1)(B:P.cellsOf t=m):w.rangeAt g 0 (J.map λs=>Value.string (str s)):=by
 obtain⟨U,Q,_⟩:=h;obtain⟨T,V,S,H,p,E,F,q,K⟩:=zkT Q hm;obtain rfl:=An (I.symm.trans E);obtain rfl:=An (G.symm.trans F);have A:=zmk R he r B K;intro j v O;rw[World.var?_cell I q,AU,<-Ch,A];exact O
theorem zwt:Tryz.prog.globalNamed "watchword/group.primes" =some 0:=by kernel_rfl
theorem zuo:(Tryz.prog.globals[0]?).map (·.type)=some 244:=by kernel_rfl
theorem zst:Tryz.prog.underlying 244=some (.array 4 9):=by kernel_rfl
theorem zxE:Tryz.prog.underlying 9=some .string:=by kernel_rfl
theorem zup:Tryz.prog.cellsOf 9=1:=by kernel_rfl
theorem zoM:Tryz.prog.cellsOf 244=4:=by kernel_rfl
theorem zwv:(Rows.laid_watchword_group_primes:DataW Unit)= .agg ([gS 1,gS 2,gS 3,gS 4].map λs=> .lit (.string s)):=by kernel_rfl
theorem zxT{W:World}{l:List (String×DataW Unit)}(h:laidMet Tryz.prog l W)(h1:("watchword/group.primes",Rows.laid_watchword_group_primes)∈l):GT W:=by
 rw[zwv] at h1;exact zq1 h h1 zwt zuo zst zxE zup zoM
def zxM:Nat->DataW Unit->List Value
 |n+1,.agg l=>l.flatMap (zxM n)
 |_,.lit (.int k z)=>[.int k z]
 |_,.lit (.string s)=>[.string (str s)]
 |_,_=>[]
noncomputable def zhM(os:Os):World:=
 { zl9 os with heap:=(zl9 os).heap.modify 0 (zeo (zxM 3 Rows.laid_watchword_group_primes)) }
end Go.Proofs.YtdnlngbjpdbffaaGreatDoor
namespace Go.Sy
open Go
variable {P:Program}{ro:Option Nat}{N:Nat}{w0:World}{M:Nat->Prop}{ds:List Deferred}{o:Oper}{g:Nat->Option Value}{L:List Res}{t:TypeId}{y:Ty}
theorem zkl{e n c':Nat}{lo co:Operand}{k1 k2:IntKind}{z0:Value}{l c:Int}{ye:Ty}(a6:n<=c')(E:l=(n:Int):=by exact rfl)(r:c=(c':Int):=by exact rfl)(K:o.op= .makeSlice t lo co:=by exact rfl)(Y:ev g lo=some (.int k1 l):=by exact rfl)(hc:ev g co=some (.int k2 c):=by exact rfl)(ht:zag P t=some y:=by exact ty rfl)(hy:y.desc= .slice e:=by exact rfl)(he:zag P e=some ye:=by exact ty rfl)
  (hz:za8 P e=some [z0]:=by exact zc rfl)(h1:ye.size=1:=by exact rfl)(hb:ye.bytes*c'<=281474976710656:=by first|(dsimp only;omega)|omega|fail)(hm:c'<=maxLen:=by first|(unfold maxLen;omega)|fail):
  OpT P ro N w0 M ds o g L (λv Q=>∃b,v= .slice (some ⟨b,0,none⟩) n c'/\Q= .blk b e (List.replicate c' z0)::L):=
 F5 (by rw[K];rfl) λa w X j=>by
  obtain⟨d,i',U,W,q,_⟩:=zU ht;rw[hy] at q;have:=zbg q;subst this;obtain⟨de,O,V,m,_,B,A,_⟩:=zU he;unfold za8 at hz;rw[m] at hz;simp only[AW,AV] at hz;obtain⟨J,I,G⟩:=hz;subst E;subst r;obtain⟨S,T⟩:=zbL j e (List.replicate c' z0);refine⟨_,_,w.alloc (.cells (List.replicate c' z0).toArray e),_,?_,.inl rfl,⟨w.heap.size,rfl,rfl⟩,S,T⟩;have Z:c'<=9223372036854775807:=by unfold maxLen at hm;omega
  have H:J.cells= #[z0]:=B5.1 G;have F:=run_make (P:=P) w t e O J U m I k1 k2 n c' q_o q_o (by rw[A,<-BW];omega) q_o;simp only[Bc] at F;have R:madeCells J.cells (c'*O.size)=(List.replicate c' z0).toArray:=by
   rw[B,h1,Al,H];exact B5.1 (toList_madeCells_one z0 c')
  rw[R] at F;simp[execOp,K,j.agr.eval Y,j.agr.eval hc,F]
end Go.Sy
