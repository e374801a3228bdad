/- Long division: the numbers moved, and the estimate of a digit. -/
import Derived.Test.YtdnlngbjpdbffaaGreatDoorLJ12
import Derived.Test.YtdnlngbjpdbffaaGreatDoorLJ13
set_option maxHeartbeats 1000000
set_option maxRecDepth 10000
set_option linter.all false
section
namespace Go.Nt
open Go Go.Sy
def wC (k x:Nat):List Value:=(dg 18446744073709551616 k x).map nv
theorem zdr (k x:Nat):(wC k x).length=k:=by unfold wC;rw [List.length_map,zbo]
theorem zfy (k x i:Nat) (h:i < k):(wC k x)[i]?=some (nv (x / 18446744073709551616 ^ i % 18446744073709551616)):=by
 unfold wC;rw [List.getElem?_map,zcL _ k x i h];rfl
theorem zjy (k x:Nat):(wC k x).all (·.oneCell')=true:=zrW _
theorem znj {W:Nat}(a c s t:Nat) (hW:2 ^ s*2 ^ t=W) (hc:c < 2 ^ s):(a*2 ^ s % W ||| c)=a*2 ^ s % W+c:=by
 rw [<-hW,Nat.mul_comm (2 ^ s) (2 ^ t),Nat.mul_mod_mul_right];exact zkk _ _ _ hc
def bel (d i:Nat):Nat:=if i=0 then 0 else d / 18446744073709551616 ^ (i - 1) % 18446744073709551616
theorem ziU (d i:Nat):bel d (i+1)=d / 18446744073709551616 ^ i % 18446744073709551616:=by unfold bel;rw [if_neg q_o,Nat.add_sub_cancel]
theorem zrz (d i:Nat):bel d i < 18446744073709551616:=by
 unfold bel;split
 ·decide
 ·exact Nat.mod_lt _ q_e
theorem zjz (d s t i:Nat) (hW:2 ^ s*2 ^ t=18446744073709551616):d*2 ^ s / 18446744073709551616 ^ i % 18446744073709551616=d / 18446744073709551616 ^ i % 18446744073709551616*2 ^ s % 18446744073709551616+bel d i / 2 ^ t:=by
 cases i with
 |zero=>rw [zl1,show bel d 0=0 from rfl,Nat.zero_div,Nat.pow_zero,Nat.div_one,Nat.add_zero]
 |succ i=>rw [ziU];exact ziq 18446744073709551616 d s t i hW.symm
theorem zq8 {W u v q:Nat}(hv:0 < v) (hq:q < W) (h1:q*v<=u) (h2:q+1=W\/u < (q+1)*v):min (W - 1) (u / v)=q:=by
 rcases h2 with h|h
 ·have:q<=u / v:=(Nat.le_div_iff_mul_le hv).2 h1;rw [Nat.min_eq_left q_o];omega
 ·rw [(zd0 u v q h1 h).1,Nat.min_eq_right q_o]
end Go.Nt
namespace Go.Proofs.YtdnlngbjpdbffaaGreatDoor
open Go Go.Sy Go.Nt Go.RowKit
attribute [local irreducible] Sy SyL SyX Sy.Fn callFunc natC wC
theorem zig (d s:Nat) (w:World) (hd:d < 18446744073709551616 ^ 16) (hs:s < 64):
  Sy.Fn Tryz.prog 329 [natV d,.int .i64 s] w No (Gives (.agg (wC 17 (d*2 ^ s)).toArray)):=by
 refine zg Tryz.func329 rfl Tryz.ntmps329 q_p Holds.nil ?_;have hld:=ze d;have hgd:=zaK d;have hlw:=zdr 17 (d*2 ^ s);have hgw:=zfy 17 (d*2 ^ s);have hone:=zjy 17 (d*2 ^ s);obtain ⟨t,ht⟩: ∃t,t=64 - s:=⟨_,rfl⟩;have hst:(2:Nat) ^ s*2 ^ t=18446744073709551616:=by rw [<-Nat.pow_add,show s+t=64 by omega]
 have hsd:=λi=>zjz d s t i hst;have ht0:IntKind.i64.wrap (64 - (s:Int))=((t:Nat):Int):=q_w;have hor:=λa c=>znj (W:=18446744073709551616) a c s t hst;generalize wC 17 (d*2 ^ s)=l at *;repeat' (first|refine s_t ?_|(refine zb 0 ?_;refine zj ?_;intro _;refine zj ?_;intro _)|(refine zb 1 (za ?_))|(refine zb 2 ?_;refine yv (zf (B:=natC d)) (k:=za ?_)))
 rename_i b2 b4;refine zy (γ:=Nat) (λi=>[(1,.int .i64 s),(4,.pointer (some ⟨b4,0,none⟩)),(5,nv (bel d i)),(8,natV d),(9,.int .i64 i)])
  (λi=>[.blk b4 330 (l.take i ++ List.replicate (17 - i) (.int .u64 0))])
  (λi=>i<=16) (λi=>16 - i) 0 (Nat.zero_le _) ?_ ?_ ?_
 ·exact q_h
 ·exact q_h
 intro i hi;have hml:(l.take i ++ List.replicate (17 - i) (Value.int IntKind.u64 0)).length=17:=by rw [List.length_append,List.length_take,List.length_replicate];omega
 have hbl:=zrz d i;have hbt:bel d i / 2 ^ t < 2 ^ s:=(Nat.div_lt_iff_lt_mul (Nat.pow_pos q_e)).2 (by rw [hst];exact hbl);have hbW:bel d i / 2 ^ t < 18446744073709551616:=Nat.lt_of_le_of_lt (Nat.div_le_self _ _) hbl;by_cases hlt:i < 16
 ·have hdi:=hgd i hlt;have hu:=hgw i q_o;rw [hsd i] at hu;have hset:=ze4 l (.int .u64 0) _ 17 i hu q_o hlw;have hbs:=ziU d i;have hor:=hor (d / 18446744073709551616 ^ i % 18446744073709551616) _ hbt;generalize d / 18446744073709551616 ^ i % 18446744073709551616=v at *;rw [<-hor] at hset;generalize bel d i=e at *;repeat' (first|refine s_t ?_|(refine zb 3 ?_;refine zL ?_)|(refine zb 4 (za ?_);refine yv (zgs (hv:=hdi)) (k:=za ?_))|(refine zM (id:=5) 9 [[],[],[],[1,2],[],[],[5],[4,5,6],[1,2,3,4,5,6,7],[0,1,2,3,4,5,6,7,8],[0,1,2,3,4,5,6,7,8,9]] mixed ?_ ?_;kernel_rfl;refine zk ?_;refine zk ?_;refine zk ?_;refine dc (λ_ _=>zd4 (a:=v) (n:=s)) (k:=?_);refine zk ?_;refine zk ?_;refine dc (λ_ _=>zD (hr:=ht0)) (k:=?_);refine dc (λ_ _=>zd2 (a:=e) (n:=t) hbl) (k:=?_);refine dc (λ_ _=>zfF (a:=v*2 ^ s % 18446744073709551616) (b:=e / 2 ^ t) (Nat.mod_lt _ q_e) hbW) (k:=?_);refine zY ?_;refine zw ?_;refine zI ?_)|(refine zb 6 (za ?_))|(refine zb 7 ?_;refine zaj ?_;refine za ?_))
  refine zq (i+1) ?_ ?_ ?_ ?_
  ·show i+1<=16;omega
  ·show 16 - (i+1) < 16 - i;omega
  ·rw [hbs];exact q_h
  ·show SubR [.blk b4 330 (l.take (i+1) ++ List.replicate (17 - (i+1)) (.int .u64 0))] _;rw [<-hset];exact q_h
 obtain rfl:i=16:=q_o;have hu:=hgw 16 q_o;rw [hsd 16,Nat.div_eq_of_lt hd,Nat.zero_mod,Nat.zero_mul,Nat.zero_mod,Nat.zero_add] at hu;have hset:=ze4 l (.int .u64 0) _ 17 16 hu q_o hlw;have hlt:l.take (16+1)=l:=List.take_of_length_le q_o;rw [hlt,List.replicate_zero,List.append_nil] at hset;generalize bel d 16=e at *;repeat' (first|refine s_0 ?_|(refine zb 3 ?_;refine zL ?_)|(refine zb 8 (za ?_);refine yv (zD (hr:=ht0)) (k:=?_);refine yv (zd2 (a:=e) (n:=t) hbl) (k:=?_);refine zw ?_;refine zI ?_))
 rw [hset];repeat' (first|refine s_0 ?_|(refine zb 9 ?_;refine yv (zf (B:=l)) (k:=?_);refine yn (zE (B:=l) (hv:=hone) (h1:=hlw.symm)) (k:=?_)))
 exact ret1 rfl (resCells (B:=l) rfl (ty rfl) rfl Has.go Seg.all hlw.symm) SubR.nil ⟨rfl,rfl⟩
theorem zkA (u2 u1 u0 v1 v0:Nat) (w:World) (h2:u2<=v1) (h1:u1 < 18446744073709551616) (h0:u0 < 18446744073709551616) (hv1:v1 < 18446744073709551616) (hv0:v0 < 18446744073709551616) (hvp:0 < v1):
  Sy.Fn Tryz.prog 330 [nv u2,nv u1,nv u0,nv v1,nv v0] w No (Gives (nv (min (18446744073709551616 - 1) (((u2*18446744073709551616+u1)*18446744073709551616+u0) / (v1*18446744073709551616+v0))))):=by
 refine zg Tryz.func330 rfl Tryz.ntmps330 q_p Holds.nil ?_;obtain ⟨X,hX⟩: ∃X,X=u2*18446744073709551616+u1:=⟨_,rfl⟩;rw [<-hX];have hV:0 < v1*18446744073709551616+v0:=q_o;have hval:=λq=>zq8 (W:=18446744073709551616) (u:=X*18446744073709551616+u0) (q:=q) hV;repeat' (first|refine s_0 ?_|refine zbT ?_|(refine zB [0,1] ?_;refine za ?_)|(refine zb 2 (za ?_);refine zad ?_))
 refine zba (γ:=Nat×Nat) (λg=>[(2,nv u0),(3,nv v1),(4,nv v0),(10,.int .u64 0),(11,nv g.1),(12,nv g.2)]) (λ_=>[]) (λg=>g.1*v1+g.2=X/\g.2 < 18446744073709551616/\g.1 < 18446744073709551616/\(g.1+1=18446744073709551616\/X*18446744073709551616+u0 < (g.1+1)*(v1*18446744073709551616+v0))) ?_ ?_
 ·refine zcy rfl (λhu=>?_) (λhu=>?_)
  ·have hu:=of_decide_eq_true hu;have hu2:u2=v1:=q_o;have e:18446744073709551615*v1+(u1+v1)=X:=q_o;by_cases hc:18446744073709551616<=u1+v1
   ·have hr:(u1+v1+0) / 18446744073709551616=1:=q_o;have hnz:decide ((((u1+v1+0) / 18446744073709551616:Nat):Int)≠0)=true:=decide_eq_true (by rw [hr];decide);repeat' (first|refine s_0 ?_|refine zaZ ?_|(refine zB [3,4,7] ?_;refine za ?_)|(refine zb 5 (za ?_);refine yv (zbM (hr:=zbq u1 v1 0 q_e)) (k:=za ?_))|(refine zb 6 (za ?_);refine yv (zag (hr:=hnz)) (k:=?_)))
    refine ret1 rfl (resTmp rfl) SubR.nil ⟨?_,rfl⟩;exact congrArg nv (hval 18446744073709551615 q_e (zct e (zeZ hv0 q_e hc)) (.inl rfl)).symm
   ·have hz:decide ((((u1+v1+0) / 18446744073709551616:Nat):Int)≠0)=false:=q_f;repeat' (first|refine s_0 ?_|(refine zB [3,4] ?_;refine za ?_)|(refine zb 5 (za ?_);refine yv (zbM (hr:=zbq u1 v1 0 q_e)) (k:=za ?_))|(refine zb 6 (za ?_);refine yv (zag (hr:=hz)) (k:=?_)))
    exact zT (18446744073709551615,(u1+v1+0) % 18446744073709551616) ⟨by show 18446744073709551615*v1+(u1+v1+0) % 18446744073709551616=X;omega,by show (u1+v1+0) % 18446744073709551616 < _;omega,by show 18446744073709551615 < 18446744073709551616;decide,.inl rfl⟩ q_h q_h
  ·have hu:=of_decide_eq_false hu;have hE:=Est.start 18446744073709551616 X u0 v1 v0 hvp h0;have hml:=Nat.mod_lt X hvp;have hql:X / v1 < 18446744073709551616:=(Nat.div_lt_iff_lt_mul hvp).2 q_o;have hd:=λw=>zkh u2 u1 v1 w q_o hv1 h1;rw [<-hX] at hd;repeat' (first|refine zae ?_|refine zZ ?_|(refine zb 8 (za ?_);refine yv (zd (hc:=λ_ _ _ _=>(hd _))) (k:=?_);refine za ?_))
   exact zT (X / v1,X % v1) ⟨hE.eq,by show X % v1 < _;omega,hql,.inr hE.up⟩ q_h q_h
 rintro ⟨q,r⟩ ⟨he,hr,hq,hup⟩;dsimp only at he hr hq hup ⊢;repeat' (first|refine s_t ?_|fail)
 refine zy (γ:=Nat×Nat) (λg=>[(2,nv u0),(3,nv v1),(4,nv v0),(10,.int .u64 0),(11,nv g.1),(12,nv g.2)]) (λ_=>[]) (λg=>g.1*v1+g.2=X/\g.2 < 18446744073709551616/\g.1 < 18446744073709551616/\(g.1+1=18446744073709551616\/X*18446744073709551616+u0 < (g.1+1)*(v1*18446744073709551616+v0))) (λg=>g.1) (q,r) ⟨he,hr,hq,hup⟩ ?_ ?_ ?_
 ·exact q_h
 ·exact q_h
 clear he hr hq hup;rintro ⟨q,r⟩ ⟨he,hr,hq,hup⟩;dsimp only at he hr hq hup ⊢;have hmul:=λw=>zgw q v0 w hq hv0;have hdm:=Nat.div_add_mod (q*v0) 18446744073709551616;have hlow:=Nat.mod_lt (q*v0) (show 0 < 18446744073709551616 by decide);refine zcv ?_;repeat' (first|refine s_0 ?_|(refine zb 9 (za ?_);refine yv (zd (hc:=λ_ _ _ _=>(hmul _))) (k:=?_);refine za ?_))
 refine zba (γ:=Bool) (λg=>[(2,nv u0),(3,nv v1),(4,nv v0),(10,.int .u64 0),(11,nv q),(12,nv r),(54,.bool g)]) (λ_=>[]) (λg=>(g=true->q*v0<=r*18446744073709551616+u0)/\(g=false->r*18446744073709551616+u0 < q*v0)) ?_ ?_
 ·generalize q*v0 / 18446744073709551616=hi at *;generalize q*v0 % 18446744073709551616=lo at *;rcases Nat.lt_trichotomy hi r with h|h|h
  ·have c1:decide ((hi:Int) < (r:Int))=true:=q_d;repeat' (first|refine zae ?_|refine zZ ?_|(refine zb 10 (za ?_);refine yv (zn (hr:=c1)) (k:=za ?_)))
   exact zT true ⟨λ_=>by omega,λh=>absurd h q_e⟩ q_h q_h
  ·have c1:decide ((hi:Int) < (r:Int))=false:=q_f;have c2:decide ((hi:Int)=(r:Int))=true:=q_d;by_cases hl:lo<=u0
   ·have c3:decide ((lo:Int)<=(u0:Int))=true:=q_d;repeat' (first|refine zae ?_|refine zZ ?_|(refine zb 10 (za ?_);refine yv (zn (hr:=c1)) (k:=za ?_);refine yv (zX (hr:=c2)) (k:=za ?_);refine yv (zau (hr:=c3)) (k:=za ?_)))
    exact zT true ⟨λ_=>by omega,λh=>absurd h q_e⟩ q_h q_h
   ·have c3:decide ((lo:Int)<=(u0:Int))=false:=q_f;repeat' (first|refine zae ?_|refine zZ ?_|(refine zb 10 (za ?_);refine yv (zn (hr:=c1)) (k:=za ?_);refine yv (zX (hr:=c2)) (k:=za ?_);refine yv (zau (hr:=c3)) (k:=za ?_)))
    exact zT false ⟨λh=>absurd h q_e,λ_=>by omega⟩ q_h q_h
  ·have c1:decide ((hi:Int) < (r:Int))=false:=q_f;have c2:decide ((hi:Int)=(r:Int))=false:=q_f;repeat' (first|refine zae ?_|refine zZ ?_|(refine zb 10 (za ?_);refine yv (zn (hr:=c1)) (k:=za ?_);refine yv (zX (hr:=c2)) (k:=za ?_)))
   exact zT false ⟨λh=>absurd h q_e,λ_=>by omega⟩ q_h q_h
 rintro t ⟨ht,hf⟩;cases t with
 |true=>
  have ht:=ht rfl;repeat' (first|refine s_0 ?_|refine zaZ ?_|(refine zb 15 (za ?_)))
  exact ret1 rfl (resTmp rfl) SubR.nil ⟨congrArg nv (hval q hq (zct he ht) hup).symm,rfl⟩
 |false=>
  have hf:=hf rfl;obtain ⟨hq0,hN⟩:=zgG he (zhC he hf);have hdec:IntKind.u64.wrap ((q:Int) - 1)=((q - 1:Nat):Int):=by rw [IntWalk.u64_in _ q_o];omega
  by_cases hc:18446744073709551616<=r+v1
  ·have hr1:(r+v1+0) / 18446744073709551616=1:=q_o;have hnz:decide ((((r+v1+0) / 18446744073709551616:Nat):Int)≠0)=true:=decide_eq_true (by rw [hr1];decide);repeat' (first|refine s_0 ?_|refine zaZ ?_|(refine zb 11 (za ?_);refine yv (zD (hr:=hdec)) (k:=za ?_))|(refine zB [12,15] ?_;refine za ?_)|(refine zb 13 (za ?_);refine yv (zbM (hr:=zbq r v1 0 q_e)) (k:=za ?_))|(refine zb 14 (za ?_);refine yv (zag (hr:=hnz)) (k:=?_)))
   exact ret1 rfl (resTmp rfl) SubR.nil ⟨congrArg nv (hval (q - 1) q_o (zct hN.eq (zeZ hv0 q_o hc)) (.inr hN.up)).symm,rfl⟩
  ·have hz:decide ((((r+v1+0) / 18446744073709551616:Nat):Int)≠0)=false:=q_f;repeat' (first|refine s_0 ?_|(refine zb 11 (za ?_);refine yv (zD (hr:=hdec)) (k:=za ?_))|(refine zb 12 (za ?_))|(refine zb 13 (za ?_);refine yv (zbM (hr:=zbq r v1 0 q_e)) (k:=za ?_))|(refine zb 14 (za ?_);refine yv (zag (hr:=hz)) (k:=?_)))
   refine zq (q - 1,(r+v1+0) % 18446744073709551616) ⟨by have:=hN.eq;show (q - 1)*v1+(r+v1+0) % 18446744073709551616=X;omega,by show (r+v1+0) % 18446744073709551616 < _;omega,by show q - 1 < _;omega,.inr hN.up⟩ ?_ ?_ ?_
   ·show q - 1 < q;omega
   ·exact q_h
   ·exact q_h
theorem ziJ (k x:Nat):wC k x=(dg 18446744073709551616 k x).map nv:=by unfold wC;rfl
theorem zoL {q v hi lo c d u z c' d' k:Nat}(h1:18446744073709551616*hi+lo=q*v) (h2:18446744073709551616*k+(lo+c+0) % 18446744073709551616=lo+c) (h3:c'=hi+k) (h4:z+(lo+c+0) % 18446744073709551616+d=u+d'*18446744073709551616):z+q*v+(c+d)=u+(c'+d')*18446744073709551616:=q_o
theorem zkI (bu bv j n q U V:Nat) (w:World) (hne: ¬bv=bu) (hjn:j+n < 17) (hU:U < 18446744073709551616 ^ 17) (hV:V < 18446744073709551616 ^ n) (hq:q < 18446744073709551616)
  (hC:(Res.blk bu 330 (wC 17 U)).holds w) (hB:w.rangeAt bv 0 (wC 17 V)):
  Sy.Fn Tryz.prog 331 [.slice (some ⟨bu,j,none⟩) (n+1) (n+1),.slice (some ⟨bv,0,none⟩) n n,nv q] w (λx=>x=bu)
   (λv R=>∃U' d,d<=1/\v= .bool (decide (((d:Nat):Int)≠0))/\U' < 18446744073709551616 ^ 17/\U'+q*V*18446744073709551616 ^ j=U+d*18446744073709551616 ^ (j+n+1)/\(U < 18446744073709551616 ^ (j+n+1)->U' < 18446744073709551616 ^ (j+n+1))/\R= [.blk bu 330 (wC 17 U')]):=by
 have hL0:Holds w.heap.size (λx=>x=bu) [.blk bu 330 (wC 17 U)] w:=⟨λx hx=>by obtain rfl:=List.mem_singleton.1 hx;exact hC,List.pairwise_singleton _ _,λx hx y hy=>by obtain rfl:=List.mem_singleton.1 hx;exact .inr (Eq.symm hy)⟩;refine zg Tryz.func331 rfl Tryz.ntmps331 q_p hL0 ?_;have hst:=DivJ.start 18446744073709551616 17 U V j q q_e hU;have hgv:=zfy 17 V;repeat' (first|refine s_t ?_|(refine zB [0,1,2] ?_;refine za ?_))
 refine zy (γ:=Nat×List Nat×Nat×Nat) (λg=>[(0,.slice (some ⟨bu,j,none⟩) (n+1) (n+1)),(1,.slice (some ⟨bv,0,none⟩) n n),(2,nv q),(6,.bool false),(7,nv g.2.2.2),(8,nv g.2.2.1),(14,.int .i64 n),(15,.int .i64 g.1)])
  (λg=>[.blk bu 330 (g.2.1.map nv)])
  (λg=>g.1<=n/\DivJ 18446744073709551616 17 U V j q g.1 g.2.1 g.2.2.1 g.2.2.2) (λg=>n - g.1) (0,dg 18446744073709551616 17 U,0,0) ⟨Nat.zero_le _,hst⟩ ?_ ?_ ?_
 ·exact q_h
 ·show SubR [.blk bu 330 ((dg 18446744073709551616 17 U).map nv)] _;rw [<-ziJ];exact q_h
 rintro ⟨i,l,c,d⟩ ⟨hi,hJ⟩;dsimp only at hi hJ ⊢;have hll:=hJ.len;have hml:(l.map nv).length=17:=by rw [List.length_map,hll]
 have hcW:=hJ.car;have hd1:=hJ.bit;by_cases hlt:i < n
 ·have hu:=hJ.rest (j+i) (Nat.le_refl _) q_o;have hu':(l.map nv)[j+i]?=some (nv (U / 18446744073709551616 ^ (j+i) % 18446744073709551616)):=by rw [List.getElem?_map,hu];rfl
  have hvc:w.cell? ⟨bv,i,none⟩=some (nv (V / 18446744073709551616 ^ i % 18446744073709551616)):=by
   have:=hB i _ (hgv i q_o);rw [Nat.zero_add] at this;exact this
  have huW:U / 18446744073709551616 ^ (j+i) % 18446744073709551616 < 18446744073709551616:=Nat.mod_lt _ q_e;have hvW:V / 18446744073709551616 ^ i % 18446744073709551616 < 18446744073709551616:=Nat.mod_lt _ q_e;have hstep:=λz c' d'=>hJ.step (z:=z) (c':=c') (d':=d') (show j+i < 17 by omega);generalize U / 18446744073709551616 ^ (j+i) % 18446744073709551616=u at *;generalize V / 18446744073709551616 ^ i % 18446744073709551616=v at *;have hmul:=λw=>zgw q v w hq hvW;have e1:=Nat.div_add_mod (q*v) 18446744073709551616;have hhi:q*v / 18446744073709551616+(q*v % 18446744073709551616+c+0) / 18446744073709551616 < 18446744073709551616:=
   zrT 18446744073709551616 q v c _ (q*v % 18446744073709551616) ((q*v % 18446744073709551616+c+0) % 18446744073709551616) _ hq hvW hcW q_o q_o
  have hlow:=Nat.mod_lt (q*v) (show 0 < 18446744073709551616 by decide);have e2:=Nat.div_add_mod (q*v % 18446744073709551616+c+0) 18446744073709551616;have hl1:(q*v % 18446744073709551616+c+0) % 18446744073709551616 < 18446744073709551616:=Nat.mod_lt _ q_e;repeat' (first|refine s_t ?_|(refine zb 3 ?_;refine zL ?_)|(refine zB [4,6] ?_;refine za ?_)|(refine zb 5 (za ?_);refine zw ?_;refine yv (zl (hv:=hvc) (hn:=hne)) (k:=?_);refine yv (zd (hc:=λ_ _ _ _=>(hmul _))) (k:=?_);refine za ?_)|(refine zb 7 (za ?_);refine yv (zbM (hr:=zbq (q*v % 18446744073709551616) c 0 q_e)) (k:=za ?_))|(refine zb 8 (za ?_);refine yv zcI (k:=za ?_))|(refine zb 9 (za ?_);refine zw ?_;refine yv (zC (hv:=hu')) (k:=za ?_);refine yv (zbM (hr:=zeU u ((q*v % 18446744073709551616+c+0) % 18446744073709551616) d hd1)) (k:=za ?_);refine zw ?_;refine zI ?_;refine za ?_)|(refine zb 10 ?_;refine zaj ?_;refine za ?_))
  obtain ⟨z,hz⟩: ∃z,(u+18446744073709551616 - (q*v % 18446744073709551616+c+0) % 18446744073709551616 - d) % 18446744073709551616=z:=⟨_,rfl⟩;obtain ⟨c',hc'⟩: ∃c',(q*v / 18446744073709551616+(q*v % 18446744073709551616+c+0) / 18446744073709551616) % 18446744073709551616=c':=⟨_,rfl⟩;obtain ⟨d',hd'⟩: ∃d',(if u < (q*v % 18446744073709551616+c+0) % 18446744073709551616+d then 1 else 0)=d':=⟨_,rfl⟩;rw [hz,hc',hd'];have hd'1:d'<=1:=by rw [<-hd'];split <;> omega
  refine zq (i+1,l.set (j+i) z,c',d') ⟨by show i+1<=n;omega,hstep z c' d' q_o q_o hd'1 ?_⟩ ?_ ?_ ?_
  ·refine zoL e1 q_o (by rw [<-hc'];exact Nat.mod_eq_of_lt hhi) ?_;rw [<-hz];generalize (q*v % 18446744073709551616+c+0) % 18446744073709551616=f at *;rw [<-hd'];split <;> omega
  ·show n - (i+1) < n - i;omega
  ·exact q_h
  ·show SubR [.blk bu 330 ((l.set (j+i) z).map nv)] _;rw [List.map_set];exact q_h
 obtain rfl:i=n:=q_o;have hu:=hJ.rest (j+i) (Nat.le_refl _) q_o;have hu':(l.map nv)[j+i]?=some (nv (U / 18446744073709551616 ^ (j+i) % 18446744073709551616)):=by rw [List.getElem?_map,hu];rfl
 have huW:U / 18446744073709551616 ^ (j+i) % 18446744073709551616 < 18446744073709551616:=Nat.mod_lt _ q_e;have hlast:=λz d'=>hJ.last (z:=z) (d':=d') (show j+i < 17 by omega) hV;generalize U / 18446744073709551616 ^ (j+i) % 18446744073709551616=u at *;repeat' (first|refine s_0 ?_|(refine zb 3 ?_;refine zL ?_)|(refine zb 11 (za ?_);refine zw ?_;refine yv (zC (hv:=hu')) (k:=za ?_);refine yv (zbM (hr:=zeU u c d hd1)) (k:=za ?_);refine zw ?_;refine zI ?_;refine za ?_))
 obtain ⟨z,hz⟩: ∃z,(u+18446744073709551616 - c - d) % 18446744073709551616=z:=⟨_,rfl⟩;obtain ⟨d',hd'⟩: ∃d',(if u < c+d then 1 else 0)=d':=⟨_,rfl⟩;rw [hz,hd'];have hd'1:d'<=1:=by rw [<-hd'];split <;> omega
 obtain ⟨U',hU1,hU2,hU3,hU4⟩:=hlast z d' q_o (by rw [<-hz,<-hd'];split <;> omega) hd'1;have hset:(l.map nv).set (j+i) (nv z)=wC 17 U':=by rw [<-List.map_set,hU1,<-ziJ]
 repeat' (first|refine s_0 ?_|(refine zb 12 (za ?_);refine z8 ?_;refine za ?_))
 exact ret1 rfl (resTmp rfl) (by (repeat' (first|exact SubR.nil|(apply SubR.same;with_reducible (focus ((repeat (first|exact Rem.here|apply Rem.there));done)))|(apply SubR.blk;(focus ((repeat (first|exact Rem.here|apply Rem.there));done)))|(apply SubR.pick;(focus ((repeat (first|exact Rem.here|apply Rem.there));done)))|rfl));exact hset) ⟨U',d',hd'1,rfl,hU2,hU3,hU4,rfl⟩
theorem zme (bu bv j n U V:Nat) (w:World) (hne: ¬bv=bu) (hjn:j+n < 17) (hU:U < 18446744073709551616 ^ 17) (hV:V < 18446744073709551616 ^ n)
  (hC:(Res.blk bu 330 (wC 17 U)).holds w) (hB:w.rangeAt bv 0 (wC 17 V)):
  Sy.Fn Tryz.prog 332 [.slice (some ⟨bu,j,none⟩) (n+1) (n+1),.slice (some ⟨bv,0,none⟩) n n] w (λx=>x=bu)
   (λv R=>∃U' d,v= .tuple #[]/\U' < 18446744073709551616 ^ 17/\U'+d*18446744073709551616 ^ (j+n+1)=U+V*18446744073709551616 ^ j/\(U < 18446744073709551616 ^ (j+n+1)->U' < 18446744073709551616 ^ (j+n+1))/\R= [.blk bu 330 (wC 17 U')]):=by
 have hL0:Holds w.heap.size (λx=>x=bu) [.blk bu 330 (wC 17 U)] w:=⟨λx hx=>by obtain rfl:=List.mem_singleton.1 hx;exact hC,List.pairwise_singleton _ _,λx hx y hy=>by obtain rfl:=List.mem_singleton.1 hx;exact .inr (Eq.symm hy)⟩;refine zg Tryz.func332 rfl Tryz.ntmps332 q_p hL0 ?_;have hst:=ResJ.start 18446744073709551616 17 U V j q_e hU;have hgv:=zfy 17 V;repeat' (first|refine s_t ?_|(refine zB [0,1] ?_;refine za ?_))
 refine zy (γ:=Nat×List Nat×Nat) (λg=>[(0,.slice (some ⟨bu,j,none⟩) (n+1) (n+1)),(1,.slice (some ⟨bv,0,none⟩) n n),(4,nv g.2.2),(7,.int .i64 n),(8,.int .i64 g.1)])
  (λg=>[.blk bu 330 (g.2.1.map nv)])
  (λg=>g.1<=n/\ResJ 18446744073709551616 17 U V j g.1 g.2.1 g.2.2) (λg=>n - g.1) (0,dg 18446744073709551616 17 U,0) ⟨Nat.zero_le _,hst⟩ ?_ ?_ ?_
 ·exact q_h
 ·show SubR [.blk bu 330 ((dg 18446744073709551616 17 U).map nv)] _;rw [<-ziJ];exact q_h
 rintro ⟨i,l,c⟩ ⟨hi,hJ⟩;dsimp only at hi hJ ⊢;have hll:=hJ.len;have hml:(l.map nv).length=17:=by rw [List.length_map,hll]
 have hc1:=hJ.bit;by_cases hlt:i < n
 ·have hu:=hJ.rest (j+i) (Nat.le_refl _) q_o;have hu':(l.map nv)[j+i]?=some (nv (U / 18446744073709551616 ^ (j+i) % 18446744073709551616)):=by rw [List.getElem?_map,hu];rfl
  have hvc:w.cell? ⟨bv,i,none⟩=some (nv (V / 18446744073709551616 ^ i % 18446744073709551616)):=by
   have:=hB i _ (hgv i q_o);rw [Nat.zero_add] at this;exact this
  have huW:U / 18446744073709551616 ^ (j+i) % 18446744073709551616 < 18446744073709551616:=Nat.mod_lt _ q_e;have hvW:V / 18446744073709551616 ^ i % 18446744073709551616 < 18446744073709551616:=Nat.mod_lt _ q_e;have hstep:=λz c'=>hJ.step (z:=z) (c':=c') (show j+i < 17 by omega);generalize U / 18446744073709551616 ^ (j+i) % 18446744073709551616=u at *;generalize V / 18446744073709551616 ^ i % 18446744073709551616=v at *;obtain ⟨z,hz⟩: ∃z,(u+v+c) % 18446744073709551616=z:=⟨_,rfl⟩;obtain ⟨c',hc'⟩: ∃c',(u+v+c) / 18446744073709551616=c':=⟨_,rfl⟩;have hadd:=zbq u v c hc1;rw [hz,hc'] at hadd;have hset:(l.map nv).set (j+i) (nv z)=(l.set (j+i) z).map nv:=by rw [List.map_set]
  repeat' (first|refine s_t ?_|(refine zb 2 ?_;refine zL ?_)|(refine zb 3 (za ?_)))
  refine zbj (id:=4) mixed ?_
  (refine zbi 17 17 [[],[],[],[],[2,3],[2,3,4],[],[],[6,7],[6,7,8],[],[2,3,4,5,6,7,8,9,10],[2,3,4,5,6,7,8,9,10,11],[2,3,4,5,6,7,8,9,10,11,12],[2,3,4,5,6,7,8,9,10,11,12],[0,1,2,3,4,5,6,7,8,9,10,11,12,13],[0,1,2,3,4,5,6,7,8,9,10,11,12,13,15],[0,1,2,3,4,5,6,7,8,9,10,11,12,13,14,15,16]] [[],[],[],[],[],[],[],[],[],[],[],[],[],[],[],[],[],[]] (some 16) rfl ?_ ?_ ?_;kernel_rfl;kernel_rfl;refine zaq ?_;refine zaq ?_;refine zaq ?_;refine zaq ?_;refine zbt ?_;refine dcE (λ_ _=>zC (hv:=hu')) (k:=?_);refine zaq ?_;refine zaq ?_;refine zbt ?_;refine dcE (λ_ _=>zl (hv:=hvc) (hn:=hne)) (k:=?_);refine zaq ?_;refine dcE (λ_ _=>zbM (hr:=hadd)) (k:=?_);refine zaq ?_;refine zaG ?_;refine zaG ?_;refine zbt ?_;try refine dh_0nE (h:=?_))
  refine zgV (R:=λ_ _ Nw=>Nw= [.blk bu 330 ((l.map nv).set (j+i) (nv z))]) (λ_ _ _=>rfl) (λρ hρ=>OpT.mono (zcr (C:=l.map nv) (L':=[.blk bu 330 ((l.map nv).set (j+i) (nv z))])) λv L' h=>?_) (h:=?_)
  ·obtain ⟨rfl,rfl⟩:=h;exact ⟨_,(List.append_nil _).symm,rfl⟩
  refine zco (h:=?_);rintro ρ ⟨f',-⟩
  (refine zbk [[],[],[],[],[2,3],[2,3,4],[],[],[6,7],[6,7,8],[],[2,3,4,5,6,7,8,9,10],[2,3,4,5,6,7,8,9,10,11],[2,3,4,5,6,7,8,9,10,11,12],[2,3,4,5,6,7,8,9,10,11,12],[0,1,2,3,4,5,6,7,8,9,10,11,12,13],[0,1,2,3,4,5,6,7,8,9,10,11,12,13,15],[0,1,2,3,4,5,6,7,8,9,10,11,12,13,14,15,16]] ?_ ?_;kernel_rfl)
  have f':(ρ 16).2= [.blk bu 330 ((l.map nv).set (j+i) (nv z))]:=f';refine SyL.weaken (fr':=[(25,nv c'),(0,.slice (some ⟨bu,j,none⟩) (n+1) (n+1)),(1,.slice (some ⟨bv,0,none⟩) n n),(7,.int .i64 n),(8,.int .i64 i)])
   (L':=[.blk bu 330 ((l.set (j+i) z).map nv)]) ?_ ?_ ?_
  ·repeat' (first|refine s_0 ?_|(refine zb 5 ?_;refine zaj ?_;refine za ?_)|(refine zP ?_;first|refine zx ?_|fail)|fail)
   refine zq (i+1,l.set (j+i) z,c') ⟨by show i+1<=n;omega,hstep z c' q_o q_o q_o⟩ ?_ ?_ ?_
   ·show n - (i+1) < n - i;omega
   ·exact q_h
   ·exact q_h
  ·exact q_h
  ·show SubR _ ((ρ 16).2 ++ []);rw [f',hset];exact q_h
 obtain rfl:i=n:=q_o;have hu:=hJ.rest (j+i) (Nat.le_refl _) q_o;have hu':(l.map nv)[j+i]?=some (nv (U / 18446744073709551616 ^ (j+i) % 18446744073709551616)):=by rw [List.getElem?_map,hu];rfl
 have huW:U / 18446744073709551616 ^ (j+i) % 18446744073709551616 < 18446744073709551616:=Nat.mod_lt _ q_e;have hlast:=λz d'=>hJ.last (z:=z) (d':=d') (show j+i < 17 by omega) hV;generalize U / 18446744073709551616 ^ (j+i) % 18446744073709551616=u at *;obtain ⟨U',hU1,hU2,hU3,hU4⟩:=hlast ((u+c) % 18446744073709551616) ((u+c) / 18446744073709551616) (Nat.mod_lt _ q_e) q_e q_o;have hset:(l.map nv).set (j+i) (nv ((u+c) % 18446744073709551616))=wC 17 U':=by rw [<-List.map_set,hU1,<-ziJ]
 repeat' (first|refine s_0 ?_|(refine zb 2 ?_;refine zL ?_)|(refine zb 6 (za ?_);refine zw ?_;refine yv (zC (hv:=hu')) (k:=za ?_);refine yv zcI (k:=?_);refine zw ?_;refine zI ?_))
 refine end0 (R:=[.blk bu 330 (wC 17 U')]) rfl ?_ ?_
 ·(repeat' (first|exact SubR.nil|(apply SubR.same;with_reducible (focus ((repeat (first|exact Rem.here|apply Rem.there));done)))|(apply SubR.blk;(focus ((repeat (first|exact Rem.here|apply Rem.there));done)))|(apply SubR.pick;(focus ((repeat (first|exact Rem.here|apply Rem.there));done)))|rfl))
  exact hset
 ·exact ⟨U',_,rfl,hU2,hU3,hU4,rfl⟩
end Go.Proofs.YtdnlngbjpdbffaaGreatDoor
end
