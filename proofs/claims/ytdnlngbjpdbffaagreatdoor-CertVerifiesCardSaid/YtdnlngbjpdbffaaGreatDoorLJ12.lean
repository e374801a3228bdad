/- Two words divided by one: Div64. -/
import Derived.Test.YtdnlngbjpdbffaaGreatDoorLJ11
import Derived.Test.YtdnlngbjpdbffaaGreatDoorLJ10
import Derived.Test.YtdnlngbjpdbffaaGreatDoorLJ07
import Derived.Test.YtdnlngbjpdbffaaGreatDoorLJ06
set_option maxHeartbeats 2000000
set_option maxRecDepth 10000
set_option linter.all false
section
namespace Go.Nt
open Go Go.Sy
theorem wmul {a b c:Nat}(h:a*b % 18446744073709551616=c):IntKind.u64.wrap ((a:Int)*(b:Int))=((c:Nat):Int):=by
 rw [<-h,show ((a:Nat):Int)*((b:Nat):Int)=((a*b:Nat):Int) by simp,Wd.wrap_u64_nat]
theorem wadd {a b c:Nat}(h:(a+b) % 18446744073709551616=c):IntKind.u64.wrap ((a:Int)+(b:Int))=((c:Nat):Int):=by
 rw [<-h,show ((a:Nat):Int)+((b:Nat):Int)=((a+b:Nat):Int) by simp,Wd.wrap_u64_nat]
theorem wsub {a b c:Nat}(hb:b<=18446744073709551616) (h:(a+(18446744073709551616 - b)) % 18446744073709551616=c):IntKind.u64.wrap ((a:Int) - (b:Int))=((c:Nat):Int):=by
 rw [<-h];exact wrap_sub_u64_nat a b _ q_o
theorem wdiv {a b c:Nat}(ha:a < 18446744073709551616) (h:a / b=c):IntKind.u64.wrap ((a:Int).tdiv (b:Int))=((c:Nat):Int):=by
 have:=Nat.div_le_self a b;rw [Int.tdiv_eq_ediv_of_nonneg q_o,show ((a:Int) / (b:Int))=((a / b:Nat):Int) from rfl,h];exact IntWalk.u64_in _ q_o
theorem wand {a s c:Nat}(hs:s<=64) (ha:a < 18446744073709551616) (h:a % 2 ^ s=c):bits .and .u64 (a:Int) ((2 ^ s - 1:Nat):Int)=((c:Nat):Int):=by
 have:2 ^ s<=2 ^ 64:=Nat.pow_le_pow_right q_e hs;rw [bits_and_u64_nat _ _ ha q_o,Nat.and_two_pow_sub_one_eq_mod,h]
theorem wdiff {a b c:Nat}(h:a=b+c) (hc:c < 18446744073709551616):(a % 18446744073709551616+(18446744073709551616 - b % 18446744073709551616)) % 18446744073709551616=c:=q_o
end Go.Nt
namespace Go.Proofs.YtdnlngbjpdbffaaGreatDoor
open Go Go.Sy Go.Nt Go.RowKit
attribute [local irreducible] Sy SyL SyX Sy.Fn callFunc natC
theorem zkh (hi lo y:Nat) (w:World) (hy:hi < y) (hyW:y < 18446744073709551616) (hlo:lo < 18446744073709551616):
  Sy.Fn Tryz.prog 327 [nv hi,nv lo,nv y] w No (Gives (.tuple #[nv ((hi*18446744073709551616+lo) / y),nv ((hi*18446744073709551616+lo) % y)])):=by
 refine zg Tryz.func327 rfl Tryz.ntmps327 q_p Holds.nil ?_;have hy0:decide ((y:Int)=0)=false:=q_f;have hyh:decide ((y:Int)<=(hi:Int))=false:=q_f;by_cases hh:hi=0
 ·subst hh;rw [Nat.zero_mul,Nat.zero_add];repeat' (first|refine s_0 ?_|(refine zb 0 (za ?_))|(refine zb 1 (za ?_);refine yv (zX (hr:=hy0)) (k:=?_))|(refine zb 3 (za ?_);refine yv (zau (hr:=hyh)) (k:=?_))|(refine zb 5 (za ?_);refine zan ?_)|(refine zM (id:=6) 7 [[],[],[0,1],[],[],[3,4],[0,1,2],[0,1,2,3,4,5,6]] mixed ?_ ?_;kernel_rfl;refine zk ?_;refine zk ?_;refine dc (λ_ _=>zqU (a:=lo) (b:=y) q_o hlo) (k:=?_);refine zk ?_;refine zk ?_;refine dc (λ_ _=>zqg (a:=lo) (b:=y) q_o) (k:=?_);refine zgO ?_;refine zY ?_;refine zx ?_)|fail)
  exact q_r
 have hh0:decide ((hi:Int)=0)=false:=q_f;obtain ⟨hm0,hm1,hm2⟩:=zev y q_o;have hm64:=zao 2 y 64 q_e hyW;have hlz:=λw=>zlw y w hyW;generalize nd 2 y=m at *;obtain ⟨s,hs⟩: ∃s,s=64 - m:=⟨_,rfl⟩;obtain ⟨t,ht⟩: ∃t,t=64 - s:=⟨_,rfl⟩;rw [<-hs] at hlz;have htm:t=m:=q_o;have hst:(2:Nat) ^ s*2 ^ t=18446744073709551616:=by rw [<-Nat.pow_add,show s+t=64 by omega]
 have hps:0 < 2 ^ s:=Nat.pow_pos q_e;obtain ⟨V,hV⟩: ∃V,V=y*2 ^ s:=⟨_,rfl⟩;have hVW:V < 18446744073709551616:=by
  rw [hV,<-hst,Nat.mul_comm,htm];exact Nat.mul_lt_mul_of_pos_left hm2 hps
 have hVH:9223372036854775808<=V:=by
  have h1:=Nat.mul_le_mul_right (2 ^ s) hm1;rw [<-Nat.pow_add,show m - 1+s=63 by omega,<-hV] at h1;exact h1
 have k1:Op.shift .shl .u64 (y:Int) .u64 (s:Int)=pure (.int .u64 ((V:Nat):Int)):=by
  rw [shlN64,<-hV,Nat.mod_eq_of_lt hVW]
 obtain ⟨v1,hv1⟩: ∃v1,v1=V / 4294967296:=⟨_,rfl⟩;obtain ⟨v0,hv0⟩: ∃v0,v0=V % 4294967296:=⟨_,rfl⟩;have hVs:V=v1*4294967296+v0:=q_o;have hv0l:v0 < 4294967296:=q_o;have hv1p:0 < v1:=q_o;have hv1l:v1 < 4294967296:=q_o;have k2:Op.shift .shr .u64 (V:Int) .u64 32=pure (.int .u64 ((v1:Nat):Int)):=by rw [hv1];exact shrN V 32 .u64 q_e
 have k3:bits .and .u64 (V:Int) 4294967295=((v0:Nat):Int):=wand (s:=32) q_e hVW hv0.symm;obtain ⟨H,hH⟩: ∃H,H=hi*2 ^ s:=⟨_,rfl⟩;have hHW:H < 18446744073709551616:=by
  rw [hH];exact Nat.lt_trans (Nat.mul_lt_mul_of_pos_right hy hps) (by rw [<-hV];exact hVW)
 have k4:Op.shift .shl .u64 (hi:Int) .u64 (s:Int)=pure (.int .u64 ((H:Nat):Int)):=by
  rw [shlN64,<-hH,Nat.mod_eq_of_lt hHW]
 have k5:IntKind.u64.wrap (64 - (s:Int))=((t:Nat):Int):=by rw [IntWalk.u64_in _ q_o];omega
 obtain ⟨l1,hl1⟩: ∃l1,l1=lo / 2 ^ t:=⟨_,rfl⟩;have hl1W:l1 < 18446744073709551616:=by rw [hl1];exact Nat.lt_of_le_of_lt (Nat.div_le_self _ _) hlo
 have hl1s:l1 < 2 ^ s:=by
  rw [hl1];exact (Nat.div_lt_iff_lt_mul (Nat.pow_pos q_e)).2 (by rw [hst];exact hlo)
 have k6:Op.shift .shr .u64 (lo:Int) .u64 (t:Int)=pure (.int .u64 ((l1:Nat):Int)):=by rw [shrN64 lo t .u64 hlo,hl1]
 obtain ⟨X,hXe⟩: ∃X,X=H+l1:=⟨_,rfl⟩;have k7:bits .or .u64 (H:Int) (l1:Int)=((X:Nat):Int):=by
  rw [bits_or_u64_nat _ _ hHW hl1W,hH,zkk hi l1 s hl1s,<-hH,hXe]
 have hX:X < V:=by
  rw [hXe,hH,hl1,hV];exact zrO hst.symm hy hlo
 obtain ⟨L,hL⟩: ∃L,L=lo*2 ^ s % 18446744073709551616:=⟨_,rfl⟩;have hLW:L < 18446744073709551616:=by rw [hL];exact Nat.mod_lt _ q_e
 have k8:Op.shift .shl .u64 (lo:Int) .u64 (s:Int)=pure (.int .u64 ((L:Nat):Int)):=by rw [shlN64,<-hL]
 obtain ⟨u1,hu1e⟩: ∃u1,u1=L / 4294967296:=⟨_,rfl⟩;obtain ⟨u0,hu0e⟩: ∃u0,u0=L % 4294967296:=⟨_,rfl⟩;have hu1:u1 < 4294967296:=q_o;have hu0:u0 < 4294967296:=q_o;have k9:Op.shift .shr .u64 (L:Int) .u64 32=pure (.int .u64 ((u1:Nat):Int)):=by rw [hu1e];exact shrN L 32 .u64 q_e
 have k10:bits .and .u64 (L:Int) 4294967295=((u0:Nat):Int):=wand (s:=32) q_e hLW hu0e.symm;have hXW:X < 18446744073709551616:=q_o;have k11:IntKind.u64.wrap ((X:Int).tdiv (v1:Int))=((X / v1:Nat):Int):=wdiv hXW rfl;have hdm:=Nat.div_add_mod X v1;have hml:=Nat.mod_lt X hv1p;rw [Nat.mul_comm] at hdm;have k12:IntKind.u64.wrap (((X / v1:Nat):Int)*(v1:Int))=((X / v1*v1:Nat):Int):=wmul (Nat.mod_eq_of_lt q_o);have k13:IntKind.u64.wrap ((X:Int) - ((X / v1*v1:Nat):Int))=((X % v1:Nat):Int):=wsub q_o q_o;have kv:(v1:Int)≠0:=q_o;have kc:IntKind.u64.wrap ((s:Nat):Int)=((s:Nat):Int):=IntWalk.u64_in _ q_o;have hVp:0 < V:=q_o
 -- the quotients' digits
 obtain ⟨qa,hqa⟩: ∃qa,(X*4294967296+u1) / V=qa:=⟨_,rfl⟩;obtain ⟨Y,hYe⟩: ∃Y,Y=(X*4294967296+u1) % V:=⟨_,rfl⟩;have hY:Y < V:=by rw [hYe];exact Nat.mod_lt _ hVp
 have hYW:Y < 18446744073709551616:=q_o;obtain ⟨qb,hqb⟩: ∃qb,(Y*4294967296+u0) / V=qb:=⟨_,rfl⟩;obtain ⟨Z,hZe⟩: ∃Z,Z=(Y*4294967296+u0) % V:=⟨_,rfl⟩;have hZ:Z < V:=by rw [hZe];exact Nat.mod_lt _ hVp
 have hqaB:qa < 4294967296:=by
  rw [<-hqa];exact Nat.div_lt_of_lt_mul (by have:=zd5 (q:=4294967296) hX hu1 (Nat.le_refl _);rw [Nat.mul_comm V];exact this)
 have hqbB:qb < 4294967296:=by
  rw [<-hqb];exact Nat.div_lt_of_lt_mul (by have:=zd5 (q:=4294967296) hY hu0 (Nat.le_refl _);rw [Nat.mul_comm V];exact this)
 have hdX:=Nat.div_add_mod (X*4294967296+u1) V;have hdY:=Nat.div_add_mod (Y*4294967296+u0) V;rw [hqa,<-hYe,Nat.mul_comm] at hdX;rw [hqb,<-hZe,Nat.mul_comm] at hdY;obtain ⟨f1,f2⟩:=zqm 4294967296 V ((hi*18446744073709551616+lo)*2 ^ s) X u1 u0 qa qb (by
  have h1:=zpO 18446744073709551616 hi lo s t hst.symm;rw [<-hH,<-hl1,<-hXe,<-hL] at h1;rw [<-h1];omega) hqa.symm (by rw [<-hYe];exact hqb.symm) hVp
 rw [<-hYe] at f2;rw [hV,Nat.mul_div_mul_right _ _ hps] at f1;rw [<-hZe] at f2;rw [hV,Nat.mul_mod_mul_right] at f2;repeat' (first|refine s_0 ?_|(refine zb 0 (za ?_))|(refine zb 1 (za ?_);refine yv (zX (hr:=hy0)) (k:=?_))|(refine zb 3 (za ?_);refine yv (zau (hr:=hyh)) (k:=?_))|(refine zb 5 (za ?_);refine yv (zX (hr:=hh0)) (k:=?_))|(refine zb 7 (za ?_);refine yv (zd (hc:=λ_ _ _ _=>(hlz _))) (k:=?_);refine yv (z5 (hr:=kc)) (k:=za ?_))|(refine zb 8 (za ?_);refine yv (zdW (hr:=k1)) (k:=za ?_))|(refine zb 9 (za ?_);refine yv (zaJ (hr:=k2)) (k:=za ?_))|(refine zb 10 (za ?_);refine yv (zdq (hr:=k3)) (k:=za ?_))|(refine zb 11 (za ?_);refine yv (zdW (hr:=k4)) (k:=za ?_);refine yv (zD (hr:=k5)) (k:=?_);refine yv (zaJ (hr:=k6)) (k:=?_);refine yv (zpK (hr:=k7)) (k:=za ?_))|(refine zb 12 (za ?_);refine yv (zdW (hr:=k8)) (k:=za ?_))|(refine zb 13 (za ?_);refine yv (zaJ (hr:=k9)) (k:=za ?_))|(refine zb 14 (za ?_);refine yv (zdq (hr:=k10)) (k:=za ?_))|(refine zb 15 (za ?_);refine yv (zaz (hb:=kv) (hr:=k11)) (k:=za ?_))|(refine zb 16 (za ?_);refine yv (zah (hr:=k12)) (k:=?_);refine yv (zD (hr:=k13)) (k:=za ?_)))
 refine zba (γ:=Unit) (λ_=>[(2,nv V),(6,.int .u64 0),(7,.int .u64 0),(8,.int .u64 s),(9,nv v1),(10,nv v0),(11,nv X),(13,nv u1),(14,nv u0),(15,nv qa)]) (λ_=>[]) (λ_=>True) ?_ ?_
 ·repeat' (first|refine zcv ?_|fail)
  refine zy (γ:=Nat×Nat) (λg=>[(2,nv V),(6,.int .u64 0),(7,.int .u64 0),(8,.int .u64 s),(9,nv v1),(10,nv v0),(11,nv X),(13,nv u1),(14,nv u0),(15,nv g.1),(16,nv g.2)]) (λ_=>[]) (λg=>Est 4294967296 X u1 v1 v0 g.1 g.2/\g.2 < 4294967296) (λg=>g.1) (X / v1,X % v1) ⟨Est.start _ _ _ _ _ hv1p hu1,by have:=Nat.mod_lt X hv1p;omega⟩ ?_ ?_ ?_
  ·exact q_h
  ·exact q_h
  rintro ⟨q,r⟩ ⟨hE,hr⟩;dsimp only at hE hr ⊢;have hqle:=zmT hE.eq (by rw [<-hVs];exact hX) q_o hv0l q_e;repeat refine zbC ?_
  refine zba (γ:=Bool) (λg=>[(2,nv V),(6,.int .u64 0),(7,.int .u64 0),(8,.int .u64 s),(9,nv v1),(10,nv v0),(11,nv X),(13,nv u1),(14,nv u0),(15,nv q),(16,nv r),(78,.bool g)]) (λ_=>[]) (λg=>(g=true->X*4294967296+u1 < q*(v1*4294967296+v0))/\(g=false->q < 4294967296/\q*(v1*4294967296+v0)<=X*4294967296+u1)) ?_ ?_
  ·by_cases hq:4294967296<=q
   ·have hge:decide ((4294967296:Int)<=(q:Int))=true:=q_d;repeat' (first|refine zae ?_|refine zZ ?_|(refine zb 17 (za ?_);refine yv (zab (hr:=hge)) (k:=za ?_)))
    exact zT true ⟨λ_=>zd5 (by rw [<-hVs];exact hX) hu1 hq,λh=>absurd h q_e⟩ q_h q_h
   ·have hge:decide ((4294967296:Int)<=(q:Int))=false:=q_f;have hm:=Lib.half_mul_le (a:=q) (b:=v0) q_o q_o;have m1:IntKind.u64.wrap ((q:Int)*(v0:Int))=((q*v0:Nat):Int):=wmul (Nat.mod_eq_of_lt q_o);have m2:IntKind.u64.wrap ((4294967296:Int)*(r:Int))=((r*4294967296:Nat):Int):=by rw [Int.mul_comm];exact wmul (b:=4294967296) (Nat.mod_eq_of_lt q_o)
    have m3:IntKind.u64.wrap (((r*4294967296:Nat):Int)+(u1:Int))=((r*4294967296+u1:Nat):Int):=wadd (Nat.mod_eq_of_lt q_o);by_cases hb:r*4294967296+u1 < q*v0
    ·have hgt:decide (((r*4294967296+u1:Nat):Int) < ((q*v0:Nat):Int))=true:=decide_eq_true (Int.ofNat_lt.2 hb);repeat' (first|refine zae ?_|refine zZ ?_|(refine zb 17 (za ?_);refine yv (zab (hr:=hge)) (k:=za ?_);refine yv (zah (hr:=m1)) (k:=za ?_);refine yv (zah (hr:=m2)) (k:=za ?_);refine yv (zu (hr:=m3)) (k:=?_);refine yv (zU (hr:=hgt)) (k:=za ?_)))
     exact zT true ⟨λ_=>zhC hE.eq hb,λh=>absurd h q_e⟩ q_h q_h
    ·have hgt:decide (((r*4294967296+u1:Nat):Int) < ((q*v0:Nat):Int))=false:=decide_eq_false (λh=>hb (Int.ofNat_lt.1 h));repeat' (first|refine zae ?_|refine zZ ?_|(refine zb 17 (za ?_);refine yv (zab (hr:=hge)) (k:=za ?_);refine yv (zah (hr:=m1)) (k:=za ?_);refine yv (zah (hr:=m2)) (k:=za ?_);refine yv (zu (hr:=m3)) (k:=?_);refine yv (zU (hr:=hgt)) (k:=za ?_)))
     exact zT false ⟨λh=>absurd h q_e,λ_=>⟨by omega,zct hE.eq q_o⟩⟩ q_h q_h
  rintro t ⟨ht,hf⟩;cases t with
  |false=>
   obtain ⟨h1,h2⟩:=hf rfl;have hup:=hE.up;rw [<-hVs] at h2 hup;obtain ⟨hqd,-⟩:=zd0 _ _ _ h2 hup;repeat' (first|refine s_0 ?_|fail)
   refine zT () trivial ?_ q_h;rw [<-hqa,hqd];exact q_h
  |true=>
   have ht:=ht rfl;obtain ⟨hq0,hN⟩:=zgG hE.eq ht;have hdec:IntKind.u64.wrap ((q:Int) - 1)=((q - 1:Nat):Int):=by rw [IntWalk.u64_in _ q_o];omega
   have hinc:IntKind.u64.wrap ((r:Int)+(v1:Int))=((r+v1:Nat):Int):=wadd (Nat.mod_eq_of_lt q_o);by_cases hrb:4294967296<=r+v1
   ·have hge:decide ((4294967296:Int)<=((r+v1:Nat):Int))=true:=q_d;have hqs:=zjU hN.eq (by rw [<-hVs];exact hX) hv0l hrb;have h2:=zct hN.eq (zeZ (u0:=u1) hv0l (Nat.le_of_lt hqs) hrb);have hup:=hN.up;rw [<-hVs] at h2 hup;obtain ⟨hqd,-⟩:=zd0 _ _ _ h2 hup;repeat' (first|refine s_t ?_|(refine zb 18 (za ?_);refine yv (zD (hr:=hdec)) (k:=za ?_))|(refine zb 19 (za ?_);refine yv (zu (hr:=hinc)) (k:=za ?_))|(refine zb 20 (za ?_);refine yv (zab (hr:=hge)) (k:=?_)))
    refine zT () trivial ?_ q_h;rw [<-hqa,hqd];exact q_h
   ·have hge:decide ((4294967296:Int)<=((r+v1:Nat):Int))=false:=q_f;repeat' (first|refine s_t ?_|(refine zb 18 (za ?_);refine yv (zD (hr:=hdec)) (k:=za ?_))|(refine zb 19 (za ?_);refine yv (zu (hr:=hinc)) (k:=za ?_))|(refine zb 20 (za ?_);refine yv (zab (hr:=hge)) (k:=?_)))
    refine zq (q - 1,r+v1) ⟨hN,by show r+v1 < 4294967296;omega⟩ ?_ ?_ ?_
    ·show q - 1 < q;omega
    ·exact q_h
    ·exact q_h
 rintro - -;have k14:IntKind.u64.wrap ((X:Int)*(4294967296:Int))=((X*4294967296 % 18446744073709551616:Nat):Int):=wmul (b:=4294967296) rfl;have k15:IntKind.u64.wrap (((X*4294967296 % 18446744073709551616:Nat):Int)+(u1:Int))=(((X*4294967296+u1) % 18446744073709551616:Nat):Int):=wadd q_o;have k16:IntKind.u64.wrap ((qa:Int)*(V:Int))=((qa*V % 18446744073709551616:Nat):Int):=wmul rfl;have k17:IntKind.u64.wrap ((((X*4294967296+u1) % 18446744073709551616:Nat):Int) - ((qa*V % 18446744073709551616:Nat):Int))=((Y:Nat):Int):=wsub q_o (wdiff hdX.symm hYW);have k18:IntKind.u64.wrap ((Y:Int).tdiv (v1:Int))=((Y / v1:Nat):Int):=wdiv hYW rfl;have hdm':=Nat.div_add_mod Y v1;have hml':=Nat.mod_lt Y hv1p;rw [Nat.mul_comm] at hdm';have k19:IntKind.u64.wrap (((Y / v1:Nat):Int)*(v1:Int))=((Y / v1*v1:Nat):Int):=wmul (Nat.mod_eq_of_lt q_o);have k20:IntKind.u64.wrap ((Y:Int) - ((Y / v1*v1:Nat):Int))=((Y % v1:Nat):Int):=wsub q_o q_o;repeat' (first|refine s_0 ?_|(refine zb 21 (za ?_);refine yv (zah (hr:=k14)) (k:=za ?_);refine yv (zu (hr:=k15)) (k:=za ?_);refine yv (zah (hr:=k16)) (k:=?_);refine yv (zD (hr:=k17)) (k:=za ?_))|(refine zb 22 (za ?_);refine yv (zaz (hb:=kv) (hr:=k18)) (k:=za ?_))|(refine zb 23 (za ?_);refine yv (zah (hr:=k19)) (k:=?_);refine yv (zD (hr:=k20)) (k:=za ?_)))
 refine zba (γ:=Unit) (λ_=>[(2,nv V),(6,.int .u64 0),(7,.int .u64 0),(8,.int .u64 s),(9,nv v1),(10,nv v0),(14,nv u0),(15,nv qa),(17,nv Y),(18,nv qb)]) (λ_=>[]) (λ_=>True) ?_ ?_
 ·repeat' (first|refine zcv ?_|fail)
  refine zy (γ:=Nat×Nat) (λg=>[(2,nv V),(6,.int .u64 0),(7,.int .u64 0),(8,.int .u64 s),(9,nv v1),(10,nv v0),(14,nv u0),(15,nv qa),(17,nv Y),(18,nv g.1),(16,nv g.2)]) (λ_=>[]) (λg=>Est 4294967296 Y u0 v1 v0 g.1 g.2/\g.2 < 4294967296) (λg=>g.1) (Y / v1,Y % v1) ⟨Est.start _ _ _ _ _ hv1p hu0,by have:=Nat.mod_lt Y hv1p;omega⟩ ?_ ?_ ?_
  ·exact q_h
  ·exact q_h
  rintro ⟨q,r⟩ ⟨hE,hr⟩;dsimp only at hE hr ⊢;have hqle:=zmT hE.eq (by rw [<-hVs];exact hY) q_o hv0l q_e;repeat refine zbC ?_
  refine zba (γ:=Bool) (λg=>[(2,nv V),(6,.int .u64 0),(7,.int .u64 0),(8,.int .u64 s),(9,nv v1),(10,nv v0),(14,nv u0),(15,nv qa),(17,nv Y),(18,nv q),(16,nv r),(113,.bool g)]) (λ_=>[]) (λg=>(g=true->Y*4294967296+u0 < q*(v1*4294967296+v0))/\(g=false->q < 4294967296/\q*(v1*4294967296+v0)<=Y*4294967296+u0)) ?_ ?_
  ·by_cases hq:4294967296<=q
   ·have hge:decide ((4294967296:Int)<=(q:Int))=true:=q_d;repeat' (first|refine zae ?_|refine zZ ?_|(refine zb 24 (za ?_);refine yv (zab (hr:=hge)) (k:=za ?_)))
    exact zT true ⟨λ_=>zd5 (by rw [<-hVs];exact hY) hu0 hq,λh=>absurd h q_e⟩ q_h q_h
   ·have hge:decide ((4294967296:Int)<=(q:Int))=false:=q_f;have hm:=Lib.half_mul_le (a:=q) (b:=v0) q_o q_o;have m1:IntKind.u64.wrap ((q:Int)*(v0:Int))=((q*v0:Nat):Int):=wmul (Nat.mod_eq_of_lt q_o);have m2:IntKind.u64.wrap ((4294967296:Int)*(r:Int))=((r*4294967296:Nat):Int):=by rw [Int.mul_comm];exact wmul (b:=4294967296) (Nat.mod_eq_of_lt q_o)
    have m3:IntKind.u64.wrap (((r*4294967296:Nat):Int)+(u0:Int))=((r*4294967296+u0:Nat):Int):=wadd (Nat.mod_eq_of_lt q_o);by_cases hb:r*4294967296+u0 < q*v0
    ·have hgt:decide (((r*4294967296+u0:Nat):Int) < ((q*v0:Nat):Int))=true:=decide_eq_true (Int.ofNat_lt.2 hb);repeat' (first|refine zae ?_|refine zZ ?_|(refine zb 24 (za ?_);refine yv (zab (hr:=hge)) (k:=za ?_);refine yv (zah (hr:=m1)) (k:=za ?_);refine yv (zah (hr:=m2)) (k:=za ?_);refine yv (zu (hr:=m3)) (k:=?_);refine yv (zU (hr:=hgt)) (k:=za ?_)))
     exact zT true ⟨λ_=>zhC hE.eq hb,λh=>absurd h q_e⟩ q_h q_h
    ·have hgt:decide (((r*4294967296+u0:Nat):Int) < ((q*v0:Nat):Int))=false:=decide_eq_false (λh=>hb (Int.ofNat_lt.1 h));repeat' (first|refine zae ?_|refine zZ ?_|(refine zb 24 (za ?_);refine yv (zab (hr:=hge)) (k:=za ?_);refine yv (zah (hr:=m1)) (k:=za ?_);refine yv (zah (hr:=m2)) (k:=za ?_);refine yv (zu (hr:=m3)) (k:=?_);refine yv (zU (hr:=hgt)) (k:=za ?_)))
     exact zT false ⟨λh=>absurd h q_e,λ_=>⟨by omega,zct hE.eq q_o⟩⟩ q_h q_h
  rintro t ⟨ht,hf⟩;cases t with
  |false=>
   obtain ⟨h1,h2⟩:=hf rfl;have hup:=hE.up;rw [<-hVs] at h2 hup;obtain ⟨hqd,-⟩:=zd0 _ _ _ h2 hup;repeat' (first|refine s_0 ?_|fail)
   refine zT () trivial ?_ q_h;rw [<-hqb,hqd];exact q_h
  |true=>
   have ht:=ht rfl;obtain ⟨hq0,hN⟩:=zgG hE.eq ht;have hdec:IntKind.u64.wrap ((q:Int) - 1)=((q - 1:Nat):Int):=by rw [IntWalk.u64_in _ q_o];omega
   have hinc:IntKind.u64.wrap ((r:Int)+(v1:Int))=((r+v1:Nat):Int):=wadd (Nat.mod_eq_of_lt q_o);by_cases hrb:4294967296<=r+v1
   ·have hge:decide ((4294967296:Int)<=((r+v1:Nat):Int))=true:=q_d;have hqs:=zjU hN.eq (by rw [<-hVs];exact hY) hv0l hrb;have h2:=zct hN.eq (zeZ (u0:=u0) hv0l (Nat.le_of_lt hqs) hrb);have hup:=hN.up;rw [<-hVs] at h2 hup;obtain ⟨hqd,-⟩:=zd0 _ _ _ h2 hup;repeat' (first|refine s_t ?_|(refine zb 25 (za ?_);refine yv (zD (hr:=hdec)) (k:=za ?_))|(refine zb 26 (za ?_);refine yv (zu (hr:=hinc)) (k:=za ?_))|(refine zb 27 (za ?_);refine yv (zab (hr:=hge)) (k:=?_)))
    refine zT () trivial ?_ q_h;rw [<-hqb,hqd];exact q_h
   ·have hge:decide ((4294967296:Int)<=((r+v1:Nat):Int))=false:=q_f;repeat' (first|refine s_t ?_|(refine zb 25 (za ?_);refine yv (zD (hr:=hdec)) (k:=za ?_))|(refine zb 26 (za ?_);refine yv (zu (hr:=hinc)) (k:=za ?_))|(refine zb 27 (za ?_);refine yv (zab (hr:=hge)) (k:=?_)))
    refine zq (q - 1,r+v1) ⟨hN,by show r+v1 < 4294967296;omega⟩ ?_ ?_ ?_
    ·show q - 1 < q;omega
    ·exact q_h
    ·exact q_h
 rintro - -;have k21:IntKind.u64.wrap ((qa:Int)*(4294967296:Int))=((qa*4294967296:Nat):Int):=wmul (b:=4294967296) (Nat.mod_eq_of_lt q_o);have k22:IntKind.u64.wrap (((qa*4294967296:Nat):Int)+(qb:Int))=((qa*4294967296+qb:Nat):Int):=wadd (Nat.mod_eq_of_lt q_o);have k23:IntKind.u64.wrap ((Y:Int)*(4294967296:Int))=((Y*4294967296 % 18446744073709551616:Nat):Int):=wmul (b:=4294967296) rfl;have k24:IntKind.u64.wrap (((Y*4294967296 % 18446744073709551616:Nat):Int)+(u0:Int))=(((Y*4294967296+u0) % 18446744073709551616:Nat):Int):=wadd q_o;have k25:IntKind.u64.wrap ((qb:Int)*(V:Int))=((qb*V % 18446744073709551616:Nat):Int):=wmul rfl;have k26:IntKind.u64.wrap ((((Y*4294967296+u0) % 18446744073709551616:Nat):Int) - ((qb*V % 18446744073709551616:Nat):Int))=((Z:Nat):Int):=wsub q_o (wdiff hdY.symm q_o);have k27:Op.shift .shr .u64 (Z:Int) .u64 (s:Int)=pure (.int .u64 (((hi*18446744073709551616+lo) % y:Nat):Int)):=by
  rw [shrN64 Z s .u64 q_o,f2,Nat.mul_div_cancel _ hps]
 repeat' (first|refine s_0 ?_|(refine zb 28 (za ?_);refine yv (zah (hr:=k21)) (k:=za ?_);refine yv (zu (hr:=k22)) (k:=za ?_);refine yv (zah (hr:=k23)) (k:=za ?_);refine yv (zu (hr:=k24)) (k:=za ?_);refine yv (zah (hr:=k25)) (k:=?_);refine yv (zD (hr:=k26)) (k:=za ?_);refine yv (zaJ (hr:=k27)) (k:=za ?_)))
 exact ret2 rfl (resTmp rfl) (resTmp rfl) SubR.nil ⟨by rw [f1];rfl,rfl⟩
end Go.Proofs.YtdnlngbjpdbffaaGreatDoor
end
section
namespace Go.Sy
open Go
section
variable {P:Program}{ro:Option Nat}{N:Nat}{w0:World}{M:Nat->Prop}{ds:List Deferred}{ops:Array Oper}{Q:Exit->Act->World->Prop}{C:List (List Nat)}{L0:List Res}{k i n:Nat}{o:Oper}{rest:List Oper}{F:Env->Fr}{rs:List (Nat×(Env->Value->List Res->Prop))}
theorem dcn (hg: ∀ρ,relOf (cl C i) rs ρ->OpT P ro N w0 M ds o (only (o.looksAt ops) (get (F ρ))) (resOf (cl C i) rs ρ L0) (Det undef (resOf (cl C i) rs ρ L0))) (hw: ∀ρ,wants ops o (only (o.looksAt ops) (get (F ρ)))=some true:=by exact λ_=>rfl) (hd:o.dst=none:=by exact rfl)
  (k:DH P ro N w0 M ds ops Q C L0 n (i+1) rest F rs):DH P ro N w0 M ds ops Q C L0 (n+1) i (o::rest) F rs:=
 .inl ⟨λ_=>undef,λ_ _ _=>rfl,λρ hρ=> .inl ⟨hw ρ,hg ρ hρ⟩,by rw [hd];exact k⟩
end
section
variable {P:Program}{ro:Option Nat}{N:Nat}{w0:World}{M:Nat->Prop}{ds:List Deferred}{Q:Exit->Act->World->Prop}{fr:Fr}
end
end Go.Sy
end
