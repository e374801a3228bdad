/- Division by a number of one digit, and by one that is longer than the dividend. -/
import Derived.Test.YtdnlngbjpdbffaaGreatDoorLJ12
import Derived.Test.YtdnlngbjpdbffaaGreatDoorLJ14
set_option maxHeartbeats 2000000
set_option maxRecDepth 10000
set_option linter.all false
section
namespace Go.Nt
open Go Go.Sy
theorem zhU (b d o i:Nat) (ho:0 < o):d / b ^ i / o=d / b ^ (i+1) / o*b+(d / b ^ (i+1) % o*b+d / b ^ i % b) / o/\d / b ^ i % o=(d / b ^ (i+1) % o*b+d / b ^ i % b) % o:=by
 have h1:=Nat.div_add_mod (d / b ^ i) b;rw [Nat.div_div_eq_div_mul,<-Nat.pow_succ] at h1;rw [Nat.succ_eq_add_one] at h1;generalize d / b ^ (i+1)=A at *;generalize d / b ^ i % b=e at *;have h2:=Nat.div_add_mod A o;generalize A / o=q at *;generalize A % o=r at *;have h3:d / b ^ i=o*(q*b)+(r*b+e):=by
  rw [<-h1,<-h2,Nat.mul_add,Nat.mul_comm b r,show b*(o*q)=o*(q*b) by ac_rfl,Nat.add_assoc]
 rw [h3];exact ⟨Nat.mul_add_div ho _ _,Nat.mul_add_mod _ _ _⟩
end Go.Nt
namespace Go.Proofs.YtdnlngbjpdbffaaGreatDoor
open Go Go.Sy Go.Nt Go.RowKit
attribute [local irreducible] Sy SyL SyX Sy.Fn callFunc natC
theorem znl (d o:Nat) (w:World) (hd:d < 18446744073709551616 ^ 16) (ho:o < 18446744073709551616 ^ 16) (hn:nd 18446744073709551616 d < nd 18446744073709551616 o):
  Sy.Fn Tryz.prog 320 [natV d,natV o] w No (Gives (.tuple #[natV 0,natV d])):=by
 refine zg Tryz.func320 rfl Tryz.ntmps320 q_p Holds.nil ?_;have hld:=ze d;have hlo:=ze o;have h1:=λw=>zbu o w ho;have h2:=λw=>zbu d w hd;have hm:=zao 18446744073709551616 d 16 q_e hd;generalize nd 18446744073709551616 o=n at *;generalize nd 18446744073709551616 d=m at *;have hlt:decide ((m:Int) < (n:Int))=true:=q_d;repeat' (first|refine s_0 ?_|(refine zb 0 ?_;refine zj ?_;intro _;refine zj ?_;intro _;refine zj ?_;intro _;refine zj ?_;intro _)|(refine zM (id:=1) 3 [[],[0],[],[0,1,2],[0,1,2,3],[0,1,2,3,4]] mixed ?_ ?_;kernel_rfl;refine dc (λ_ _=>zf (B:=natC o)) (k:=?_);refine dc (λ_ _=>zd (hc:=λ_ _ _ _=>(h1 _))) (k:=?_);refine dc (λ_ _=>zf (B:=natC d)) (k:=?_);refine zY ?_;refine yv (zd (hc:=λ_ _ _ _=>(h2 _))) (k:=?_);refine zx ?_;refine zx ?_)|(refine zb 2 (za ?_);refine yv (zn (hr:=hlt)) (k:=?_))|(refine zM (id:=3) 3 [[],[],[0],[0,1,2]] mixed ?_ ?_;kernel_rfl;refine zqS ?_;refine dc (λ_ _=>zf (B:=natC d)) (k:=?_))|fail)
 refine dcn (λ_ _=>zE (B:=List.replicate 16 (Value.int IntKind.u64 0))) (k:=?_);repeat' (first|refine s_0 ?_|(refine zP ?_;first|refine yn (zi (n:=d)) (k:=?_)|fail)|refine zY ?_|fail)
 exact ret2 rfl (resCells (B:=List.replicate 16 (Value.int IntKind.u64 0)) rfl (ty rfl) rfl Has.go Seg.all rfl) (resCells (B:=natC d) rfl (ty rfl) rfl Has.go Seg.all (ze _).symm) SubR.nil ⟨by rw [<-natV0];rfl,rfl⟩
theorem zpu (d o:Nat) (w:World) (hd:d < 18446744073709551616 ^ 16) (ho:o < 18446744073709551616) (h0:0 < o) (hdp:0 < d):
  Sy.Fn Tryz.prog 320 [natV d,natV o] w No (Gives (.tuple #[natV (d / o),natV (d % o)])):=by
 refine zg Tryz.func320 rfl Tryz.ntmps320 q_p Holds.nil ?_;have hld:=ze d;have hlo:=ze o;have ho16:o < 18446744073709551616 ^ 16:=Nat.lt_of_lt_of_le ho (Nat.le_self_pow q_e _);have hn1:nd 18446744073709551616 o=1:=zbh _ _ _ q_e (by rw [Nat.pow_one];exact ho) (λ_=>by rw [Nat.sub_self,Nat.pow_zero];exact h0);have h1:=λw=>zbu o w ho16;have h2:=λw=>zbu d w hd;rw [hn1] at h1;have hm:=zao 18446744073709551616 d 16 q_e hd;have hdm:=zai 18446744073709551616 d q_e;generalize nd 18446744073709551616 d=m at *;have hm0:0 < m:=by
  rcases Nat.eq_zero_or_pos m with h|h
  ·subst h;rw [Nat.pow_zero] at hdm;omega
  ·exact h
 have hgd:=zaK d;have hgo:=zaK o 0 q_e;rw [Nat.pow_zero,Nat.div_one,Nat.mod_eq_of_lt ho] at hgo;have hlt:decide ((m:Int) < ((1:Nat):Int))=false:=q_f;have hs1:IntKind.i64.wrap ((m:Int) - 1)=(m:Int) - 1:=IntWalk.i64_in _ q_o;repeat' (first|refine s_t ?_|(refine zb 0 ?_;refine zj ?_;intro _;refine zj ?_;intro _;refine zj ?_;intro _;refine zj ?_;intro _)|(refine zM (id:=1) 3 [[],[0],[],[0,1,2],[0,1,2,3],[0,1,2,3,4]] mixed ?_ ?_;kernel_rfl;refine dc (λ_ _=>zf (B:=natC o)) (k:=?_);refine dc (λ_ _=>zd (hc:=λ_ _ _ _=>(h1 _))) (k:=?_);refine dc (λ_ _=>zf (B:=natC d)) (k:=?_);refine zY ?_;refine yv (zd (hc:=λ_ _ _ _=>(h2 _))) (k:=?_);refine zx ?_;refine zx ?_)|(refine zb 2 (za ?_);refine yv (zn (hr:=hlt)) (k:=?_))|(refine zb 4 (za ?_);refine zan ?_)|(refine zb 5 (za ?_))|(refine zb 6 (za ?_);refine yv (zD (hr:=hs1)) (k:=za ?_)))
 rename_i b2 b3 b4 b5;refine zy (γ:=Nat) (λi=>[(2,.pointer (some ⟨b2,0,none⟩)),(3,.pointer (some ⟨b3,0,none⟩)),(4,.pointer (some ⟨b4,0,none⟩)),(5,.pointer (some ⟨b5,0,none⟩)),(8,nv (d / 18446744073709551616 ^ i % o)),(9,.int .i64 ((i:Int) - 1))])
  (λi=>[.blk b4 131 (natC (d / 18446744073709551616 ^ i / o*18446744073709551616 ^ i)),.blk b5 131 (List.replicate 16 (Value.int IntKind.u64 0)),.blk b2 131 (natC d),.blk b3 131 (natC o)])
  (λi=>i<=m) (λi=>i) m (Nat.le_refl _) ?_ ?_ ?_
 ·rw [Nat.div_eq_of_lt hdm,Nat.zero_mod];exact q_h
 ·show SubR [.blk b4 131 (natC (d / 18446744073709551616 ^ m / o*18446744073709551616 ^ m)),.blk b5 131 (List.replicate 16 (Value.int IntKind.u64 0)),.blk b2 131 (natC d),.blk b3 131 (natC o)] _;rw [Nat.div_eq_of_lt hdm,Nat.zero_div,Nat.zero_mul,<-natC0];exact q_h
 intro i hi;rcases Nat.eq_zero_or_pos i with hz|hp
 ·subst hz;rw [Nat.pow_zero,Nat.div_one,Nat.mul_one];have hlq:=ze (d / o);have hr:d % o < 18446744073709551616:=Nat.lt_trans (Nat.mod_lt _ h0) ho;have hset:=zcs 0 0 (d % o);rw [Nat.zero_div,Nat.zero_mod,Nat.zero_add,Nat.pow_zero,Nat.mul_one,Nat.zero_add] at hset;have hset:=hset hr;rw [<-natC0] at hset;have hlr:=ze (d % o);generalize d / o=Q at *;generalize d % o=r at *;repeat' (first|refine s_0 ?_|(refine zb 7 (za ?_);refine zad ?_)|(refine zb 10 (za ?_);refine zw ?_;refine zI ?_))
  refine Sy.weaken (fr':=[(4,.pointer (some ⟨b4,0,none⟩)),(5,.pointer (some ⟨b5,0,none⟩))]) (L':=[.blk b4 131 (natC Q),.blk b5 131 (natC r)]) ?_ q_h (by (repeat' (first|exact SubR.nil|(apply SubR.same;with_reducible (focus ((repeat (first|exact Rem.here|apply Rem.there));done)))|(apply SubR.blk;(focus ((repeat (first|exact Rem.here|apply Rem.there));done)))|(apply SubR.pick;(focus ((repeat (first|exact Rem.here|apply Rem.there));done)))|rfl));exact hset);repeat' (first|(refine zM (id:=11) 3 [[],[],[0],[0,1,2]] mixed ?_ ?_;kernel_rfl;refine dc (λ_ _=>zf (B:=natC Q)) (k:=?_);refine dc (λ_ _=>zf (B:=natC r)) (k:=?_))|fail)
  refine dcn (λ_ _=>zi (n:=Q)) (k:=?_);repeat' (first|refine s_0 ?_|(refine zP ?_;first|refine yn (zi (n:=r)) (k:=?_)|fail)|refine zY ?_|fail)
  exact ret2 rfl (resCells (B:=natC Q) rfl (ty rfl) rfl Has.go Seg.all (ze _).symm) (resCells (B:=natC r) rfl (ty rfl) rfl Has.go Seg.all (ze _).symm) SubR.nil ⟨rfl,rfl⟩
 ·obtain ⟨i,rfl⟩: ∃j,i=j+1:=⟨i - 1,by omega⟩;have hij:(((i+1:Nat):Int) - 1)=((i:Nat):Int):=q_o;have hs2:IntKind.i64.wrap ((i:Int) - 1)=(i:Int) - 1:=IntWalk.i64_in _ q_o;obtain ⟨e1,e2⟩:=zhU 18446744073709551616 d o i h0;have hdi:=hgd i q_o;have hml:=Nat.mod_lt (d / 18446744073709551616 ^ (i+1)) h0;have hdW:d / 18446744073709551616 ^ i % 18446744073709551616 < 18446744073709551616:=Nat.mod_lt _ q_e;have hset:=zcs (d / 18446744073709551616 ^ (i+1) / o*18446744073709551616 ^ (i+1)) i;have hlN:=ze (d / 18446744073709551616 ^ (i+1) / o*18446744073709551616 ^ (i+1));have hz:d / 18446744073709551616 ^ (i+1) / o*18446744073709551616 ^ (i+1) / 18446744073709551616 ^ i % 18446744073709551616=0:=by
   rw [Nat.pow_succ,Nat.mul_comm (18446744073709551616 ^ i),<-Nat.mul_assoc,Nat.mul_div_cancel _ (Nat.pow_pos q_e)];exact Nat.mul_mod_left _ _
  rw [hz] at hset;have hset:=hset ((d / 18446744073709551616 ^ (i+1) % o*18446744073709551616+d / 18446744073709551616 ^ i % 18446744073709551616) / o);have hsum:d / 18446744073709551616 ^ i / o*18446744073709551616 ^ i=d / 18446744073709551616 ^ (i+1) / o*18446744073709551616 ^ (i+1)+(d / 18446744073709551616 ^ (i+1) % o*18446744073709551616+d / 18446744073709551616 ^ i % 18446744073709551616) / o*18446744073709551616 ^ i:=by
   rw [e1,Nat.add_mul,Nat.pow_succ,Nat.mul_comm (18446744073709551616 ^ i),<-Nat.mul_assoc]
  rw [Nat.zero_add,<-hsum] at hset;have hql:(d / 18446744073709551616 ^ (i+1) % o*18446744073709551616+d / 18446744073709551616 ^ i % 18446744073709551616) / o < 18446744073709551616:=(Nat.div_lt_iff_lt_mul h0).2 (by
   have:=Nat.mul_le_mul_right 18446744073709551616 (show d / 18446744073709551616 ^ (i+1) % o+1<=o from hml);omega)
  have hset:=hset hql;have hdiv:=λw=>zkh (d / 18446744073709551616 ^ (i+1) % o) (d / 18446744073709551616 ^ i % 18446744073709551616) o w hml ho hdW;rw [hij];generalize d / 18446744073709551616 ^ (i+1) / o*18446744073709551616 ^ (i+1)=X at *;generalize hY:d / 18446744073709551616 ^ i / o*18446744073709551616 ^ i=Y at *;generalize (d / 18446744073709551616 ^ (i+1) % o*18446744073709551616+d / 18446744073709551616 ^ i % 18446744073709551616) / o=q at *;rw [<-e2] at hdiv;generalize hr':d / 18446744073709551616 ^ i % o=r' at *;generalize d / 18446744073709551616 ^ (i+1) % o=r at *;generalize d / 18446744073709551616 ^ i % 18446744073709551616=e at *;repeat' (first|refine s_t ?_|(refine zb 7 (za ?_);refine zad ?_))
  refine zbj (id:=9) mixed ?_
  (refine zbi 13 13 [[],[],[],[2],[2,3],[],[5],[1,2,3,4,5,6],[1,2,3,4,5,6,7],[1,2,3,4,5,6,7,8],[1,2,3,4,5,6,7,8],[0,1,2,3,4,5,6,7,8,9],[0,1,2,3,4,5,6,7,8,9,11],[0,1,2,3,4,5,6,7,8,9,10,11,12]] [[],[],[],[],[],[],[],[],[],[],[],[],[],[]] (some 12) rfl ?_ ?_ ?_;kernel_rfl;kernel_rfl;refine zaq ?_;refine zaq ?_;refine zaq ?_;refine zbt ?_;refine dcE (λ_ _=>zC (hv:=hdi)) (k:=?_);refine zbt ?_;refine dcE (λ_ _=>zC (hv:=hgo)) (k:=?_);refine dcE (λ_ _=>zd (hc:=λ_ _ _ _=>(hdiv _))) (k:=?_);refine zaq ?_;refine zaG ?_;refine zaG ?_;refine zbt ?_;try refine dh_0nE (h:=?_))
  refine zgV (R:=λ_ _ Nw=>Nw= [.blk b4 131 (natC Y),.blk b5 131 (List.replicate 16 (Value.int IntKind.u64 0)),.blk b2 131 (natC d),.blk b3 131 (natC o)]) (λ_ _ _=>rfl)
   (λρ hρ=>OpT.mono (zcr (C:=natC X) (L':=[.blk b4 131 (natC Y),.blk b5 131 (List.replicate 16 (Value.int IntKind.u64 0)),.blk b2 131 (natC d),.blk b3 131 (natC o)]) (hC:=⟨by rw [ze];omega,hset.symm⟩)) λv L' h=>?_) (h:=?_)
  ·obtain ⟨rfl,rfl⟩:=h;exact ⟨_,(List.append_nil _).symm,rfl⟩
  refine zco (h:=?_);rintro ρ ⟨f',-⟩
  (refine zbk [[],[],[],[2],[2,3],[],[5],[1,2,3,4,5,6],[1,2,3,4,5,6,7],[1,2,3,4,5,6,7,8],[1,2,3,4,5,6,7,8],[0,1,2,3,4,5,6,7,8,9],[0,1,2,3,4,5,6,7,8,9,11],[0,1,2,3,4,5,6,7,8,9,10,11,12]] ?_ ?_;kernel_rfl)
  have f':(ρ 12).2= [.blk b4 131 (natC Y),.blk b5 131 (List.replicate 16 (Value.int IntKind.u64 0)),.blk b2 131 (natC d),.blk b3 131 (natC o)]:=f';refine SyL.weaken (fr':=[(43,nv r'),(2,.pointer (some ⟨b2,0,none⟩)),(3,.pointer (some ⟨b3,0,none⟩)),(4,.pointer (some ⟨b4,0,none⟩)),(5,.pointer (some ⟨b5,0,none⟩)),(9,.int .i64 i)])
   (L':=[.blk b4 131 (natC Y),.blk b5 131 (List.replicate 16 (Value.int IntKind.u64 0)),.blk b2 131 (natC d),.blk b3 131 (natC o)]) ?_ ?_ ?_
  ·repeat' (first|refine s_0 ?_|(refine zb 8 (za ?_);refine yv (zD (hr:=hs2)) (k:=za ?_))|(refine zP ?_;first|refine zx ?_|fail)|fail)
   refine zq i ?_ ?_ ?_ ?_
   ·show i<=m;omega
   ·show i < i+1;omega
   ·rw [hr'];exact q_h
   ·show SubR [.blk b4 131 (natC (d / 18446744073709551616 ^ i / o*18446744073709551616 ^ i)),.blk b5 131 (List.replicate 16 (Value.int IntKind.u64 0)),.blk b2 131 (natC d),.blk b3 131 (natC o)] _;rw [hY];exact q_h
  ·exact q_h
  ·show SubR _ ((ρ 12).2 ++ []);rw [f'];exact q_h
end Go.Proofs.YtdnlngbjpdbffaaGreatDoor
namespace Go.Nt
open Go Go.Sy
theorem zhm (b V n:Nat) (hn:2<=n) (hb:0 < b) (hV:V < b ^ n):V / b ^ (n - 1) % b*b+V / b ^ (n - 2) % b=V / b ^ (n - 2):=by
 have h1:=Nat.div_add_mod (V / b ^ (n - 2)) b;rw [Nat.div_div_eq_div_mul,<-Nat.pow_succ,show (n - 2).succ=n - 1 by omega] at h1;have h2:V / b ^ (n - 1) < b:=by
  rw [Nat.div_lt_iff_lt_mul (Nat.pow_pos hb),Nat.mul_comm,<-Nat.pow_succ,show (n - 1).succ=n by omega];exact hV
 rw [Nat.mod_eq_of_lt h2,Nat.mul_comm];exact h1
theorem zft (b U k:Nat) (hk:2<=k) (hb:0 < b) (hU:U / b ^ k < b):(U / b ^ k % b*b+U / b ^ (k - 1) % b)*b+U / b ^ (k - 2) % b=U / b ^ (k - 2):=by
 have h1:=Nat.div_add_mod (U / b ^ (k - 1)) b;rw [Nat.div_div_eq_div_mul,<-Nat.pow_succ,show (k - 1).succ=k by omega] at h1;have h2:=Nat.div_add_mod (U / b ^ (k - 2)) b;rw [Nat.div_div_eq_div_mul,<-Nat.pow_succ,show (k - 2).succ=k - 1 by omega] at h2;rw [Nat.mod_eq_of_lt hU,Nat.mul_comm (U / b ^ k) b,h1,Nat.mul_comm];exact h2
theorem zro {W:Nat}(a c s t:Nat) (hW:2 ^ s*2 ^ t=W) (hc:c < W):(c / 2 ^ s ||| a*2 ^ t % W)=c / 2 ^ s+a*2 ^ t % W:=by
 rw [Nat.or_comm,Nat.add_comm];exact znj a _ t s (by rw [Nat.mul_comm];exact hW) ((Nat.div_lt_iff_lt_mul (Nat.pow_pos q_e)).2 (by rw [Nat.mul_comm,hW];exact hc))
theorem zp3 {W u v:Nat}(hv:0 < v) (hW:0 < W):min (W - 1) (u / v) < W/\min (W - 1) (u / v)*v<=u/\(min (W - 1) (u / v)+1=W\/u < (min (W - 1) (u / v)+1)*v):=by
 rcases Nat.lt_or_ge (u / v) (W - 1) with h|h
 ·rw [Nat.min_eq_right q_o];exact ⟨by omega,Nat.div_mul_le_self u v,.inr (Nat.lt_mul_of_div_lt (Nat.lt_succ_self _) hv)⟩
 ·rw [Nat.min_eq_left h];exact ⟨by omega,(Nat.le_div_iff_mul_le hv).1 h,.inl q_o⟩
structure OverJ (V D j Q U:Nat):Prop where
 eq:Q*18446744073709551616 ^ j*V+U=D
 lt:U < V*18446744073709551616 ^ j
end Go.Nt
namespace Go.Proofs.YtdnlngbjpdbffaaGreatDoor
open Go Go.Sy Go.Nt Go.RowKit
attribute [local irreducible] Sy SyL SyX Sy.Fn callFunc natC wC
theorem zm3 (d o:Nat) (w:World) (hd:d < 18446744073709551616 ^ 16) (ho:o < 18446744073709551616 ^ 16) (hn2:2<=nd 18446744073709551616 o) (hmn:nd 18446744073709551616 o<=nd 18446744073709551616 d):
  Sy.Fn Tryz.prog 320 [natV d,natV o] w No (Gives (.tuple #[natV (d / o),natV (d % o)])):=by
 refine zg Tryz.func320 rfl Tryz.ntmps320 q_p Holds.nil ?_;have hld:=ze d;have hlo:=ze o;have h1:=λw=>zbu o w ho;have h2:=λw=>zbu d w hd;have hm:=zao 18446744073709551616 d 16 q_e hd;have hdm:=zai 18446744073709551616 d q_e;have hon:=zai 18446744073709551616 o q_e;have hos:=(zbZ 18446744073709551616 q_e o).2;generalize nd 18446744073709551616 d=m at *;generalize nd 18446744073709551616 o=n at *;have hos:=hos q_o;have hop:0 < o:=Nat.lt_of_lt_of_le (Nat.pow_pos q_e) hos
 -- the divisor's first digit and how far it moves
 obtain ⟨t1,ht1⟩: ∃t1,t1=o / 18446744073709551616 ^ (n - 1):=⟨_,rfl⟩;have ht1W:t1 < 18446744073709551616:=by
  rw [ht1,Nat.div_lt_iff_lt_mul (Nat.pow_pos q_e),Nat.mul_comm,<-Nat.pow_succ,show (n - 1).succ=n by omega];exact hon
 have ht1p:0 < t1:=by rw [ht1];exact Nat.div_pos hos (Nat.pow_pos q_e)
 have hto:=zaK o (n - 1) q_o;rw [<-ht1,Nat.mod_eq_of_lt ht1W] at hto;have hlz:=λw=>zlw t1 w ht1W;obtain ⟨k0,k1,k2⟩:=zev t1 ht1p;have k64:=zao 2 t1 64 q_e ht1W;generalize nd 2 t1=k at *;obtain ⟨s,hs⟩: ∃s,s=64 - k:=⟨_,rfl⟩;rw [<-hs] at hlz;obtain ⟨t,ht⟩: ∃t,t=64 - s:=⟨_,rfl⟩;have hst:(2:Nat) ^ s*2 ^ t=18446744073709551616:=by rw [<-Nat.pow_add,show s+t=64 by omega]
 have hps:0 < 2 ^ s:=Nat.pow_pos q_e;have hsu:=λw=>zig d s w hd q_o;have hsv:=λw=>zig o s w ho q_o;obtain ⟨D,hD⟩: ∃D,D=d*2 ^ s:=⟨_,rfl⟩;obtain ⟨V,hV⟩: ∃V,V=o*2 ^ s:=⟨_,rfl⟩;rw [<-hD] at hsu;rw [<-hV] at hsv;have hD17:D < 18446744073709551616 ^ 17:=by
  rw [hD,Nat.pow_succ];have:2 ^ s<=18446744073709551616:=by rw [<-hst];exact Nat.le_mul_of_pos_right _ (Nat.pow_pos q_e)
  exact Nat.lt_of_lt_of_le (Nat.mul_lt_mul_of_pos_right hd hps) (Nat.mul_le_mul_left _ this)
 have hVn:V < 18446744073709551616 ^ n:=by
  have e1:o < (t1+1)*18446744073709551616 ^ (n - 1):=by
   rw [ht1];exact Nat.lt_mul_of_div_lt (Nat.lt_succ_self _) (Nat.pow_pos q_e)
  have e2:(t1+1)*2 ^ s<=18446744073709551616:=by
   rw [<-hst,Nat.mul_comm (2 ^ s),show t=k by omega];exact Nat.mul_le_mul_right _ k2
  rw [hV];have e3:=Nat.mul_lt_mul_of_pos_right e1 hps;have e4:=Nat.mul_le_mul_right (18446744073709551616 ^ (n - 1)) e2;rw [Nat.mul_comm 18446744073709551616,<-Nat.pow_succ,show (n - 1).succ=n by omega] at e4;rw [show (t1+1)*18446744073709551616 ^ (n - 1)*2 ^ s=(t1+1)*2 ^ s*18446744073709551616 ^ (n - 1) by ac_rfl] at e3;omega
 have hVp:0 < V:=by rw [hV];exact Nat.mul_pos hop hps
 have hDV:D < V*18446744073709551616 ^ (m - n+1):=by
  rw [hD,hV];exact zos q_e hdm hos q_o hmn
 -- the divisor's first digit is large
 have hv1l:9223372036854775808<=V / 18446744073709551616 ^ (n - 1):=by
  rw [Nat.le_div_iff_mul_le (Nat.pow_pos q_e),hV];have e1:t1*18446744073709551616 ^ (n - 1)<=o:=by rw [ht1];exact Nat.div_mul_le_self _ _
  have e2:=Nat.mul_le_mul_right (2 ^ s) e1;have e3:9223372036854775808<=t1*2 ^ s:=by
   have:=Nat.mul_le_mul_right (2 ^ s) k1;rw [<-Nat.pow_add,show k - 1+s=63 by omega] at this;exact this
  have e4:=Nat.mul_le_mul_right (18446744073709551616 ^ (n - 1)) e3;rw [show t1*2 ^ s*18446744073709551616 ^ (n - 1)=t1*18446744073709551616 ^ (n - 1)*2 ^ s by ac_rfl] at e4;omega
 have hlt:decide ((m:Int) < (n:Int))=false:=q_f;have hne1:decide ((n:Int)=1)=false:=q_f;have hn1:IntKind.i64.wrap ((n:Int) - 1)=((n - 1:Nat):Int):=q_w;repeat' (first|refine s_0 ?_|(refine zb 0 ?_;refine zj ?_;intro _;refine zj ?_;intro _;refine zj ?_;intro _;refine zj ?_;intro _)|(refine zM (id:=1) 3 [[],[0],[],[0,1,2],[0,1,2,3],[0,1,2,3,4]] mixed ?_ ?_;kernel_rfl;refine dc (λ_ _=>zf (B:=natC o)) (k:=?_);refine dc (λ_ _=>zd (hc:=λ_ _ _ _=>(h1 _))) (k:=?_);refine dc (λ_ _=>zf (B:=natC d)) (k:=?_);refine zY ?_;refine yv (zd (hc:=λ_ _ _ _=>(h2 _))) (k:=?_);refine zx ?_;refine zx ?_)|(refine zb 2 (za ?_);refine yv (zn (hr:=hlt)) (k:=?_))|(refine zb 4 (za ?_);refine yv (zX (hr:=hne1)) (k:=?_))|(refine zb 12 (za ?_);refine yv (zD (hr:=hn1)) (k:=?_);refine zw ?_;refine yv (zC (hv:=hto)) (k:=?_);refine yv (zd (hc:=λ_ _ _ _=>(hlz _))) (k:=?_);refine za ?_))
 rename_i b2 b3 b4 b5;refine zbj (id:=13) mixed ?_
 (refine zbi 8 8 [[],[],[0,1],[],[],[0,1,2,3,4],[],[],[0,1,2,3,4,5,6,7],[0,1,2,3,4,5,6,7,8]] [[],[],[],[],[],[],[],[],[],[]] none rfl ?_ ?_ ?_;kernel_rfl;kernel_rfl;refine dcE (λ_ _=>zf (B:=natC d)) (k:=?_);refine zaq ?_;refine dcE (λ_ _=>zd (hc:=λ_ _ _ _=>(hsu _))) (k:=?_);refine dcE (λ_ _=>zf (B:=natC o)) (k:=?_);refine zaq ?_;refine dcE (λ_ _=>zd (hc:=λ_ _ _ _=>(hsv _))) (k:=?_);try refine dh_0nE (h:=?_))
 refine zcp (R:=λ_=>PtrOf 330 (List.replicate 17 (.int .u64 0))) (λ_ _ _=>rfl) (λρ hρ=>OpT.mono zcx λv L' h=>?_) (h:=?_)
 ·obtain ⟨b,rfl,rfl⟩:=h;exact ⟨[_],rfl,b,rfl,rfl⟩
 refine zcp (R:=λ_=>PtrOf 330 (List.replicate 17 (.int .u64 0))) (λ_ _ _=>rfl) (λρ hρ=>OpT.mono zcx λv L' h=>?_) (h:=?_)
 ·obtain ⟨b,rfl,rfl⟩:=h;exact ⟨[_],rfl,b,rfl,rfl⟩
 refine zco (h:=?_);rintro ρ ⟨⟨b12,g1,g2⟩,⟨b11,g3,g4⟩,-⟩
 (refine zbk [[],[],[0,1],[],[],[0,1,2,3,4],[],[],[0,1,2,3,4,5,6,7],[0,1,2,3,4,5,6,7,8]] ?_ ?_;kernel_rfl)
 have hwD:=zdr 17 D;have hwV:=zdr 17 V;refine SyL.weaken (fr':=[(11,.pointer (some ⟨b11,0,none⟩)),(12,.pointer (some ⟨b12,0,none⟩)),(56,.agg (wC 17 D).toArray),(59,.agg (wC 17 V).toArray),(4,.pointer (some ⟨b4,0,none⟩)),(5,.pointer (some ⟨b5,0,none⟩)),(6,.int .i64 n),(7,.int .i64 m),(10,.int .i64 s)])
  (L':=[.blk b11 330 (List.replicate 17 (.int .u64 0)),.blk b12 330 (List.replicate 17 (.int .u64 0)),.blk b4 131 (List.replicate 16 (Value.int IntKind.u64 0)),.blk b5 131 (List.replicate 16 (Value.int IntKind.u64 0))]) ?_ ?_ ?_
 rotate_left
 ·(repeat' (first|exact Sub.nil|refine Sub.cons rfl ?_ ?_|rfl))
  ·exact g3
  ·exact g1
 ·show SubR _ ((ρ 7).2 ++ ((ρ 6).2 ++ _));rw [g2,g4];exact q_h
 have hmn1:IntKind.i64.wrap ((m:Int) - (n:Int))=((m - n+1:Nat):Int) - 1:=q_w;repeat' (first|refine s_t ?_|(refine zb 14 (za ?_);refine yv (zD (hr:=hmn1)) (k:=za ?_))|(refine zP ?_;first|refine yn (zE (B:=wC 17 D) (hv:=zjy 17 D) (h1:=(zdr 17 D).symm)) (k:=?_)|refine yn (zE (B:=wC 17 V) (hv:=zjy 17 V) (h1:=(zdr 17 V).symm)) (k:=?_)|fail)|fail)
 refine zy (γ:=Nat×Nat×Nat) (λg=>[(4,.pointer (some ⟨b4,0,none⟩)),(5,.pointer (some ⟨b5,0,none⟩)),(6,.int .i64 n),(10,.int .i64 s),(11,.pointer (some ⟨b11,0,none⟩)),(12,.pointer (some ⟨b12,0,none⟩)),(13,.int .i64 ((g.1:Int) - 1))])
  (λg=>[.blk b11 330 (wC 17 g.2.2),.blk b12 330 (wC 17 V),.blk b4 131 (natC (g.2.1*18446744073709551616 ^ g.1)),.blk b5 131 (List.replicate 16 (Value.int IntKind.u64 0))])
  (λg=>g.1<=m - n+1/\OverJ V D g.1 g.2.1 g.2.2) (λg=>g.1) (m - n+1,0,D) ⟨Nat.le_refl _,⟨by rw [Nat.zero_mul,Nat.zero_mul,Nat.zero_add],hDV⟩⟩ ?_ ?_ ?_
 ·exact q_h
 ·show SubR [.blk b11 330 (wC 17 D),.blk b12 330 (wC 17 V),.blk b4 131 (natC (0*18446744073709551616 ^ (m - n+1))),.blk b5 131 (List.replicate 16 (Value.int IntKind.u64 0))] _;rw [Nat.zero_mul,<-natC0];exact q_h
 rintro ⟨j,Q,U⟩ ⟨hj,hJ⟩;dsimp only at hj hJ ⊢;have hUD:U<=D:=by have:=hJ.eq;omega
 have hU17:U < 18446744073709551616 ^ 17:=Nat.lt_of_le_of_lt hUD hD17;have hgU:=zfy 17 U;rcases Nat.eq_zero_or_pos j with hz|hp
 ·subst hz;have e1:=hJ.eq;have e2:=hJ.lt;rw [Nat.pow_zero,Nat.mul_one] at e1 e2;rw [Nat.pow_zero,Nat.mul_one];obtain ⟨hQ,hR⟩:=zpx hop (show Q*(o*2 ^ s)+U=d*2 ^ s by rw [<-hV,<-hD];exact e1) (by rw [<-hV];exact e2);rw [<-hQ];have hRn:d % o < 18446744073709551616 ^ n:=Nat.lt_trans (Nat.mod_lt _ hop) hon;generalize d % o=R at *;have hlQ:=ze Q;have hwU:=zdr 17 U;have ht0:IntKind.i64.wrap (64 - (s:Int))=((t:Nat):Int):=q_w;have hjx:decide ((0:Int)<=(((0:Nat):Int) - 1))=false:=by decide
  repeat' (first|refine s_t ?_|(refine zb 15 (za ?_);refine yv (zab (hr:=hjx)) (k:=?_))|(refine zb 22 (za ?_)))
  refine zy (γ:=Nat) (λi=>[(4,.pointer (some ⟨b4,0,none⟩)),(5,.pointer (some ⟨b5,0,none⟩)),(10,.int .i64 s),(11,.pointer (some ⟨b11,0,none⟩)),(127,.int .i64 n),(128,.int .i64 i)])
   (λi=>[.blk b11 330 (wC 17 U),.blk b4 131 (natC Q),.blk b5 131 (natC (R % 18446744073709551616 ^ i))])
   (λi=>i<=n) (λi=>n - i) 0 (Nat.zero_le _) ?_ ?_ ?_
  ·exact q_h
  ·show SubR [.blk b11 330 (wC 17 U),.blk b4 131 (natC Q),.blk b5 131 (natC (R % 18446744073709551616 ^ 0))] _;rw [Nat.pow_zero,Nat.mod_one,<-natC0];exact q_h
  intro i hi;have hlR:=ze (R % 18446744073709551616 ^ i);by_cases hin:i < n
  ·have u1:=hgU i q_o;have u2:=hgU (i+1) q_o;have hW1:U / 18446744073709551616 ^ i % 18446744073709551616 < 18446744073709551616:=Nat.mod_lt _ q_e;have hdg:=znS 18446744073709551616 U s t i hst.symm;have hor:=zro (W:=18446744073709551616) (U / 18446744073709551616 ^ (i+1) % 18446744073709551616) (U / 18446744073709551616 ^ i % 18446744073709551616) s t hst hW1;rw [hR,<-hor] at hdg;have hset:=zcs (R % 18446744073709551616 ^ i) i (R / 18446744073709551616 ^ i % 18446744073709551616);rw [Nat.div_eq_of_lt (Nat.mod_lt R (Nat.pow_pos q_e)),Nat.zero_mod,Nat.zero_add,<-zaM,hdg] at hset;have hset:=hset (by rw [<-hdg];exact Nat.mod_lt _ q_e);generalize U / 18446744073709551616 ^ (i+1) % 18446744073709551616=y1 at *;generalize U / 18446744073709551616 ^ i % 18446744073709551616=y0 at *;have hy0:y0 / 2 ^ s < 18446744073709551616:=Nat.lt_of_le_of_lt (Nat.div_le_self _ _) hW1;repeat' (first|refine s_t ?_|(refine zb 23 ?_;refine zL ?_)|(refine zb 24 (za ?_))|(refine zM (id:=25) 14 [[],[],[1],[1,2],[],[1,2,3,4],[],[6],[6,7],[6,7,8],[],[10],[6,7,8,9,10,11],[1,2,3,4,5,6,7,8,9,10,11,12],[0,1,2,3,4,5,6,7,8,9,10,11,12,13],[0,1,2,3,4,5,6,7,8,9,10,11,12,13,14]] mixed ?_ ?_;kernel_rfl;refine zk ?_;refine zk ?_;refine zK ?_;refine dc (λ_ _=>zC (hv:=u1)) (k:=?_);refine zk ?_;refine dc (λ_ _=>zd2 (a:=y0) (n:=s) hW1) (k:=?_);refine zk ?_;refine zmf ?_;refine zK ?_;refine dc (λ_ _=>zC (hv:=u2)) (k:=?_);refine zk ?_;refine dc (λ_ _=>zD (hr:=ht0)) (k:=?_);refine dc (λ_ _=>zd4 (a:=y1) (n:=t)) (k:=?_);refine dc (λ_ _=>zfF (a:=y0 / 2 ^ s) (b:=y1*2 ^ t % 18446744073709551616) hy0 (Nat.mod_lt _ q_e)) (k:=?_);refine zY ?_;refine zw ?_;refine zI ?_)|(refine zb 26 ?_;refine zaj ?_;refine za ?_))
   refine zq (i+1) ?_ ?_ ?_ ?_
   ·show i+1<=n;omega
   ·show n - (i+1) < n - i;omega
   ·exact q_h
   ·show SubR [.blk b11 330 (wC 17 U),.blk b4 131 (natC Q),.blk b5 131 (natC (R % 18446744073709551616 ^ (i+1)))] _;rw [<-hset];exact q_h
  obtain rfl:i=n:=q_o;rw [Nat.mod_eq_of_lt hRn] at hlR ⊢;repeat' (first|refine s_0 ?_|(refine zb 23 ?_;refine zL ?_)|(refine zM (id:=27) 3 [[],[],[0],[0,1,2]] mixed ?_ ?_;kernel_rfl;refine dc (λ_ _=>zf (B:=natC Q)) (k:=?_);refine dc (λ_ _=>zf (B:=natC R)) (k:=?_))|fail)
  refine dcn (λ_ _=>zi (n:=Q)) (k:=?_);repeat' (first|refine s_0 ?_|(refine zP ?_;first|refine yn (zi (n:=R)) (k:=?_)|fail)|refine zY ?_|fail)
  exact ret2 rfl (resCells (B:=natC Q) rfl (ty rfl) rfl Has.go Seg.all (ze _).symm) (resCells (B:=natC R) rfl (ty rfl) rfl Has.go Seg.all (ze _).symm) SubR.nil ⟨rfl,rfl⟩
 obtain ⟨j,rfl⟩: ∃i,j=i+1:=⟨j - 1,by omega⟩;have hij:(((j+1:Nat):Int) - 1)=((j:Nat):Int):=q_o;rw [hij];have hjn:j+n < 17:=q_o;have hlt:=hJ.lt;have hgV:=zfy 17 V;have l2:=hgU (j+n) q_o;have l1:=hgU (j+n - 1) q_o;have l0:=hgU (j+n - 2) q_o;have m1:=hgV (n - 1) q_o;have m0:=hgV (n - 2) q_o;have hVd:V / 18446744073709551616 ^ (n - 1) < 18446744073709551616:=by
  rw [Nat.div_lt_iff_lt_mul (Nat.pow_pos q_e),Nat.mul_comm,<-Nat.pow_succ,show (n - 1).succ=n by omega];exact hVn
 have hUd:U / 18446744073709551616 ^ (j+n)<=V / 18446744073709551616 ^ (n - 1):=by
  rw [show j+n=(j+1)+(n - 1) by omega,Nat.pow_add,<-Nat.div_div_eq_div_mul];exact Nat.div_le_div_right (Nat.le_of_lt ((Nat.div_lt_iff_lt_mul (Nat.pow_pos q_e)).2 hlt))
 have hUdW:U / 18446744073709551616 ^ (j+n) < 18446744073709551616:=Nat.lt_of_le_of_lt hUd hVd;have d3:=zft 18446744073709551616 U (j+n) q_o q_e hUdW;have d2:=zhm 18446744073709551616 V n hn2 q_e hVn;have hv01:18446744073709551616<=V / 18446744073709551616 ^ (n - 2):=by
  rw [<-d2,Nat.mod_eq_of_lt hVd];have:=Nat.mul_le_mul_right 18446744073709551616 hv1l;omega
 have hest:=λw=>zkA (U / 18446744073709551616 ^ (j+n) % 18446744073709551616) (U / 18446744073709551616 ^ (j+n - 1) % 18446744073709551616) (U / 18446744073709551616 ^ (j+n - 2) % 18446744073709551616) (V / 18446744073709551616 ^ (n - 1) % 18446744073709551616) (V / 18446744073709551616 ^ (n - 2) % 18446744073709551616) w
  (by rw [Nat.mod_eq_of_lt hUdW,Nat.mod_eq_of_lt hVd];exact hUd) (Nat.mod_lt _ q_e) (Nat.mod_lt _ q_e) (Nat.mod_lt _ q_e) (Nat.mod_lt _ q_e) (by rw [Nat.mod_eq_of_lt hVd];omega)
 rw [d3,d2] at hest;obtain ⟨hqW,hq1,hq2⟩:=zp3 (W:=18446744073709551616) (u:=U / 18446744073709551616 ^ (j+n - 2)) (v:=V / 18446744073709551616 ^ (n - 2)) q_o q_e;generalize min (18446744073709551616 - 1) (U / 18446744073709551616 ^ (j+n - 2) / (V / 18446744073709551616 ^ (n - 2)))=q at *;obtain ⟨hqV,hqU⟩:=zlG (b:=18446744073709551616) q_e hn2 hVn hlt rfl rfl hv01 hqW hq1 hq2;have hUjn:U < 18446744073709551616 ^ (j+n+1):=by
  have:=Nat.mul_lt_mul_of_pos_right hVn (show 0 < 18446744073709551616 ^ (j+1) from Nat.pow_pos q_e);rw [<-Nat.pow_add,show n+(j+1)=j+n+1 by omega] at this;omega
 clear d3 d2 hq1 hq2 hv01;generalize U / 18446744073709551616 ^ (j+n) % 18446744073709551616=u2 at *;generalize U / 18446744073709551616 ^ (j+n - 1) % 18446744073709551616=u1 at *;generalize U / 18446744073709551616 ^ (j+n - 2) % 18446744073709551616=u0 at *;generalize V / 18446744073709551616 ^ (n - 1) % 18446744073709551616=v1 at *;generalize V / 18446744073709551616 ^ (n - 2) % 18446744073709551616=v0 at *;have a1:IntKind.i64.wrap ((j:Int)+(n:Int))=((j+n:Nat):Int):=q_w;have a2:IntKind.i64.wrap (((j+n:Nat):Int) - 1)=((j+n - 1:Nat):Int):=q_w;have a3:IntKind.i64.wrap (((j+n:Nat):Int) - 2)=((j+n - 2:Nat):Int):=q_w;have a4:IntKind.i64.wrap ((n:Int) - 2)=((n - 2:Nat):Int):=q_w;have a5:IntKind.i64.wrap (((j+n:Nat):Int)+1)=((j+n+1:Nat):Int):=q_w;have a6:IntKind.i64.wrap ((j:Int) - 1)=(j:Int) - 1:=IntWalk.i64_in _ q_o;have hwU:=zdr 17 U;repeat' (first|refine s_t ?_|(refine zb 15 (za ?_);refine zad ?_)|(refine zM (id:=17) 25 [[],[],[0,1],[0,1,2],[0,1,2,3],[],[],[5,6],[5,6,7],[5,6,7,8],[5,6,7,8,9],[],[],[11,12],[11,12,13],[11,12,13,14],[11,12,13,14,15],[],[17],[17,18],[17,18,19],[],[21],[21,22],[21,22,23],[0,1,2,3,4,5,6,7,8,9,10,11,12,13,14,15,16,17,18,19,20,21,22,23,24],[0,1,2,3,4,5,6,7,8,9,10,11,12,13,14,15,16,17,18,19,20,21,22,23,24,25]] mixed ?_ ?_;kernel_rfl;refine zk ?_;refine zk ?_;refine dc (λ_ _=>zu (hr:=a1)) (k:=?_);refine zK ?_;refine dc (λ_ _=>zC (hv:=l2)) (k:=?_);refine zk ?_;refine zk ?_;refine dc (λ_ _=>zu (hr:=a1)) (k:=?_);refine dc (λ_ _=>zD (hr:=a2)) (k:=?_);refine zK ?_;refine dc (λ_ _=>zC (hv:=l1)) (k:=?_);refine zk ?_;refine zk ?_;refine dc (λ_ _=>zu (hr:=a1)) (k:=?_);refine dc (λ_ _=>zD (hr:=a3)) (k:=?_);refine zK ?_;refine dc (λ_ _=>zC (hv:=l0)) (k:=?_);refine zk ?_;refine dc (λ_ _=>zD (hr:=hn1)) (k:=?_);refine zK ?_;refine dc (λ_ _=>zC (hv:=m1)) (k:=?_);refine zk ?_;refine dc (λ_ _=>zD (hr:=a4)) (k:=?_);refine zK ?_;refine dc (λ_ _=>zC (hv:=m0)) (k:=?_);refine zY ?_;refine yv (zd (hc:=λ_ _ _ _=>(hest _))) (k:=?_);refine zx ?_)|(refine zM (id:=18) 14 [[],[],[],[1,2],[1,2,3],[],[],[5,6],[5,6,7],[0,1,2,3,4,5,6,7,8],[],[],[10,11],[],[0,1,2,3,4,5,6,7,8,9,10,11,12,13]] mixed ?_ ?_;kernel_rfl;refine zk ?_;refine zk ?_;refine zk ?_;refine dc (λ_ _=>zu (hr:=a1)) (k:=?_);refine dc (λ_ _=>zu (hr:=a5)) (k:=?_);refine zk ?_;refine zk ?_;refine dc (λ_ _=>zu (hr:=a1)) (k:=?_);refine dc (λ_ _=>zu (hr:=a5)) (k:=?_);refine dc (λ_ _=>zbJ (l:=j) (h:=j+n+1) (m:=j+n+1) (n':=n+1) (c':=n+1)) (k:=?_);refine zk ?_;refine zk ?_;refine dc (λ_ _=>zbJ (l:=0) (h:=n) (m:=n) (n':=n) (c':=n)) (k:=?_);refine zk ?_;refine zY ?_)|fail)
 have hQz:Q*18446744073709551616 ^ (j+1) / 18446744073709551616 ^ j % 18446744073709551616=0:=by
  rw [Nat.pow_succ,Nat.mul_comm (18446744073709551616 ^ j),<-Nat.mul_assoc,Nat.mul_div_cancel _ (Nat.pow_pos q_e)];exact Nat.mul_mod_left _ _
 have hnew: ∀q',q' < 18446744073709551616->(natC (Q*18446744073709551616 ^ (j+1))).set j (nv q')=natC ((Q*18446744073709551616+q')*18446744073709551616 ^ j):=λq' h=>by
  have hs:=zcs (Q*18446744073709551616 ^ (j+1)) j q';rw [hQz,Nat.zero_add] at hs;rw [hs h,Nat.add_mul,Nat.pow_succ,Nat.mul_comm (18446744073709551616 ^ j),<-Nat.mul_assoc]
 have hmore: ∀q' U',U'+q'*V*18446744073709551616 ^ j=U->U' < V*18446744073709551616 ^ j->OverJ V D j (Q*18446744073709551616+q') U':=λq' U' h1 h2=>⟨by
  have:=hJ.eq;rw [<-h1,Nat.pow_succ] at this;rw [<-this,Nat.add_mul,Nat.add_mul,show Q*18446744073709551616*18446744073709551616 ^ j*V=Q*(18446744073709551616 ^ j*18446744073709551616)*V by ac_rfl,show q'*18446744073709551616 ^ j*V=q'*V*18446744073709551616 ^ j by ac_rfl];omega,h2⟩
 have hlN:=ze (Q*18446744073709551616 ^ (j+1));refine ys (zcH (vs:=[.slice (some ⟨b11,j,none⟩) (n+1) (n+1),.slice (some ⟨b12,0,none⟩) n n,nv q]) (cap:=[]) (C:=[.blk b11 330 (wC 17 U)]) (M':=λx=>x=b11) (hC:=RemL.cons Rem.here rfl RemL.nil) (hM:=λb hb=>⟨_,List.mem_singleton.2 rfl,hb.symm⟩)
  (hc:=λw' X hk hh=>zkI b11 b12 j n q U V w' ((List.pairwise_cons.1 hh.apart).1 (.blk b12 330 (wC 17 V)) q_p b11 rfl) hjn hU17 hVn hqW (hh.has (by exact Has.append Has.here)) (zp (hh.has (by exact Has.append (Has.there Has.here))) Seg.all))) (k:=?_)
 rintro _ _ ⟨R,rfl,U',dd,hd1,rfl,hU',hE,hU'l,rfl⟩;have hU'l:=hU'l hUjn;rcases (show dd=0\/dd=1 by omega) with rfl|rfl
 ·rw [Nat.zero_mul,Nat.add_zero] at hE;repeat' (first|refine s_0 ?_|(refine zb 21 (za ?_);refine zw ?_;refine zI ?_)|(refine zb 16 (za ?_);refine yv (zD (hr:=a6)) (k:=za ?_)))
  refine zq (j,Q*18446744073709551616+q,U') ⟨by show j<=_;omega,hmore q U' hE (zmK (_k:=0) (_n:=0) q_e hqU hE)⟩ ?_ ?_ ?_
  ·show j < j+1;omega
  ·exact q_h
  ·show SubR [.blk b11 330 (wC 17 U'),.blk b12 330 (wC 17 V),.blk b4 131 (natC ((Q*18446744073709551616+q)*18446744073709551616 ^ j)),.blk b5 131 (List.replicate 16 (Value.int IntKind.u64 0))] _;rw [<-hnew q hqW];exact q_h
 ·rw [Nat.one_mul] at hE;have hq0:0 < q:=by
   rcases Nat.eq_zero_or_pos q with h|h
   ·subst h;rw [Nat.zero_mul,Nat.zero_mul] at hE;omega
   ·exact h
  have hdec:IntKind.u64.wrap ((q:Int) - 1)=((q - 1:Nat):Int):=by rw [IntWalk.u64_in _ q_o];omega
  have hwU':=zdr 17 U';repeat' (first|refine s_0 ?_|(refine zb 19 (za ?_);refine yv (zD (hr:=hdec)) (k:=za ?_))|(refine zM (id:=20) 13 [[],[],[],[1,2],[1,2,3],[],[],[5,6],[5,6,7],[0,1,2,3,4,5,6,7,8],[],[],[10,11],[0,1,2,3,4,5,6,7,8,9,10,11,12]] mixed ?_ ?_;kernel_rfl;refine zk ?_;refine zk ?_;refine zk ?_;refine dc (λ_ _=>zu (hr:=a1)) (k:=?_);refine dc (λ_ _=>zu (hr:=a5)) (k:=?_);refine zk ?_;refine zk ?_;refine dc (λ_ _=>zu (hr:=a1)) (k:=?_);refine dc (λ_ _=>zu (hr:=a5)) (k:=?_);refine dc (λ_ _=>zbJ (l:=j) (h:=j+n+1) (m:=j+n+1) (n':=n+1) (c':=n+1)) (k:=?_);refine zk ?_;refine zk ?_;refine dc (λ_ _=>zbJ (l:=0) (h:=n) (m:=n) (n':=n) (c':=n)) (k:=?_);refine zY ?_)|fail)
  refine ys (zcH (vs:=[.slice (some ⟨b11,j,none⟩) (n+1) (n+1),.slice (some ⟨b12,0,none⟩) n n]) (cap:=[]) (C:=[.blk b11 330 (wC 17 U')]) (M':=λx=>x=b11) (hC:=RemL.cons Rem.here rfl RemL.nil) (hM:=λb hb=>⟨_,List.mem_singleton.2 rfl,hb.symm⟩)
   (hc:=λw' X hk hh=>zme b11 b12 j n U' V w' ((List.pairwise_cons.1 hh.apart).1 (.blk b12 330 (wC 17 V)) q_p b11 rfl) hjn hU' hVn (hh.has (by exact Has.append Has.here)) (zp (hh.has (by exact Has.append (Has.there Has.here))) Seg.all))) (k:=?_)
  rintro _ _ ⟨R,rfl,U'',kk,rfl,hU'',hE2,hl2,rfl⟩;have hl2:=hl2 hU'l;obtain ⟨f1,f2⟩:=zm1 (b:=18446744073709551616) q_e hVn hq0 hqV hE hU'l hE2 hl2;repeat' (first|refine s_0 ?_|(refine zb 21 (za ?_);refine zw ?_;refine zI ?_)|(refine zb 16 (za ?_);refine yv (zD (hr:=a6)) (k:=za ?_)))
  refine zq (j,Q*18446744073709551616+(q - 1),U'') ⟨by show j<=_;omega,hmore (q - 1) U'' f1 f2⟩ ?_ ?_ ?_
  ·show j < j+1;omega
  ·exact q_h
  ·show SubR [.blk b11 330 (wC 17 U''),.blk b12 330 (wC 17 V),.blk b4 131 (natC ((Q*18446744073709551616+(q - 1))*18446744073709551616 ^ j)),.blk b5 131 (List.replicate 16 (Value.int IntKind.u64 0))] _;rw [<-hnew (q - 1) q_o];exact q_h
theorem zqY (d o:Nat) (w:World) (hd:d < 18446744073709551616 ^ 16) (ho:o < 18446744073709551616 ^ 16) (h0:0 < o):
  Sy.Fn Tryz.prog 320 [natV d,natV o] w No (Gives (.tuple #[natV (d / o),natV (d % o)])):=by
 have hdm:=zai 18446744073709551616 d q_e;have hos:=(zbZ 18446744073709551616 q_e o).2;have hol:=zai 18446744073709551616 o q_e;have hn0:0 < nd 18446744073709551616 o:=by
  rcases Nat.eq_zero_or_pos (nd 18446744073709551616 o) with h|h
  ·rw [h,Nat.pow_zero] at hol;omega
  ·exact h
 rcases Nat.lt_or_ge (nd 18446744073709551616 d) (nd 18446744073709551616 o) with h|h
 ·have hlt:d < o:=by
   have:=hos hn0;have h2:=Nat.pow_le_pow_right (n:=18446744073709551616) q_e (show nd 18446744073709551616 d<=nd 18446744073709551616 o - 1 by omega);omega
  rw [Nat.div_eq_of_lt hlt,Nat.mod_eq_of_lt hlt];exact znl d o w hd ho h
 ·rcases Nat.lt_or_ge (nd 18446744073709551616 o) 2 with h1|h1
  ·have h1:nd 18446744073709551616 o=1:=q_o;rw [h1,Nat.pow_one] at hol;refine zpu d o w hd hol h0 ?_;rcases Nat.eq_zero_or_pos d with hz|hz
   ·subst hz;rw [zaT] at h;omega
   ·exact hz
  ·exact zm3 d o w hd ho h1 h
theorem zmo (d o:Nat) (w:World) (hd:d < 18446744073709551616 ^ 16) (ho:o < 18446744073709551616 ^ 16) (h0:0 < o):
  Sy.Fn Tryz.prog 290 [natV d,natV o] w No (Gives (.tuple #[natV (d / o),natV (d % o),.int .i64 0])):=by
 refine zg Tryz.func290 rfl Tryz.ntmps290 q_p Holds.nil ?_;have hld:=ze d;have hlo:=ze o;have hz:=λw=>zbP o w ho;simp only [decide_eq_false (show ¬o=0 by omega)] at hz;have hov:=λw=>zqY d o w hd ho h0;have hlq:=ze (d / o);have hlr:=ze (d % o);generalize d / o=q at *;generalize d % o=r at *;repeat' (first|refine s_0 ?_|(refine zb 0 ?_;refine zj ?_;intro _;refine zj ?_;intro _;refine zj ?_;intro _;refine zO ?_;intro _)|(refine zb 1 ?_;refine yv (zf (B:=natC o)) (k:=?_);refine yv (zd (hc:=λ_ _ _ _=>(hz _))) (k:=?_))|(refine zb 3 (za ?_);refine yv (zf (B:=natC d)) (k:=za ?_);refine yv (zf (B:=natC o)) (k:=?_);refine yv (zd (hc:=λ_ _ _ _=>(hov _))) (k:=?_);refine za ?_;refine yn (zi (n:=q)) (k:=za ?_);refine yn (zi (n:=r)) (k:=?_))|(refine zM (id:=4) 3 [[],[],[0],[0,1,2],[0,1,2,3]] mixed ?_ ?_;kernel_rfl;refine dc (λ_ _=>zf (B:=natC q)) (k:=?_);refine dc (λ_ _=>zf (B:=natC r)) (k:=?_))|fail)
 refine dcn (λ_ _=>zi (n:=q)) (k:=?_);repeat' (first|refine s_0 ?_|(refine zP ?_;first|refine yn (zi (n:=r)) (k:=?_)|refine zx ?_|fail)|refine zY ?_|fail)
 exact ret3 rfl (resCells (B:=natC q) rfl (ty rfl) rfl Has.go Seg.all (ze _).symm) (resCells (B:=natC r) rfl (ty rfl) rfl Has.go Seg.all (ze _).symm) (resTmp rfl) SubR.nil ⟨rfl,rfl⟩
end Go.Proofs.YtdnlngbjpdbffaaGreatDoor
end
