/- Reduce, Add, Sub, Mul, Exp. -/
import Derived.Test.YtcpjfilcilcekaaGreatDoorYJ19
import Derived.Test.YtcpjfilcilcekaaGreatDoorYJ12
set_option linter.all false
section
namespace Go.Proofs.YtcpjfilcilcekaaGreatDoor
open Go Go.Sy Go.Nt Go.RowKit
section
variable {ro:Option Nat}{N:Nat}{w0:World}{M:Nat->Prop}{ds:List Deferred}{g:Nat->Option Value}{L:List Res}{o:Oper}{z:Operand}
theorem zcn {n:Nat}(ho:o.op= .build 191 #[(0,z)]:=by exact rfl) (hz:ev g z=some (natV n):=by exact rfl):OpT Tryz.prog ro N w0 M ds o g L (Det (natV n) L):=
 zce (parts:=#[(0,z)]) (vs:=[natV n]) (C:=natC n) (zjT n) ho (by simp [evs,hz]) (ty rfl) rfl rfl (zc rfl)
end
def SlOf (T n:Nat) (C:List Value) (v:Value) (Nw:List Res):Prop:=∃b,v= .slice (some ⟨b,0,none⟩) n n/\Nw= [.blk b T C]
def ptrOf:Value->Value
 | .slice (some a) _ _=> .pointer (some a)
 |v=>v
attribute [local irreducible] Sy SyL SyX Sy.Fn callFunc natC rowN
set_option maxRecDepth 10000
def modR (m r:Nat):Value:=if m=0 then .tuple #[natV 0,.int .i64 2] else .tuple #[natV r,.int .i64 0]
theorem znu (a m:Nat) (w:World) (ha:a < 18446744073709551616 ^ 16) (hm:m < 18446744073709551616 ^ 16):
  Sy.Fn Tryz.prog 118 [natV a,natV m] w No (Gives (modR m (a % m))):=by
 refine zk Tryz.func118 rfl Tryz.ntmps118 (by simp) Holds.nil ?_
 have hla:=ze a
 have hlm:=ze m
 have hl0:=ze 0
 have hz:=λw'=>zbm m w' hm
 rcases Nat.eq_zero_or_pos m with h|h
 ·subst h
  unfold modR
  rw [if_pos rfl]
  repeat' (first|refine s_0 ?_|(refine za (id:=0) ?_;(refine zi ?_;intro _);(refine zi ?_;intro _);(refine zi ?_;intro _);refine zd ?_)|(refine za (id:=1) ?_;refine yv (zg (B:=natC 0)) (k:=?_);refine yv (zf (hc:=λ_ _ _ _=>(hz _))) (k:=?_))|(refine za (id:=2) ?_;refine yv za8 (k:=?_);refine yn (zl (n:=0)) (k:=?_);refine zd ?_)|fail)
  exact ret2 rfl (resCells (B:=natC 0) rfl (ty rfl) rfl Has.go Seg.all (ze _).symm) (resTmp rfl) SubR.nil ⟨rfl,rfl⟩
 ·simp only [decide_eq_false (show ¬m=0 by omega)] at hz
  unfold modR
  rw [if_neg (by omega)]
  have hr:=λw' b' (h':w'.rangeAt b' 0 (rowN [a]))=>zbP m a b' w' hm h ha h'
  have hlr:=ze (a % m)
  generalize a % m=r at *
  repeat' (first|refine s_0 ?_|(refine za (id:=0) ?_;(refine zi ?_;intro _);(refine zi ?_;intro _);(refine zi ?_;intro _);refine zd ?_)|(refine za (id:=1) ?_;refine yv (zg (B:=natC m)) (k:=?_);refine yv (zf (hc:=λ_ _ _ _=>(hz _))) (k:=?_))|(refine za (id:=3) ?_;refine yv (zg (B:=natC m)) (k:=?_);refine yv (zcn (n:=m)) (k:=?_);refine yv (zg (B:=natC a)) (k:=?_))|(refine ys (zaO (x:=a)) (k:=?_);rintro _ _ ⟨bb,rfl,rfl⟩)|(refine zC ?_;first|refine yv (zg (B:=natC r)) (k:=?_)|(refine ys (zn (f:=151) (hc:=λw' X hk hh=>hr w' _ (zz (hh.has (by exact Has.append Has.here)) Seg.all))) (k:=?_);rintro _ _ ⟨R,rfl,bc,rfl,rfl⟩)|refine yv (zaR (j:=0)) (k:=?_)|refine yn (zl (n:=r)) (k:=?_)|refine zd ?_|fail)|fail)
  exact ret2 rfl (resCells (B:=natC r) rfl (ty rfl) rfl Has.go Seg.all (ze _).symm) (resTmp rfl) SubR.nil ⟨rfl,rfl⟩
set_option maxHeartbeats 1000000 in
theorem zj0 (f:Nat) (F:Nat->Nat->Nat) (a b m:Nat) (w:World) (ha:a < 18446744073709551616 ^ 16) (hb:b < 18446744073709551616 ^ 16) (hm:m < 18446744073709551616 ^ 16)
  (hen: ∀args w,(callFunc f args).run Tryz.prog w= .ok (.enter f args) w) (hf: ∀a b w,a < m->b < m->Sy.Fn Tryz.prog f [natV m,natV a,natV b] w No (Gives (natV (F a b)))):
  Sy.Fn Tryz.prog 152 [natV m,.func (.func f) #[] #[],natV a,natV b] w No (Gives (modR m (F (a % m) (b % m)))):=by
 refine zk Tryz.func152 rfl Tryz.ntmps152 (by simp) Holds.nil ?_
 have hla:=ze a
 have hlb:=ze b
 have hlm:=ze m
 have hl0:=ze 0
 have hz:=λw'=>zbm m w' hm
 rcases Nat.eq_zero_or_pos m with h|h
 ·subst h
  unfold modR
  rw [if_pos rfl]
  repeat' (first|refine s_0 ?_|(refine za (id:=0) ?_;(refine zi ?_;intro _);(refine zi ?_;intro _);(refine zi ?_;intro _);(refine zi ?_;intro _);refine zd ?_)|(refine za (id:=1) ?_;refine yv (zg (B:=natC 0)) (k:=?_);refine yv (zf (hc:=λ_ _ _ _=>(hz _))) (k:=?_))|(refine za (id:=2) ?_;refine yv za8 (k:=?_);refine yn (zl (n:=0)) (k:=?_);refine zd ?_)|fail)
  exact ret2 rfl (resCells (B:=natC 0) rfl (ty rfl) rfl Has.go Seg.all (ze _).symm) (resTmp rfl) SubR.nil ⟨rfl,rfl⟩
 ·simp only [decide_eq_false (show ¬m=0 by omega)] at hz
  unfold modR
  rw [if_neg (by omega)]
  have hr:=λw' b' (h':w'.rangeAt b' 0 (rowN [a,b]))=>zfv m a b b' w' hm h ha hb h'
  have hf:=λw'=>hf (a % m) (b % m) w' (Nat.mod_lt _ h) (Nat.mod_lt _ h)
  have hlr:=ze (F (a % m) (b % m))
  have hlr1:=ze (a % m)
  have hlr2:=ze (b % m)
  generalize F (a % m) (b % m)=r at *
  generalize a % m=r1 at *
  generalize b % m=r2 at *
  repeat' (first|refine s_0 ?_|(refine za (id:=0) ?_;(refine zi ?_;intro _);(refine zi ?_;intro _);(refine zi ?_;intro _);(refine zi ?_;intro _);refine zd ?_)|(refine za (id:=1) ?_;refine yv (zg (B:=natC m)) (k:=?_);refine yv (zf (hc:=λ_ _ _ _=>(hz _))) (k:=?_))|(refine za (id:=3) ?_;refine yv (zg (B:=natC m)) (k:=?_);refine yv (zcn (n:=m)) (k:=?_);refine yv (zg (B:=natC a)) (k:=?_);refine yv (zg (B:=natC b)) (k:=?_))|(refine zK (id:=4) 9 [[],[],[1],[],[3],[3,4],[],[6],[6,7],[0,1,2,3,4,5,6,7,8],[0,1,2,3,4,5,6,7,8,9],[0,1,2,3,4,5,6,7,8,9,10]] mixed ?_ ?_;kernel_rfl;refine zp ?_;refine dc (λ_ _=>zg (B:=natC m)) (k:=?_);refine dc (λ_ _=>zcn (n:=m)) (k:=?_);refine zp ?_;refine dc (λ_ _=>zaR (j:=0)) (k:=?_);refine dc (λ_ _=>zg (B:=natC r1) (hv:=(seg2 r1 r2).1)) (k:=?_);refine zp ?_;refine dc (λ_ _=>zaR (j:=1)) (k:=?_);refine dc (λ_ _=>zg (B:=natC r2) (hv:=(seg2 r1 r2).2)) (k:=?_);refine zU ?_;refine yv (zaI (he:=hen) (fst:=[]) (cap:=[]) (hc:=λw' X hk hh=>hf w')) (k:=?_);refine yn (zl (n:=r)) (k:=?_);refine zd ?_)|(refine ys (zeX (x:=a) (x':=b)) (k:=?_);rintro _ _ ⟨bb,rfl,rfl⟩)|(refine zC ?_;first|(refine ys (zn (f:=151) (hc:=λw' X hk hh=>hr w' _ (zz (hh.has (by exact Has.append Has.here)) Seg.all))) (k:=?_);rintro _ _ ⟨R,rfl,bc,rfl,rfl⟩)|refine zd ?_|fail)|fail)
  exact ret2 rfl (resCells (B:=natC r) rfl (ty rfl) rfl Has.go Seg.all (ze _).symm) (resTmp rfl) SubR.nil ⟨rfl,rfl⟩
theorem zpu (a b m:Nat) (w:World) (ha:a < 18446744073709551616 ^ 16) (hb:b < 18446744073709551616 ^ 16) (hm:m < 18446744073709551616 ^ 16):
  Sy.Fn Tryz.prog 120 [natV a,natV b,natV m] w No (Gives (modR m ((a+b) % m))):=by
 refine zk Tryz.func120 rfl Tryz.ntmps120 (by simp) Holds.nil ?_
 have hla:=ze a
 have hlb:=ze b
 have hlm:=ze m
 have hl0:=ze 0
 have hap:=λw'=>zj0 154 (λx y=>(x+y) % m) a b m w' ha hb hm (en rfl) (λx y w' hx hy=>zg0 m x y w' hm hx hy)
 rcases Nat.eq_zero_or_pos m with h|h
 ·subst h
  unfold modR at *
  simp only [if_pos rfl] at hap ⊢
  repeat' (first|refine s_0 ?_|(refine za (id:=0) ?_;(refine zi ?_;intro _);(refine zi ?_;intro _);(refine zi ?_;intro _);(refine zi ?_;intro _);refine zd ?_)|(refine za (id:=1) ?_;refine yv (zg (B:=natC 0)) (k:=?_);refine yv (zg (B:=natC a)) (k:=?_);refine yv (zg (B:=natC b)) (k:=?_);refine yv (zf (hc:=λ_ _ _ _=>(hap _))) (k:=?_);refine zh ?_;refine zh ?_;refine yn (zl (n:=0)) (k:=?_);refine zd ?_)|fail)
  exact ret2 rfl (resCells (B:=natC 0) rfl (ty rfl) rfl Has.go Seg.all (ze _).symm) (resTmp rfl) SubR.nil ⟨rfl,rfl⟩
 ·have e:(λx y=>(x+y) % m) (a % m) (b % m)=(a+b) % m:=by
   exact (Nat.add_mod a b m).symm
  dsimp only at e
  rw [e] at hap
  unfold modR at *
  simp only [if_neg (show ¬m=0 by omega)] at hap ⊢
  have hlr:=ze ((a+b) % m)
  generalize (a+b) % m=r at *
  repeat' (first|refine s_0 ?_|(refine za (id:=0) ?_;(refine zi ?_;intro _);(refine zi ?_;intro _);(refine zi ?_;intro _);(refine zi ?_;intro _);refine zd ?_)|(refine za (id:=1) ?_;refine yv (zg (B:=natC m)) (k:=?_);refine yv (zg (B:=natC a)) (k:=?_);refine yv (zg (B:=natC b)) (k:=?_);refine yv (zf (hc:=λ_ _ _ _=>(hap _))) (k:=?_);refine zh ?_;refine zh ?_;refine yn (zl (n:=r)) (k:=?_);refine zd ?_)|fail)
  exact ret2 rfl (resCells (B:=natC r) rfl (ty rfl) rfl Has.go Seg.all (ze _).symm) (resTmp rfl) SubR.nil ⟨rfl,rfl⟩
theorem zhN (a b m:Nat) (w:World) (ha:a < 18446744073709551616 ^ 16) (hb:b < 18446744073709551616 ^ 16) (hm:m < 18446744073709551616 ^ 16):
  Sy.Fn Tryz.prog 119 [natV a,natV b,natV m] w No (Gives (modR m (a*b % m))):=by
 refine zk Tryz.func119 rfl Tryz.ntmps119 (by simp) Holds.nil ?_
 have hla:=ze a
 have hlb:=ze b
 have hlm:=ze m
 have hl0:=ze 0
 have hap:=λw'=>zj0 153 (λx y=>x*y % m) a b m w' ha hb hm (en rfl) (λx y w' hx hy=>zdD m x y w' hm hx hy)
 rcases Nat.eq_zero_or_pos m with h|h
 ·subst h
  unfold modR at *
  simp only [if_pos rfl] at hap ⊢
  repeat' (first|refine s_0 ?_|(refine za (id:=0) ?_;(refine zi ?_;intro _);(refine zi ?_;intro _);(refine zi ?_;intro _);(refine zi ?_;intro _);refine zd ?_)|(refine za (id:=1) ?_;refine yv (zg (B:=natC 0)) (k:=?_);refine yv (zg (B:=natC a)) (k:=?_);refine yv (zg (B:=natC b)) (k:=?_);refine yv (zf (hc:=λ_ _ _ _=>(hap _))) (k:=?_);refine zh ?_;refine zh ?_;refine yn (zl (n:=0)) (k:=?_);refine zd ?_)|fail)
  exact ret2 rfl (resCells (B:=natC 0) rfl (ty rfl) rfl Has.go Seg.all (ze _).symm) (resTmp rfl) SubR.nil ⟨rfl,rfl⟩
 ·have e:(λx y=>x*y % m) (a % m) (b % m)=a*b % m:=by
   exact (Nat.mul_mod a b m).symm
  dsimp only at e
  rw [e] at hap
  unfold modR at *
  simp only [if_neg (show ¬m=0 by omega)] at hap ⊢
  have hlr:=ze (a*b % m)
  generalize a*b % m=r at *
  repeat' (first|refine s_0 ?_|(refine za (id:=0) ?_;(refine zi ?_;intro _);(refine zi ?_;intro _);(refine zi ?_;intro _);(refine zi ?_;intro _);refine zd ?_)|(refine za (id:=1) ?_;refine yv (zg (B:=natC m)) (k:=?_);refine yv (zg (B:=natC a)) (k:=?_);refine yv (zg (B:=natC b)) (k:=?_);refine yv (zf (hc:=λ_ _ _ _=>(hap _))) (k:=?_);refine zh ?_;refine zh ?_;refine yn (zl (n:=r)) (k:=?_);refine zd ?_)|fail)
  exact ret2 rfl (resCells (B:=natC r) rfl (ty rfl) rfl Has.go Seg.all (ze _).symm) (resTmp rfl) SubR.nil ⟨rfl,rfl⟩
set_option maxHeartbeats 1000000 in
theorem zqY (a e m:Nat) (w:World) (ha:a < 18446744073709551616 ^ 16) (he:e < 18446744073709551616 ^ 16) (hm:m < 18446744073709551616 ^ 16):
  Sy.Fn Tryz.prog 156 [natV a,natV e,natV m] w No (Gives (modR m (a ^ e % m))):=by
 refine zk Tryz.func156 rfl Tryz.ntmps156 (by simp) Holds.nil ?_
 have hla:=ze a
 have hle:=ze e
 have hlm:=ze m
 have hl0:=ze 0
 have hz:=λw'=>zbm m w' hm
 rcases Nat.eq_zero_or_pos m with h|h
 ·subst h
  unfold modR
  rw [if_pos rfl]
  repeat' (first|refine s_0 ?_|(refine za (id:=0) ?_;(refine zi ?_;intro _);(refine zi ?_;intro _);(refine zi ?_;intro _);(refine zi ?_;intro _);refine zd ?_)|(refine za (id:=1) ?_;refine yv (zg (B:=natC 0)) (k:=?_);refine yv (zf (hc:=λ_ _ _ _=>(hz _))) (k:=?_))|(refine za (id:=2) ?_;refine yv za8 (k:=?_);refine yn (zl (n:=0)) (k:=?_);refine zd ?_)|fail)
  exact ret2 rfl (resCells (B:=natC 0) rfl (ty rfl) rfl Has.go Seg.all (ze _).symm) (resTmp rfl) SubR.nil ⟨rfl,rfl⟩
 ·simp only [decide_eq_false (show ¬m=0 by omega)] at hz
  unfold modR
  rw [if_neg (by omega)]
  have hr:=λw' b' (h':w'.rangeAt b' 0 (rowN [a]))=>zbP m a b' w' hm h ha h'
  have h1:=λw'=>zmD m w' hm h
  obtain ⟨V,hV⟩: ∃V:Nat->Nat,∀k,V k=(a % m) ^ k % m:=⟨λk=>(a % m) ^ k % m,λ_=>rfl⟩
  have hVm: ∀k,V k < m:=λk=>by rw [hV];exact Nat.mod_lt _ h
  have hD: ∀k w',Sy.Fn Tryz.prog 175 ([natV m] ++ [natV (V k)] ++ []) w' No (Gives (natV (V (2*k)))):=λk w'=>by
   have:=zmM m (V k) w' hm (hVm k)
   rw [show V k*V k % m=V (2*k) by rw [hV,hV,<-Nat.mul_mod,<-Nat.pow_add,Nat.two_mul]] at this
   exact this
  have hA: ∀k w',Sy.Fn Tryz.prog 153 ([natV m] ++ [natV (V k),natV (a % m)] ++ []) w' No (Gives (natV (V (k+1)))):=λk w'=>by
   have:=zdD m (V k) (a % m) w' hm (hVm k) (Nat.mod_lt _ h)
   rw [show V k*(a % m) % m=V (k+1) by rw [hV,hV,Nat.mod_mul_mod,Nat.pow_succ]] at this
   exact this
  have hlad:=λw'=>zio e (a % m) V 175 153 [natV m] [] [natV m] [] w' he (en rfl) (en rfl) hD hA
  rw [show V 0=1 % m by rw [hV,Nat.pow_zero],show V e=a ^ e % m by rw [hV,((zbG m a).pow e).mod]] at hlad
  have hlr:=ze (a % m)
  have hlR:=ze (a ^ e % m)
  have hl1:=ze (1 % m)
  clear hD hA hV hVm
  generalize a ^ e % m=R at *
  generalize a % m=r at *
  generalize 1 % m=u at *
  repeat' (first|refine s_0 ?_|(refine za (id:=0) ?_;(refine zi ?_;intro _);(refine zi ?_;intro _);(refine zi ?_;intro _);(refine zi ?_;intro _);refine zd ?_)|(refine za (id:=1) ?_;refine yv (zg (B:=natC m)) (k:=?_);refine yv (zf (hc:=λ_ _ _ _=>(hz _))) (k:=?_))|(refine za (id:=3) ?_;refine yv (zg (B:=natC m)) (k:=?_);refine yv (zcn (n:=m)) (k:=?_);(refine zi ?_;intro _);refine yn (zM (B:=natC m) (hv:=zbX m) (h1:=(ze m).symm)) (k:=?_))|fail)
  rename_i b3 b4 b5 b6 b8
  refine zah (id:=4) mixed ?_
  (refine zab 14 14 [[],[],[1],[],[],[4],[1,2,3,4,5],[1,2,3,4,5,6],[1,2,3,4,5,6,7],[],[9],[],[11],[0,1,2,3,4,5,6,7,8,9,10,11,12],[0,1,2,3,4,5,6,7,8,9,10,11,12,13],[0,1,2,3,4,5,6,7,8,9,10,11,12,13,14]] [[],[],[],[],[],[],[],[],[],[],[],[],[],[],[],[]] none rfl ?_ ?_ ?_;kernel_rfl;kernel_rfl;refine dcE (λ_ _=>zg (B:=natC e)) (k:=?_);refine dcE (λ_ _=>zg (B:=natC m)) (k:=?_);refine dcE (λ_ _=>zf (hc:=λ_ _ _ _=>(h1 _))) (k:=?_);refine dcE (λ_ _=>zg (B:=natC m)) (k:=?_);refine dcE (λ_ _=>zg (B:=natC a)) (k:=?_);try refine z5 (h:=?_))
  refine z7 (R:=λ_=>SlOf 73 1 (rowN [a])) (λ_ _ _=>rfl) (λρ hρ=>OpT.mono (zaO (x:=a)) λv L' h=>?_) (h:=?_)
  ·obtain ⟨b,rfl,rfl⟩:=h
   exact ⟨[_],rfl,b,rfl,rfl⟩
  refine z7 (R:=λ_=>SlOf 73 1 (natC r)) (λ_ _ _=>rfl) (λρ hρ=>?_) (h:=?_)
  ·obtain ⟨⟨bx,e1,e2⟩,-⟩:=hρ
   refine OpT.mono (zn (vs:=[natV m,.slice (some ⟨bx,0,none⟩) 1 1]) (ha:=by show some [_,(ρ 5).1]=_;rw [e1];rfl) (hc:=λw' X hk hh=>hr w' bx ((Reads.blk (T:=73) (by show Has ((ρ 5).2 ++ _) _;rw [e2];exact Has.here) Seg.all) w' X hk hh))) λv L' h=>?_
   obtain ⟨R,rfl,bc,rfl,rfl⟩:=h
   exact ⟨_,rfl,bc,rfl,rfl⟩
  refine zbf (u:=λρ=>ptrOf (ρ 6).1) (λρ hρ=>?_) (λ_=>rfl) rfl (λρ ρ' h=>by rw [h 6 (by decide)]) (h:=?_)
  ·obtain ⟨⟨bx,e1,e2⟩,-⟩:=hρ
   refine OpT.mono (zaR (b:=bx) (off:=0) (n:=1) (c:=1) (j:=0) (hx:=by show some (ρ 6).1=_;rw [e1])) λv L' h=>?_
   obtain ⟨rfl,rfl⟩:=h
   exact ⟨by rw [e1];rfl,rfl⟩
  refine dcE (u:=natV r) (λρ hρ=>?_) (k:=?_)
  ·obtain ⟨⟨bx,e1,e2⟩,-⟩:=hρ
   exact zg (B:=natC r) (b:=bx) (off:=0) (T:=73) (hx:=by show some (ptrOf (ρ 6).1)=_;rw [e1];rfl) (hL:=by show Has ((ρ 6).2 ++ _) _;rw [e2];exact Has.here) (hv:=Seg.all) (hz:=hlr.symm)
  (skip;refine dcE (λ_ _=>zg (B:=natC m)) (k:=?_);refine zgZ ?_;refine dcE (λ_ _=>zg (B:=natC m)) (k:=?_);refine zgZ ?_;refine dcE (λ_ _=>zf (hc:=λ_ _ _ _=>(hlad _))) (k:=?_);try refine z5 (h:=?_))
  refine zaE (h:=?_)
  rintro ρ ⟨⟨bx,e1,e2⟩,⟨bz,e3,e4⟩,-⟩
  (refine zag [[],[],[1],[],[],[4],[1,2,3,4,5],[1,2,3,4,5,6],[1,2,3,4,5,6,7],[],[9],[],[11],[0,1,2,3,4,5,6,7,8,9,10,11,12],[0,1,2,3,4,5,6,7,8,9,10,11,12,13],[0,1,2,3,4,5,6,7,8,9,10,11,12,13,14]] ?_ ?_;kernel_rfl)
  refine SyL.weaken (fr':=[(27,natV R),(6,.pointer (some ⟨b6,0,none⟩)),(7,.int .i64 0)]) (L':=[.blk b6 73 (List.replicate 16 (Value.int IntKind.u64 0))]) ?_ ?_ ?_
  rotate_left
  ·exact Sub.go
  ·show SubR _ ((ρ 6).2 ++ ((ρ 5).2 ++ _))
   rw [e2,e4]
   exact SubR.go2
  repeat' (first|refine s_0 ?_|(refine zC ?_;first|refine yn (zl (n:=R)) (k:=?_)|refine zd ?_|fail)|fail)
  exact ret2 rfl (resCells (B:=natC R) rfl (ty rfl) rfl Has.go Seg.all (ze _).symm) (resTmp rfl) SubR.nil ⟨rfl,rfl⟩
end Go.Proofs.YtcpjfilcilcekaaGreatDoor
end
section
namespace Go.Sy
open Go
theorem znE {N:Nat}{w0:World}{M:Nat->Prop}{ds:List Deferred}{L L':List Res}(hp:L.Perm L'):Conv N w0 M ds L L':=λ_ _ _ X hs=>hs.perm (hp.append_right X)
end Go.Sy
namespace Go.Proofs.YtcpjfilcilcekaaGreatDoor
open Go Go.Sy Go.Nt Go.RowKit
attribute [local irreducible] Sy SyL SyX Sy.Fn callFunc natC rowN
set_option maxRecDepth 10000
def invR (m a:Nat):Value:=if m=0 then .tuple #[natV 0,.int .i64 2] else if (inv m a).1=1 then .tuple #[natV (inv m a).2,.int .i64 0] else .tuple #[natV 0,.int .i64 9]
theorem zjA (a:Nat) (w:World) (ha:a < 18446744073709551616 ^ 16):
  Sy.Fn Tryz.prog 131 [natV a,natV 0] w No (Gives (invR 0 a)):=by
 refine zk Tryz.func131 rfl Tryz.ntmps131 (by simp) Holds.nil ?_
 have hla:=ze a
 have hl0:=ze 0
 have hz:=λw'=>zbm 0 w' (by decide)
 unfold invR
 rw [if_pos rfl]
 repeat' (first|refine s_0 ?_|(refine za (id:=0) ?_;(refine zi ?_;intro _);(refine zi ?_;intro _);(refine zi ?_;intro _);refine zd ?_)|(refine za (id:=1) ?_;refine yv (zg (B:=natC 0)) (k:=?_);refine yv (zf (hc:=λ_ _ _ _=>(hz _))) (k:=?_))|(refine za (id:=2) ?_;refine yv za8 (k:=?_);refine yn (zl (n:=0)) (k:=?_);refine zd ?_)|fail)
 exact ret2 rfl (resCells (B:=natC 0) rfl (ty rfl) rfl Has.go Seg.all (ze _).symm) (resTmp rfl) SubR.nil ⟨rfl,rfl⟩
set_option maxHeartbeats 2000000 in
theorem zj9 (a m:Nat) (w:World) (ha:a < 18446744073709551616 ^ 16) (hm:m < 18446744073709551616 ^ 16) (h:0 < m):
  Sy.Fn Tryz.prog 131 [natV a,natV m] w No (Gives (invR m a)):=by
 refine zk Tryz.func131 rfl Tryz.ntmps131 (by simp) Holds.nil ?_
 have hla:=ze a
 have hlm:=ze m
 have hl0:=ze 0
 have hz:=λw'=>zbm m w' hm
 simp only [decide_eq_false (show ¬m=0 by omega)] at hz
 unfold invR
 rw [if_neg (by omega)]
 have hr:=λw' b' (h':w'.rangeAt b' 0 (rowN [a]))=>zbP m a b' w' hm h ha h'
 have h1:=λw'=>zmD m w' hm h
 have l1:=Nat.mod_lt a h
 have l2:=Nat.mod_lt 1 h
 have hlr:=ze (a % m)
 have hlu:=ze (1 % m)
 have hinv:inv m a=euc m m (a % m) 0 (1 % m):=rfl
 generalize inv m a=I at *
 generalize a % m=r at *
 generalize 1 % m=u at *
 repeat' (first|refine s_0 ?_|(refine za (id:=0) ?_;(refine zi ?_;intro _);(refine zi ?_;intro _);(refine zi ?_;intro _);refine zd ?_)|(refine za (id:=1) ?_;refine yv (zg (B:=natC m)) (k:=?_);refine yv (zf (hc:=λ_ _ _ _=>(hz _))) (k:=?_))|(refine za (id:=3) ?_;refine yv (zg (B:=natC m)) (k:=?_);refine yv (zcn (n:=m)) (k:=?_);(refine zi ?_;intro _);refine yn (zM (B:=natC m) (hv:=zbX m) (h1:=(ze m).symm)) (k:=?_))|fail)
 rename_i b2 b3 b4 b6
 refine zah (id:=4) mixed ?_
 (refine zab 10 10 [[],[],[],[2],[1,2,3],[1,2,3,4],[1,2,3,4,5],[],[],[0,1,2,3,4,7,8],[0,1,2,3,4,5,6,7,8,9]] [[],[],[],[],[],[],[],[],[],[7],[]] none rfl ?_ ?_ ?_;kernel_rfl;kernel_rfl;refine dcE (λ_ _=>zg (B:=natC m)) (k:=?_);refine dcE (λ_ _=>zg (B:=natC m)) (k:=?_);refine dcE (λ_ _=>zg (B:=natC a)) (k:=?_);try refine z5 (h:=?_))
 refine z7 (R:=λ_=>SlOf 73 1 (rowN [a])) (λ_ _ _=>rfl) (λρ hρ=>OpT.mono (zaO (x:=a)) λv L' h=>?_) (h:=?_)
 ·obtain ⟨b,rfl,rfl⟩:=h
  exact ⟨[_],rfl,b,rfl,rfl⟩
 refine z7 (R:=λ_=>SlOf 73 1 (natC r)) (λ_ _ _=>rfl) (λρ hρ=>?_) (h:=?_)
 ·obtain ⟨⟨bx,e1,e2⟩,-⟩:=hρ
  refine OpT.mono (zn (vs:=[natV m,.slice (some ⟨bx,0,none⟩) 1 1]) (ha:=by show some [_,(ρ 3).1]=_;rw [e1];rfl) (hc:=λw' X hk hh=>hr w' bx ((Reads.blk (T:=73) (by show Has ((ρ 3).2 ++ _) _;rw [e2];exact Has.here) Seg.all) w' X hk hh))) λv L' h=>?_
  obtain ⟨R,rfl,bc,rfl,rfl⟩:=h
  exact ⟨_,rfl,bc,rfl,rfl⟩
 refine zbf (u:=λρ=>ptrOf (ρ 4).1) (λρ hρ=>?_) (λ_=>rfl) rfl (λρ ρ' h=>by rw [h 4 (by decide)]) (h:=?_)
 ·obtain ⟨⟨bx,e1,e2⟩,-⟩:=hρ
  refine OpT.mono (zaR (b:=bx) (off:=0) (n:=1) (c:=1) (j:=0) (hx:=by show some (ρ 4).1=_;rw [e1])) λv L' h=>?_
  obtain ⟨rfl,rfl⟩:=h
  exact ⟨by rw [e1];rfl,rfl⟩
 refine dcE (u:=natV r) (λρ hρ=>?_) (k:=?_)
 ·obtain ⟨⟨bx,e1,e2⟩,-⟩:=hρ
  exact zg (B:=natC r) (b:=bx) (off:=0) (T:=73) (hx:=by show some (ptrOf (ρ 4).1)=_;rw [e1];rfl) (hL:=by show Has ((ρ 4).2 ++ _) _;rw [e2];exact Has.here) (hv:=Seg.all) (hz:=hlr.symm)
 refine z7 (R:=λ_=>PtrOf 73 (List.replicate 16 (.int .u64 0))) (λ_ _ _=>rfl) (λρ hρ=>OpT.mono zaX λv L' h=>?_) (h:=?_)
 ·obtain ⟨b,rfl,rfl⟩:=h
  exact ⟨[_],rfl,b,rfl,rfl⟩
 refine z7 (R:=λ_=>PtrOf 73 (List.replicate 16 (.int .u64 0))) (λ_ _ _=>rfl) (λρ hρ=>OpT.mono zaX λv L' h=>?_) (h:=?_)
 ·obtain ⟨b,rfl,rfl⟩:=h
  exact ⟨[_],rfl,b,rfl,rfl⟩
 refine zd7 (R:=λρ _ Nw=>∃b,(ρ 7).1= .pointer (some ⟨b,0,none⟩)/\Nw= [.blk b 73 (natC m)]) (λρ ρ' h=>by rw [h 7 (by decide)]) (λρ hρ=>?_) (h:=?_)
 ·obtain ⟨-,⟨b,f1,f2⟩,-⟩:=hρ
  refine OpT.mono (OpT.conv (znE (L':=.blk b 73 (List.replicate 16 (.int .u64 0))::((ρ 8).2 ++ ((ρ 4).2 ++ ((ρ 3).2 ++ _)))) (by show List.Perm ((ρ 8).2 ++ ((ρ 7).2 ++ _)) _;rw [f2];exact List.perm_middle)) (zl (n:=m) (b:=b) (C:=List.replicate 16 (.int .u64 0)) (hx:=by show some (ρ 7).1=_;rw [f1]) (hL:=Upd.here))) λv L' h=>?_
  obtain ⟨rfl,rfl⟩:=h
  exact ⟨[_],rfl,b,f1,rfl⟩
 refine zaE (h:=?_)
 rintro ρ ⟨⟨b7,g3,g4⟩,⟨b8,g1,g2⟩,-,⟨bx,e1,e2⟩,⟨bz,e3,e4⟩,-⟩
 (refine zag [[],[],[],[2],[1,2,3],[1,2,3,4],[1,2,3,4,5],[],[],[0,1,2,3,4,7,8],[0,1,2,3,4,5,6,7,8,9]] ?_ ?_;kernel_rfl)
 refine SyL.weaken (fr':=[(22,natV m),(28,natV r),(7,.pointer (some ⟨b7,0,none⟩)),(8,.pointer (some ⟨b8,0,none⟩)),(4,.pointer (some ⟨b4,0,none⟩)),(6,.pointer (some ⟨b6,0,none⟩)),(5,.int .i64 0)])
  (L':=[.blk b8 73 (List.replicate 16 (.int .u64 0)),.blk b7 73 (natC m),.blk b4 73 (List.replicate 16 (.int .u64 0)),.blk b6 191 (natC m)]) ?_ ?_ ?_
 rotate_left
 ·(repeat' (first|exact Sub.nil|refine Sub.cons rfl ?_ ?_|rfl))
  ·exact g3
  ·exact g1
 ·show SubR _ ((ρ 9).2 ++ ((ρ 8).2 ++ ((ρ 4).2 ++ ((ρ 3).2 ++ _))))
  rw [g2,g4,e2,e4]
  exact SubR.go2
 repeat' (first|refine s_t ?_|(refine za (id:=5) ?_;refine yv za8 (k:=?_);refine yv (zg (B:=natC m)) (k:=?_);refine yv (zf (hc:=λ_ _ _ _=>(h1 _))) (k:=?_);(refine zi ?_;intro _);(refine zi ?_;intro _);refine yn (zl (n:=0)) (k:=?_);refine yn (zl (n:=u)) (k:=?_))|(refine zC ?_;first|refine yn (zl (n:=r)) (k:=?_)|fail)|fail)
 rename_i b9 b10
 clear hr h1 hz hla hlr hlu
 refine zE (γ:=Nat×Nat×Nat×Nat) (λ_=>[(4,.pointer (some ⟨b4,0,none⟩)),(5,.int .i64 0),(6,.pointer (some ⟨b6,0,none⟩)),(7,.pointer (some ⟨b7,0,none⟩)),(8,.pointer (some ⟨b8,0,none⟩)),(9,.pointer (some ⟨b9,0,none⟩)),(10,.pointer (some ⟨b10,0,none⟩))])
  (λg=>[.blk b7 73 (natC g.1),.blk b8 73 (natC g.2.1),.blk b9 73 (natC g.2.2.1),.blk b10 73 (natC g.2.2.2),.blk b6 191 (natC m),.blk b4 73 (List.replicate 16 (Value.int IntKind.u64 0))])
  (λg=>euc m g.1 g.2.1 g.2.2.1 g.2.2.2=I/\g.1<=m/\g.2.1<=m/\g.2.2.1 < m/\g.2.2.2 < m) (λg=>g.2.1) (m,r,0,u) ⟨hinv.symm,Nat.le_refl _,Nat.le_of_lt l1,h,l2⟩ ?_ ?_ ?_
 ·exact Sub.go
 ·dsimp only
  exact SubR.go2
 clear hinv l1 l2
 rintro ⟨r,s,x,y⟩ ⟨hI,hr,hs,hx,hy⟩
 dsimp only at hI hr hs hx hy ⊢
 have hrW:=Nat.lt_of_le_of_lt hr hm
 have hsW:=Nat.lt_of_le_of_lt hs hm
 have hz:=λw'=>zbm s w' hsW
 have hlr:=ze r
 have hls:=ze s
 have hlx:=ze x
 have hly:=ze y
 have hl1:=ze 1
 rcases Nat.eq_zero_or_pos s with h0|h0
 ·subst h0
  rw [zdW] at hI
  subst hI
  dsimp only
  have hf1:=λw'=>zcL 1 w' (by decide)
  by_cases h1:r=1
  ·rw [if_pos h1]
   have hne:decide (r≠1)=false:=decide_eq_false (λh=>h h1)
   repeat' (first|refine s_0 ?_|(refine za (id:=6) ?_;refine yv (zg (B:=natC 0)) (k:=?_);refine yv (zf (hc:=λ_ _ _ _=>(hz _))) (k:=?_);refine zal ?_)|(refine za (id:=11) ?_;refine yv (zf (hc:=λ_ _ _ _=>(hf1 _))) (k:=?_);refine zb ?_;refine zh ?_;refine zh ?_;(refine zi ?_;intro _);refine yn (zl (n:=1)) (k:=?_);refine zd ?_)|(refine za (id:=12) ?_;refine yv (zg (B:=natC r)) (k:=?_);refine yv (zg (B:=natC 1)) (k:=?_);refine yv (zjy (a:=r) (b:=1) (r:=false) natTy hrW (by decide) hne) (k:=?_))|(refine za (id:=14) ?_;refine yv (zg (B:=natC x)) (k:=?_);refine yn (zl (n:=x)) (k:=?_);refine zd ?_)|fail)
   exact ret2 rfl (resCells (B:=natC x) rfl (ty rfl) rfl Has.go Seg.all (ze _).symm) (resTmp rfl) SubR.nil ⟨rfl,rfl⟩
  ·rw [if_neg h1]
   have hne:decide (r≠1)=true:=decide_eq_true h1
   repeat' (first|refine s_0 ?_|(refine za (id:=6) ?_;refine yv (zg (B:=natC 0)) (k:=?_);refine yv (zf (hc:=λ_ _ _ _=>(hz _))) (k:=?_);refine zal ?_)|(refine za (id:=11) ?_;refine yv (zf (hc:=λ_ _ _ _=>(hf1 _))) (k:=?_);refine zb ?_;refine zh ?_;refine zh ?_;(refine zi ?_;intro _);refine yn (zl (n:=1)) (k:=?_);refine zd ?_)|(refine za (id:=12) ?_;refine yv (zg (B:=natC r)) (k:=?_);refine yv (zg (B:=natC 1)) (k:=?_);refine yv (zjy (a:=r) (b:=1) (r:=true) natTy hrW (by decide) hne) (k:=?_))|(refine za (id:=13) ?_;refine yv za8 (k:=?_);refine yn (zl (n:=0)) (k:=?_);refine zd ?_)|fail)
   exact ret2 rfl (resCells (B:=natC 0) rfl (ty rfl) rfl Has.go Seg.all (ze _).symm) (resTmp rfl) SubR.nil ⟨rfl,rfl⟩
 ·simp only [decide_eq_false (show ¬s=0 by omega)] at hz
  rw [zeC m r s x y h0] at hI
  have hrs:=Nat.mod_lt r h0
  have hdv:=λw'=>zia r s w' hrW hsW h0
  have hqW:r / s < 18446744073709551616 ^ 16:=Nat.lt_of_le_of_lt (Nat.div_le_self _ _) hrW
  have hres:=λw' b' (h':w'.rangeAt b' 0 (rowN [r / s]))=>zbP m (r / s) b' w' hm h hqW h'
  have hpr:=λw'=>zdD m (r / s % m) y w' hm (Nat.mod_lt _ h) hy
  have hd2:=ziS x (r / s*y % m) h
  have hdf:=λw'=>ziI m x (r / s*y % m) w' hm hx (Nat.mod_lt _ h)
  have e1:r / s % m*y % m=r / s*y % m:=Nat.mod_mul_mod ..
  rw [e1] at hpr
  have lq:=ze (r / s)
  have lt:=ze (r % s)
  have lqm:=ze (r / s % m)
  have lp:=ze (r / s*y % m)
  have lz:=ze (dm m x (r / s*y % m))
  clear e1
  generalize dm m x (r / s*y % m)=z at *
  generalize r / s*y % m=p at *
  generalize r / s % m=qm at *
  generalize r / s=q at *
  generalize r % s=t at *
  repeat' (first|refine s_t ?_|(refine za (id:=6) ?_;refine yv (zg (B:=natC s)) (k:=?_);refine yv (zf (hc:=λ_ _ _ _=>(hz _))) (k:=?_);refine zal ?_)|(refine za (id:=7) ?_;refine yv (zg (B:=natC r)) (k:=?_);refine yv (zg (B:=natC s)) (k:=?_);refine yv (zf (hc:=λ_ _ _ _=>(hdv _))) (k:=?_);refine zb ?_;refine zh ?_;refine zh ?_;refine zh ?_;(refine zi ?_;intro _);(refine zi ?_;intro _);refine yn (zl (n:=q)) (k:=?_);refine yn (zl (n:=t)) (k:=?_);refine zd ?_)|fail)
  rename_i b11 b12
  refine Sy.weaken (fr':=[(4,.pointer (some ⟨b4,0,none⟩)),(5,.int .i64 0),(6,.pointer (some ⟨b6,0,none⟩)),(7,.pointer (some ⟨b7,0,none⟩)),(8,.pointer (some ⟨b8,0,none⟩)),(9,.pointer (some ⟨b9,0,none⟩)),(10,.pointer (some ⟨b10,0,none⟩)),(11,.pointer (some ⟨b11,0,none⟩)),(12,.pointer (some ⟨b12,0,none⟩))])
   (L':=[.blk b7 73 (natC r),.blk b8 73 (natC s)] ++ [.blk b12 73 (natC t),.blk b11 73 (natC q),.blk b9 73 (natC x),.blk b10 73 (natC y),.blk b6 191 (natC m),.blk b4 73 (List.replicate 16 (Value.int IntKind.u64 0))]) ?_ (by exact Sub.go) ?_
  rotate_left
  ·show SubR [.blk b7 73 (natC r),.blk b8 73 (natC s),.blk b12 73 (natC t),.blk b11 73 (natC q),.blk b9 73 (natC x),.blk b10 73 (natC y),.blk b6 191 (natC m),.blk b4 73 (List.replicate 16 (Value.int IntKind.u64 0))] _
   exact SubR.go2
  refine zoa (γ:=Unit) (λ_=>[(4,.pointer (some ⟨b4,0,none⟩)),(5,.int .i64 0),(6,.pointer (some ⟨b6,0,none⟩)),(7,.pointer (some ⟨b7,0,none⟩)),(8,.pointer (some ⟨b8,0,none⟩)),(9,.pointer (some ⟨b9,0,none⟩)),(10,.pointer (some ⟨b10,0,none⟩)),(11,.pointer (some ⟨b11,0,none⟩)),(12,.pointer (some ⟨b12,0,none⟩))]) (λ_=>[.blk b7 73 (natC s),.blk b8 73 (natC t)]) (λ_=>True) _ _ (λw1 ds1 hk1 hh1=>?_) (λ_ _=>?_)
  ·obtain ⟨hb6,hn6⟩:=hh1.out (b:=b12) (T:=73) (C:=natC t) (by exact Has.here)
   have hr6:w1.rangeAt b12 0 (natC t):=zz hb6 Seg.all
   refine zah (id:=8) mixed ?_
   (refine zab 3 3 [[],[],[0],[0,1,2]] [[],[],[],[]] (some 2) rfl ?_ ?_ ?_;kernel_rfl;kernel_rfl;refine dcE (λ_ _=>zg (B:=natC s)) (k:=?_);refine dcE (λ_ _=>zaL (B:=natC t) (hv:=hr6) (hn:=hn6)) (k:=?_);try refine z5 (h:=?_))
   refine zd7 (R:=λ_ _ Nw=>Nw= [.blk b7 73 (natC s),.blk b8 73 (natC s)]) (λ_ _ _=>rfl)
    (λρ hρ=>OpT.mono (zl (n:=s) (C:=natC r) (L':=[.blk b7 73 (natC s),.blk b8 73 (natC s)])) λv L' h=>?_) (h:=?_)
   ·obtain ⟨rfl,rfl⟩:=h
    exact ⟨_,(List.append_nil _).symm,rfl⟩
   refine zaE (h:=?_)
   rintro ρ ⟨f',-⟩
   (refine zag [[],[],[0],[0,1,2]] ?_ ?_;kernel_rfl)
   have f':(ρ 2).2= [.blk b7 73 (natC s),.blk b8 73 (natC s)]:=f'
   refine SyL.weaken (fr':=(43,.agg (natC t).toArray)::[(4,.pointer (some ⟨b4,0,none⟩)),(5,.int .i64 0),(6,.pointer (some ⟨b6,0,none⟩)),(7,.pointer (some ⟨b7,0,none⟩)),(8,.pointer (some ⟨b8,0,none⟩)),(9,.pointer (some ⟨b9,0,none⟩)),(10,.pointer (some ⟨b10,0,none⟩)),(11,.pointer (some ⟨b11,0,none⟩)),(12,.pointer (some ⟨b12,0,none⟩))])
    (L':=[.blk b7 73 (natC s),.blk b8 73 (natC s)]) ?_ ?_ ?_
   ·repeat' (first|refine z6 ?_|refine zR ?_|(refine zC ?_;first|refine yn (zl (n:=t)) (k:=?_)|fail)|fail)
    exact zO () trivial (by exact Sub.go) (by exact SubR.go)
   ·exact Sub.go
   ·show SubR _ ((ρ 2).2 ++ [])
    rw [f']
    exact SubR.go2
  ·repeat' (first|refine s_0 ?_|fail)
   refine zah (id:=9) mixed ?_
   (refine zab 10 10 [[],[],[],[2],[1,2,3],[1,2,3,4],[1,2,3,4,5],[],[0,1,2,3,4,5,6,7],[],[0,1,2,3,4,5,6,7,8,9]] [[],[],[],[],[],[],[],[],[],[],[]] none rfl ?_ ?_ ?_;kernel_rfl;kernel_rfl;refine dcE (λ_ _=>zg (B:=natC m)) (k:=?_);refine dcE (λ_ _=>zg (B:=natC m)) (k:=?_);refine dcE (λ_ _=>zg (B:=natC q)) (k:=?_);try refine z5 (h:=?_))
   refine z7 (R:=λ_=>SlOf 73 1 (rowN [q])) (λ_ _ _=>rfl) (λρ hρ=>OpT.mono (zaO (x:=q)) λv L' h=>?_) (h:=?_)
   ·obtain ⟨b,rfl,rfl⟩:=h
    exact ⟨[_],rfl,b,rfl,rfl⟩
   refine z7 (R:=λ_=>SlOf 73 1 (natC qm)) (λ_ _ _=>rfl) (λρ hρ=>?_) (h:=?_)
   ·obtain ⟨⟨bx,e1,e2⟩,-⟩:=hρ
    refine OpT.mono (zn (vs:=[natV m,.slice (some ⟨bx,0,none⟩) 1 1]) (ha:=by show some [_,(ρ 3).1]=_;rw [e1];rfl) (hc:=λw' X hk hh=>hres w' bx ((Reads.blk (T:=73) (by show Has ((ρ 3).2 ++ _) _;rw [e2];exact Has.here) Seg.all) w' X hk hh))) λv L' h=>?_
    obtain ⟨R,rfl,bc,rfl,rfl⟩:=h
    exact ⟨_,rfl,bc,rfl,rfl⟩
   refine zbf (u:=λρ=>ptrOf (ρ 4).1) (λρ hρ=>?_) (λ_=>rfl) rfl (λρ ρ' h=>by rw [h 4 (by decide)]) (h:=?_)
   ·obtain ⟨⟨bx,e1,e2⟩,-⟩:=hρ
    refine OpT.mono (zaR (b:=bx) (off:=0) (n:=1) (c:=1) (j:=0) (hx:=by show some (ρ 4).1=_;rw [e1])) λv L' h=>?_
    obtain ⟨rfl,rfl⟩:=h
    exact ⟨by rw [e1];rfl,rfl⟩
   refine dcE (u:=natV qm) (λρ hρ=>?_) (k:=?_)
   ·obtain ⟨⟨bx,e1,e2⟩,-⟩:=hρ
    exact zg (B:=natC qm) (b:=bx) (off:=0) (T:=73) (hx:=by show some (ptrOf (ρ 4).1)=_;rw [e1];rfl) (hL:=by show Has ((ρ 4).2 ++ _) _;rw [e2];exact Has.here) (hv:=Seg.all) (hz:=lqm.symm)
   (skip;refine dcE (λ_ _=>zg (B:=natC y)) (k:=?_);refine dcE (λ_ _=>zf (hc:=λ_ _ _ _=>(hpr _))) (k:=?_);try refine z5 (h:=?_))
   refine z7 (R:=λ_=>PtrOf 73 (List.replicate 16 (.int .u64 0))) (λ_ _ _=>rfl) (λρ hρ=>OpT.mono zaX λv L' h=>?_) (h:=?_)
   ·obtain ⟨b,rfl,rfl⟩:=h
    exact ⟨[_],rfl,b,rfl,rfl⟩
   refine zaE (h:=?_)
   rintro ρ ⟨⟨b14,g1,g2⟩,⟨bx,e1,e2⟩,⟨bz,e3,e4⟩,-⟩
   (refine zag [[],[],[],[2],[1,2,3],[1,2,3,4],[1,2,3,4,5],[],[0,1,2,3,4,5,6,7],[],[0,1,2,3,4,5,6,7,8,9]] ?_ ?_;kernel_rfl)
   refine SyL.weaken (fr':=(52,natV p)::(14,.pointer (some ⟨b14,0,none⟩))::[(4,.pointer (some ⟨b4,0,none⟩)),(5,.int .i64 0),(6,.pointer (some ⟨b6,0,none⟩)),(7,.pointer (some ⟨b7,0,none⟩)),(8,.pointer (some ⟨b8,0,none⟩)),(9,.pointer (some ⟨b9,0,none⟩)),(10,.pointer (some ⟨b10,0,none⟩)),(11,.pointer (some ⟨b11,0,none⟩)),(12,.pointer (some ⟨b12,0,none⟩))])
    (L':=[.blk b14 73 (List.replicate 16 (.int .u64 0)),.blk b7 73 (natC s),.blk b8 73 (natC t),.blk b9 73 (natC x),.blk b10 73 (natC y),.blk b6 191 (natC m),.blk b4 73 (List.replicate 16 (Value.int IntKind.u64 0))]) ?_ ?_ ?_
   rotate_left
   ·(repeat' (first|exact Sub.nil|refine Sub.cons rfl ?_ ?_|rfl))
    ·exact g1
   ·show SubR _ ((ρ 9).2 ++ ((ρ 4).2 ++ ((ρ 3).2 ++ _)))
    rw [g2,e2,e4]
    exact SubR.go2
   repeat' (first|refine s_0 ?_|(refine zK (id:=10) 5 [[],[],[],[],[1,2,3],[0,1,2,3,4],[0,1,2,3,4,5]] mixed ?_ ?_;kernel_rfl;refine dc (λ_ _=>zg (B:=natC y)) (k:=?_);refine dc (λ_ _=>zg (B:=natC m)) (k:=?_);refine dc (λ_ _=>zg (B:=natC x)) (k:=?_);refine dc (λ_ _=>zg (B:=natC p)) (k:=?_);refine dc (λ_ _=>zf (hc:=λ_ _ _ _=>(hdf _))) (k:=?_);refine zU ?_;refine yn (zl (n:=y)) (k:=?_);refine yn (zl (n:=z)) (k:=?_))|(refine zC ?_;first|refine yn (zl (n:=p)) (k:=?_)|fail)|fail)
   refine zy (s,t,y,z) ⟨hI,hs,Nat.le_of_lt (Nat.lt_of_lt_of_le hrs hs),hy,hd2⟩ ?_ ?_ ?_
   ·show t < s;exact hrs
   ·exact Sub.go
   ·dsimp only
    exact SubR.go2
theorem zls (a m:Nat) (w:World) (ha:a < 18446744073709551616 ^ 16) (hm:m < 18446744073709551616 ^ 16):
  Sy.Fn Tryz.prog 131 [natV a,natV m] w No (Gives (invR m a)):=by
 rcases Nat.eq_zero_or_pos m with h|h
 ·subst h;exact zjA a w ha
 ·exact zj9 a m w ha hm h
end Go.Proofs.YtcpjfilcilcekaaGreatDoor
end
