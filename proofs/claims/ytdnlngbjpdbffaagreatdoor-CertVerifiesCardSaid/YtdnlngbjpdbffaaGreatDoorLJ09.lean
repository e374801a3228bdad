/- Digits: length, order. -/
import Derived.Test.YtdnlngbjpdbffaaGreatDoorLJ08
import Derived.Test.YtdnlngbjpdbffaaGreatDoorLJ07
import Derived.Shelf.Spec.BitsCarry
set_option maxRecDepth 10000
set_option linter.all false
section
namespace Go.Proofs.YtdnlngbjpdbffaaGreatDoor
open Go Go.Sy Go.Nt Go.RowKit
attribute [local irreducible] Sy SyL SyX Sy.Fn callFunc natC
def cmpI (x y:Nat):Int:=if x < y then -1 else if x=y then 0 else 1
theorem zfp (x:Nat):cmpI x x=0:=by unfold cmpI;simp
theorem zeH {x y:Nat}(h:x < y):cmpI x y= -1:=by unfold cmpI;simp [h]
theorem zfV {x y:Nat}(h:y < x):cmpI x y=1:=by unfold cmpI;rw [if_neg q_o,if_neg q_o]
theorem zbu (x:Nat) (w:World) (hx:x < 18446744073709551616 ^ 16):
  Sy.Fn Tryz.prog 284 [natV x] w No (Gives (.int .i64 ((nd 18446744073709551616 x:Nat):Int))):=by
 refine zg Tryz.func284 rfl Tryz.ntmps284 q_p Holds.nil ?_;have hget:=zaK x;have hlen:=ze x;repeat' (first|refine s_t ?_|(refine zb 0 ?_;refine zO ?_;intro _)|(refine zb 1 (za ?_)))
 rename_i b1;refine zy (γ:=Nat) (λi=>[(1,.pointer (some ⟨b1,0,none⟩)),(3,.int .i64 i)]) (λ_=>[.blk b1 131 (natC x)]) (λi=>i<=16/\x < 18446744073709551616 ^ i) (λi=>i) 16 ⟨Nat.le_refl _,hx⟩ ?_ ?_ ?_
 ·exact q_h
 ·exact q_h
 rintro i ⟨hi,hxi⟩;have hfin:(i=0\/x / 18446744073709551616 ^ (i - 1) % 18446744073709551616≠0)->nd 18446744073709551616 x=i:=λh=>by
  refine zbh _ _ _ q_e hxi λhp=>?_;rcases h with h|h
  ·omega
  ·rcases Nat.lt_or_ge x (18446744073709551616 ^ (i - 1)) with hl|hl
   ·rw [Nat.div_eq_of_lt hl] at h;exact absurd rfl h
   ·exact hl
 have hsub:IntKind.i64.wrap ((i:Int) - 1)=((i - 1:Nat):Int)\/i=0:=by
  rcases Nat.eq_zero_or_pos i with h|h
  ·exact .inr h
  ·rw [IntWalk.i64_in _ q_o];exact .inl q_o
 rcases Nat.eq_zero_or_pos i with h0|hpos
 ·have hf:=hfin (.inl h0);subst h0;repeat' (first|refine s_0 ?_|(refine zb 2 (za ?_);refine zak ?_;refine za ?_)|(refine zb 4 (za ?_)))
  exact ret1 rfl (resTmp rfl) SubR.nil ⟨by rw [hf],rfl⟩
 have hs:IntKind.i64.wrap ((i:Int) - 1)=((i - 1:Nat):Int):=by
  rcases hsub with h|h
  ·exact h
  ·omega
 have hd:=hget (i - 1) q_o;by_cases hz:x / 18446744073709551616 ^ (i - 1) % 18446744073709551616=0
 ·rw [hz] at hd;repeat' (first|refine s_t ?_|(refine zb 2 (za ?_);refine zak ?_;refine za ?_;refine yv (zD (hr:=hs)) (k:=?_);refine zw ?_;refine yv (zC (hv:=hd)) (k:=?_);refine zan ?_;refine za ?_)|(refine zb 3 (za ?_);refine yv (zD (hr:=hs)) (k:=za ?_)))
  refine zq (i - 1) ⟨by omega,?_⟩ ?_ ?_ ?_
  ·have:=(Nat.div_lt_iff_lt_mul (x:=x) (y:=18446744073709551616) (k:=18446744073709551616 ^ (i - 1)) (Nat.pow_pos q_e)).2 (by rw [Nat.mul_comm,<-Nat.pow_succ,show (i - 1).succ=i by omega];exact hxi);rcases Nat.lt_or_ge x (18446744073709551616 ^ (i - 1)) with hl|hl
   ·exact hl
   ·rw [Nat.mod_eq_of_lt this] at hz;have:=Nat.div_pos hl (Nat.pow_pos q_e);omega
  ·show i - 1 < i;omega
  ·exact q_h
  ·exact q_h
 ·have hf:=hfin (.inr hz);generalize x / 18446744073709551616 ^ (i - 1) % 18446744073709551616=d at *;repeat' (first|refine s_0 ?_|(refine zb 2 (za ?_);refine zak ?_;refine za ?_;refine yv (zD (hr:=hs)) (k:=?_);refine zw ?_;refine yv (zC (hv:=hd)) (k:=?_);refine yv (zX (a:=((d:Nat):Int)) (hr:=q_f)) (k:=za ?_))|(refine zb 4 (za ?_)))
  exact ret1 rfl (resTmp rfl) SubR.nil ⟨by rw [hf],rfl⟩
theorem zn4 (x y:Nat) (w:World) (hx:x < 18446744073709551616 ^ 16) (hy:y < 18446744073709551616 ^ 16):
  Sy.Fn Tryz.prog 213 [natV x,natV y] w No (Gives (.int .i64 (cmpI x y))):=by
 refine zg Tryz.func213 rfl Tryz.ntmps213 q_p Holds.nil ?_;have hgx:=zaK x;have hgy:=zaK y;have hlx:=ze x;have hly:=ze y;repeat' (first|refine s_t ?_|(refine zb 0 ?_;refine zj ?_;intro _;refine zO ?_;intro _)|(refine zb 1 (za ?_)))
 rename_i b2 b3;refine zy (γ:=Nat) (λi=>[(2,.pointer (some ⟨b2,0,none⟩)),(3,.pointer (some ⟨b3,0,none⟩)),(5,.int .i64 ((i:Int) - 1))]) (λ_=>[.blk b2 131 (natC x),.blk b3 131 (natC y)]) (λi=>i<=16/\x / 18446744073709551616 ^ i=y / 18446744073709551616 ^ i) (λi=>i) 16 ⟨Nat.le_refl _,by rw [Nat.div_eq_of_lt hx,Nat.div_eq_of_lt hy]⟩ ?_ ?_ ?_
 ·exact q_h
 ·exact q_h
 rintro i ⟨hi,he⟩;rcases Nat.eq_zero_or_pos i with h0|hpos
 ·subst h0;simp only [Nat.pow_zero,Nat.div_one] at he;subst he;repeat' (first|refine s_0 ?_|(refine zb 2 (za ?_);refine zad ?_)|(refine zb 8 (za ?_)))
  exact ret1 rfl (resTmp rfl) SubR.nil ⟨by rw [zfp],rfl⟩
 obtain ⟨j,rfl⟩: ∃j,i=j+1:=⟨i - 1,by omega⟩;have hij:(((j+1:Nat):Int) - 1)=((j:Nat):Int):=q_o;have hs:IntKind.i64.wrap ((j:Int) - 1)=(j:Int) - 1:=IntWalk.i64_in _ q_o;rw [hij];have h1:=hgx j q_o;have h2:=hgy j q_o;have hlt:=zde 18446744073709551616 x y j q_e he;have hgt:=zde 18446744073709551616 y x j q_e he.symm;have heq:=zjh 18446744073709551616 x y j he;generalize hdx:x / 18446744073709551616 ^ j % 18446744073709551616=d at *;generalize hdy:y / 18446744073709551616 ^ j % 18446744073709551616=e at *;rcases Nat.lt_trichotomy d e with h|h|h
 ·repeat' (first|refine s_t ?_|(refine zb 2 (za ?_);refine zad ?_)|(refine zM (id:=4) 6 [[],[0],[0,1],[],[3],[3,4],[0,1,2,3,4,5]] mixed ?_ ?_;kernel_rfl;refine zk ?_;refine zK ?_;refine dc (λ_ _=>zC (hv:=h1)) (k:=?_);refine zk ?_;refine zK ?_;refine dc (λ_ _=>zC (hv:=h2)) (k:=?_);refine zY ?_;refine zL ?_)|(refine zb 5 (za ?_)))
  exact ret1 rfl (resTmp rfl) SubR.nil ⟨by rw [zeH (hlt h)],rfl⟩
 ·subst h;repeat' (first|refine s_t ?_|(refine zb 2 (za ?_);refine zad ?_)|(refine zM (id:=4) 6 [[],[0],[0,1],[],[3],[3,4],[0,1,2,3,4,5]] mixed ?_ ?_;kernel_rfl;refine zk ?_;refine zK ?_;refine dc (λ_ _=>zC (hv:=h1)) (k:=?_);refine zk ?_;refine zK ?_;refine dc (λ_ _=>zC (hv:=h2)) (k:=?_);refine zY ?_;refine zL ?_)|(refine zM (id:=6) 6 [[],[0],[0,1],[],[3],[3,4],[0,1,2,3,4,5]] mixed ?_ ?_;kernel_rfl;refine zk ?_;refine zK ?_;refine dc (λ_ _=>zC (hv:=h1)) (k:=?_);refine zk ?_;refine zK ?_;refine dc (λ_ _=>zC (hv:=h2)) (k:=?_);refine zY ?_;refine zak ?_)|(refine zb 3 (za ?_);refine yv (zD (hr:=hs)) (k:=za ?_)))
  refine zq j ⟨by omega,heq rfl⟩ ?_ ?_ ?_
  ·show j < j+1;omega
  ·exact q_h
  ·exact q_h
 ·repeat' (first|refine s_t ?_|(refine zb 2 (za ?_);refine zad ?_)|(refine zM (id:=4) 6 [[],[0],[0,1],[],[3],[3,4],[0,1,2,3,4,5]] mixed ?_ ?_;kernel_rfl;refine zk ?_;refine zK ?_;refine dc (λ_ _=>zC (hv:=h1)) (k:=?_);refine zk ?_;refine zK ?_;refine dc (λ_ _=>zC (hv:=h2)) (k:=?_);refine zY ?_;refine zL ?_)|(refine zM (id:=6) 6 [[],[0],[0,1],[],[3],[3,4],[0,1,2,3,4,5]] mixed ?_ ?_;kernel_rfl;refine zk ?_;refine zK ?_;refine dc (λ_ _=>zC (hv:=h1)) (k:=?_);refine zk ?_;refine zK ?_;refine dc (λ_ _=>zC (hv:=h2)) (k:=?_);refine zY ?_;refine zak ?_)|(refine zb 7 (za ?_)))
  exact ret1 rfl (resTmp rfl) SubR.nil ⟨by rw [zfV (hgt h)],rfl⟩
theorem zbR (x y:Nat) (w:World) (hx:x < 18446744073709551616 ^ 16) (hy:y < 18446744073709551616 ^ 16):
  Sy.Fn Tryz.prog 134 [natV x,natV y] w No (Gives (.int .i64 (cmpI x y))):=by
 refine zg Tryz.func134 rfl Tryz.ntmps134 q_p Holds.nil ?_;have hlx:=ze x;have hly:=ze y;repeat' (first|refine s_0 ?_|(refine zb 0 ?_;refine zj ?_;intro _;refine zO ?_;intro _)|(refine zb 1 (za ?_);refine zm ?_;refine za ?_;refine zm ?_;refine yv (zd (hc:=λ_ _ _ _=>(zn4 x y _ hx hy))) (k:=?_);refine za ?_))
 exact q_r
end Go.Proofs.YtdnlngbjpdbffaaGreatDoor
namespace Go.Proofs.YtdnlngbjpdbffaaGreatDoor
open Go Go.Sy Go.Nt Go.RowKit
theorem natTy:NatTy Tryz.prog 133 131 129 16 where
 und:=by kernel_rfl
 stood:=by kernel_rfl
 flds:=by kernel_rfl
 arr:=⟨_,ty rfl,rfl,rfl⟩
 elem:=⟨_,ty rfl,rfl,rfl⟩
 guard:=by kernel_rfl
theorem natC0:List.replicate 16 (Value.int IntKind.u64 0)=natC 0:=by
 unfold natC;rw [zdF,List.map_replicate];rfl
theorem natC1 (n:Nat) (h:n < 18446744073709551616):Value.int IntKind.u64 (n:Int)::List.replicate 15 (Value.int IntKind.u64 0)=natC n:=by
 unfold natC;rw [dg,Nat.mod_eq_of_lt h,Nat.div_eq_of_lt h,zdF,List.map_cons,List.map_replicate];rfl
theorem natV0:Value.agg (List.replicate 16 (Value.int IntKind.u64 0)).toArray=natV 0:=congrArg (λl:List Value=>Value.agg l.toArray) natC0
theorem zov (n:Nat) (h:n < 18446744073709551616):FillTo (λi=>some (i*1,1)) [(0,Value.int IntKind.u64 (n:Int))] (List.replicate 16 (Value.int IntKind.u64 0)) (natC n):=by
 refine .cons (cs:=[.int .u64 n]) rfl rfl rfl q_e ?_;rw [<-natC1 n h];exact .nil
theorem ziQ (n:Nat):FillTo (nth [(0,16)]) [(0,natV n)] (List.replicate 16 (Value.int IntKind.u64 0)) (natC n):=by
 refine .cons (cs:=natC n) rfl rfl (ze n) q_e ?_;rw [show setSeg (List.replicate 16 (Value.int IntKind.u64 0)) 0 (natC n)=natC n by unfold setSeg;rw [ze];simp];exact .nil
section
variable {ro:Option Nat}{N:Nat}{w0:World}{M:Nat->Prop}{ds:List Deferred}{g:Nat->Option Value}{L:List Res}{o:Oper}{t':TypeId}{x z:Operand}
theorem zdp {n:Nat}(ho:o.op= .build 133 #[(0,z)]:=by exact rfl) (hz:ev g z=some (natV n):=by exact rfl):OpT Tryz.prog ro N w0 M ds o g L (Det (natV n) L):=
 zed (parts:=#[(0,z)]) (vs:=[natV n]) (C:=natC n) (ziQ n) ho (by simp [evs,hz]) (ty rfl) rfl rfl (zc rfl)
theorem zkx {n:Nat}(hn:n < 18446744073709551616:=by omega) (ho:o.op= .build 131 #[(0,z)]:=by exact rfl) (hz:ev g z=some (.int .u64 (n:Int)):=by exact rfl):OpT Tryz.prog ro N w0 M ds o g L (Det (natV n) L):=
 zlL (parts:=#[(0,z)]) (n:=16) (e:=129) (vs:=[.int .u64 n]) (C:=natC n) (ty rfl) (zov n hn) ho (by simp [evs,hz]) (ty rfl) rfl (zc rfl)
theorem zi {t:TypeId}{b T n:Nat}{C:List Value}{y:Ty}{L':List Res}(ho:o.op= .store t x z:=by exact rfl) (hx:ev g x=some (.pointer (some ⟨b,0,none⟩)):=by exact rfl) (hz:ev g z=some (natV n):=by exact rfl) (ht:tyOf Tryz.prog t=some y:=by exact ty rfl) (h1:y.size=16:=by exact rfl)
  (hL:Upd L (.blk b T C) (.blk b T (natC n)) L':=by repeat (first|exact Upd.here|apply Upd.there)) (hC:C.length=16:=by first|exact ze _|rfl|assumption|(simp;done)|fail):OpT Tryz.prog ro N w0 M ds o g L (Det undef L'):=
 zE (B:=natC n) ho hx hz ht (by rw [h1,ze]) (zcY n) hL (by rw [hC,ze])
theorem zrA {n:Nat}{r:Bool}(hn:n < 18446744073709551616 ^ 16) (hr:decide (n=0)=r) (ho:o.op= .binOp .eql 133 x z t':=by exact rfl) (hx:ev g x=some (natV n):=by exact rfl) (hz:ev g z=some (.agg (List.replicate 16 (Value.int IntKind.u64 0)).toArray):=by exact rfl):OpT Tryz.prog ro N w0 M ds o g L (Det (.bool r) L):=
 zjb natTy hn q_e hr ho hx (natV0 ▸ hz)
end
attribute [local irreducible] Sy SyL SyX Sy.Fn callFunc natC
theorem zbP (x:Nat) (w:World) (hx:x < 18446744073709551616 ^ 16):
  Sy.Fn Tryz.prog 101 [natV x] w No (Gives (.bool (decide (x=0)))):=by
 refine zg Tryz.func101 rfl Tryz.ntmps101 q_p Holds.nil ?_;have hlx:=ze x;repeat' (first|refine s_0 ?_|(refine zb 0 ?_;refine zO ?_;intro _)|(refine zb 1 ?_;refine zm ?_;refine za4 ?_;refine yv (zrA (n:=x) hx rfl) (k:=za ?_)))
 exact q_r
theorem zeJ (n:Nat) (w:World) (hn:n < 9223372036854775808):
  Sy.Fn Tryz.prog 191 [.int .i64 n] w No (Gives (.tuple #[natV n,.int .i64 0])):=by
 refine zg Tryz.func191 rfl Tryz.ntmps191 q_p Holds.nil ?_;have hlen:=ze n;repeat' (first|refine s_0 ?_|(refine zb 0 ?_;refine zO ?_;intro _)|(refine zb 1 (za ?_);refine zL ?_)|(refine zb 3 (za ?_);refine zee ?_;refine yv (zkx (n:=n)) (k:=?_);refine yv (zdp (n:=n)) (k:=?_);refine yn (zi (n:=n)) (k:=za ?_)))
 exact ret2 rfl (resCells rfl (ty rfl) rfl Has.go Seg.all (by first|rfl|(simp only [List.length_map,List.length_set,List.length_replicate,List.length_append];omega)|(simp only [List.length_map];first|assumption|omega)|(simp;omega)|fail)) (resTmp rfl) SubR.nil ⟨rfl,rfl⟩
end Go.Proofs.YtdnlngbjpdbffaaGreatDoor
namespace Go.Sy
open Go
section
variable {P:Program}{ro:Option Nat}{N:Nat}{w0:World}{M:Nat->Prop}{ds:List Deferred}{g:Nat->Option Value}{L:List Res}{o:Oper}
theorem zbM {fo:Operand}{args:Array Operand}{tys:Array TypeId}{f:Nat}{vs:List Value}{v:Value}
  (hr: ∀w,(callFunc f vs.toArray).run P w= .ok (.value v) w) (ho:o.op= .call { callee:=.value fo,args:=args,argTypes:=tys } :=by exact rfl) (hf:ev g fo=some (.func (.func f) #[] #[]):=by exact rfl) (ha:evs g args.toList=some vs:=by exact rfl):OpT P ro N w0 M ds o g L (Det v L):=
 OpT.still (by rw [ho];rfl) λa w X hs=>by
  have hargs:args.map a.eval=vs.toArray:=Array.toList_inj.1 (by rw [Array.toList_map,hs.agr.evals ha]);simp only [execOp,ho,resolve,hs.agr.eval hf,Deferred.ofValue,hargs,Sem.run_bind,Sem.run_pure,Result.andThen_ok,invoke];rw [show (#[] ++ vs.toArray ++ #[]:Array Value)=vs.toArray by simp];exact hr w
end
end Go.Sy
namespace Go.Proofs.YtdnlngbjpdbffaaGreatDoor
open Go Go.Sy Go.Nt Go.RowKit
theorem zbq (x y c:Nat) (hc:c<=1) (w:World):(callFunc 308 [nv x,nv y,nv c].toArray).run Tryz.prog w= .ok (.value (.tuple #[nv ((x+y+c) % 18446744073709551616),nv ((x+y+c) / 18446744073709551616)])) w:=by
 show (callFunc 308 #[.int .u64 x,.int .u64 y,.int .u64 c]).run Tryz.prog w=_;rw [run_callFunc_extern Tryz.func308 (by kernel_rfl) (by kernel_rfl) (by kernel_rfl) (e:=add64Entry) (by kernel_rfl),run_add64 x y c q_o q_o q_o q_o];simp only [Result.andThen,nv];congr 5 <;> omega
theorem zeU (x y b:Nat) (hb:b<=1) (w:World):(callFunc 306 [nv x,nv y,nv b].toArray).run Tryz.prog w= .ok (.value (.tuple #[nv ((x+18446744073709551616 - y - b) % 18446744073709551616),nv (if x < y+b then 1 else 0)])) w:=by
 show (callFunc 306 #[.int .u64 x,.int .u64 y,.int .u64 b]).run Tryz.prog w=_;rw [run_callFunc_extern Tryz.func306 (by kernel_rfl) (by kernel_rfl) (by kernel_rfl) (e:=sub64Entry) (by kernel_rfl),run_sub64 x y b hb];rfl
attribute [local irreducible] Sy SyL SyX Sy.Fn callFunc natC
theorem zrc (B x y c:Nat) (w:World) (hc:c<=1) (hC:(Res.blk B 129 [nv c]).holds w):
  Sy.Fn Tryz.prog 307 [nv x,nv y,.pointer (some ⟨B,0,none⟩)] w (λx=>x=B) (λv R=>v=nv ((x+y+c) % 18446744073709551616)/\R= [.blk B 129 [nv ((x+y+c) / 18446744073709551616)]]):=by
 have hL0:Holds w.heap.size (λx=>x=B) [.blk B 129 [nv c]] w:=⟨λx hx=>by obtain rfl:=List.mem_singleton.1 hx;exact hC,List.pairwise_singleton _ _,λx hx y hy=>by obtain rfl:=List.mem_singleton.1 hx;exact .inr (Eq.symm hy)⟩;refine zg Tryz.func307 rfl Tryz.ntmps307 q_p hL0 ?_;repeat' (first|refine s_0 ?_|(refine zB [0,2] ?_;refine za ?_)|(refine zb 1 (za ?_);refine zm ?_;refine yv (zbM (hr:=zbq x y c hc)) (k:=za ?_);refine zI ?_))
 exact ret1 rfl (resTmp rfl) q_h ⟨rfl,rfl⟩
theorem zrb (B x y c:Nat) (w:World) (hc:c<=1) (hC:(Res.blk B 129 [nv c]).holds w):
  Sy.Fn Tryz.prog 305 [nv x,nv y,.pointer (some ⟨B,0,none⟩)] w (λx=>x=B) (λv R=>v=nv ((x+18446744073709551616 - y - c) % 18446744073709551616)/\R= [.blk B 129 [nv (if x < y+c then 1 else 0)]]):=by
 have hL0:Holds w.heap.size (λx=>x=B) [.blk B 129 [nv c]] w:=⟨λx hx=>by obtain rfl:=List.mem_singleton.1 hx;exact hC,List.pairwise_singleton _ _,λx hx y hy=>by obtain rfl:=List.mem_singleton.1 hx;exact .inr (Eq.symm hy)⟩;refine zg Tryz.func305 rfl Tryz.ntmps305 q_p hL0 ?_;repeat' (first|refine s_0 ?_|(refine zB [0,2] ?_;refine za ?_)|(refine zb 1 (za ?_);refine zm ?_;refine yv (zbM (hr:=zeU x y c hc)) (k:=za ?_);refine zI ?_))
 exact ret1 rfl (resTmp rfl) q_h ⟨rfl,rfl⟩
end Go.Proofs.YtdnlngbjpdbffaaGreatDoor
namespace Go.Proofs.YtdnlngbjpdbffaaGreatDoor
open Go Go.Sy Go.Nt Go.RowKit
attribute [local irreducible] Sy SyL SyX Sy.Fn callFunc natC
theorem zkQ (f B x y:Nat) (z k:Nat->Nat->Nat->Nat) (J:Nat->List Nat->Nat->Prop) (w:World)
  (hen: ∀args w,(callFunc f args).run Tryz.prog w= .ok (.enter f args) w)
  (hf: ∀a d c w,c<=1->(Res.blk B 129 [nv c]).holds w->Sy.Fn Tryz.prog f [nv a,nv d,.pointer (some ⟨B,0,none⟩)] w (λx=>x=B) (λv R=>v=nv (z a d c)/\R= [.blk B 129 [nv (k a d c)]]))
  (h0:J 0 (dg 18446744073709551616 16 x) 0)
  (hJ: ∀i l c,i < 16->J i l c->c<=1/\l.length=16/\l[i]?=some (x / 18446744073709551616 ^ i % 18446744073709551616)/\J (i+1) (l.set i (z (x / 18446744073709551616 ^ i % 18446744073709551616) (y / 18446744073709551616 ^ i % 18446744073709551616) c)) (k (x / 18446744073709551616 ^ i % 18446744073709551616) (y / 18446744073709551616 ^ i % 18446744073709551616) c))
  (hC:(Res.blk B 129 [nv 0]).holds w):
  Sy.Fn Tryz.prog 304 [natV x,natV y,.func (.func f) #[] #[.pointer (some ⟨B,0,none⟩)]] w (λx=>x=B) (λv R=>∃l c,J 16 l c/\l.length=16/\v= .agg (l.map nv).toArray/\R= [.blk B 129 [nv c]]):=by
 have hL0:Holds w.heap.size (λx=>x=B) [.blk B 129 [nv 0]] w:=⟨λx hx=>by obtain rfl:=List.mem_singleton.1 hx;exact hC,List.pairwise_singleton _ _,λx hx y hy=>by obtain rfl:=List.mem_singleton.1 hx;exact .inr (Eq.symm hy)⟩;refine zg Tryz.func304 rfl Tryz.ntmps304 q_p hL0 ?_;have hly:=ze y;have hlx:natC x=(dg 18446744073709551616 16 x).map nv:=by unfold natC;rfl
 have hgy:=zaK y;repeat' (first|refine s_t ?_|(refine zb 0 ?_;refine zj ?_;intro _;refine zj ?_;intro _;refine zj ?_;intro _)|(refine zb 1 (za ?_)))
 rename_i b3 b4 b6;refine zy (γ:=Nat×List Nat×Nat) (λg=>[(2,.func (.func f) #[] #[.pointer (some ⟨B,0,none⟩)]),(3,.pointer (some ⟨b3,0,none⟩)),(4,.pointer (some ⟨b4,0,none⟩)),(6,.pointer (some ⟨b6,0,none⟩)),(8,.int .i64 g.1)])
  (λg=>[.blk B 129 [nv g.2.2],.blk b3 131 (g.2.1.map nv),.blk b4 131 (natC y),.blk b6 131 (List.replicate 16 (Value.int IntKind.u64 0))])
  (λg=>g.1<=16/\g.2.1.length=16/\J g.1 g.2.1 g.2.2) (λg=>16 - g.1) (0,dg 18446744073709551616 16 x,0) ⟨Nat.zero_le _,zbo _ _ _,h0⟩ ?_ ?_ ?_
 ·exact q_h
 ·show SubR [.blk B 129 [nv 0],.blk b3 131 ((dg 18446744073709551616 16 x).map nv),.blk b4 131 (natC y),.blk b6 131 (List.replicate 16 (Value.int IntKind.u64 0))] _;rw [<-hlx];exact q_h
 rintro ⟨i,l,c⟩ ⟨hi,hl,hj⟩;dsimp only at hi hl hj ⊢;by_cases hlt:i < 16
 ·obtain ⟨hc1,-,hli,hJ'⟩:=hJ i l c hlt hj;have hd1:(l.map nv)[i]?=some (nv (x / 18446744073709551616 ^ i % 18446744073709551616)):=by rw [List.getElem?_map,hli];rfl
  have hd2:=hgy i hlt;have hml:(l.map nv).length=16:=by rw [List.length_map,hl]
  generalize x / 18446744073709551616 ^ i % 18446744073709551616=a at *;generalize y / 18446744073709551616 ^ i % 18446744073709551616=d at *;repeat' (first|refine s_t ?_|(refine zb 2 ?_;refine zL ?_)|(refine zb 3 (za ?_)))
  refine zbj (id:=4) mixed ?_
  (refine zbi 9 9 [[],[],[],[2],[2,3],[],[5],[5,6],[1,2,3,4,5,6,7],[0,1,2,3,4,5,6,7,8],[0,1,2,3,4,5,6,7,8,9]] [[],[],[],[],[],[],[],[],[],[],[]] (some 8) rfl ?_ ?_ ?_;kernel_rfl;kernel_rfl;refine zaq ?_;refine zaq ?_;refine zaq ?_;refine zbt ?_;refine dcE (λ_ _=>zC (hv:=hd1)) (k:=?_);refine zaq ?_;refine zbt ?_;refine dcE (λ_ _=>zC (hv:=hd2)) (k:=?_);try refine dh_0nE (h:=?_))
  refine zcp (R:=λ_ v Nw=>v=nv (z a d c)/\Nw= [.blk B 129 [nv (k a d c)],.blk b3 131 (l.map nv),.blk b4 131 (natC y),.blk b6 131 (List.replicate 16 (Value.int IntKind.u64 0))]) (λ_ _ _=>rfl)
   (λρ hρ=>OpT.mono (ziS (b:=B) (T:=129) (C:=[nv c]) (C':=[nv (k a d c)]) (v:=nv (z a d c)) (vs:=[nv a,nv d]) (cap:=[.pointer (some ⟨B,0,none⟩)]) (he:=hen) (hL:=Upd.here) (hc:=λw' X hk hh=>hf a d c w' hc1 (hh.has (by exact Has.append Has.here)))) λv L' h=>?_) (h:=?_)
  ·obtain ⟨rfl,rfl⟩:=h;exact ⟨_,(List.append_nil _).symm,rfl,rfl⟩
  refine zco (h:=?_);rintro ρ ⟨⟨e,f'⟩,-⟩
  (refine zbk [[],[],[],[2],[2,3],[],[5],[5,6],[1,2,3,4,5,6,7],[0,1,2,3,4,5,6,7,8],[0,1,2,3,4,5,6,7,8,9]] ?_ ?_;kernel_rfl)
  have e:(ρ 8).1=nv (z a d c):=e;have f':(ρ 8).2= [.blk B 129 [nv (k a d c)],.blk b3 131 (l.map nv),.blk b4 131 (natC y),.blk b6 131 (List.replicate 16 (Value.int IntKind.u64 0))]:=f';refine SyL.weaken (fr':=[(19,nv (z a d c)),(11,.int .i64 i),(2,.func (.func f) #[] #[.pointer (some ⟨B,0,none⟩)]),(3,.pointer (some ⟨b3,0,none⟩)),(4,.pointer (some ⟨b4,0,none⟩)),(6,.pointer (some ⟨b6,0,none⟩)),(8,.int .i64 i)])
   (L':=[.blk B 129 [nv (k a d c)],.blk b3 131 (l.map nv),.blk b4 131 (natC y),.blk b6 131 (List.replicate 16 (Value.int IntKind.u64 0))]) ?_ ?_ ?_
  ·repeat' (first|refine s_0 ?_|(refine zb 5 ?_;refine zaj ?_;refine za ?_)|(refine zP ?_;first|refine zw ?_|refine zI ?_|fail)|fail)
   refine zq (i+1,l.set i (z a d c),k a d c) ⟨by show i+1<=16;omega,by rw [List.length_set,hl],hJ'⟩ ?_ ?_ ?_
   ·show 16 - (i+1) < 16 - i;omega
   ·exact q_h
   ·show SubR [.blk B 129 [nv (k a d c)],.blk b3 131 ((l.set i (z a d c)).map nv),.blk b4 131 (natC y),.blk b6 131 (List.replicate 16 (Value.int IntKind.u64 0))] _;rw [List.map_set];exact q_h
  ·(repeat' (first|exact Sub.nil|refine Sub.cons rfl ?_ ?_|rfl))
   exact e
  ·show SubR _ ((ρ 8).2 ++ []);rw [f'];exact q_h
 obtain rfl:i=16:=q_o;repeat' (first|refine s_0 ?_|(refine zb 2 ?_;refine zL ?_)|(refine zb 6 ?_;refine zm ?_;refine zI ?_))
 exact ret1 rfl (resCells (B:=l.map nv) rfl (ty rfl) rfl Has.go Seg.all (by rw [List.length_map,hl])) q_h ⟨l,c,hj,hl,rfl,rfl⟩
theorem zom (B x y:Nat) (w:World) (hx:x < 18446744073709551616 ^ 16) (hy:y < 18446744073709551616 ^ 16) (hC:(Res.blk B 129 [nv 0]).holds w):
  Sy.Fn Tryz.prog 304 [natV x,natV y,.func (.func 307) #[] #[.pointer (some ⟨B,0,none⟩)]] w (λx=>x=B) (λv R=>∃s c,s < 18446744073709551616 ^ 16/\s+c*18446744073709551616 ^ 16=x+y/\v=natV s/\R= [.blk B 129 [nv c]]):=by
 refine Sy.Fn.mono (zkQ 307 B x y (λa d c=>(a+d+c) % 18446744073709551616) (λa d c=>(a+d+c) / 18446744073709551616) (AddJ 18446744073709551616 16 x y) w (en rfl)
  (λa d c w hc hC=>zrc B a d c w hc hC) (AddJ.start _ _ _ _ q_e hx) (λi l c hi h=>⟨h.bit,h.len,h.rest i (Nat.le_refl _) hi,?_⟩) hC) ?_
 ·have hm:x / 18446744073709551616 ^ i % 18446744073709551616 < 18446744073709551616:=Nat.mod_lt _ q_e;have hm':y / 18446744073709551616 ^ i % 18446744073709551616 < 18446744073709551616:=Nat.mod_lt _ q_e;have hb:=h.bit;refine h.step hi (Nat.mod_lt _ q_e) ?_ ?_
  ·generalize x / 18446744073709551616 ^ i % 18446744073709551616=a at *;generalize y / 18446744073709551616 ^ i % 18446744073709551616=d at *;omega
  ·omega
 ·rintro v R ⟨l,c,h,hl,rfl,rfl⟩;obtain ⟨h1,h2,h3⟩:=h.done hy;exact ⟨_,c,h2,h3,by unfold natV natC;rw [<-h1],rfl⟩
theorem zoa (B x y:Nat) (w:World) (hx:x < 18446744073709551616 ^ 16) (hy:y < 18446744073709551616 ^ 16) (hC:(Res.blk B 129 [nv 0]).holds w):
  Sy.Fn Tryz.prog 304 [natV x,natV y,.func (.func 305) #[] #[.pointer (some ⟨B,0,none⟩)]] w (λx=>x=B) (λv R=>∃s c,s < 18446744073709551616 ^ 16/\s+y=x+c*18446744073709551616 ^ 16/\v=natV s/\R= [.blk B 129 [nv c]]):=by
 refine Sy.Fn.mono (zkQ 305 B x y (λa d c=>(a+18446744073709551616 - d - c) % 18446744073709551616) (λa d c=>if a < d+c then 1 else 0) (SubJ 18446744073709551616 16 x y) w (en rfl)
  (λa d c w hc hC=>zrb B a d c w hc hC) (SubJ.start _ _ _ _ q_e hx) (λi l c hi h=>⟨h.bit,h.len,h.rest i (Nat.le_refl _) hi,?_⟩) hC) ?_
 ·have hm:x / 18446744073709551616 ^ i % 18446744073709551616 < 18446744073709551616:=Nat.mod_lt _ q_e;have hm':y / 18446744073709551616 ^ i % 18446744073709551616 < 18446744073709551616:=Nat.mod_lt _ q_e;have hb:=h.bit;refine h.step hi (Nat.mod_lt _ q_e) ?_ ?_
  ·split <;> omega
  ·generalize x / 18446744073709551616 ^ i % 18446744073709551616=a at *;generalize y / 18446744073709551616 ^ i % 18446744073709551616=d at *;split <;> omega
 ·rintro v R ⟨l,c,h,hl,rfl,rfl⟩;obtain ⟨h1,h2,h3⟩:=h.done hy;exact ⟨_,c,h2,h3,by unfold natV natC;rw [<-h1],rfl⟩
theorem znF (x y:Nat) (w:World) (hx:x < 18446744073709551616 ^ 16) (hy:y < 18446744073709551616 ^ 16):
  Sy.Fn Tryz.prog 273 [natV x,natV y] w No (Gives (if x+y < 18446744073709551616 ^ 16 then .tuple #[natV (x+y),.int .i64 0] else .tuple #[natV 0,.int .i64 7])):=by
 refine zg Tryz.func273 rfl Tryz.ntmps273 q_p Holds.nil ?_;have hlx:=ze x;have hly:=ze y;repeat' (first|refine s_0 ?_|(refine zb 0 ?_;refine zj ?_;intro _;refine zj ?_;intro _;refine zO ?_;intro _)|(refine zb 1 ?_;refine zj ?_;intro _)|(refine zb 2 (za ?_);refine zm ?_;refine za ?_;refine zm ?_;refine zaa ?_))
 rename_i b2 b3 b4 b6;refine ys (zcH (vs:=[natV x,natV y,.func (.func 307) #[] #[.pointer (some ⟨b6,0,none⟩)]]) (cap:=[]) (C:=[.blk b6 129 [nv 0]]) (M':=λx=>x=b6) (hC:=RemL.cons Rem.here rfl RemL.nil) (hM:=λb hb=>⟨_,List.mem_singleton.2 rfl,hb.symm⟩) (hc:=λw' X hk hh=>zom b6 x y w' hx hy (hh.has (by exact Has.append Has.here)))) (k:=?_);rintro _ _ ⟨R,rfl,s,c,hs,e,rfl,rfl⟩;have hls:=ze s;by_cases hc:c=0
 ·subst hc;obtain rfl:s=x+y:=q_o;repeat' (first|refine s_0 ?_|(refine zb 3 ?_;refine zm ?_;refine z8 ?_)|(refine zb 5 ?_;refine zm ?_;refine yv (zdp (n:=x+y)) (k:=?_);refine yn (zi (n:=x+y)) (k:=za ?_))|(refine zP ?_;first|refine yn (zi (n:=x+y)) (k:=?_)|(refine zj ?_;intro _)|fail)|fail)
  rw [if_pos q_o];exact ret2 rfl (resCells (B:=natC (x+y)) rfl (ty rfl) rfl Has.go Seg.all (ze _).symm) (resTmp rfl) SubR.nil ⟨rfl,rfl⟩
 ·repeat' (first|refine s_0 ?_|(refine zb 3 ?_;refine zm ?_;refine z8 ?_)|(refine zb 4 ?_;refine za4 ?_;refine zI ?_;refine za ?_)|(refine zP ?_;first|refine yn (zi (n:=s)) (k:=?_)|(refine zj ?_;intro _)|fail)|fail)
  have hov:18446744073709551616 ^ 16<=c*18446744073709551616 ^ 16:=Nat.le_mul_of_pos_left _ q_o;rw [if_neg q_o];exact ret2 rfl (resCells (B:=List.replicate 16 (Value.int IntKind.u64 0)) rfl (ty rfl) rfl Has.go Seg.all rfl) (resTmp rfl) SubR.nil ⟨by rw [<-natV0],rfl⟩
theorem zhj (x y:Nat) (w:World) (hx:x < 18446744073709551616 ^ 16) (hy:y < 18446744073709551616 ^ 16):
  Sy.Fn Tryz.prog 272 [natV x,natV y] w No (Gives (if y<=x then .tuple #[natV (x - y),.int .i64 0] else .tuple #[natV 0,.int .i64 3])):=by
 refine zg Tryz.func272 rfl Tryz.ntmps272 q_p Holds.nil ?_;have hlx:=ze x;have hly:=ze y;repeat' (first|refine s_0 ?_|(refine zb 0 ?_;refine zj ?_;intro _;refine zj ?_;intro _;refine zO ?_;intro _)|(refine zb 1 ?_;refine zj ?_;intro _)|(refine zb 2 (za ?_);refine zm ?_;refine za ?_;refine zm ?_;refine zaa ?_))
 rename_i b2 b3 b4 b6;refine ys (zcH (vs:=[natV x,natV y,.func (.func 305) #[] #[.pointer (some ⟨b6,0,none⟩)]]) (cap:=[]) (C:=[.blk b6 129 [nv 0]]) (M':=λx=>x=b6) (hC:=RemL.cons Rem.here rfl RemL.nil) (hM:=λb hb=>⟨_,List.mem_singleton.2 rfl,hb.symm⟩) (hc:=λw' X hk hh=>zoa b6 x y w' hx hy (hh.has (by exact Has.append Has.here)))) (k:=?_);rintro _ _ ⟨R,rfl,s,c,hs,e,rfl,rfl⟩;have hls:=ze s;by_cases hc:c=0
 ·subst hc;obtain rfl:s=x - y:=q_o;repeat' (first|refine s_0 ?_|(refine zb 3 ?_;refine zm ?_;refine z8 ?_)|(refine zb 5 ?_;refine zm ?_;refine yv (zdp (n:=x - y)) (k:=?_);refine yn (zi (n:=x - y)) (k:=za ?_))|(refine zP ?_;first|refine yn (zi (n:=x - y)) (k:=?_)|(refine zj ?_;intro _)|fail)|fail)
  rw [if_pos q_o];exact ret2 rfl (resCells (B:=natC (x - y)) rfl (ty rfl) rfl Has.go Seg.all (ze _).symm) (resTmp rfl) SubR.nil ⟨rfl,rfl⟩
 ·repeat' (first|refine s_0 ?_|(refine zb 3 ?_;refine zm ?_;refine z8 ?_)|(refine zb 4 ?_;refine za4 ?_;refine zI ?_;refine za ?_)|(refine zP ?_;first|refine yn (zi (n:=s)) (k:=?_)|(refine zj ?_;intro _)|fail)|fail)
  have hov:18446744073709551616 ^ 16<=c*18446744073709551616 ^ 16:=Nat.le_mul_of_pos_left _ q_o;rw [if_neg q_o];exact ret2 rfl (resCells (B:=List.replicate 16 (Value.int IntKind.u64 0)) rfl (ty rfl) rfl Has.go Seg.all rfl) (resTmp rfl) SubR.nil ⟨by rw [<-natV0],rfl⟩
end Go.Proofs.YtdnlngbjpdbffaaGreatDoor
end
