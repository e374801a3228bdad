/- Digits: length, order. -/
import Derived.Test.YtcpjfilcilcekaaGreatDoorYJ07
import Derived.Test.YtcpjfilcilcekaaGreatDoorYJ06
import Derived.Test.YtcpjfilcilcekaaGreatDoorYJ08
import Derived.Shelf.Spec.BitsCarry
set_option linter.all false
section
namespace Go.Proofs.YtcpjfilcilcekaaGreatDoor
open Go Go.Sy Go.Nt Go.RowKit
attribute [local irreducible] Sy SyL SyX Sy.Fn callFunc natC
set_option maxRecDepth 10000
def cmpI (x y:Nat):Int:=if x < y then -1 else if x=y then 0 else 1
theorem zcF (x:Nat):cmpI x x=0:=by unfold cmpI;simp
theorem zeI {x y:Nat}(h:x < y):cmpI x y= -1:=by unfold cmpI;simp [h]
theorem zdL {x y:Nat}(h:y < x):cmpI x y=1:=by unfold cmpI;rw [if_neg (by omega),if_neg (by omega)]
theorem zbn (x:Nat) (w:World) (hx:x < 18446744073709551616 ^ 16):
  Sy.Fn Tryz.prog 141 [natV x] w No (Gives (.int .i64 ((nd 18446744073709551616 x:Nat):Int))):=by
 refine zk Tryz.func141 rfl Tryz.ntmps141 (by simp) Holds.nil ?_
 have hget:=zaQ x
 have hlen:=ze x
 repeat' (first|refine s_t ?_|(refine za (id:=0) ?_;(refine zi ?_;intro _);refine zd ?_)|(refine za (id:=1) ?_;refine zd ?_)|fail)
 rename_i b1
 refine zE (γ:=Nat) (λi=>[(1,.pointer (some ⟨b1,0,none⟩)),(3,.int .i64 i)]) (λ_=>[.blk b1 71 (natC x)]) (λi=>i<=16/\x < 18446744073709551616 ^ i) (λi=>i) 16 ⟨Nat.le_refl _,hx⟩ ?_ ?_ ?_
 ·exact Sub.go
 ·exact SubR.go
 rintro i ⟨hi,hxi⟩
 have hfin:(i=0\/x / 18446744073709551616 ^ (i - 1) % 18446744073709551616≠0)->nd 18446744073709551616 x=i:=λh=>by
  refine zbz _ _ _ (by decide) hxi λhp=>?_
  rcases h with h|h
  ·omega
  ·rcases Nat.lt_or_ge x (18446744073709551616 ^ (i - 1)) with hl|hl
   ·rw [Nat.div_eq_of_lt hl] at h;exact absurd rfl h
   ·exact hl
 have hsub:IntKind.i64.wrap ((i:Int) - 1)=((i - 1:Nat):Int)\/i=0:=by
  rcases Nat.eq_zero_or_pos i with h|h
  ·exact .inr h
  ·rw [IntWalk.i64_in _ (by omega)];exact .inl (by omega)
 rcases Nat.eq_zero_or_pos i with h0|hpos
 ·have hf:=hfin (.inl h0)
  subst h0
  repeat' (first|refine s_0 ?_|(refine za (id:=2) ?_;refine zb ?_;refine zaa ?_;refine zb ?_;refine zj rfl rfl rfl ?_;refine zj rfl rfl rfl ?_;refine zj rfl rfl rfl ?_;refine zj rfl rfl rfl ?_;refine zj rfl rfl rfl ?_;refine zo ?_)|(refine za (id:=4) ?_;refine zb ?_;refine zd ?_)|fail)
  exact ret1 rfl (resTmp rfl) SubR.nil ⟨by rw [hf],rfl⟩
 have hs:IntKind.i64.wrap ((i:Int) - 1)=((i - 1:Nat):Int):=by
  rcases hsub with h|h
  ·exact h
  ·omega
 have hd:=hget (i - 1) (by omega)
 by_cases hz:x / 18446744073709551616 ^ (i - 1) % 18446744073709551616=0
 ·rw [hz] at hd
  repeat' (first|refine s_t ?_|(refine za (id:=2) ?_;refine zb ?_;refine zaa ?_;refine zb ?_;refine zb ?_;refine yv (zJ (hr:=hs)) (k:=?_);refine zr ?_;refine yv (zw (hv:=hd)) (k:=?_);refine zX ?_;refine zo ?_)|(refine za (id:=3) ?_;refine zb ?_;refine yv (zJ (hr:=hs)) (k:=?_);refine zd ?_)|fail)
  refine zy (i - 1) ⟨by omega,?_⟩ ?_ ?_ ?_
  ·have:=(Nat.div_lt_iff_lt_mul (x:=x) (y:=18446744073709551616) (k:=18446744073709551616 ^ (i - 1)) (Nat.pow_pos (by decide))).2 (by rw [Nat.mul_comm,<-Nat.pow_succ,show (i - 1).succ=i by omega];exact hxi)
   rcases Nat.lt_or_ge x (18446744073709551616 ^ (i - 1)) with hl|hl
   ·exact hl
   ·rw [Nat.mod_eq_of_lt this] at hz
    have:=Nat.div_pos hl (Nat.pow_pos (by decide))
    omega
  ·show i - 1 < i;omega
  ·exact Sub.go
  ·exact SubR.go
 ·have hf:=hfin (.inr hz)
  generalize x / 18446744073709551616 ^ (i - 1) % 18446744073709551616=d at *
  repeat' (first|refine s_0 ?_|(refine za (id:=2) ?_;refine zb ?_;refine zaa ?_;refine zb ?_;refine zb ?_;refine yv (zJ (hr:=hs)) (k:=?_);refine zr ?_;refine yv (zw (hv:=hd)) (k:=?_);refine yv (z8 (a:=((d:Nat):Int)) (hr:=decide_eq_false (by omega))) (k:=?_);refine zo ?_)|(refine za (id:=4) ?_;refine zb ?_;refine zd ?_)|fail)
  exact ret1 rfl (resTmp rfl) SubR.nil ⟨by rw [hf],rfl⟩
theorem zoL (x y:Nat) (w:World) (hx:x < 18446744073709551616 ^ 16) (hy:y < 18446744073709551616 ^ 16):
  Sy.Fn Tryz.prog 157 [natV x,natV y] w No (Gives (.int .i64 (cmpI x y))):=by
 refine zk Tryz.func157 rfl Tryz.ntmps157 (by simp) Holds.nil ?_
 have hgx:=zaQ x
 have hgy:=zaQ y
 have hlx:=ze x
 have hly:=ze y
 repeat' (first|refine s_t ?_|(refine za (id:=0) ?_;(refine zi ?_;intro _);(refine zi ?_;intro _);refine zd ?_)|(refine za (id:=1) ?_;refine zd ?_)|fail)
 rename_i b2 b3
 refine zE (γ:=Nat) (λi=>[(2,.pointer (some ⟨b2,0,none⟩)),(3,.pointer (some ⟨b3,0,none⟩)),(5,.int .i64 ((i:Int) - 1))]) (λ_=>[.blk b2 71 (natC x),.blk b3 71 (natC y)]) (λi=>i<=16/\x / 18446744073709551616 ^ i=y / 18446744073709551616 ^ i) (λi=>i) 16 ⟨Nat.le_refl _,by rw [Nat.div_eq_of_lt hx,Nat.div_eq_of_lt hy]⟩ ?_ ?_ ?_
 ·exact Sub.go
 ·exact SubR.go
 rintro i ⟨hi,he⟩
 rcases Nat.eq_zero_or_pos i with h0|hpos
 ·subst h0
  simp only [Nat.pow_zero,Nat.div_one] at he
  subst he
  repeat' (first|refine s_0 ?_|(refine za (id:=2) ?_;refine zb ?_;refine zac ?_)|(refine za (id:=8) ?_;refine zd ?_)|fail)
  exact ret1 rfl (resTmp rfl) SubR.nil ⟨by rw [zcF],rfl⟩
 obtain ⟨j,rfl⟩: ∃j,i=j+1:=⟨i - 1,by omega⟩
 have hij:(((j+1:Nat):Int) - 1)=((j:Nat):Int):=by omega
 have hs:IntKind.i64.wrap ((j:Int) - 1)=(j:Int) - 1:=IntWalk.i64_in _ (by omega)
 rw [hij]
 have h1:=hgx j (by omega)
 have h2:=hgy j (by omega)
 have hlt:=zdm 18446744073709551616 x y j (by decide) he
 have hgt:=zdm 18446744073709551616 y x j (by decide) he.symm
 have heq:=ziV 18446744073709551616 x y j he
 generalize hdx:x / 18446744073709551616 ^ j % 18446744073709551616=d at *
 generalize hdy:y / 18446744073709551616 ^ j % 18446744073709551616=e at *
 rcases Nat.lt_trichotomy d e with h|h|h
 ·repeat' (first|refine s_t ?_|(refine za (id:=2) ?_;refine zb ?_;refine zac ?_)|(refine zK (id:=4) 6 [[],[0],[0,1],[],[3],[3,4],[0,1,2,3,4,5]] mixed ?_ ?_;kernel_rfl;refine zp ?_;refine zH ?_;refine dc (λ_ _=>zw (hv:=h1)) (k:=?_);refine zp ?_;refine zH ?_;refine dc (λ_ _=>zw (hv:=h2)) (k:=?_);refine zU ?_;refine zN ?_)|(refine za (id:=5) ?_;refine zd ?_)|fail)
  exact ret1 rfl (resTmp rfl) SubR.nil ⟨by rw [zeI (hlt h)],rfl⟩
 ·subst h
  repeat' (first|refine s_t ?_|(refine za (id:=2) ?_;refine zb ?_;refine zac ?_)|(refine zK (id:=4) 6 [[],[0],[0,1],[],[3],[3,4],[0,1,2,3,4,5]] mixed ?_ ?_;kernel_rfl;refine zp ?_;refine zH ?_;refine dc (λ_ _=>zw (hv:=h1)) (k:=?_);refine zp ?_;refine zH ?_;refine dc (λ_ _=>zw (hv:=h2)) (k:=?_);refine zU ?_;refine zN ?_)|(refine zK (id:=6) 6 [[],[0],[0,1],[],[3],[3,4],[0,1,2,3,4,5]] mixed ?_ ?_;kernel_rfl;refine zp ?_;refine zH ?_;refine dc (λ_ _=>zw (hv:=h1)) (k:=?_);refine zp ?_;refine zH ?_;refine dc (λ_ _=>zw (hv:=h2)) (k:=?_);refine zU ?_;refine zaa ?_)|(refine za (id:=3) ?_;refine zb ?_;refine yv (zJ (hr:=hs)) (k:=?_);refine zd ?_)|fail)
  refine zy j ⟨by omega,heq rfl⟩ ?_ ?_ ?_
  ·show j < j+1;omega
  ·exact Sub.go
  ·exact SubR.go
 ·repeat' (first|refine s_t ?_|(refine za (id:=2) ?_;refine zb ?_;refine zac ?_)|(refine zK (id:=4) 6 [[],[0],[0,1],[],[3],[3,4],[0,1,2,3,4,5]] mixed ?_ ?_;kernel_rfl;refine zp ?_;refine zH ?_;refine dc (λ_ _=>zw (hv:=h1)) (k:=?_);refine zp ?_;refine zH ?_;refine dc (λ_ _=>zw (hv:=h2)) (k:=?_);refine zU ?_;refine zN ?_)|(refine zK (id:=6) 6 [[],[0],[0,1],[],[3],[3,4],[0,1,2,3,4,5]] mixed ?_ ?_;kernel_rfl;refine zp ?_;refine zH ?_;refine dc (λ_ _=>zw (hv:=h1)) (k:=?_);refine zp ?_;refine zH ?_;refine dc (λ_ _=>zw (hv:=h2)) (k:=?_);refine zU ?_;refine zaa ?_)|(refine za (id:=7) ?_;refine zd ?_)|fail)
  exact ret1 rfl (resTmp rfl) SubR.nil ⟨by rw [zdL (hgt h)],rfl⟩
theorem zcK (x y:Nat) (w:World) (hx:x < 18446744073709551616 ^ 16) (hy:y < 18446744073709551616 ^ 16):
  Sy.Fn Tryz.prog 130 [natV x,natV y] w No (Gives (.int .i64 (cmpI x y))):=by
 refine zk Tryz.func130 rfl Tryz.ntmps130 (by simp) Holds.nil ?_
 have hlx:=ze x
 have hly:=ze y
 repeat' (first|refine s_0 ?_|(refine za (id:=0) ?_;(refine zi ?_;intro _);(refine zi ?_;intro _);refine zd ?_)|(refine za (id:=1) ?_;refine zm ?_;refine zD ?_;refine zm ?_;refine zD ?_;refine yv (zf (hc:=λ_ _ _ _=>(zoL x y _ hx hy))) (k:=?_);refine zd ?_)|fail)
 exact ret1 rfl (resTmp rfl) SubR.nil ⟨rfl,rfl⟩
end Go.Proofs.YtcpjfilcilcekaaGreatDoor
namespace Go.Proofs.YtcpjfilcilcekaaGreatDoor
open Go Go.Sy Go.Nt Go.RowKit
theorem natTy:NatTy Tryz.prog 73 71 69 16 where
 und:=by kernel_rfl
 stood:=by kernel_rfl
 flds:=by kernel_rfl
 arr:=⟨_,ty rfl,rfl,rfl⟩
 elem:=⟨_,ty rfl,rfl,rfl⟩
 guard:=by kernel_rfl
theorem natC0:List.replicate 16 (Value.int IntKind.u64 0)=natC 0:=by
 unfold natC;rw [zc4,List.map_replicate];rfl
theorem natC1 (n:Nat) (h:n < 18446744073709551616):Value.int IntKind.u64 (n:Int)::List.replicate 15 (Value.int IntKind.u64 0)=natC n:=by
 unfold natC;rw [dg,Nat.mod_eq_of_lt h,Nat.div_eq_of_lt h,zc4,List.map_cons,List.map_replicate];rfl
theorem natV0:Value.agg (List.replicate 16 (Value.int IntKind.u64 0)).toArray=natV 0:=congrArg (λl:List Value=>Value.agg l.toArray) natC0
theorem zoi (n:Nat) (h:n < 18446744073709551616):FillTo (λi=>some (i*1,1)) [(0,Value.int IntKind.u64 (n:Int))] (List.replicate 16 (Value.int IntKind.u64 0)) (natC n):=by
 refine .cons (cs:=[.int .u64 n]) rfl rfl rfl (by decide) ?_
 rw [<-natC1 n h]
 exact .nil
theorem zjT (n:Nat):FillTo (nth [(0,16)]) [(0,natV n)] (List.replicate 16 (Value.int IntKind.u64 0)) (natC n):=by
 refine .cons (cs:=natC n) rfl rfl (ze n) (by decide) ?_
 rw [show setSeg (List.replicate 16 (Value.int IntKind.u64 0)) 0 (natC n)=natC n by unfold setSeg;rw [ze];simp]
 exact .nil
section
variable {ro:Option Nat}{N:Nat}{w0:World}{M:Nat->Prop}{ds:List Deferred}{g:Nat->Option Value}{L:List Res}{o:Oper}{t':TypeId}{x z:Operand}
theorem zdj {n:Nat}(ho:o.op= .build 73 #[(0,z)]:=by exact rfl) (hz:ev g z=some (natV n):=by exact rfl):OpT Tryz.prog ro N w0 M ds o g L (Det (natV n) L):=
 zce (parts:=#[(0,z)]) (vs:=[natV n]) (C:=natC n) (zjT n) ho (by simp [evs,hz]) (ty rfl) rfl rfl (zc rfl)
theorem zke {n:Nat}(hn:n < 18446744073709551616:=by omega) (ho:o.op= .build 71 #[(0,z)]:=by exact rfl) (hz:ev g z=some (.int .u64 (n:Int)):=by exact rfl):OpT Tryz.prog ro N w0 M ds o g L (Det (natV n) L):=
 zlW (parts:=#[(0,z)]) (n:=16) (e:=69) (vs:=[.int .u64 n]) (C:=natC n) (ty rfl) (zoi n hn) ho (by simp [evs,hz]) (ty rfl) rfl (zc rfl)
theorem zl {t:TypeId}{b T n:Nat}{C:List Value}{y:Ty}{L':List Res}(ho:o.op= .store t x z:=by exact rfl) (hx:ev g x=some (.pointer (some ⟨b,0,none⟩)):=by exact rfl) (hz:ev g z=some (natV n):=by exact rfl) (ht:tyOf Tryz.prog t=some y:=by exact ty rfl) (h1:y.size=16:=by exact rfl)
  (hL:Upd L (.blk b T C) (.blk b T (natC n)) L':=by repeat (first|exact Upd.here|apply Upd.there)) (hC:C.length=16:=by first|exact ze _|rfl|assumption|(simp;done)|fail):OpT Tryz.prog ro N w0 M ds o g L (Det undef L'):=
 zM (B:=natC n) ho hx hz ht (by rw [h1,ze]) (zbX n) hL (by rw [hC,ze])
theorem zri {n:Nat}{r:Bool}(hn:n < 18446744073709551616 ^ 16) (hr:decide (n=0)=r) (ho:o.op= .binOp .eql 73 x z t':=by exact rfl) (hx:ev g x=some (natV n):=by exact rfl) (hz:ev g z=some (.agg (List.replicate 16 (Value.int IntKind.u64 0)).toArray):=by exact rfl):OpT Tryz.prog ro N w0 M ds o g L (Det (.bool r) L):=
 zeT natTy hn (by decide) hr ho hx (natV0 ▸ hz)
end
attribute [local irreducible] Sy SyL SyX Sy.Fn callFunc natC
set_option maxRecDepth 10000
theorem zbm (x:Nat) (w:World) (hx:x < 18446744073709551616 ^ 16):
  Sy.Fn Tryz.prog 78 [natV x] w No (Gives (.bool (decide (x=0)))):=by
 refine zk Tryz.func78 rfl Tryz.ntmps78 (by simp) Holds.nil ?_
 have hlx:=ze x
 repeat' (first|refine s_0 ?_|(refine za (id:=0) ?_;(refine zi ?_;intro _);refine zd ?_)|(refine za (id:=1) ?_;refine zD ?_;refine za0 ?_;refine yv (zri (n:=x) hx rfl) (k:=?_);refine zd ?_)|fail)
 exact ret1 rfl (resTmp rfl) SubR.nil ⟨rfl,rfl⟩
theorem zcL (n:Nat) (w:World) (hn:n < 9223372036854775808):
  Sy.Fn Tryz.prog 96 [.int .i64 n] w No (Gives (.tuple #[natV n,.int .i64 0])):=by
 refine zk Tryz.func96 rfl Tryz.ntmps96 (by simp) Holds.nil ?_
 have hlen:=ze n
 repeat' (first|refine s_0 ?_|(refine za (id:=0) ?_;(refine zi ?_;intro _);refine zd ?_)|(refine za (id:=1) ?_;refine zb ?_;refine zN ?_)|(refine za (id:=3) ?_;refine zb ?_;refine zaV ?_;refine yv (zke (n:=n)) (k:=?_);refine yv (zdj (n:=n)) (k:=?_);refine yn (zl (n:=n)) (k:=?_);refine zd ?_)|fail)
 exact ret2 rfl (resCells rfl (ty rfl) rfl Has.go Seg.all (by first|rfl|(simp only [List.length_map,List.length_set,List.length_replicate,List.length_append];omega)|(simp only [List.length_map];first|assumption|omega)|(simp;omega)|fail)) (resTmp rfl) SubR.nil ⟨rfl,rfl⟩
end Go.Proofs.YtcpjfilcilcekaaGreatDoor
namespace Go.Sy
open Go
section
variable {P:Program}{ro:Option Nat}{N:Nat}{w0:World}{M:Nat->Prop}{ds:List Deferred}{g:Nat->Option Value}{L:List Res}{o:Oper}
theorem zbZ {fo:Operand}{args:Array Operand}{tys:Array TypeId}{f:Nat}{vs:List Value}{v:Value}
  (hr: ∀w,(callFunc f vs.toArray).run P w= .ok (.value v) w) (ho:o.op= .call { callee:=.value fo,args:=args,argTypes:=tys } :=by exact rfl) (hf:ev g fo=some (.func (.func f) #[] #[]):=by exact rfl) (ha:evs g args.toList=some vs:=by exact rfl):OpT P ro N w0 M ds o g L (Det v L):=
 OpT.still (by rw [ho];rfl) λa w X hs=>by
  have hargs:args.map a.eval=vs.toArray:=Array.toList_inj.1 (by rw [Array.toList_map,hs.agr.evals ha])
  simp only [execOp,ho,resolve,hs.agr.eval hf,Deferred.ofValue,hargs,Sem.run_bind,Sem.run_pure,Result.andThen_ok,invoke]
  rw [show (#[] ++ vs.toArray ++ #[]:Array Value)=vs.toArray by simp]
  exact hr w
end
end Go.Sy
namespace Go.Proofs.YtcpjfilcilcekaaGreatDoor
open Go Go.Sy Go.Nt Go.RowKit
theorem zbk (x y c:Nat) (hc:c<=1) (w:World):(callFunc 190 [nv x,nv y,nv c].toArray).run Tryz.prog w= .ok (.value (.tuple #[nv ((x+y+c) % 18446744073709551616),nv ((x+y+c) / 18446744073709551616)])) w:=by
 show (callFunc 190 #[.int .u64 x,.int .u64 y,.int .u64 c]).run Tryz.prog w=_
 rw [run_callFunc_extern Tryz.func190 (by kernel_rfl) (by kernel_rfl) (by kernel_rfl) (e:=add64Entry) (by kernel_rfl),run_add64 x y c (by omega) (by omega) (by omega) (by omega)]
 simp only [Result.andThen,nv]
 congr 5 <;> omega
theorem zeU (x y b:Nat) (hb:b<=1) (w:World):(callFunc 188 [nv x,nv y,nv b].toArray).run Tryz.prog w= .ok (.value (.tuple #[nv ((x+18446744073709551616 - y - b) % 18446744073709551616),nv (if x < y+b then 1 else 0)])) w:=by
 show (callFunc 188 #[.int .u64 x,.int .u64 y,.int .u64 b]).run Tryz.prog w=_
 rw [run_callFunc_extern Tryz.func188 (by kernel_rfl) (by kernel_rfl) (by kernel_rfl) (e:=sub64Entry) (by kernel_rfl),run_sub64 x y b hb]
 rfl
attribute [local irreducible] Sy SyL SyX Sy.Fn callFunc natC
set_option maxRecDepth 10000
theorem zpE (B x y c:Nat) (w:World) (hc:c<=1) (hC:(Res.blk B 69 [nv c]).holds w):
  Sy.Fn Tryz.prog 189 [nv x,nv y,.pointer (some ⟨B,0,none⟩)] w (λx=>x=B) (λv R=>v=nv ((x+y+c) % 18446744073709551616)/\R= [.blk B 69 [nv ((x+y+c) / 18446744073709551616)]]):=by
 have hL0:Holds w.heap.size (λx=>x=B) [.blk B 69 [nv c]] w:=⟨λx hx=>by obtain rfl:=List.mem_singleton.1 hx;exact hC,List.pairwise_singleton _ _,λx hx y hy=>by obtain rfl:=List.mem_singleton.1 hx;exact .inr (Eq.symm hy)⟩
 refine zk Tryz.func189 rfl Tryz.ntmps189 (by simp) hL0 ?_
 repeat' (first|refine s_0 ?_|(refine za (id:=0) ?_;refine zd ?_)|(refine za (id:=1) ?_;refine zb ?_;refine zb ?_;refine zD ?_;refine yv (zbZ (hr:=zbk x y c hc)) (k:=?_);refine zb ?_;refine zh ?_;refine zh ?_;refine zd ?_;refine zB ?_)|(refine za (id:=2) ?_;refine zb ?_;refine zd ?_)|fail)
 exact ret1 rfl (resTmp rfl) (by exact SubR.go) ⟨rfl,rfl⟩
theorem zpC (B x y c:Nat) (w:World) (hc:c<=1) (hC:(Res.blk B 69 [nv c]).holds w):
  Sy.Fn Tryz.prog 187 [nv x,nv y,.pointer (some ⟨B,0,none⟩)] w (λx=>x=B) (λv R=>v=nv ((x+18446744073709551616 - y - c) % 18446744073709551616)/\R= [.blk B 69 [nv (if x < y+c then 1 else 0)]]):=by
 have hL0:Holds w.heap.size (λx=>x=B) [.blk B 69 [nv c]] w:=⟨λx hx=>by obtain rfl:=List.mem_singleton.1 hx;exact hC,List.pairwise_singleton _ _,λx hx y hy=>by obtain rfl:=List.mem_singleton.1 hx;exact .inr (Eq.symm hy)⟩
 refine zk Tryz.func187 rfl Tryz.ntmps187 (by simp) hL0 ?_
 repeat' (first|refine s_0 ?_|(refine za (id:=0) ?_;refine zd ?_)|(refine za (id:=1) ?_;refine zb ?_;refine zb ?_;refine zD ?_;refine yv (zbZ (hr:=zeU x y c hc)) (k:=?_);refine zb ?_;refine zh ?_;refine zh ?_;refine zd ?_;refine zB ?_)|(refine za (id:=2) ?_;refine zb ?_;refine zd ?_)|fail)
 exact ret1 rfl (resTmp rfl) (by exact SubR.go) ⟨rfl,rfl⟩
end Go.Proofs.YtcpjfilcilcekaaGreatDoor
namespace Go.Proofs.YtcpjfilcilcekaaGreatDoor
open Go Go.Sy Go.Nt Go.RowKit
attribute [local irreducible] Sy SyL SyX Sy.Fn callFunc natC
set_option maxRecDepth 10000
theorem zk6 (f B x y:Nat) (z k:Nat->Nat->Nat->Nat) (J:Nat->List Nat->Nat->Prop) (w:World)
  (hen: ∀args w,(callFunc f args).run Tryz.prog w= .ok (.enter f args) w)
  (hf: ∀a d c w,c<=1->(Res.blk B 69 [nv c]).holds w->Sy.Fn Tryz.prog f [nv a,nv d,.pointer (some ⟨B,0,none⟩)] w (λx=>x=B) (λv R=>v=nv (z a d c)/\R= [.blk B 69 [nv (k a d c)]]))
  (h0:J 0 (dg 18446744073709551616 16 x) 0)
  (hJ: ∀i l c,i < 16->J i l c->c<=1/\l.length=16/\l[i]?=some (x / 18446744073709551616 ^ i % 18446744073709551616)/\J (i+1) (l.set i (z (x / 18446744073709551616 ^ i % 18446744073709551616) (y / 18446744073709551616 ^ i % 18446744073709551616) c)) (k (x / 18446744073709551616 ^ i % 18446744073709551616) (y / 18446744073709551616 ^ i % 18446744073709551616) c))
  (hC:(Res.blk B 69 [nv 0]).holds w):
  Sy.Fn Tryz.prog 186 [natV x,natV y,.func (.func f) #[] #[.pointer (some ⟨B,0,none⟩)]] w (λx=>x=B) (λv R=>∃l c,J 16 l c/\l.length=16/\v= .agg (l.map nv).toArray/\R= [.blk B 69 [nv c]]):=by
 have hL0:Holds w.heap.size (λx=>x=B) [.blk B 69 [nv 0]] w:=⟨λx hx=>by obtain rfl:=List.mem_singleton.1 hx;exact hC,List.pairwise_singleton _ _,λx hx y hy=>by obtain rfl:=List.mem_singleton.1 hx;exact .inr (Eq.symm hy)⟩
 refine zk Tryz.func186 rfl Tryz.ntmps186 (by simp) hL0 ?_
 have hly:=ze y
 have hlx:natC x=(dg 18446744073709551616 16 x).map nv:=by unfold natC;rfl
 have hgy:=zaQ y
 repeat' (first|refine s_t ?_|(refine za (id:=0) ?_;(refine zi ?_;intro _);(refine zi ?_;intro _);(refine zi ?_;intro _))|(refine za (id:=1) ?_;refine zb ?_)|fail)
 rename_i b3 b4 b6
 refine zE (γ:=Nat×List Nat×Nat) (λg=>[(2,.func (.func f) #[] #[.pointer (some ⟨B,0,none⟩)]),(3,.pointer (some ⟨b3,0,none⟩)),(4,.pointer (some ⟨b4,0,none⟩)),(6,.pointer (some ⟨b6,0,none⟩)),(8,.int .i64 g.1)])
  (λg=>[.blk B 69 [nv g.2.2],.blk b3 71 (g.2.1.map nv),.blk b4 71 (natC y),.blk b6 71 (List.replicate 16 (Value.int IntKind.u64 0))])
  (λg=>g.1<=16/\g.2.1.length=16/\J g.1 g.2.1 g.2.2) (λg=>16 - g.1) (0,dg 18446744073709551616 16 x,0) ⟨Nat.zero_le _,za4 _ _ _,h0⟩ ?_ ?_ ?_
 ·exact Sub.go
 ·show SubR [.blk B 69 [nv 0],.blk b3 71 ((dg 18446744073709551616 16 x).map nv),.blk b4 71 (natC y),.blk b6 71 (List.replicate 16 (Value.int IntKind.u64 0))] _
  rw [<-hlx]
  exact SubR.go
 rintro ⟨i,l,c⟩ ⟨hi,hl,hj⟩
 dsimp only at hi hl hj ⊢
 by_cases hlt:i < 16
 ·obtain ⟨hc1,-,hli,hJ'⟩:=hJ i l c hlt hj
  have hd1:(l.map nv)[i]?=some (nv (x / 18446744073709551616 ^ i % 18446744073709551616)):=by rw [List.getElem?_map,hli];rfl
  have hd2:=hgy i hlt
  have hml:(l.map nv).length=16:=by rw [List.length_map,hl]
  generalize x / 18446744073709551616 ^ i % 18446744073709551616=a at *
  generalize y / 18446744073709551616 ^ i % 18446744073709551616=d at *
  repeat' (first|refine s_t ?_|(refine za (id:=2) ?_;refine zN ?_)|(refine za (id:=3) ?_;refine zb ?_;refine zd ?_)|fail)
  refine zah (id:=4) mixed ?_
  (refine zab 9 9 [[],[],[],[2],[2,3],[],[5],[5,6],[1,2,3,4,5,6,7],[0,1,2,3,4,5,6,7,8],[0,1,2,3,4,5,6,7,8,9]] [[],[],[],[],[],[],[],[],[],[],[]] (some 8) rfl ?_ ?_ ?_;kernel_rfl;kernel_rfl;refine zS ?_;refine zS ?_;refine zS ?_;refine zbs ?_;refine dcE (λ_ _=>zw (hv:=hd1)) (k:=?_);refine zS ?_;refine zbs ?_;refine dcE (λ_ _=>zw (hv:=hd2)) (k:=?_);try refine z5 (h:=?_))
  refine z7 (R:=λ_ v Nw=>v=nv (z a d c)/\Nw= [.blk B 69 [nv (k a d c)],.blk b3 71 (l.map nv),.blk b4 71 (natC y),.blk b6 71 (List.replicate 16 (Value.int IntKind.u64 0))]) (λ_ _ _=>rfl)
   (λρ hρ=>OpT.mono (zbj (b:=B) (T:=69) (C:=[nv c]) (C':=[nv (k a d c)]) (v:=nv (z a d c)) (vs:=[nv a,nv d]) (cap:=[.pointer (some ⟨B,0,none⟩)]) (he:=hen) (hL:=Upd.here) (hc:=λw' X hk hh=>hf a d c w' hc1 (hh.has (by exact Has.append Has.here)))) λv L' h=>?_) (h:=?_)
  ·obtain ⟨rfl,rfl⟩:=h
   exact ⟨_,(List.append_nil _).symm,rfl,rfl⟩
  refine zaE (h:=?_)
  rintro ρ ⟨⟨e,f'⟩,-⟩
  (refine zag [[],[],[],[2],[2,3],[],[5],[5,6],[1,2,3,4,5,6,7],[0,1,2,3,4,5,6,7,8],[0,1,2,3,4,5,6,7,8,9]] ?_ ?_;kernel_rfl)
  have e:(ρ 8).1=nv (z a d c):=e
  have f':(ρ 8).2= [.blk B 69 [nv (k a d c)],.blk b3 71 (l.map nv),.blk b4 71 (natC y),.blk b6 71 (List.replicate 16 (Value.int IntKind.u64 0))]:=f'
  refine SyL.weaken (fr':=[(19,nv (z a d c)),(11,.int .i64 i),(2,.func (.func f) #[] #[.pointer (some ⟨B,0,none⟩)]),(3,.pointer (some ⟨b3,0,none⟩)),(4,.pointer (some ⟨b4,0,none⟩)),(6,.pointer (some ⟨b6,0,none⟩)),(8,.int .i64 i)])
   (L':=[.blk B 69 [nv (k a d c)],.blk b3 71 (l.map nv),.blk b4 71 (natC y),.blk b6 71 (List.replicate 16 (Value.int IntKind.u64 0))]) ?_ ?_ ?_
  ·repeat' (first|refine s_0 ?_|(refine za (id:=5) ?_;refine zY ?_;refine zb ?_)|(refine zC ?_;first|refine zr ?_|refine zB ?_|fail)|fail)
   refine zy (i+1,l.set i (z a d c),k a d c) ⟨by show i+1<=16;omega,by rw [List.length_set,hl],hJ'⟩ ?_ ?_ ?_
   ·show 16 - (i+1) < 16 - i;omega
   ·exact Sub.go
   ·show SubR [.blk B 69 [nv (k a d c)],.blk b3 71 ((l.set i (z a d c)).map nv),.blk b4 71 (natC y),.blk b6 71 (List.replicate 16 (Value.int IntKind.u64 0))] _
    rw [List.map_set]
    exact SubR.go
  ·(repeat' (first|exact Sub.nil|refine Sub.cons rfl ?_ ?_|rfl))
   exact e
  ·show SubR _ ((ρ 8).2 ++ [])
   rw [f']
   exact SubR.go2
 obtain rfl:i=16:=by omega
 repeat' (first|refine s_0 ?_|(refine za (id:=2) ?_;refine zN ?_)|(refine za (id:=6) ?_;refine zD ?_;refine zB ?_)|fail)
 exact ret1 rfl (resCells (B:=l.map nv) rfl (ty rfl) rfl Has.go Seg.all (by rw [List.length_map,hl])) (by exact SubR.go) ⟨l,c,hj,hl,rfl,rfl⟩
end Go.Proofs.YtcpjfilcilcekaaGreatDoor
namespace Go.Proofs.YtcpjfilcilcekaaGreatDoor
open Go Go.Sy Go.Nt Go.RowKit
attribute [local irreducible] Sy SyL SyX Sy.Fn callFunc natC
set_option maxRecDepth 10000
theorem zo5 (B x y:Nat) (w:World) (hx:x < 18446744073709551616 ^ 16) (hy:y < 18446744073709551616 ^ 16) (hC:(Res.blk B 69 [nv 0]).holds w):
  Sy.Fn Tryz.prog 186 [natV x,natV y,.func (.func 189) #[] #[.pointer (some ⟨B,0,none⟩)]] w (λx=>x=B) (λv R=>∃s c,s < 18446744073709551616 ^ 16/\s+c*18446744073709551616 ^ 16=x+y/\v=natV s/\R= [.blk B 69 [nv c]]):=by
 refine Sy.Fn.mono (zk6 189 B x y (λa d c=>(a+d+c) % 18446744073709551616) (λa d c=>(a+d+c) / 18446744073709551616) (AddJ 18446744073709551616 16 x y) w (en rfl)
  (λa d c w hc hC=>zpE B a d c w hc hC) (AddJ.start _ _ _ _ (by decide) hx) (λi l c hi h=>⟨h.bit,h.len,h.rest i (Nat.le_refl _) hi,?_⟩) hC) ?_
 ·have hm:x / 18446744073709551616 ^ i % 18446744073709551616 < 18446744073709551616:=Nat.mod_lt _ (by decide)
  have hm':y / 18446744073709551616 ^ i % 18446744073709551616 < 18446744073709551616:=Nat.mod_lt _ (by decide)
  have hb:=h.bit
  refine h.step hi (Nat.mod_lt _ (by decide)) ?_ ?_
  ·generalize x / 18446744073709551616 ^ i % 18446744073709551616=a at *
   generalize y / 18446744073709551616 ^ i % 18446744073709551616=d at *
   omega
  ·omega
 ·rintro v R ⟨l,c,h,hl,rfl,rfl⟩
  obtain ⟨h1,h2,h3⟩:=h.done hy
  exact ⟨_,c,h2,h3,by unfold natV natC;rw [<-h1],rfl⟩
theorem znR (B x y:Nat) (w:World) (hx:x < 18446744073709551616 ^ 16) (hy:y < 18446744073709551616 ^ 16) (hC:(Res.blk B 69 [nv 0]).holds w):
  Sy.Fn Tryz.prog 186 [natV x,natV y,.func (.func 187) #[] #[.pointer (some ⟨B,0,none⟩)]] w (λx=>x=B) (λv R=>∃s c,s < 18446744073709551616 ^ 16/\s+y=x+c*18446744073709551616 ^ 16/\v=natV s/\R= [.blk B 69 [nv c]]):=by
 refine Sy.Fn.mono (zk6 187 B x y (λa d c=>(a+18446744073709551616 - d - c) % 18446744073709551616) (λa d c=>if a < d+c then 1 else 0) (SubJ 18446744073709551616 16 x y) w (en rfl)
  (λa d c w hc hC=>zpC B a d c w hc hC) (SubJ.start _ _ _ _ (by decide) hx) (λi l c hi h=>⟨h.bit,h.len,h.rest i (Nat.le_refl _) hi,?_⟩) hC) ?_
 ·have hm:x / 18446744073709551616 ^ i % 18446744073709551616 < 18446744073709551616:=Nat.mod_lt _ (by decide)
  have hm':y / 18446744073709551616 ^ i % 18446744073709551616 < 18446744073709551616:=Nat.mod_lt _ (by decide)
  have hb:=h.bit
  refine h.step hi (Nat.mod_lt _ (by decide)) ?_ ?_
  ·split <;> omega
  ·generalize x / 18446744073709551616 ^ i % 18446744073709551616=a at *
   generalize y / 18446744073709551616 ^ i % 18446744073709551616=d at *
   split <;> omega
 ·rintro v R ⟨l,c,h,hl,rfl,rfl⟩
  obtain ⟨h1,h2,h3⟩:=h.done hy
  exact ⟨_,c,h2,h3,by unfold natV natC;rw [<-h1],rfl⟩
theorem zmK (x y:Nat) (w:World) (hx:x < 18446744073709551616 ^ 16) (hy:y < 18446744073709551616 ^ 16):
  Sy.Fn Tryz.prog 174 [natV x,natV y] w No (Gives (if x+y < 18446744073709551616 ^ 16 then .tuple #[natV (x+y),.int .i64 0] else .tuple #[natV 0,.int .i64 7])):=by
 refine zk Tryz.func174 rfl Tryz.ntmps174 (by simp) Holds.nil ?_
 have hlx:=ze x
 have hly:=ze y
 repeat' (first|refine s_0 ?_|(refine za (id:=0) ?_;(refine zi ?_;intro _);(refine zi ?_;intro _);(refine zi ?_;intro _);refine zd ?_)|(refine za (id:=1) ?_;(refine zi ?_;intro _))|(refine za (id:=2) ?_;refine zm ?_;refine zD ?_;refine zm ?_;refine zD ?_;refine zW ?_)|fail)
 rename_i b2 b3 b4 b6
 refine ys (zcj (vs:=[natV x,natV y,.func (.func 189) #[] #[.pointer (some ⟨b6,0,none⟩)]]) (cap:=[]) (C:=[.blk b6 69 [nv 0]]) (M':=λx=>x=b6) (hC:=RemL.cons Rem.here rfl RemL.nil) (hM:=λb hb=>⟨_,List.mem_singleton.2 rfl,hb.symm⟩) (hc:=λw' X hk hh=>zo5 b6 x y w' hx hy (hh.has (by exact Has.append Has.here)))) (k:=?_)
 rintro _ _ ⟨R,rfl,s,c,hs,e,rfl,rfl⟩
 have hls:=ze s
 by_cases hc:c=0
 ·subst hc
  obtain rfl:s=x+y:=by omega
  repeat' (first|refine s_0 ?_|(refine za (id:=3) ?_;refine zD ?_;refine zV ?_)|(refine za (id:=5) ?_;refine zD ?_;refine yv (zdj (n:=x+y)) (k:=?_);refine yn (zl (n:=x+y)) (k:=?_);refine zd ?_)|(refine zC ?_;first|refine yn (zl (n:=x+y)) (k:=?_)|(refine zi ?_;intro _)|fail)|fail)
  rw [if_pos (by omega)]
  exact ret2 rfl (resCells (B:=natC (x+y)) rfl (ty rfl) rfl Has.go Seg.all (ze _).symm) (resTmp rfl) SubR.nil ⟨rfl,rfl⟩
 ·repeat' (first|refine s_0 ?_|(refine za (id:=3) ?_;refine zD ?_;refine zV ?_)|(refine za (id:=4) ?_;refine za0 ?_;refine zB ?_;refine zd ?_)|(refine zC ?_;first|refine yn (zl (n:=s)) (k:=?_)|(refine zi ?_;intro _)|fail)|fail)
  have hov:18446744073709551616 ^ 16<=c*18446744073709551616 ^ 16:=Nat.le_mul_of_pos_left _ (by omega)
  rw [if_neg (by omega)]
  exact ret2 rfl (resCells (B:=List.replicate 16 (Value.int IntKind.u64 0)) rfl (ty rfl) rfl Has.go Seg.all rfl) (resTmp rfl) SubR.nil ⟨by rw [<-natV0],rfl⟩
theorem zhw (x y:Nat) (w:World) (hx:x < 18446744073709551616 ^ 16) (hy:y < 18446744073709551616 ^ 16):
  Sy.Fn Tryz.prog 173 [natV x,natV y] w No (Gives (if y<=x then .tuple #[natV (x - y),.int .i64 0] else .tuple #[natV 0,.int .i64 3])):=by
 refine zk Tryz.func173 rfl Tryz.ntmps173 (by simp) Holds.nil ?_
 have hlx:=ze x
 have hly:=ze y
 repeat' (first|refine s_0 ?_|(refine za (id:=0) ?_;(refine zi ?_;intro _);(refine zi ?_;intro _);(refine zi ?_;intro _);refine zd ?_)|(refine za (id:=1) ?_;(refine zi ?_;intro _))|(refine za (id:=2) ?_;refine zm ?_;refine zD ?_;refine zm ?_;refine zD ?_;refine zW ?_)|fail)
 rename_i b2 b3 b4 b6
 refine ys (zcj (vs:=[natV x,natV y,.func (.func 187) #[] #[.pointer (some ⟨b6,0,none⟩)]]) (cap:=[]) (C:=[.blk b6 69 [nv 0]]) (M':=λx=>x=b6) (hC:=RemL.cons Rem.here rfl RemL.nil) (hM:=λb hb=>⟨_,List.mem_singleton.2 rfl,hb.symm⟩) (hc:=λw' X hk hh=>znR b6 x y w' hx hy (hh.has (by exact Has.append Has.here)))) (k:=?_)
 rintro _ _ ⟨R,rfl,s,c,hs,e,rfl,rfl⟩
 have hls:=ze s
 by_cases hc:c=0
 ·subst hc
  obtain rfl:s=x - y:=by omega
  repeat' (first|refine s_0 ?_|(refine za (id:=3) ?_;refine zD ?_;refine zV ?_)|(refine za (id:=5) ?_;refine zD ?_;refine yv (zdj (n:=x - y)) (k:=?_);refine yn (zl (n:=x - y)) (k:=?_);refine zd ?_)|(refine zC ?_;first|refine yn (zl (n:=x - y)) (k:=?_)|(refine zi ?_;intro _)|fail)|fail)
  rw [if_pos (by omega)]
  exact ret2 rfl (resCells (B:=natC (x - y)) rfl (ty rfl) rfl Has.go Seg.all (ze _).symm) (resTmp rfl) SubR.nil ⟨rfl,rfl⟩
 ·repeat' (first|refine s_0 ?_|(refine za (id:=3) ?_;refine zD ?_;refine zV ?_)|(refine za (id:=4) ?_;refine za0 ?_;refine zB ?_;refine zd ?_)|(refine zC ?_;first|refine yn (zl (n:=s)) (k:=?_)|(refine zi ?_;intro _)|fail)|fail)
  have hov:18446744073709551616 ^ 16<=c*18446744073709551616 ^ 16:=Nat.le_mul_of_pos_left _ (by omega)
  rw [if_neg (by omega)]
  exact ret2 rfl (resCells (B:=List.replicate 16 (Value.int IntKind.u64 0)) rfl (ty rfl) rfl Has.go Seg.all rfl) (resTmp rfl) SubR.nil ⟨by rw [<-natV0],rfl⟩
end Go.Proofs.YtcpjfilcilcekaaGreatDoor
end
