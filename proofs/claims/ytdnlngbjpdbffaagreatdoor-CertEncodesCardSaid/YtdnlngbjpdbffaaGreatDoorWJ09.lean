/- Lemmas of this proof. -/
import Derived.Test.YtdnlngbjpdbffaaGreatDoorWJ06
import Derived.Test.YtdnlngbjpdbffaaGreatDoorWJ08
import Derived.Shelf.Spec.BitsCarry
set_option maxRecDepth 10000
set_option linter.all false
namespace Go.Proofs.YtdnlngbjpdbffaaGreatDoor
section
open Go Go.Sy Go.Nt Go.RowKit
attribute [local irreducible] Sy SyL SyX Sy.Fn callFunc zg
def zbx(x y:Nat):Int:=if x<y then -1 else if x=y then 0 else 1
theorem ziK(x:Nat):zbx x x=0:=by unfold zbx;simp
theorem zhJ{x y:Nat}(h:x<y):zbx x y= -1:=by unfold zbx;simp[h]
theorem zjJ{x y:Nat}(h:y<x):zbx x y=1:=by unfold zbx;rw[if_neg q_o,if_neg q_o]
theorem zcI(x:Nat)(w:World)(hx:x<18446744073709551616^16):
  q_G 284 [zr x] w (.int .i64 ((nd 18446744073709551616 x:Nat):Int)):=by
 refine zt Tryz.func284 Tryz.ntmps284 ?_;have q:=zbK x;have G:=zd x;repeat' (first|refine s_t ?_|refine zf 0 ?_;refine zW ?_;intro _|refine q_k 1 ?_)
 rename_i F;refine zN (γ:=Nat) (λi=>[(1,.pointer (some ⟨F,0,none⟩)),(3,.int .i64 i)]) (λ_=>[.blk F 131 (zg x)]) (λi=>i<=16/\x<18446744073709551616^i) (λi=>i) 16 ⟨A6 _,hx⟩ ?_ ?_ ?_
 ·exact q_h
 ·exact q_h
 rintro i ⟨I,A⟩;have j:(i=0\/x/18446744073709551616^(i-1)%18446744073709551616≠0)->nd 18446744073709551616 x=i:=λh=>by
  refine zct _ _ _ q_e A λJ=>?_;rcases h with h|h
  ·omega
  ·rcases AF x (18446744073709551616^(i-1)) with m|m
   ·rw[Al m] at h;exact absurd rfl h
   ·exact m
 have r:IntKind.i64.wrap ((i:Int)-1)=((i-1:Nat):Int)\/i=0:=by
  rcases AD i with h|h
  ·exact .inr h
  ·rw[IntWalk.i64_in _ q_o];exact .inl q_o
 rcases AD i with h0|H
 ·have C:=j (.inl h0);subst h0;repeat' (first|refine s_0 ?_|refine q_k 2 ?_;refine q_x zH ?_|refine q_k 4 ?_)
  exact zap rfl (zh rfl) Er ⟨by rw[C],rfl⟩
 have E:IntKind.i64.wrap ((i:Int)-1)=((i-1:Nat):Int):=by
  rcases r with h|h
  ·exact h
  ·omega
 have B:=q (i-1) q_o;by_cases hz:x/18446744073709551616^(i-1)%18446744073709551616=0
 ·rw[hz] at B;repeat' (first|refine s_t ?_|refine q_k 2 ?_;refine q_x zH ?_;refine q_v (zI (hr:=E)) ?_;refine zQ ?_;refine q_v (zL (hv:=B)) ?_;refine zaD ?_;refine zb ?_|refine q_k 3 ?_;refine q_x (zI (hr:=E)) ?_)
  refine zE (i-1) ⟨by omega,?_⟩ ?_ ?_ ?_
  ·have:=(AW (x:=x) (y:=18446744073709551616) (k:=18446744073709551616^(i-1)) (AV q_e)).2 (by rw[AK,<-AN,show(i-1).succ=i by omega];exact A);rcases AF x (18446744073709551616^(i-1)) with m|m
   ·exact m
   ·rw[A7 this] at hz;have:=DI m (AV q_e);omega
  ·show i-1<i;omega
  ·exact q_h
  ·exact q_h
 ·have C:=j (.inr hz);generalize x/18446744073709551616^(i-1)%18446744073709551616=d at*;repeat' (first|refine s_0 ?_|refine q_k 2 ?_;refine q_x zH ?_;refine q_v (zI (hr:=E)) ?_;refine zQ ?_;refine q_v (zL (hv:=B)) ?_;refine q_x (zS (a:=((d:Nat):Int)) (hr:=q_f)) ?_|refine q_k 4 ?_)
  exact zap rfl (zh rfl) Er ⟨by rw[C],rfl⟩
theorem zvl(x y:Nat)(w:World)(hx:x<18446744073709551616^16)(T:y<18446744073709551616^16):
  q_G 213 [zr x,zr y] w (.int .i64 (zbx x y)):=by
 refine zt Tryz.func213 Tryz.ntmps213 ?_;have C:=zbK x;have E:=zbK y;have Q:=zd x;have R:=zd y;repeat' (first|refine s_t ?_|refine zf 0 ?_;refine zj ?_;intro _;refine zW ?_;intro _|refine q_k 1 ?_)
 rename_i H I;refine zN (γ:=Nat) (λi=>[(2,.pointer (some ⟨H,0,none⟩)),(3,.pointer (some ⟨I,0,none⟩)),(5,.int .i64 ((i:Int)-1))]) (λ_=>[.blk H 131 (zg x),.blk I 131 (zg y)]) (λi=>i<=16/\x/18446744073709551616^i=y/18446744073709551616^i) (λi=>i) 16 ⟨A6 _,by rw[Al hx,Al T]⟩ ?_ ?_ ?_
 ·exact q_h
 ·exact q_h
 rintro i ⟨U,r⟩;rcases AD i with h0|J
 ·subst h0;simp only[An,CF] at r;subst r;repeat' (first|refine s_0 ?_|refine q_k 2 ?_;refine q_v zP ?_|refine q_k 8 ?_)
  exact zap rfl (zh rfl) Er ⟨by rw[ziK],rfl⟩
 obtain⟨j,rfl⟩:∃j,i=j+1:=⟨i-1,by omega⟩;have F:(((j+1:Nat):Int)-1)=((j:Nat):Int):=q_o;have S:IntKind.i64.wrap ((j:Int)-1)=(j:Int)-1:=IntWalk.i64_in _ q_o;rw[F];have m:=C j q_o;have q:=E j q_o;have G:=zfT 18446744073709551616 x y j q_e r;have B:=zfT 18446744073709551616 y x j q_e r.symm;have A:=zox 18446744073709551616 x y j r;generalize O:y/18446744073709551616^j%18446744073709551616=e,K:x/18446744073709551616^j%18446744073709551616=d at*;rcases Cm d e with h|h|h
 ·repeat' (first|refine s_t ?_|refine q_k 2 ?_;refine q_v zP ?_|refine zaj (id:=4) 6 [[],[0],[0,1],[],[3],[3,4],[0,1,2,3,4,5]] mixed ?_ ?_;kernel_rfl;refine zA ?_;refine zay ?_;refine q_D (zL (hv:=m)) ?_;refine zA ?_;refine zay ?_;refine q_D (zL (hv:=q)) ?_;refine zaB ?_;refine zag ?_|refine q_k 5 ?_)
  exact zap rfl (zh rfl) Er ⟨by rw[zhJ (G h)],rfl⟩
 ·subst h;repeat' (first|refine s_t ?_|refine q_k 2 ?_;refine q_v zP ?_|refine zaj (id:=4) 6 [[],[0],[0,1],[],[3],[3,4],[0,1,2,3,4,5]] mixed ?_ ?_;kernel_rfl;refine zA ?_;refine zay ?_;refine q_D (zL (hv:=m)) ?_;refine zA ?_;refine zay ?_;refine q_D (zL (hv:=q)) ?_;refine zaB ?_;refine zag ?_|refine zaj (id:=6) 6 [[],[0],[0,1],[],[3],[3,4],[0,1,2,3,4,5]] mixed ?_ ?_;kernel_rfl;refine zA ?_;refine zay ?_;refine q_D (zL (hv:=m)) ?_;refine zA ?_;refine zay ?_;refine q_D (zL (hv:=q)) ?_;refine zaB ?_;refine q_v zH ?_|refine q_k 3 ?_;refine q_x (zI (hr:=S)) ?_)
  refine zE j ⟨by omega,A rfl⟩ ?_ ?_ ?_
  ·show j<j+1;omega
  ·exact q_h
  ·exact q_h
 ·repeat' (first|refine s_t ?_|refine q_k 2 ?_;refine q_v zP ?_|refine zaj (id:=4) 6 [[],[0],[0,1],[],[3],[3,4],[0,1,2,3,4,5]] mixed ?_ ?_;kernel_rfl;refine zA ?_;refine zay ?_;refine q_D (zL (hv:=m)) ?_;refine zA ?_;refine zay ?_;refine q_D (zL (hv:=q)) ?_;refine zaB ?_;refine zag ?_|refine zaj (id:=6) 6 [[],[0],[0,1],[],[3],[3,4],[0,1,2,3,4,5]] mixed ?_ ?_;kernel_rfl;refine zA ?_;refine zay ?_;refine q_D (zL (hv:=m)) ?_;refine zA ?_;refine zay ?_;refine q_D (zL (hv:=q)) ?_;refine zaB ?_;refine q_v zH ?_|refine q_k 7 ?_)
  exact zap rfl (zh rfl) Er ⟨by rw[zjJ (B h)],rfl⟩
theorem zdJ(x y:Nat)(w:World)(hx:x<18446744073709551616^16)(q:y<18446744073709551616^16):
  q_G 134 [zr x,zr y] w (.int .i64 (zbx x y)):=by
 refine zt Tryz.func134 Tryz.ntmps134 ?_;have j:=zd x;have m:=zd y;repeat' (first|refine s_0 ?_|refine zf 0 ?_;refine zj ?_;intro _;refine zW ?_;intro _|refine q_k 1 ?_;refine zm ?_;refine zb ?_;refine zm ?_;refine q_v (za (hc:=λ_ _ _ _=>(zvl x y _ hx q))) ?_;refine zb ?_)
 exact q_r
end
open Go Go.Sy Go.Nt Go.RowKit
theorem zvW:NatTy Tryz.prog 133 131 129 16 where
 und:=by kernel_rfl
 stood:=by kernel_rfl
 flds:=by kernel_rfl
 arr:=⟨_,ty rfl,rfl,rfl⟩
 elem:=⟨_,ty rfl,rfl,rfl⟩
 guard:=by kernel_rfl
theorem natC0:List.replicate 16 (Value.int IntKind.u64 0)=zg 0:=by
 unfold zg;rw[zgs,BT];rfl
theorem zzM(n:Nat)(h:n<18446744073709551616):Value.int IntKind.u64 (n:Int)::List.replicate 15 (Value.int IntKind.u64 0)=zg n:=by
 unfold zg;rw[dg,A7 h,Al h,zgs,Aw,BT];rfl
theorem zfh:Value.agg (List.replicate 16 (Value.int IntKind.u64 0)).toArray=zr 0:=congrArg (λl:List Value=>Value.agg l.toArray) natC0
theorem zu7(n:Nat)(h:n<18446744073709551616):FillTo (λi=>some (i*1,1)) [(0,Value.int IntKind.u64 (n:Int))] (List.replicate 16 (Value.int IntKind.u64 0)) (zg n):=by
 refine .cons (cs:=[.int .u64 n]) rfl rfl rfl q_e ?_;rw[<-zzM n h];exact .nil
theorem zn9(n:Nat):FillTo (nth [(0,16)]) [(0,zr n)] (List.replicate 16 (Value.int IntKind.u64 0)) (zg n):=by
 refine .cons (cs:=zg n) rfl rfl (zd n) q_e ?_;rw[show zaI (List.replicate 16 (Value.int IntKind.u64 0)) 0 (zg n)=zg n by unfold zaI;rw[zd];simp];exact .nil
variable {ro:Option Nat}{N:Nat}{w0:World}{M:Nat->Prop}{ds:List Deferred}{g:Nat->Option Value}{L:List Res}{o:Oper}{t':TypeId}{x z:Operand}
theorem zfV{n:Nat}(j:o.op= .build 133 #[(0,z)]:=by exact rfl)(hz:ev g z=some (zr n):=by exact rfl):OpT Tryz.prog ro N w0 M ds o g L (Det (zr n) L):=
 zgb (parts:=#[(0,z)]) (vs:=[zr n]) (C:=zg n) (zn9 n) j (by simp[evs,hz]) (ty rfl) rfl rfl (zc rfl)
theorem zpu{n:Nat}(hn:n<18446744073709551616:=by omega)(j:o.op= .build 131 #[(0,z)]:=by exact rfl)(hz:ev g z=some (.int .u64 (n:Int)):=by exact rfl):OpT Tryz.prog ro N w0 M ds o g L (Det (zr n) L):=
 zq6 (parts:=#[(0,z)]) (n:=16) (e:=129) (vs:=[.int .u64 n]) (C:=zg n) (ty rfl) (zu7 n hn) j (by simp[evs,hz]) (ty rfl) rfl (zc rfl)
theorem zl{t:TypeId}{b T n:Nat}{C:List Value}{y:Ty}{L':List Res}(j:o.op= .store t x z:=by exact rfl)(hx:ev g x=some (.pointer (some ⟨b,0,none⟩)):=by exact rfl)(hz:ev g z=some (zr n):=by exact rfl)(m:zah Tryz.prog t=some y:=by exact ty rfl)(h1:y.size=16:=by exact rfl)
  (hL:Upd L (.blk b T C) (.blk b T (zg n)) L':=by repeat (first|exact FT|apply FR))(hC:C.length=16:=by first|exact zd _|rfl|assumption|simp;done|fail):OpT Tryz.prog ro N w0 M ds o g L (Det undef L'):=
 zC (B:=zg n) j hx hz m (by rw[h1,zd]) (zfE n) hL (by rw[hC,zd])
theorem zyG{n:Nat}{r:Bool}(hn:n<18446744073709551616^16)(hr:decide (n=0)=r)(j:o.op= .binOp .eql 133 x z t':=by exact rfl)(hx:ev g x=some (zr n):=by exact rfl)(hz:ev g z=some (.agg (List.replicate 16 (Value.int IntKind.u64 0)).toArray):=by exact rfl):OpT Tryz.prog ro N w0 M ds o g L (Det (.bool r) L):=
 znl zvW hn q_e hr j hx (zfh ▸ hz)
attribute [local irreducible] Sy SyL SyX Sy.Fn callFunc zg
theorem zdA(x:Nat)(w:World)(hx:x<18446744073709551616^16):
  q_G 101 [zr x] w (.bool (decide (x=0))):=by
 refine zt Tryz.func101 Tryz.ntmps101 ?_;have j:=zd x;repeat' (first|refine s_0 ?_|refine zf 0 ?_;refine zW ?_;intro _|refine zf 1 ?_;refine zm ?_;refine zbb ?_;refine q_x (zyG (n:=x) hx rfl) ?_)
 exact q_r
theorem zh5(n:Nat)(w:World)(hn:n<9223372036854775808):
  q_G 191 [.int .i64 n] w (.tuple #[zr n,.int .i64 0]):=by
 refine zt Tryz.func191 Tryz.ntmps191 ?_;have j:=zd n;repeat' (first|refine s_0 ?_|refine zf 0 ?_;refine zW ?_;intro _|refine q_k 1 ?_;refine zag ?_|refine q_k 3 ?_;refine zbd ?_;refine q_v (zpu (n:=n)) ?_;refine q_v (zfV (n:=n)) ?_;refine q_y (zl (n:=n)) ?_)
 exact zU rfl (zB rfl (ty rfl) rfl Ev Et (by first|rfl|simp only[A0,AO,AJ,A2];omega|(simp only[A0];first|assumption|omega)|simp;omega|fail)) (zh rfl) Er ⟨rfl,rfl⟩
end Go.Proofs.YtdnlngbjpdbffaaGreatDoor
namespace Go.Sy
open Go
variable {P:Program}{ro:Option Nat}{N:Nat}{w0:World}{M:Nat->Prop}{ds:List Deferred}{g:Nat->Option Value}{L:List Res}{o:Oper}
theorem zdt{q:Operand}{args:Array Operand}{m:Array TypeId}{f:Nat}{vs:List Value}{v:Value}
  (hr:∀w,(callFunc f vs.toArray).run P w= .ok (.value v) w)(r:o.op= .call { callee:=.value q,args:=args,argTypes:=m } :=by exact rfl)(B:ev g q=some (.func (.func f) #[] #[]):=by exact rfl)(ha:evs g args.toList=some vs:=by exact rfl):OpT P ro N w0 M ds o g L (Det v L):=
 F0 (by rw[r];rfl) λa w X A=>by
  have j:args.map a.eval=vs.toArray:=BA.1 (by rw[Bg,A.agr.evals ha]);simp only[execOp,r,resolve,A.agr.eval B,Deferred.ofValue,j,Sem.run_bind,Sem.run_pure,Result.andThen_ok,invoke];rw[show(#[]++vs.toArray ++ #[]:Array Value)=vs.toArray by simp];exact hr w
end Go.Sy
namespace Go.Proofs.YtdnlngbjpdbffaaGreatDoor
open Go Go.Sy Go.Nt Go.RowKit
theorem zcD(x y c:Nat)(hc:c<=1)(w:World):(callFunc 308 [nv x,nv y,nv c].toArray).run Tryz.prog w= .ok (.value (.tuple #[nv ((x+y+c)%18446744073709551616),nv ((x+y+c)/18446744073709551616)])) w:=by
 show(callFunc 308 #[.int .u64 x,.int .u64 y,.int .u64 c]).run Tryz.prog w=_;rw[run_callFunc_extern Tryz.func308 (by kernel_rfl) (by kernel_rfl) (by kernel_rfl) (e:=add64Entry) (by kernel_rfl),run_add64 x y c q_o q_o q_o q_o];simp only[Result.andThen,nv];congr 5 <;> omega
theorem zhW(x y b:Nat)(hb:b<=1)(w:World):(callFunc 306 [nv x,nv y,nv b].toArray).run Tryz.prog w= .ok (.value (.tuple #[nv ((x+18446744073709551616-y-b)%18446744073709551616),nv (if x<y+b then 1 else 0)])) w:=by
 show(callFunc 306 #[.int .u64 x,.int .u64 y,.int .u64 b]).run Tryz.prog w=_;rw[run_callFunc_extern Tryz.func306 (by kernel_rfl) (by kernel_rfl) (by kernel_rfl) (e:=sub64Entry) (by kernel_rfl),run_sub64 x y b hb];rfl
attribute [local irreducible] Sy SyL SyX Sy.Fn callFunc zg
theorem zxg(B x y c:Nat)(w:World)(hc:c<=1)(hC:(Res.blk B 129 [nv c]).holds w):
  Sy.Fn Tryz.prog 307 [nv x,nv y,.pointer (some ⟨B,0,none⟩)] w (λx=>x=B) (λv R=>v=nv ((x+y+c)%18446744073709551616)/\R= [.blk B 129 [nv ((x+y+c)/18446744073709551616)]]):=by
 have j:Holds w.heap.size (λx=>x=B) [.blk B 129 [nv c]] w:=⟨λx m=>by obtain rfl:=AE.1 m;exact hC,Bi _ _,λx m y q=>by obtain rfl:=AE.1 m;exact .inr (De q)⟩;refine zaW Tryz.func307 rfl Tryz.ntmps307 q_p j ?_;repeat' (first|refine s_0 ?_|refine zD [0,2] ?_;refine zb ?_|refine q_k 1 ?_;refine zm ?_;refine q_x (zdt (hr:=zcD x y c hc)) ?_;refine zO ?_)
 exact zap rfl (zh rfl) q_h ⟨rfl,rfl⟩
theorem zwA(B x y c:Nat)(w:World)(hc:c<=1)(hC:(Res.blk B 129 [nv c]).holds w):
  Sy.Fn Tryz.prog 305 [nv x,nv y,.pointer (some ⟨B,0,none⟩)] w (λx=>x=B) (λv R=>v=nv ((x+18446744073709551616-y-c)%18446744073709551616)/\R= [.blk B 129 [nv (if x<y+c then 1 else 0)]]):=by
 have j:Holds w.heap.size (λx=>x=B) [.blk B 129 [nv c]] w:=⟨λx m=>by obtain rfl:=AE.1 m;exact hC,Bi _ _,λx m y q=>by obtain rfl:=AE.1 m;exact .inr (De q)⟩;refine zaW Tryz.func305 rfl Tryz.ntmps305 q_p j ?_;repeat' (first|refine s_0 ?_|refine zD [0,2] ?_;refine zb ?_|refine q_k 1 ?_;refine zm ?_;refine q_x (zdt (hr:=zhW x y c hc)) ?_;refine zO ?_)
 exact zap rfl (zh rfl) q_h ⟨rfl,rfl⟩
theorem zqp(f B x y:Nat)(z k:Nat->Nat->Nat->Nat)(J:Nat->List Nat->Nat->Prop)(w:World)
  (K:∀args w,(callFunc f args).run Tryz.prog w= .ok (.enter f args) w)
  (Z:∀a d c w,c<=1->(Res.blk B 129 [nv c]).holds w->Sy.Fn Tryz.prog f [nv a,nv d,.pointer (some ⟨B,0,none⟩)] w (λx=>x=B) (λv R=>v=nv (z a d c)/\R= [.blk B 129 [nv (k a d c)]]))
  (h0:J 0 (dg 18446744073709551616 16 x) 0)
  (Y:∀i l c,i<16->J i l c->c<=1/\l.length=16/\l[i]?=some (x/18446744073709551616^i%18446744073709551616)/\J (i+1) (l.set i (z (x/18446744073709551616^i%18446744073709551616) (y/18446744073709551616^i%18446744073709551616) c)) (k (x/18446744073709551616^i%18446744073709551616) (y/18446744073709551616^i%18446744073709551616) c))
  (hC:(Res.blk B 129 [nv 0]).holds w):
  Sy.Fn Tryz.prog 304 [zr x,zr y,.func (.func f) #[] #[.pointer (some ⟨B,0,none⟩)]] w (λx=>x=B) (λv R=>∃l c,J 16 l c/\l.length=16/\v= .agg (l.map nv).toArray/\R= [.blk B 129 [nv c]]):=by
 have F:Holds w.heap.size (λx=>x=B) [.blk B 129 [nv 0]] w:=⟨λx V=>by obtain rfl:=AE.1 V;exact hC,Bi _ _,λx V y hy=>by obtain rfl:=AE.1 V;exact .inr (De hy)⟩;refine zaW Tryz.func304 rfl Tryz.ntmps304 q_p F ?_;have a6:=zd y;have U:zg x=(dg 18446744073709551616 16 x).map nv:=by unfold zg;rfl
 have O:=zbK y;repeat' (first|refine s_t ?_|refine zf 0 ?_;refine zj ?_;intro _;refine zj ?_;intro _;refine zj ?_;intro _|refine q_k 1 ?_)
 rename_i j m q;refine zN (γ:=Nat×List Nat×Nat) (λg=>[(2,.func (.func f) #[] #[.pointer (some ⟨B,0,none⟩)]),(3,.pointer (some ⟨j,0,none⟩)),(4,.pointer (some ⟨m,0,none⟩)),(6,.pointer (some ⟨q,0,none⟩)),(8,.int .i64 g.1)])
  (λg=>[.blk B 129 [nv g.2.2],.blk j 131 (g.2.1.map nv),.blk m 131 (zg y),.blk q 131 (List.replicate 16 (Value.int IntKind.u64 0))])
  (λg=>g.1<=16/\g.2.1.length=16/\J g.1 g.2.1 g.2.2) (λg=>16-g.1) (0,dg 18446744073709551616 16 x,0) ⟨A9 _,zcU _ _ _,h0⟩ ?_ ?_ ?_
 ·exact q_h
 ·show SubR [.blk B 129 [nv 0],.blk j 131 ((dg 18446744073709551616 16 x).map nv),.blk m 131 (zg y),.blk q 131 (List.replicate 16 (Value.int IntKind.u64 0))] _;rw[<-U];exact q_h
 rintro⟨i,l,c⟩ ⟨hi,r,Q⟩;dsimp only at hi r Q ⊢;by_cases hlt:i<16
 ·obtain⟨G,-,S,E⟩:=Y i l c hlt Q;have H:(l.map nv)[i]?=some (nv (x/18446744073709551616^i%18446744073709551616)):=by rw[AY,S];rfl
  have I:=O i hlt;have a7:(l.map nv).length=16:=by rw[A0,r]
  generalize y/18446744073709551616^i%18446744073709551616=d,x/18446744073709551616^i%18446744073709551616=a at*;repeat' (first|refine s_t ?_|refine zf 2 ?_;refine zag ?_|refine q_k 3 ?_)
  refine zcQ (id:=4) mixed ?_
  (refine zcX 9 9 [[],[],[],[2],[2,3],[],[5],[5,6],[1,2,3,4,5,6,7],[0,1,2,3,4,5,6,7,8],[0,1,2,3,4,5,6,7,8,9]] [[],[],[],[],[],[],[],[],[],[],[]] (some 8) rfl ?_ ?_ ?_;kernel_rfl;kernel_rfl;refine q_E zZ ?_;refine q_E zZ ?_;refine q_E zZ ?_;refine zcJ ?_;refine q_E (zL (hv:=H)) ?_;refine q_E zZ ?_;refine zcJ ?_;refine q_E (zL (hv:=I)) ?_;try refine dh_0nE (h:=?_))
  refine zf1 (R:=λ_ v W=>v=nv (z a d c)/\W= [.blk B 129 [nv (k a d c)],.blk j 131 (l.map nv),.blk m 131 (zg y),.blk q 131 (List.replicate 16 (Value.int IntKind.u64 0))]) (λ_ _ _=>rfl)
   (λρ hρ=>FH (znH (b:=B) (T:=129) (C:=[nv c]) (C':=[nv (k a d c)]) (v:=nv (z a d c)) (vs:=[nv a,nv d]) (cap:=[.pointer (some ⟨B,0,none⟩)]) (he:=K) (hL:=FT) (hc:=λw' X hk hh=>Z a d c w' G (hh.has (by exact Ey F1)))) λv L' h=>?_) (h:=?_)
  ·obtain⟨rfl,rfl⟩:=h;exact⟨_,(AG _).symm,rfl,rfl⟩
  refine ze1 (h:=?_);rintro ρ ⟨⟨e,A⟩,-⟩
  (refine zcW [[],[],[],[2],[2,3],[],[5],[5,6],[1,2,3,4,5,6,7],[0,1,2,3,4,5,6,7,8],[0,1,2,3,4,5,6,7,8,9]] ?_ ?_;kernel_rfl)
  have e:(ρ 8).1=nv (z a d c):=e;have A:(ρ 8).2= [.blk B 129 [nv (k a d c)],.blk j 131 (l.map nv),.blk m 131 (zg y),.blk q 131 (List.replicate 16 (Value.int IntKind.u64 0))]:=A;refine FI (fr':=[(19,nv (z a d c)),(11,.int .i64 i),(2,.func (.func f) #[] #[.pointer (some ⟨B,0,none⟩)]),(3,.pointer (some ⟨j,0,none⟩)),(4,.pointer (some ⟨m,0,none⟩)),(6,.pointer (some ⟨q,0,none⟩)),(8,.int .i64 i)])
   (L':=[.blk B 129 [nv (k a d c)],.blk j 131 (l.map nv),.blk m 131 (zg y),.blk q 131 (List.replicate 16 (Value.int IntKind.u64 0))]) ?_ ?_ ?_
  ·repeat' (first|refine s_0 ?_|refine zf 5 ?_;refine za4 ?_;refine zb ?_|(refine zy ?_;first|refine zQ ?_|refine zO ?_|fail)|fail)
   refine zE (i+1,l.set i (z a d c),k a d c) ⟨by show i+1<=16;omega,by rw[AO,r],E⟩ ?_ ?_ ?_
   ·show 16-(i+1)<16-i;omega
   ·exact q_h
   ·show SubR [.blk B 129 [nv (k a d c)],.blk j 131 ((l.set i (z a d c)).map nv),.blk m 131 (zg y),.blk q 131 (List.replicate 16 (Value.int IntKind.u64 0))] _;rw[Bq];exact q_h
  ·(repeat' (first|exact FP|refine FX rfl ?_ ?_|rfl))
   exact e
  ·show SubR _ ((ρ 8).2++[]);rw[A];exact q_h
 obtain rfl:i=16:=q_o;repeat' (first|refine s_0 ?_|refine zf 2 ?_;refine zag ?_|refine zf 6 ?_;refine zm ?_;refine zO ?_)
 exact zap rfl (zB (B:=l.map nv) rfl (ty rfl) rfl Ev Et (by rw[A0,r])) q_h ⟨l,c,Q,r,rfl,rfl⟩
theorem ztM(B x y:Nat)(w:World)(hx:x<18446744073709551616^16)(E:y<18446744073709551616^16)(hC:(Res.blk B 129 [nv 0]).holds w):
  Sy.Fn Tryz.prog 304 [zr x,zr y,.func (.func 307) #[] #[.pointer (some ⟨B,0,none⟩)]] w (λx=>x=B) (λv R=>∃s c,s<18446744073709551616^16/\s+c*18446744073709551616^16=x+y/\v=zr s/\R= [.blk B 129 [nv c]]):=by
 refine Sy.Fn.mono (zqp 307 B x y (λa d c=>(a+d+c)%18446744073709551616) (λa d c=>(a+d+c)/18446744073709551616) (AddJ 18446744073709551616 16 x y) w (en rfl)
  (λa d c w A hC=>zxg B a d c w A hC) (AddJ.start _ _ _ _ q_e hx) (λi l c j h=>⟨h.bit,h.len,h.rest i (A6 _) j,?_⟩) hC) ?_
 ·have H:x/18446744073709551616^i%18446744073709551616<18446744073709551616:=AC _ q_e;have C:y/18446744073709551616^i%18446744073709551616<18446744073709551616:=AC _ q_e;have F:=h.bit;refine h.step j (AC _ q_e) ?_ ?_
  ·generalize y/18446744073709551616^i%18446744073709551616=d,x/18446744073709551616^i%18446744073709551616=a at*;omega
  ·omega
 ·rintro v R ⟨l,c,h,G,rfl,rfl⟩;obtain⟨m,q,r⟩:=h.done E;exact⟨_,c,q,r,by unfold zr zg;rw[<-m],rfl⟩
theorem zun(B x y:Nat)(w:World)(hx:x<18446744073709551616^16)(E:y<18446744073709551616^16)(hC:(Res.blk B 129 [nv 0]).holds w):
  Sy.Fn Tryz.prog 304 [zr x,zr y,.func (.func 305) #[] #[.pointer (some ⟨B,0,none⟩)]] w (λx=>x=B) (λv R=>∃s c,s<18446744073709551616^16/\s+y=x+c*18446744073709551616^16/\v=zr s/\R= [.blk B 129 [nv c]]):=by
 refine Sy.Fn.mono (zqp 305 B x y (λa d c=>(a+18446744073709551616-d-c)%18446744073709551616) (λa d c=>if a<d+c then 1 else 0) (SubJ 18446744073709551616 16 x y) w (en rfl)
  (λa d c w A hC=>zwA B a d c w A hC) (SubJ.start _ _ _ _ q_e hx) (λi l c j h=>⟨h.bit,h.len,h.rest i (A6 _) j,?_⟩) hC) ?_
 ·have H:x/18446744073709551616^i%18446744073709551616<18446744073709551616:=AC _ q_e;have C:y/18446744073709551616^i%18446744073709551616<18446744073709551616:=AC _ q_e;have F:=h.bit;refine h.step j (AC _ q_e) ?_ ?_
  ·split <;> omega
  ·generalize y/18446744073709551616^i%18446744073709551616=d,x/18446744073709551616^i%18446744073709551616=a at*;split <;> omega
 ·rintro v R ⟨l,c,h,G,rfl,rfl⟩;obtain⟨m,q,r⟩:=h.done E;exact⟨_,c,q,r,by unfold zr zg;rw[<-m],rfl⟩
theorem ztb(x y:Nat)(w:World)(hx:x<18446744073709551616^16)(G:y<18446744073709551616^16):
  q_G 273 [zr x,zr y] w (if x+y<18446744073709551616^16 then .tuple #[zr (x+y),.int .i64 0] else .tuple #[zr 0,.int .i64 7]):=by
 refine zt Tryz.func273 Tryz.ntmps273 ?_;have A:=zd x;have E:=zd y;repeat' (first|refine s_0 ?_|refine zf 0 ?_;refine zj ?_;intro _;refine zj ?_;intro _;refine zW ?_;intro _|refine zf 1 ?_;refine zj ?_;intro _|refine q_k 2 ?_;refine zm ?_;refine zb ?_;refine zm ?_;refine q_v zab ?_)
 rename_i I J K j;refine q_s (zeg (vs:=[zr x,zr y,.func (.func 307) #[] #[.pointer (some ⟨j,0,none⟩)]]) (cap:=[]) (C:=[.blk j 129 [nv 0]]) (M':=λx=>x=j) (hC:=Ew Es rfl Ez) (hM:=λb m=>⟨_,AE.2 rfl,m.symm⟩) (hc:=λH X O q=>ztM j x y H hx G (q.has (by exact Ey F1)))) ?_;rintro _ _ ⟨R,rfl,s,c,Q,e,rfl,rfl⟩;have r:=zd s;by_cases hc:c=0
 ·subst hc;obtain rfl:s=x+y:=q_o;repeat' (first|refine s_0 ?_|refine zf 3 ?_;refine zm ?_;refine zaA ?_|refine zf 5 ?_;refine zm ?_;refine q_v (zfV (n:=x+y)) ?_;refine q_y (zl (n:=x+y)) ?_|(refine zy ?_;first|refine q_n (zl (n:=x+y)) ?_|refine zj ?_;intro _|fail)|fail)
  rw[if_pos q_o];exact zU rfl (zB (B:=zg (x+y)) rfl (ty rfl) rfl Ev Et (zd _).symm) (zh rfl) Er ⟨rfl,rfl⟩
 ·repeat' (first|refine s_0 ?_|refine zf 3 ?_;refine zm ?_;refine zaA ?_|refine zf 4 ?_;refine zbb ?_;refine zO ?_;refine zb ?_|(refine zy ?_;first|refine q_n (zl (n:=s)) ?_|refine zj ?_;intro _|fail)|fail)
  have F:18446744073709551616^16<=c*18446744073709551616^16:=BQ _ q_o;rw[if_neg q_o];exact zU rfl (zB (B:=List.replicate 16 (Value.int IntKind.u64 0)) rfl (ty rfl) rfl Ev Et rfl) (zh rfl) Er ⟨by rw[<-zfh],rfl⟩
theorem zlh(x y:Nat)(w:World)(hx:x<18446744073709551616^16)(G:y<18446744073709551616^16):
  q_G 272 [zr x,zr y] w (if y<=x then .tuple #[zr (x-y),.int .i64 0] else .tuple #[zr 0,.int .i64 3]):=by
 refine zt Tryz.func272 Tryz.ntmps272 ?_;have A:=zd x;have E:=zd y;repeat' (first|refine s_0 ?_|refine zf 0 ?_;refine zj ?_;intro _;refine zj ?_;intro _;refine zW ?_;intro _|refine zf 1 ?_;refine zj ?_;intro _|refine q_k 2 ?_;refine zm ?_;refine zb ?_;refine zm ?_;refine q_v zab ?_)
 rename_i I J K j;refine q_s (zeg (vs:=[zr x,zr y,.func (.func 305) #[] #[.pointer (some ⟨j,0,none⟩)]]) (cap:=[]) (C:=[.blk j 129 [nv 0]]) (M':=λx=>x=j) (hC:=Ew Es rfl Ez) (hM:=λb m=>⟨_,AE.2 rfl,m.symm⟩) (hc:=λH X O q=>zun j x y H hx G (q.has (by exact Ey F1)))) ?_;rintro _ _ ⟨R,rfl,s,c,Q,e,rfl,rfl⟩;have r:=zd s;by_cases hc:c=0
 ·subst hc;obtain rfl:s=x-y:=q_o;repeat' (first|refine s_0 ?_|refine zf 3 ?_;refine zm ?_;refine zaA ?_|refine zf 5 ?_;refine zm ?_;refine q_v (zfV (n:=x-y)) ?_;refine q_y (zl (n:=x-y)) ?_|(refine zy ?_;first|refine q_n (zl (n:=x-y)) ?_|refine zj ?_;intro _|fail)|fail)
  rw[if_pos q_o];exact zU rfl (zB (B:=zg (x-y)) rfl (ty rfl) rfl Ev Et (zd _).symm) (zh rfl) Er ⟨rfl,rfl⟩
 ·repeat' (first|refine s_0 ?_|refine zf 3 ?_;refine zm ?_;refine zaA ?_|refine zf 4 ?_;refine zbb ?_;refine zO ?_;refine zb ?_|(refine zy ?_;first|refine q_n (zl (n:=s)) ?_|refine zj ?_;intro _|fail)|fail)
  have F:18446744073709551616^16<=c*18446744073709551616^16:=BQ _ q_o;rw[if_neg q_o];exact zU rfl (zB (B:=List.replicate 16 (Value.int IntKind.u64 0)) rfl (ty rfl) rfl Ev Et rfl) (zh rfl) Er ⟨by rw[<-zfh],rfl⟩
end Go.Proofs.YtdnlngbjpdbffaaGreatDoor
