/- Lemmas. -/
import Derived.Test.YtdnlngbjpdbffaaGreatDoorZJ06
import Derived.Test.YtdnlngbjpdbffaaGreatDoorZJ08
import Derived.Shelf.Spec.BitsCarry
set_option maxRecDepth 10000
set_option linter.all false
namespace Go.Proofs.YtdnlngbjpdbffaaGreatDoor
section
open Go Go.Sy Go.Nt Go.RowKit
attribute [local irreducible] Sy SyL SyX Sy.Fn callFunc zg
def zbA(x y:Nat):Int:=if x<y then -1 else if x=y then 0 else 1
theorem zjf(x:Nat):zbA x x=0:=by unfold zbA;simp
theorem zhZ{x y:Nat}(h:x<y):zbA x y= -1:=by unfold zbA;simp[h]
theorem zjQ{x y:Nat}(h:y<x):zbA x y=1:=by unfold zbA;rw[if_neg q_o,if_neg q_o]
theorem zcS(x:Nat)(w:World)(hx:x<18446744073709551616^16):
  q_G 284 [zu x] w (.int .i64 ((nd 18446744073709551616 x:Nat):Int)):=by
 refine zt Tryz.func284 Tryz.ntmps284 ?_;have q:=zbO x;have H:=zd x;repeat' (first|refine s_t ?_|refine zf 0 ?_;refine z9 ?_;intro _|refine q_k 1 ?_)
 rename_i G;refine zL (γ:=Nat) (λi=>[(1,.pointer (some ⟨G,0,none⟩)),(3,.int .i64 i)]) (λ_=>[.blk G 131 (zg x)]) (λi=>i<=16/\x<18446744073709551616^i) (λi=>i) 16 ⟨A7 _,hx⟩ ?_ ?_ ?_
 ·exact q_h
 ·exact q_h
 rintro i ⟨J,A⟩;have j:(i=0\/x/18446744073709551616^(i-1)%18446744073709551616≠0)->nd 18446744073709551616 x=i:=λh=>by
  refine zcD _ _ _ q_e A λK=>?_;rcases h with h|h
  ·omega
  ·rcases AG x (18446744073709551616^(i-1)) with m|m
   ·rw[An m] at h;exact absurd rfl h
   ·exact m
 have r:IntKind.i64.wrap ((i:Int)-1)=((i-1:Nat):Int)\/i=0:=by
  rcases AE i with h|h
  ·exact .inr h
  ·rw[IntWalk.i64_in _ q_o];exact .inl q_o
 rcases AE i with h0|I
 ·have E:=j (.inl h0);subst h0;repeat' (first|refine s_0 ?_|refine q_k 2 ?_;refine q_x zH ?_|refine q_k 4 ?_)
  exact zar rfl (zh rfl) Ev ⟨by rw[E],rfl⟩
 have F:IntKind.i64.wrap ((i:Int)-1)=((i-1:Nat):Int):=by
  rcases r with h|h
  ·exact h
  ·omega
 have B:=q (i-1) q_o;by_cases hz:x/18446744073709551616^(i-1)%18446744073709551616=0
 ·rw[hz] at B;repeat' (first|refine s_t ?_|refine q_k 2 ?_;refine q_x zH ?_;refine q_v (zK (hr:=F)) ?_;refine zQ ?_;refine q_v (zM (hv:=B)) ?_;refine zaH ?_;refine zb ?_|refine q_k 3 ?_;refine q_x (zK (hr:=F)) ?_)
  refine zC (i-1) ⟨by omega,?_⟩ ?_ ?_ ?_
  ·have:=(AZ (x:=x) (y:=18446744073709551616) (k:=18446744073709551616^(i-1)) (AU q_e)).2 (by rw[AM,<-AN,show(i-1).succ=i by omega];exact A);rcases AG x (18446744073709551616^(i-1)) with m|m
   ·exact m
   ·rw[A9 this] at hz;have:=DK m (AU q_e);omega
  ·show i-1<i;omega
  ·exact q_h
  ·exact q_h
 ·have E:=j (.inr hz);generalize x/18446744073709551616^(i-1)%18446744073709551616=d at*;repeat' (first|refine s_0 ?_|refine q_k 2 ?_;refine q_x zH ?_;refine q_v (zK (hr:=F)) ?_;refine zQ ?_;refine q_v (zM (hv:=B)) ?_;refine q_x (zS (a:=((d:Nat):Int)) (hr:=q_f)) ?_|refine q_k 4 ?_)
  exact zar rfl (zh rfl) Ev ⟨by rw[E],rfl⟩
theorem zuI(x y:Nat)(w:World)(hx:x<18446744073709551616^16)(U:y<18446744073709551616^16):
  q_G 213 [zu x,zu y] w (.int .i64 (zbA x y)):=by
 refine zt Tryz.func213 Tryz.ntmps213 ?_;have E:=zbO x;have F:=zbO y;have R:=zd x;have S:=zd y;repeat' (first|refine s_t ?_|refine zf 0 ?_;refine zk ?_;intro _;refine z9 ?_;intro _|refine q_k 1 ?_)
 rename_i I J;refine zL (γ:=Nat) (λi=>[(2,.pointer (some ⟨I,0,none⟩)),(3,.pointer (some ⟨J,0,none⟩)),(5,.int .i64 ((i:Int)-1))]) (λ_=>[.blk I 131 (zg x),.blk J 131 (zg y)]) (λi=>i<=16/\x/18446744073709551616^i=y/18446744073709551616^i) (λi=>i) 16 ⟨A7 _,by rw[An hx,An U]⟩ ?_ ?_ ?_
 ·exact q_h
 ·exact q_h
 rintro i ⟨V,r⟩;rcases AE i with h0|K
 ·subst h0;simp only[Ao,CH] at r;subst r;repeat' (first|refine s_0 ?_|refine q_k 2 ?_;refine q_v zO ?_|refine q_k 8 ?_)
  exact zar rfl (zh rfl) Ev ⟨by rw[zjf],rfl⟩
 obtain⟨j,rfl⟩:∃j,i=j+1:=⟨i-1,by omega⟩;have G:(((j+1:Nat):Int)-1)=((j:Nat):Int):=q_o;have T:IntKind.i64.wrap ((j:Int)-1)=(j:Int)-1:=IntWalk.i64_in _ q_o;rw[G];have m:=E j q_o;have q:=F j q_o;have H:=zf7 18446744073709551616 x y j q_e r;have B:=zf7 18446744073709551616 y x j q_e r.symm;have A:=zpc 18446744073709551616 x y j r;generalize Q:y/18446744073709551616^j%18446744073709551616=e,O:x/18446744073709551616^j%18446744073709551616=d at*;rcases Cp d e with h|h|h
 ·repeat' (first|refine s_t ?_|refine q_k 2 ?_;refine q_v zO ?_|refine zai (id:=4) 6 [[],[0],[0,1],[],[3],[3,4],[0,1,2,3,4,5]] mixed ?_ ?_;kernel_rfl;refine zB ?_;refine zaB ?_;refine q_D (zM (hv:=m)) ?_;refine zB ?_;refine zaB ?_;refine q_D (zM (hv:=q)) ?_;refine zaF ?_;refine zaf ?_|refine q_k 5 ?_)
  exact zar rfl (zh rfl) Ev ⟨by rw[zhZ (H h)],rfl⟩
 ·subst h;repeat' (first|refine s_t ?_|refine q_k 2 ?_;refine q_v zO ?_|refine zai (id:=4) 6 [[],[0],[0,1],[],[3],[3,4],[0,1,2,3,4,5]] mixed ?_ ?_;kernel_rfl;refine zB ?_;refine zaB ?_;refine q_D (zM (hv:=m)) ?_;refine zB ?_;refine zaB ?_;refine q_D (zM (hv:=q)) ?_;refine zaF ?_;refine zaf ?_|refine zai (id:=6) 6 [[],[0],[0,1],[],[3],[3,4],[0,1,2,3,4,5]] mixed ?_ ?_;kernel_rfl;refine zB ?_;refine zaB ?_;refine q_D (zM (hv:=m)) ?_;refine zB ?_;refine zaB ?_;refine q_D (zM (hv:=q)) ?_;refine zaF ?_;refine q_v zH ?_|refine q_k 3 ?_;refine q_x (zK (hr:=T)) ?_)
  refine zC j ⟨by omega,A rfl⟩ ?_ ?_ ?_
  ·show j<j+1;omega
  ·exact q_h
  ·exact q_h
 ·repeat' (first|refine s_t ?_|refine q_k 2 ?_;refine q_v zO ?_|refine zai (id:=4) 6 [[],[0],[0,1],[],[3],[3,4],[0,1,2,3,4,5]] mixed ?_ ?_;kernel_rfl;refine zB ?_;refine zaB ?_;refine q_D (zM (hv:=m)) ?_;refine zB ?_;refine zaB ?_;refine q_D (zM (hv:=q)) ?_;refine zaF ?_;refine zaf ?_|refine zai (id:=6) 6 [[],[0],[0,1],[],[3],[3,4],[0,1,2,3,4,5]] mixed ?_ ?_;kernel_rfl;refine zB ?_;refine zaB ?_;refine q_D (zM (hv:=m)) ?_;refine zB ?_;refine zaB ?_;refine q_D (zM (hv:=q)) ?_;refine zaF ?_;refine q_v zH ?_|refine q_k 7 ?_)
  exact zar rfl (zh rfl) Ev ⟨by rw[zjQ (B h)],rfl⟩
theorem zdM(x y:Nat)(w:World)(hx:x<18446744073709551616^16)(q:y<18446744073709551616^16):
  q_G 134 [zu x,zu y] w (.int .i64 (zbA x y)):=by
 refine zt Tryz.func134 Tryz.ntmps134 ?_;have j:=zd x;have m:=zd y;repeat' (first|refine s_0 ?_|refine zf 0 ?_;refine zk ?_;intro _;refine z9 ?_;intro _|refine q_k 1 ?_;refine zm ?_;refine zb ?_;refine zm ?_;refine q_v (za (hc:=λ_ _ _ _=>(zuI x y _ hx q))) ?_;refine zb ?_)
 exact q_r
end
open Go Go.Sy Go.Nt Go.RowKit
theorem zwq:NatTy Tryz.prog 133 131 129 16 where
 und:=by kernel_rfl
 stood:=by kernel_rfl
 flds:=by kernel_rfl
 arr:=⟨_,ty rfl,rfl,rfl⟩
 elem:=⟨_,ty rfl,rfl,rfl⟩
 guard:=by kernel_rfl
theorem natC0:List.replicate 16 (Value.int IntKind.u64 0)=zg 0:=by
 unfold zg;rw[zgI,BY];rfl
theorem zAe(n:Nat)(h:n<18446744073709551616):Value.int IntKind.u64 (n:Int)::List.replicate 15 (Value.int IntKind.u64 0)=zg n:=by
 unfold zg;rw[dg,A9 h,An h,zgI,Au,BY];rfl
theorem zfw:Value.agg (List.replicate 16 (Value.int IntKind.u64 0)).toArray=zu 0:=congrArg (λl:List Value=>Value.agg l.toArray) natC0
theorem zu1(n:Nat)(h:n<18446744073709551616):FillTo (λi=>some (i*1,1)) [(0,Value.int IntKind.u64 (n:Int))] (List.replicate 16 (Value.int IntKind.u64 0)) (zg n):=by
 refine .cons (cs:=[.int .u64 n]) rfl rfl rfl q_e ?_;rw[<-zAe n h];exact .nil
theorem zn6(n:Nat):FillTo (nth [(0,16)]) [(0,zu n)] (List.replicate 16 (Value.int IntKind.u64 0)) (zg n):=by
 refine .cons (cs:=zg n) rfl rfl (zd n) q_e ?_;rw[show zaK (List.replicate 16 (Value.int IntKind.u64 0)) 0 (zg n)=zg n by unfold zaK;rw[zd];simp];exact .nil
variable {ro:Option Nat}{N:Nat}{w0:World}{M:Nat->Prop}{ds:List Deferred}{g:Nat->Option Value}{L:List Res}{o:Oper}{t':TypeId}{x z:Operand}
theorem zf0{n:Nat}(j:o.op= .build 133 #[(0,z)]:=by exact rfl)(hz:ev g z=some (zu n):=by exact rfl):OpT Tryz.prog ro N w0 M ds o g L (Det (zu n) L):=
 zgg (parts:=#[(0,z)]) (vs:=[zu n]) (C:=zg n) (zn6 n) j (by simp[evs,hz]) (ty rfl) rfl rfl (zc rfl)
theorem zpX{n:Nat}(hn:n<18446744073709551616:=by omega)(j:o.op= .build 131 #[(0,z)]:=by exact rfl)(hz:ev g z=some (.int .u64 (n:Int)):=by exact rfl):OpT Tryz.prog ro N w0 M ds o g L (Det (zu n) L):=
 zrb (parts:=#[(0,z)]) (n:=16) (e:=129) (vs:=[.int .u64 n]) (C:=zg n) (ty rfl) (zu1 n hn) j (by simp[evs,hz]) (ty rfl) rfl (zc rfl)
theorem zl{t:TypeId}{b T n:Nat}{C:List Value}{y:Ty}{L':List Res}(j:o.op= .store t x z:=by exact rfl)(hx:ev g x=some (.pointer (some ⟨b,0,none⟩)):=by exact rfl)(hz:ev g z=some (zu n):=by exact rfl)(m:zah Tryz.prog t=some y:=by exact ty rfl)(h1:y.size=16:=by exact rfl)
  (hL:Upd L (.blk b T C) (.blk b T (zg n)) L':=by repeat (first|exact FX|apply FV))(hC:C.length=16:=by first|exact zd _|rfl|assumption|simp;done|fail):OpT Tryz.prog ro N w0 M ds o g L (Det undef L'):=
 zG (B:=zg n) j hx hz m (by rw[h1,zd]) (zfG n) hL (by rw[hC,zd])
theorem zze{n:Nat}{r:Bool}(hn:n<18446744073709551616^16)(hr:decide (n=0)=r)(j:o.op= .binOp .eql 133 x z t':=by exact rfl)(hx:ev g x=some (zu n):=by exact rfl)(hz:ev g z=some (.agg (List.replicate 16 (Value.int IntKind.u64 0)).toArray):=by exact rfl):OpT Tryz.prog ro N w0 M ds o g L (Det (.bool r) L):=
 zop zwq hn q_e hr j hx (zfw ▸ hz)
attribute [local irreducible] Sy SyL SyX Sy.Fn callFunc zg
theorem zdH(x:Nat)(w:World)(hx:x<18446744073709551616^16):
  q_G 101 [zu x] w (.bool (decide (x=0))):=by
 refine zt Tryz.func101 Tryz.ntmps101 ?_;have j:=zd x;repeat' (first|refine s_0 ?_|refine zf 0 ?_;refine z9 ?_;intro _|refine zf 1 ?_;refine zm ?_;refine zbt ?_;refine q_x (zze (n:=x) hx rfl) ?_)
 exact q_r
theorem zit(n:Nat)(w:World)(hn:n<9223372036854775808):
  q_G 191 [.int .i64 n] w (.tuple #[zu n,.int .i64 0]):=by
 refine zt Tryz.func191 Tryz.ntmps191 ?_;have j:=zd n;repeat' (first|refine s_0 ?_|refine zf 0 ?_;refine z9 ?_;intro _|refine q_k 1 ?_;refine zaf ?_|refine q_k 3 ?_;refine zbh ?_;refine q_v (zpX (n:=n)) ?_;refine q_v (zf0 (n:=n)) ?_;refine q_y (zl (n:=n)) ?_)
 exact zU rfl (zE rfl (ty rfl) rfl Ey Ex (by first|rfl|simp only[A0,AO,AL,A4];omega|(simp only[A0];first|assumption|omega)|simp;omega|fail)) (zh rfl) Ev ⟨rfl,rfl⟩
end Go.Proofs.YtdnlngbjpdbffaaGreatDoor
namespace Go.Sy
open Go
variable {P:Program}{ro:Option Nat}{N:Nat}{w0:World}{M:Nat->Prop}{ds:List Deferred}{g:Nat->Option Value}{L:List Res}{o:Oper}
theorem zdA{q:Operand}{args:Array Operand}{m:Array TypeId}{f:Nat}{vs:List Value}{v:Value}
  (hr:∀w,(callFunc f vs.toArray).run P w= .ok (.value v) w)(r:o.op= .call { callee:=.value q,args:=args,argTypes:=m } :=by exact rfl)(B:ev g q=some (.func (.func f) #[] #[]):=by exact rfl)(ha:evs g args.toList=some vs:=by exact rfl):OpT P ro N w0 M ds o g L (Det v L):=
 F4 (by rw[r];rfl) λa w X A=>by
  have j:args.map a.eval=vs.toArray:=B9.1 (by rw[Bj,A.agr.evals ha]);simp only[execOp,r,resolve,A.agr.eval B,Deferred.ofValue,j,Sem.run_bind,Sem.run_pure,Result.andThen_ok,invoke];rw[show(#[]++vs.toArray ++ #[]:Array Value)=vs.toArray by simp];exact hr w
end Go.Sy
namespace Go.Proofs.YtdnlngbjpdbffaaGreatDoor
open Go Go.Sy Go.Nt Go.RowKit
theorem zcN(x y c:Nat)(hc:c<=1)(w:World):(callFunc 308 [nv x,nv y,nv c].toArray).run Tryz.prog w= .ok (.value (.tuple #[nv ((x+y+c)%18446744073709551616),nv ((x+y+c)/18446744073709551616)])) w:=by
 show(callFunc 308 #[.int .u64 x,.int .u64 y,.int .u64 c]).run Tryz.prog w=_;rw[run_callFunc_extern Tryz.func308 (by kernel_rfl) (by kernel_rfl) (by kernel_rfl) (e:=add64Entry) (by kernel_rfl),run_add64 x y c q_o q_o q_o q_o];simp only[Result.andThen,nv];congr 5 <;> omega
theorem zik(x y b:Nat)(hb:b<=1)(w:World):(callFunc 306 [nv x,nv y,nv b].toArray).run Tryz.prog w= .ok (.value (.tuple #[nv ((x+18446744073709551616-y-b)%18446744073709551616),nv (if x<y+b then 1 else 0)])) w:=by
 show(callFunc 306 #[.int .u64 x,.int .u64 y,.int .u64 b]).run Tryz.prog w=_;rw[run_callFunc_extern Tryz.func306 (by kernel_rfl) (by kernel_rfl) (by kernel_rfl) (e:=sub64Entry) (by kernel_rfl),run_sub64 x y b hb];rfl
attribute [local irreducible] Sy SyL SyX Sy.Fn callFunc zg
theorem zx2(B x y c:Nat)(w:World)(hc:c<=1)(hC:(Res.blk B 129 [nv c]).holds w):
  Sy.Fn Tryz.prog 307 [nv x,nv y,.pointer (some ⟨B,0,none⟩)] w (λx=>x=B) (λv R=>v=nv ((x+y+c)%18446744073709551616)/\R= [.blk B 129 [nv ((x+y+c)/18446744073709551616)]]):=by
 have j:Holds w.heap.size (λx=>x=B) [.blk B 129 [nv c]] w:=⟨λx m=>by obtain rfl:=AD.1 m;exact hC,Bl _ _,λx m y q=>by obtain rfl:=AD.1 m;exact .inr (Dd q)⟩;refine zaX Tryz.func307 rfl Tryz.ntmps307 q_p j ?_;repeat' (first|refine s_0 ?_|refine zA [0,2] ?_;refine zb ?_|refine q_k 1 ?_;refine zm ?_;refine q_x (zdA (hr:=zcN x y c hc)) ?_;refine zP ?_)
 exact zar rfl (zh rfl) q_h ⟨rfl,rfl⟩
theorem zxZ(B x y c:Nat)(w:World)(hc:c<=1)(hC:(Res.blk B 129 [nv c]).holds w):
  Sy.Fn Tryz.prog 305 [nv x,nv y,.pointer (some ⟨B,0,none⟩)] w (λx=>x=B) (λv R=>v=nv ((x+18446744073709551616-y-c)%18446744073709551616)/\R= [.blk B 129 [nv (if x<y+c then 1 else 0)]]):=by
 have j:Holds w.heap.size (λx=>x=B) [.blk B 129 [nv c]] w:=⟨λx m=>by obtain rfl:=AD.1 m;exact hC,Bl _ _,λx m y q=>by obtain rfl:=AD.1 m;exact .inr (Dd q)⟩;refine zaX Tryz.func305 rfl Tryz.ntmps305 q_p j ?_;repeat' (first|refine s_0 ?_|refine zA [0,2] ?_;refine zb ?_|refine q_k 1 ?_;refine zm ?_;refine q_x (zdA (hr:=zik x y c hc)) ?_;refine zP ?_)
 exact zar rfl (zh rfl) q_h ⟨rfl,rfl⟩
theorem zqI(f B x y:Nat)(z k:Nat->Nat->Nat->Nat)(J:Nat->List Nat->Nat->Prop)(w:World)
  (K:∀args w,(callFunc f args).run Tryz.prog w= .ok (.enter f args) w)
  (Z:∀a d c w,c<=1->(Res.blk B 129 [nv c]).holds w->Sy.Fn Tryz.prog f [nv a,nv d,.pointer (some ⟨B,0,none⟩)] w (λx=>x=B) (λv R=>v=nv (z a d c)/\R= [.blk B 129 [nv (k a d c)]]))
  (h0:J 0 (dg 18446744073709551616 16 x) 0)
  (Y:∀i l c,i<16->J i l c->c<=1/\l.length=16/\l[i]?=some (x/18446744073709551616^i%18446744073709551616)/\J (i+1) (l.set i (z (x/18446744073709551616^i%18446744073709551616) (y/18446744073709551616^i%18446744073709551616) c)) (k (x/18446744073709551616^i%18446744073709551616) (y/18446744073709551616^i%18446744073709551616) c))
  (hC:(Res.blk B 129 [nv 0]).holds w):
  Sy.Fn Tryz.prog 304 [zu x,zu y,.func (.func f) #[] #[.pointer (some ⟨B,0,none⟩)]] w (λx=>x=B) (λv R=>∃l c,J 16 l c/\l.length=16/\v= .agg (l.map nv).toArray/\R= [.blk B 129 [nv c]]):=by
 have F:Holds w.heap.size (λx=>x=B) [.blk B 129 [nv 0]] w:=⟨λx V=>by obtain rfl:=AD.1 V;exact hC,Bl _ _,λx V y hy=>by obtain rfl:=AD.1 V;exact .inr (Dd hy)⟩;refine zaX Tryz.func304 rfl Tryz.ntmps304 q_p F ?_;have a6:=zd y;have U:zg x=(dg 18446744073709551616 16 x).map nv:=by unfold zg;rfl
 have O:=zbO y;repeat' (first|refine s_t ?_|refine zf 0 ?_;refine zk ?_;intro _;refine zk ?_;intro _;refine zk ?_;intro _|refine q_k 1 ?_)
 rename_i j m q;refine zL (γ:=Nat×List Nat×Nat) (λg=>[(2,.func (.func f) #[] #[.pointer (some ⟨B,0,none⟩)]),(3,.pointer (some ⟨j,0,none⟩)),(4,.pointer (some ⟨m,0,none⟩)),(6,.pointer (some ⟨q,0,none⟩)),(8,.int .i64 g.1)])
  (λg=>[.blk B 129 [nv g.2.2],.blk j 131 (g.2.1.map nv),.blk m 131 (zg y),.blk q 131 (List.replicate 16 (Value.int IntKind.u64 0))])
  (λg=>g.1<=16/\g.2.1.length=16/\J g.1 g.2.1 g.2.2) (λg=>16-g.1) (0,dg 18446744073709551616 16 x,0) ⟨AA _,zc3 _ _ _,h0⟩ ?_ ?_ ?_
 ·exact q_h
 ·show SubR [.blk B 129 [nv 0],.blk j 131 ((dg 18446744073709551616 16 x).map nv),.blk m 131 (zg y),.blk q 131 (List.replicate 16 (Value.int IntKind.u64 0))] _;rw[<-U];exact q_h
 rintro⟨i,l,c⟩ ⟨hi,r,Q⟩;dsimp only at hi r Q ⊢;by_cases hlt:i<16
 ·obtain⟨G,-,S,E⟩:=Y i l c hlt Q;have H:(l.map nv)[i]?=some (nv (x/18446744073709551616^i%18446744073709551616)):=by rw[AW,S];rfl
  have I:=O i hlt;have a7:(l.map nv).length=16:=by rw[A0,r]
  generalize y/18446744073709551616^i%18446744073709551616=d,x/18446744073709551616^i%18446744073709551616=a at*;repeat' (first|refine s_t ?_|refine zf 2 ?_;refine zaf ?_|refine q_k 3 ?_)
  refine zc0 (id:=4) mixed ?_
  (refine zc1 9 9 [[],[],[],[2],[2,3],[],[5],[5,6],[1,2,3,4,5,6,7],[0,1,2,3,4,5,6,7,8],[0,1,2,3,4,5,6,7,8,9]] [[],[],[],[],[],[],[],[],[],[],[]] (some 8) rfl ?_ ?_ ?_;kernel_rfl;kernel_rfl;refine q_E zV ?_;refine q_E zV ?_;refine q_E zV ?_;refine zcT ?_;refine q_E (zM (hv:=H)) ?_;refine q_E zV ?_;refine zcT ?_;refine q_E (zM (hv:=I)) ?_;try refine dh_0nE (h:=?_))
  refine zfX (R:=λ_ v W=>v=nv (z a d c)/\W= [.blk B 129 [nv (k a d c)],.blk j 131 (l.map nv),.blk m 131 (zg y),.blk q 131 (List.replicate 16 (Value.int IntKind.u64 0))]) (λ_ _ _=>rfl)
   (λρ hρ=>FM (zog (b:=B) (T:=129) (C:=[nv c]) (C':=[nv (k a d c)]) (v:=nv (z a d c)) (vs:=[nv a,nv d]) (cap:=[.pointer (some ⟨B,0,none⟩)]) (he:=K) (hL:=FX) (hc:=λw' X hk hh=>Z a d c w' G (hh.has (by exact F1 F5)))) λv L' h=>?_) (h:=?_)
  ·obtain⟨rfl,rfl⟩:=h;exact⟨_,(AJ _).symm,rfl,rfl⟩
  refine zfm (h:=?_);rintro ρ ⟨⟨e,A⟩,-⟩
  (refine zc2 [[],[],[],[2],[2,3],[],[5],[5,6],[1,2,3,4,5,6,7],[0,1,2,3,4,5,6,7,8],[0,1,2,3,4,5,6,7,8,9]] ?_ ?_;kernel_rfl)
  have e:(ρ 8).1=nv (z a d c):=e;have A:(ρ 8).2= [.blk B 129 [nv (k a d c)],.blk j 131 (l.map nv),.blk m 131 (zg y),.blk q 131 (List.replicate 16 (Value.int IntKind.u64 0))]:=A;refine FL (fr':=[(19,nv (z a d c)),(11,.int .i64 i),(2,.func (.func f) #[] #[.pointer (some ⟨B,0,none⟩)]),(3,.pointer (some ⟨j,0,none⟩)),(4,.pointer (some ⟨m,0,none⟩)),(6,.pointer (some ⟨q,0,none⟩)),(8,.int .i64 i)])
   (L':=[.blk B 129 [nv (k a d c)],.blk j 131 (l.map nv),.blk m 131 (zg y),.blk q 131 (List.replicate 16 (Value.int IntKind.u64 0))]) ?_ ?_ ?_
  ·repeat' (first|refine s_0 ?_|refine zf 5 ?_;refine zba ?_;refine zb ?_|(refine zx ?_;first|refine zQ ?_|refine zP ?_|fail)|fail)
   refine zC (i+1,l.set i (z a d c),k a d c) ⟨by show i+1<=16;omega,by rw[AO,r],E⟩ ?_ ?_ ?_
   ·show 16-(i+1)<16-i;omega
   ·exact q_h
   ·show SubR [.blk B 129 [nv (k a d c)],.blk j 131 ((l.set i (z a d c)).map nv),.blk m 131 (zg y),.blk q 131 (List.replicate 16 (Value.int IntKind.u64 0))] _;rw[Bw];exact q_h
  ·(repeat' (first|exact GZ|refine Fb rfl ?_ ?_|rfl))
   exact e
  ·show SubR _ ((ρ 8).2++[]);rw[A];exact q_h
 obtain rfl:i=16:=q_o;repeat' (first|refine s_0 ?_|refine zf 2 ?_;refine zaf ?_|refine zf 6 ?_;refine zm ?_;refine zP ?_)
 exact zar rfl (zE (B:=l.map nv) rfl (ty rfl) rfl Ey Ex (by rw[A0,r])) q_h ⟨l,c,Q,r,rfl,rfl⟩
theorem zuc(B x y:Nat)(w:World)(hx:x<18446744073709551616^16)(F:y<18446744073709551616^16)(hC:(Res.blk B 129 [nv 0]).holds w):
  Sy.Fn Tryz.prog 304 [zu x,zu y,.func (.func 307) #[] #[.pointer (some ⟨B,0,none⟩)]] w (λx=>x=B) (λv R=>∃s c,s<18446744073709551616^16/\s+c*18446744073709551616^16=x+y/\v=zu s/\R= [.blk B 129 [nv c]]):=by
 refine Sy.Fn.mono (zqI 307 B x y (λa d c=>(a+d+c)%18446744073709551616) (λa d c=>(a+d+c)/18446744073709551616) (AddJ 18446744073709551616 16 x y) w (en rfl)
  (λa d c w A hC=>zx2 B a d c w A hC) (AddJ.start _ _ _ _ q_e hx) (λi l c j h=>⟨h.bit,h.len,h.rest i (A7 _) j,?_⟩) hC) ?_
 ·have I:x/18446744073709551616^i%18446744073709551616<18446744073709551616:=AC _ q_e;have E:y/18446744073709551616^i%18446744073709551616<18446744073709551616:=AC _ q_e;have G:=h.bit;refine h.step j (AC _ q_e) ?_ ?_
  ·generalize y/18446744073709551616^i%18446744073709551616=d,x/18446744073709551616^i%18446744073709551616=a at*;omega
  ·omega
 ·rintro v R ⟨l,c,h,H,rfl,rfl⟩;obtain⟨m,q,r⟩:=h.done F;exact⟨_,c,q,r,by unfold zu zg;rw[<-m],rfl⟩
theorem zuB(B x y:Nat)(w:World)(hx:x<18446744073709551616^16)(F:y<18446744073709551616^16)(hC:(Res.blk B 129 [nv 0]).holds w):
  Sy.Fn Tryz.prog 304 [zu x,zu y,.func (.func 305) #[] #[.pointer (some ⟨B,0,none⟩)]] w (λx=>x=B) (λv R=>∃s c,s<18446744073709551616^16/\s+y=x+c*18446744073709551616^16/\v=zu s/\R= [.blk B 129 [nv c]]):=by
 refine Sy.Fn.mono (zqI 305 B x y (λa d c=>(a+18446744073709551616-d-c)%18446744073709551616) (λa d c=>if a<d+c then 1 else 0) (SubJ 18446744073709551616 16 x y) w (en rfl)
  (λa d c w A hC=>zxZ B a d c w A hC) (SubJ.start _ _ _ _ q_e hx) (λi l c j h=>⟨h.bit,h.len,h.rest i (A7 _) j,?_⟩) hC) ?_
 ·have I:x/18446744073709551616^i%18446744073709551616<18446744073709551616:=AC _ q_e;have E:y/18446744073709551616^i%18446744073709551616<18446744073709551616:=AC _ q_e;have G:=h.bit;refine h.step j (AC _ q_e) ?_ ?_
  ·split <;> omega
  ·generalize y/18446744073709551616^i%18446744073709551616=d,x/18446744073709551616^i%18446744073709551616=a at*;split <;> omega
 ·rintro v R ⟨l,c,h,H,rfl,rfl⟩;obtain⟨m,q,r⟩:=h.done F;exact⟨_,c,q,r,by unfold zu zg;rw[<-m],rfl⟩
theorem zsI(x y:Nat)(w:World)(hx:x<18446744073709551616^16)(G:y<18446744073709551616^16):
  q_G 273 [zu x,zu y] w (if x+y<18446744073709551616^16 then .tuple #[zu (x+y),.int .i64 0] else .tuple #[zu 0,.int .i64 7]):=by
 refine zt Tryz.func273 Tryz.ntmps273 ?_;have A:=zd x;have E:=zd y;repeat' (first|refine s_0 ?_|refine zf 0 ?_;refine zk ?_;intro _;refine zk ?_;intro _;refine z9 ?_;intro _|refine zf 1 ?_;refine zk ?_;intro _|refine q_k 2 ?_;refine zm ?_;refine zb ?_;refine zm ?_;refine q_v zab ?_)
 rename_i I J K j;refine q_s (zeq (vs:=[zu x,zu y,.func (.func 307) #[] #[.pointer (some ⟨j,0,none⟩)]]) (cap:=[]) (C:=[.blk j 129 [nv 0]]) (M':=λx=>x=j) (hC:=F0 Eu rfl F2) (hM:=λb m=>⟨_,AD.2 rfl,m.symm⟩) (hc:=λH X O q=>zuc j x y H hx G (q.has (by exact F1 F5)))) ?_;rintro _ _ ⟨R,rfl,s,c,Q,e,rfl,rfl⟩;have r:=zd s;by_cases hc:c=0
 ·subst hc;obtain rfl:s=x+y:=q_o;repeat' (first|refine s_0 ?_|refine zf 3 ?_;refine zm ?_;refine zaJ ?_|refine zf 5 ?_;refine zm ?_;refine q_v (zf0 (n:=x+y)) ?_;refine q_y (zl (n:=x+y)) ?_|(refine zx ?_;first|refine q_n (zl (n:=x+y)) ?_|refine zk ?_;intro _|fail)|fail)
  rw[if_pos q_o];exact zU rfl (zE (B:=zg (x+y)) rfl (ty rfl) rfl Ey Ex (zd _).symm) (zh rfl) Ev ⟨rfl,rfl⟩
 ·repeat' (first|refine s_0 ?_|refine zf 3 ?_;refine zm ?_;refine zaJ ?_|refine zf 4 ?_;refine zbt ?_;refine zP ?_;refine zb ?_|(refine zx ?_;first|refine q_n (zl (n:=s)) ?_|refine zk ?_;intro _|fail)|fail)
  have F:18446744073709551616^16<=c*18446744073709551616^16:=BU _ q_o;rw[if_neg q_o];exact zU rfl (zE (B:=List.replicate 16 (Value.int IntKind.u64 0)) rfl (ty rfl) rfl Ey Ex rfl) (zh rfl) Ev ⟨by rw[<-zfw],rfl⟩
theorem zlx(x y:Nat)(w:World)(hx:x<18446744073709551616^16)(G:y<18446744073709551616^16):
  q_G 272 [zu x,zu y] w (if y<=x then .tuple #[zu (x-y),.int .i64 0] else .tuple #[zu 0,.int .i64 3]):=by
 refine zt Tryz.func272 Tryz.ntmps272 ?_;have A:=zd x;have E:=zd y;repeat' (first|refine s_0 ?_|refine zf 0 ?_;refine zk ?_;intro _;refine zk ?_;intro _;refine z9 ?_;intro _|refine zf 1 ?_;refine zk ?_;intro _|refine q_k 2 ?_;refine zm ?_;refine zb ?_;refine zm ?_;refine q_v zab ?_)
 rename_i I J K j;refine q_s (zeq (vs:=[zu x,zu y,.func (.func 305) #[] #[.pointer (some ⟨j,0,none⟩)]]) (cap:=[]) (C:=[.blk j 129 [nv 0]]) (M':=λx=>x=j) (hC:=F0 Eu rfl F2) (hM:=λb m=>⟨_,AD.2 rfl,m.symm⟩) (hc:=λH X O q=>zuB j x y H hx G (q.has (by exact F1 F5)))) ?_;rintro _ _ ⟨R,rfl,s,c,Q,e,rfl,rfl⟩;have r:=zd s;by_cases hc:c=0
 ·subst hc;obtain rfl:s=x-y:=q_o;repeat' (first|refine s_0 ?_|refine zf 3 ?_;refine zm ?_;refine zaJ ?_|refine zf 5 ?_;refine zm ?_;refine q_v (zf0 (n:=x-y)) ?_;refine q_y (zl (n:=x-y)) ?_|(refine zx ?_;first|refine q_n (zl (n:=x-y)) ?_|refine zk ?_;intro _|fail)|fail)
  rw[if_pos q_o];exact zU rfl (zE (B:=zg (x-y)) rfl (ty rfl) rfl Ey Ex (zd _).symm) (zh rfl) Ev ⟨rfl,rfl⟩
 ·repeat' (first|refine s_0 ?_|refine zf 3 ?_;refine zm ?_;refine zaJ ?_|refine zf 4 ?_;refine zbt ?_;refine zP ?_;refine zb ?_|(refine zx ?_;first|refine q_n (zl (n:=s)) ?_|refine zk ?_;intro _|fail)|fail)
  have F:18446744073709551616^16<=c*18446744073709551616^16:=BU _ q_o;rw[if_neg q_o];exact zU rfl (zE (B:=List.replicate 16 (Value.int IntKind.u64 0)) rfl (ty rfl) rfl Ey Ex rfl) (zh rfl) Ev ⟨by rw[<-zfw],rfl⟩
end Go.Proofs.YtdnlngbjpdbffaaGreatDoor
