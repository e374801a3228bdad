/- Lemmas of this proof. -/
import Derived.Test.YtdnlngbjpdbffaaGreatDoorHJ06
import Derived.Test.YtdnlngbjpdbffaaGreatDoorHJ08
import Derived.Shelf.Spec.BitsCarry
set_option maxRecDepth 10000
set_option linter.all false
namespace Go.Proofs.YtdnlngbjpdbffaaGreatDoor
section
open Go Go.Sy Go.Nt Go.RowKit
attribute [local irreducible] Sy SyL SyX Sy.Fn callFunc zg
def zcc(x y:Nat):Int:=if x<y then -1 else if x=y then 0 else 1
theorem zrP(x:Nat):zcc x x=0:=by unfold zcc;simp
theorem zk2{x y:Nat}(h:x<y):zcc x y= -1:=by unfold zcc;simp[h]
theorem zpk{x y:Nat}(h:y<x):zcc x y=1:=by unfold zcc;rw[if_neg q_o,if_neg q_o]
theorem zcx(x:Nat)(w:World)(hx:x<18446744073709551616^16):
  q_G 284 [zu x] w (.int .i64 ((nd 18446744073709551616 x:Nat):Int)):=by
 refine zz Tryz.func284 Tryz.ntmps284 ?_;have q:=zbF x;have H:=zb x;repeat' (first|refine s_t ?_|refine ze 0 ?_;refine z9 ?_;intro _|refine q_k 1 ?_)
 rename_i G;refine zX (γ:=Nat) (λi=>[(1,.pointer (some ⟨G,0,none⟩)),(3,.int .i64 i)]) (λ_=>[.blk G 131 (zg x)]) (λi=>i<=16/\x<18446744073709551616^i) (λi=>i) 16 ⟨A8 _,hx⟩ ?_ ?_ ?_
 ·exact q_h
 ·exact q_h
 rintro i ⟨J,A⟩;have j:(i=0\/x/18446744073709551616^(i-1)%18446744073709551616≠0)->nd 18446744073709551616 x=i:=λh=>by
  refine zdY _ _ _ q_e A λK=>?_;rcases h with h|h
  ·omega
  ·rcases AK x (18446744073709551616^(i-1)) with m|m
   ·rw[Ap m] at h;exact absurd rfl h
   ·exact m
 have r:IntKind.i64.wrap ((i:Int)-1)=((i-1:Nat):Int)\/i=0:=by
  rcases AM i with h|h
  ·exact .inr h
  ·rw[IntWalk.i64_in _ q_o];exact .inl q_o
 rcases AM i with h0|I
 ·have E:=j (.inl h0);subst h0;repeat' (first|refine s_0 ?_|refine q_k 2 ?_;refine q_x zF ?_|refine q_k 4 ?_)
  exact zaq rfl (zj rfl) El ⟨by rw[E],rfl⟩
 have F:IntKind.i64.wrap ((i:Int)-1)=((i-1:Nat):Int):=by
  rcases r with h|h
  ·exact h
  ·omega
 have B:=q (i-1) q_o;by_cases hz:x/18446744073709551616^(i-1)%18446744073709551616=0
 ·rw[hz] at B;repeat' (first|refine s_t ?_|refine q_k 2 ?_;refine q_x zF ?_;refine q_v (zab (hr:=F)) ?_;refine zR ?_;refine q_v (zM (hv:=B)) ?_;refine zaH ?_;refine zf ?_|refine q_k 3 ?_;refine q_x (zab (hr:=F)) ?_)
  refine zQ (i-1) ⟨by omega,?_⟩ ?_ ?_ ?_
  ·have:=(Af (x:=x) (y:=18446744073709551616) (k:=18446744073709551616^(i-1)) (Ab q_e)).2 (by rw[AN,<-AS,show(i-1).succ=i by omega];exact A);rcases AK x (18446744073709551616^(i-1)) with m|m
   ·exact m
   ·rw[AA this] at hz;have:=EN m (Ab q_e);omega
  ·show i-1<i;omega
  ·exact q_h
  ·exact q_h
 ·have E:=j (.inr hz);generalize x/18446744073709551616^(i-1)%18446744073709551616=d at*;repeat' (first|refine s_0 ?_|refine q_k 2 ?_;refine q_x zF ?_;refine q_v (zab (hr:=F)) ?_;refine zR ?_;refine q_v (zM (hv:=B)) ?_;refine q_x (zY (a:=((d:Nat):Int)) (hr:=q_f)) ?_|refine q_k 4 ?_)
  exact zaq rfl (zj rfl) El ⟨by rw[E],rfl⟩
theorem zs9(x y:Nat)(w:World)(hx:x<18446744073709551616^16)(U:y<18446744073709551616^16):
  q_G 213 [zu x,zu y] w (.int .i64 (zcc x y)):=by
 refine zz Tryz.func213 Tryz.ntmps213 ?_;have E:=zbF x;have F:=zbF y;have R:=zb x;have S:=zb y;repeat' (first|refine s_t ?_|refine ze 0 ?_;refine zi ?_;intro _;refine z9 ?_;intro _|refine q_k 1 ?_)
 rename_i I J;refine zX (γ:=Nat) (λi=>[(2,.pointer (some ⟨I,0,none⟩)),(3,.pointer (some ⟨J,0,none⟩)),(5,.int .i64 ((i:Int)-1))]) (λ_=>[.blk I 131 (zg x),.blk J 131 (zg y)]) (λi=>i<=16/\x/18446744073709551616^i=y/18446744073709551616^i) (λi=>i) 16 ⟨A8 _,by rw[Ap hx,Ap U]⟩ ?_ ?_ ?_
 ·exact q_h
 ·exact q_h
 rintro i ⟨V,r⟩;rcases AM i with h0|K
 ·subst h0;simp only[Ax,Co] at r;subst r;repeat' (first|refine s_0 ?_|refine q_k 2 ?_;refine q_v zai ?_|refine q_k 8 ?_)
  exact zaq rfl (zj rfl) El ⟨by rw[zrP],rfl⟩
 obtain⟨j,rfl⟩:∃j,i=j+1:=⟨i-1,by omega⟩;have G:(((j+1:Nat):Int)-1)=((j:Nat):Int):=q_o;have T:IntKind.i64.wrap ((j:Int)-1)=(j:Int)-1:=IntWalk.i64_in _ q_o;rw[G];have m:=E j q_o;have q:=F j q_o;have H:=zjk 18446744073709551616 x y j q_e r;have B:=zjk 18446744073709551616 y x j q_e r.symm;have A:=zti 18446744073709551616 x y j r;generalize Q:y/18446744073709551616^j%18446744073709551616=e,O:x/18446744073709551616^j%18446744073709551616=d at*;rcases DL d e with h|h|h
 ·repeat' (first|refine s_t ?_|refine q_k 2 ?_;refine q_v zai ?_|refine zal (id:=4) 6 [[],[0],[0,1],[],[3],[3,4],[0,1,2,3,4,5]] mixed ?_ ?_;kernel_rfl;refine zO ?_;refine zaA ?_;refine q_D (zM (hv:=m)) ?_;refine zO ?_;refine zaA ?_;refine q_D (zM (hv:=q)) ?_;refine zaG ?_;refine q_v zm ?_|refine q_k 5 ?_)
  exact zaq rfl (zj rfl) El ⟨by rw[zk2 (H h)],rfl⟩
 ·subst h;repeat' (first|refine s_t ?_|refine q_k 2 ?_;refine q_v zai ?_|refine zal (id:=4) 6 [[],[0],[0,1],[],[3],[3,4],[0,1,2,3,4,5]] mixed ?_ ?_;kernel_rfl;refine zO ?_;refine zaA ?_;refine q_D (zM (hv:=m)) ?_;refine zO ?_;refine zaA ?_;refine q_D (zM (hv:=q)) ?_;refine zaG ?_;refine q_v zm ?_|refine zal (id:=6) 6 [[],[0],[0,1],[],[3],[3,4],[0,1,2,3,4,5]] mixed ?_ ?_;kernel_rfl;refine zO ?_;refine zaA ?_;refine q_D (zM (hv:=m)) ?_;refine zO ?_;refine zaA ?_;refine q_D (zM (hv:=q)) ?_;refine zaG ?_;refine q_v zF ?_|refine q_k 3 ?_;refine q_x (zab (hr:=T)) ?_)
  refine zQ j ⟨by omega,A rfl⟩ ?_ ?_ ?_
  ·show j<j+1;omega
  ·exact q_h
  ·exact q_h
 ·repeat' (first|refine s_t ?_|refine q_k 2 ?_;refine q_v zai ?_|refine zal (id:=4) 6 [[],[0],[0,1],[],[3],[3,4],[0,1,2,3,4,5]] mixed ?_ ?_;kernel_rfl;refine zO ?_;refine zaA ?_;refine q_D (zM (hv:=m)) ?_;refine zO ?_;refine zaA ?_;refine q_D (zM (hv:=q)) ?_;refine zaG ?_;refine q_v zm ?_|refine zal (id:=6) 6 [[],[0],[0,1],[],[3],[3,4],[0,1,2,3,4,5]] mixed ?_ ?_;kernel_rfl;refine zO ?_;refine zaA ?_;refine q_D (zM (hv:=m)) ?_;refine zO ?_;refine zaA ?_;refine q_D (zM (hv:=q)) ?_;refine zaG ?_;refine q_v zF ?_|refine q_k 7 ?_)
  exact zaq rfl (zj rfl) El ⟨by rw[zpk (B h)],rfl⟩
theorem zdn(x y:Nat)(w:World)(hx:x<18446744073709551616^16)(q:y<18446744073709551616^16):
  q_G 134 [zu x,zu y] w (.int .i64 (zcc x y)):=by
 refine zz Tryz.func134 Tryz.ntmps134 ?_;have j:=zb x;have m:=zb y;repeat' (first|refine s_0 ?_|refine ze 0 ?_;refine zi ?_;intro _;refine z9 ?_;intro _|refine q_k 1 ?_;refine zl ?_;refine zf ?_;refine zl ?_;refine q_v (za (hc:=λ_ _ _ _=>(zs9 x y _ hx q))) ?_;refine zf ?_)
 exact q_r
end
open Go Go.Sy Go.Nt Go.RowKit
theorem zuH:NatTy Tryz.prog 133 131 129 16 where
 und:=by kernel_rfl
 stood:=by kernel_rfl
 flds:=by kernel_rfl
 arr:=⟨_,ty rfl,rfl,rfl⟩
 elem:=⟨_,ty rfl,rfl,rfl⟩
 guard:=by kernel_rfl
theorem natC0:List.replicate 16 (Value.int IntKind.u64 0)=zg 0:=by
 unfold zg;rw[zg9,BU];rfl
theorem zx8(n:Nat)(h:n<18446744073709551616):Value.int IntKind.u64 (n:Int)::List.replicate 15 (Value.int IntKind.u64 0)=zg n:=by
 unfold zg;rw[dg,AA h,Ap h,zg9,As,BU];rfl
theorem zeY:Value.agg (List.replicate 16 (Value.int IntKind.u64 0)).toArray=zu 0:=congrArg (λl:List Value=>Value.agg l.toArray) natC0
theorem zsJ(n:Nat)(h:n<18446744073709551616):FillTo (λi=>some (i*1,1)) [(0,Value.int IntKind.u64 (n:Int))] (List.replicate 16 (Value.int IntKind.u64 0)) (zg n):=by
 refine .cons (cs:=[.int .u64 n]) rfl rfl rfl q_e ?_;rw[<-zx8 n h];exact .nil
theorem zn3(n:Nat):FillTo (nth [(0,16)]) [(0,zu n)] (List.replicate 16 (Value.int IntKind.u64 0)) (zg n):=by
 refine .cons (cs:=zg n) rfl rfl (zb n) q_e ?_;rw[show zaz (List.replicate 16 (Value.int IntKind.u64 0)) 0 (zg n)=zg n by unfold zaz;rw[zb];simp];exact .nil
variable {ro:Option Nat}{N:Nat}{w0:World}{M:Nat->Prop}{ds:List Deferred}{g:Nat->Option Value}{L:List Res}{o:Oper}{t':TypeId}{x z:Operand}
theorem zfu{n:Nat}(j:o.op= .build 133 #[(0,z)]:=by exact rfl)(hz:ev g z=some (zu n):=by exact rfl):OpT Tryz.prog ro N w0 M ds o g L (Det (zu n) L):=
 zgJ (parts:=#[(0,z)]) (vs:=[zu n]) (C:=zg n) (zn3 n) j (by simp[evs,hz]) (ty rfl) rfl rfl (zc rfl)
theorem zoA{n:Nat}(hn:n<18446744073709551616:=by omega)(j:o.op= .build 131 #[(0,z)]:=by exact rfl)(hz:ev g z=some (.int .u64 (n:Int)):=by exact rfl):OpT Tryz.prog ro N w0 M ds o g L (Det (zu n) L):=
 zpM (parts:=#[(0,z)]) (n:=16) (e:=129) (vs:=[.int .u64 n]) (C:=zg n) (ty rfl) (zsJ n hn) j (by simp[evs,hz]) (ty rfl) rfl (zc rfl)
theorem zk{t:TypeId}{b T n:Nat}{C:List Value}{y:Ty}{L':List Res}(j:o.op= .store t x z:=by exact rfl)(hx:ev g x=some (.pointer (some ⟨b,0,none⟩)):=by exact rfl)(hz:ev g z=some (zu n):=by exact rfl)(m:zag Tryz.prog t=some y:=by exact ty rfl)(h1:y.size=16:=by exact rfl)
  (hL:Upd L (.blk b T C) (.blk b T (zg n)) L':=by repeat (first|exact FI|apply FH))(hC:C.length=16:=by first|exact zb _|rfl|assumption|simp;done|fail):OpT Tryz.prog ro N w0 M ds o g L (Det undef L'):=
 zA (B:=zg n) j hx hz m (by rw[h1,zb]) (zfa n) hL (by rw[hC,zb])
theorem zwG{n:Nat}{r:Bool}(hn:n<18446744073709551616^16)(hr:decide (n=0)=r)(j:o.op= .binOp .eql 133 x z t':=by exact rfl)(hx:ev g x=some (zu n):=by exact rfl)(hz:ev g z=some (.agg (List.replicate 16 (Value.int IntKind.u64 0)).toArray):=by exact rfl):OpT Tryz.prog ro N w0 M ds o g L (Det (.bool r) L):=
 znZ zuH hn q_e hr j hx (zeY ▸ hz)
attribute [local irreducible] Sy SyL SyX Sy.Fn callFunc zg
theorem zdg(x:Nat)(w:World)(hx:x<18446744073709551616^16):
  q_G 101 [zu x] w (.bool (decide (x=0))):=by
 refine zz Tryz.func101 Tryz.ntmps101 ?_;have j:=zb x;repeat' (first|refine s_0 ?_|refine ze 0 ?_;refine z9 ?_;intro _|refine ze 1 ?_;refine zl ?_;refine za4 ?_;refine q_x (zwG (n:=x) hx rfl) ?_)
 exact q_r
theorem zhB(n:Nat)(w:World)(hn:n<9223372036854775808):
  q_G 191 [.int .i64 n] w (.tuple #[zu n,.int .i64 0]):=by
 refine zz Tryz.func191 Tryz.ntmps191 ?_;have j:=zb n;repeat' (first|refine s_0 ?_|refine ze 0 ?_;refine z9 ?_;intro _|refine q_k 1 ?_;refine q_v zm ?_|refine q_k 3 ?_;refine zbf ?_;refine q_v (zoA (n:=n)) ?_;refine q_v (zfu (n:=n)) ?_;refine q_y (zk (n:=n)) ?_)
 exact zT rfl (zB rfl (ty rfl) rfl En Em (by first|rfl|simp only[A1,AI,AJ,A3];omega|(simp only[A1];first|assumption|omega)|simp;omega|fail)) (zj rfl) El ⟨rfl,rfl⟩
end Go.Proofs.YtdnlngbjpdbffaaGreatDoor
namespace Go.Sy
open Go
variable {P:Program}{ro:Option Nat}{N:Nat}{w0:World}{M:Nat->Prop}{ds:List Deferred}{g:Nat->Option Value}{L:List Res}{o:Oper}
theorem zc8{q:Operand}{args:Array Operand}{m:Array TypeId}{f:Nat}{vs:List Value}{v:Value}
  (hr:∀w,(callFunc f vs.toArray).run P w= .ok (.value v) w)(r:o.op= .call { callee:=.value q,args:=args,argTypes:=m } :=by exact rfl)(B:ev g q=some (.func (.func f) #[] #[]):=by exact rfl)(ha:evs g args.toList=some vs:=by exact rfl):OpT P ro N w0 M ds o g L (Det v L):=
 Eu (by rw[r];rfl) λa w X A=>by
  have j:args.map a.eval=vs.toArray:=B5.1 (by rw[BZ,A.agr.evals ha]);simp only[execOp,r,resolve,A.agr.eval B,Deferred.ofValue,j,Sem.run_bind,Sem.run_pure,Result.andThen_ok,invoke];rw[show(#[]++vs.toArray ++ #[]:Array Value)=vs.toArray by simp];exact hr w
end Go.Sy
namespace Go.Proofs.YtdnlngbjpdbffaaGreatDoor
open Go Go.Sy Go.Nt Go.RowKit
theorem zct(x y c:Nat)(hc:c<=1)(w:World):(callFunc 308 [nv x,nv y,nv c].toArray).run Tryz.prog w= .ok (.value (.tuple #[nv ((x+y+c)%18446744073709551616),nv ((x+y+c)/18446744073709551616)])) w:=by
 show(callFunc 308 #[.int .u64 x,.int .u64 y,.int .u64 c]).run Tryz.prog w=_;rw[run_callFunc_extern Tryz.func308 (by kernel_rfl) (by kernel_rfl) (by kernel_rfl) (e:=add64Entry) (by kernel_rfl),run_add64 x y c q_o q_o q_o q_o];simp only[Result.andThen,nv];congr 5 <;> omega
theorem zhF(x y b:Nat)(hb:b<=1)(w:World):(callFunc 306 [nv x,nv y,nv b].toArray).run Tryz.prog w= .ok (.value (.tuple #[nv ((x+18446744073709551616-y-b)%18446744073709551616),nv (if x<y+b then 1 else 0)])) w:=by
 show(callFunc 306 #[.int .u64 x,.int .u64 y,.int .u64 b]).run Tryz.prog w=_;rw[run_callFunc_extern Tryz.func306 (by kernel_rfl) (by kernel_rfl) (by kernel_rfl) (e:=sub64Entry) (by kernel_rfl),run_sub64 x y b hb];rfl
attribute [local irreducible] Sy SyL SyX Sy.Fn callFunc zg
theorem zvO(B x y c:Nat)(w:World)(hc:c<=1)(hC:(Res.blk B 129 [nv c]).holds w):
  Sy.Fn Tryz.prog 307 [nv x,nv y,.pointer (some ⟨B,0,none⟩)] w (λx=>x=B) (λv R=>v=nv ((x+y+c)%18446744073709551616)/\R= [.blk B 129 [nv ((x+y+c)/18446744073709551616)]]):=by
 have j:Holds w.heap.size (λx=>x=B) [.blk B 129 [nv c]] w:=⟨λx m=>by obtain rfl:=AC.1 m;exact hC,Ba _ _,λx m y q=>by obtain rfl:=AC.1 m;exact .inr (Da q)⟩;refine zaT Tryz.func307 rfl Tryz.ntmps307 q_p j ?_;repeat' (first|refine s_0 ?_|refine zL [0,2] ?_;refine zf ?_|refine q_k 1 ?_;refine zl ?_;refine q_x (zc8 (hr:=zct x y c hc)) ?_;refine zJ ?_)
 exact zaq rfl (zj rfl) q_h ⟨rfl,rfl⟩
theorem zvR(B x y c:Nat)(w:World)(hc:c<=1)(hC:(Res.blk B 129 [nv c]).holds w):
  Sy.Fn Tryz.prog 305 [nv x,nv y,.pointer (some ⟨B,0,none⟩)] w (λx=>x=B) (λv R=>v=nv ((x+18446744073709551616-y-c)%18446744073709551616)/\R= [.blk B 129 [nv (if x<y+c then 1 else 0)]]):=by
 have j:Holds w.heap.size (λx=>x=B) [.blk B 129 [nv c]] w:=⟨λx m=>by obtain rfl:=AC.1 m;exact hC,Ba _ _,λx m y q=>by obtain rfl:=AC.1 m;exact .inr (Da q)⟩;refine zaT Tryz.func305 rfl Tryz.ntmps305 q_p j ?_;repeat' (first|refine s_0 ?_|refine zL [0,2] ?_;refine zf ?_|refine q_k 1 ?_;refine zl ?_;refine q_x (zc8 (hr:=zhF x y c hc)) ?_;refine zJ ?_)
 exact zaq rfl (zj rfl) q_h ⟨rfl,rfl⟩
theorem zpj(f B x y:Nat)(z k:Nat->Nat->Nat->Nat)(J:Nat->List Nat->Nat->Prop)(w:World)
  (K:∀args w,(callFunc f args).run Tryz.prog w= .ok (.enter f args) w)
  (Z:∀a d c w,c<=1->(Res.blk B 129 [nv c]).holds w->Sy.Fn Tryz.prog f [nv a,nv d,.pointer (some ⟨B,0,none⟩)] w (λx=>x=B) (λv R=>v=nv (z a d c)/\R= [.blk B 129 [nv (k a d c)]]))
  (h0:J 0 (dg 18446744073709551616 16 x) 0)
  (Y:∀i l c,i<16->J i l c->c<=1/\l.length=16/\l[i]?=some (x/18446744073709551616^i%18446744073709551616)/\J (i+1) (l.set i (z (x/18446744073709551616^i%18446744073709551616) (y/18446744073709551616^i%18446744073709551616) c)) (k (x/18446744073709551616^i%18446744073709551616) (y/18446744073709551616^i%18446744073709551616) c))
  (hC:(Res.blk B 129 [nv 0]).holds w):
  Sy.Fn Tryz.prog 304 [zu x,zu y,.func (.func f) #[] #[.pointer (some ⟨B,0,none⟩)]] w (λx=>x=B) (λv R=>∃l c,J 16 l c/\l.length=16/\v= .agg (l.map nv).toArray/\R= [.blk B 129 [nv c]]):=by
 have F:Holds w.heap.size (λx=>x=B) [.blk B 129 [nv 0]] w:=⟨λx V=>by obtain rfl:=AC.1 V;exact hC,Ba _ _,λx V y hy=>by obtain rfl:=AC.1 V;exact .inr (Da hy)⟩;refine zaT Tryz.func304 rfl Tryz.ntmps304 q_p F ?_;have a6:=zb y;have U:zg x=(dg 18446744073709551616 16 x).map nv:=by unfold zg;rfl
 have O:=zbF y;repeat' (first|refine s_t ?_|refine ze 0 ?_;refine zi ?_;intro _;refine zi ?_;intro _;refine zi ?_;intro _|refine q_k 1 ?_)
 rename_i j m q;refine zX (γ:=Nat×List Nat×Nat) (λg=>[(2,.func (.func f) #[] #[.pointer (some ⟨B,0,none⟩)]),(3,.pointer (some ⟨j,0,none⟩)),(4,.pointer (some ⟨m,0,none⟩)),(6,.pointer (some ⟨q,0,none⟩)),(8,.int .i64 g.1)])
  (λg=>[.blk B 129 [nv g.2.2],.blk j 131 (g.2.1.map nv),.blk m 131 (zg y),.blk q 131 (List.replicate 16 (Value.int IntKind.u64 0))])
  (λg=>g.1<=16/\g.2.1.length=16/\J g.1 g.2.1 g.2.2) (λg=>16-g.1) (0,dg 18446744073709551616 16 x,0) ⟨AE _,zdW _ _ _,h0⟩ ?_ ?_ ?_
 ·exact q_h
 ·show SubR [.blk B 129 [nv 0],.blk j 131 ((dg 18446744073709551616 16 x).map nv),.blk m 131 (zg y),.blk q 131 (List.replicate 16 (Value.int IntKind.u64 0))] _;rw[<-U];exact q_h
 rintro⟨i,l,c⟩ ⟨hi,r,Q⟩;dsimp only at hi r Q ⊢;by_cases hlt:i<16
 ·obtain⟨G,-,S,E⟩:=Y i l c hlt Q;have H:(l.map nv)[i]?=some (nv (x/18446744073709551616^i%18446744073709551616)):=by rw[Ak,S];rfl
  have I:=O i hlt;have a7:(l.map nv).length=16:=by rw[A1,r]
  generalize y/18446744073709551616^i%18446744073709551616=d,x/18446744073709551616^i%18446744073709551616=a at*;repeat' (first|refine s_t ?_|refine ze 2 ?_;refine q_v zm ?_|refine q_k 3 ?_)
  refine zcB (id:=4) mixed ?_
  (refine zcC 9 9 [[],[],[],[2],[2,3],[],[5],[5,6],[1,2,3,4,5,6,7],[0,1,2,3,4,5,6,7,8],[0,1,2,3,4,5,6,7,8,9]] [[],[],[],[],[],[],[],[],[],[],[]] (some 8) rfl ?_ ?_ ?_;kernel_rfl;kernel_rfl;refine q_E zar ?_;refine q_E zar ?_;refine q_E zar ?_;refine zcw ?_;refine q_E (zM (hv:=H)) ?_;refine q_E zar ?_;refine zcw ?_;refine q_E (zM (hv:=I)) ?_;try refine dh_0nE (h:=?_))
  refine zfq (R:=λ_ v W=>v=nv (z a d c)/\W= [.blk B 129 [nv (k a d c)],.blk j 131 (l.map nv),.blk m 131 (zg y),.blk q 131 (List.replicate 16 (Value.int IntKind.u64 0))]) (λ_ _ _=>rfl)
   (λρ hρ=>FA (zmP (b:=B) (T:=129) (C:=[nv c]) (C':=[nv (k a d c)]) (v:=nv (z a d c)) (vs:=[nv a,nv d]) (cap:=[.pointer (some ⟨B,0,none⟩)]) (he:=K) (hL:=FI) (hc:=λw' X hk hh=>Z a d c w' G (hh.has (by exact Et Ev)))) λv L' h=>?_) (h:=?_)
  ·obtain⟨rfl,rfl⟩:=h;exact⟨_,(AH _).symm,rfl,rfl⟩
  refine zeJ (h:=?_);rintro ρ ⟨⟨e,A⟩,-⟩
  (refine zcD [[],[],[],[2],[2,3],[],[5],[5,6],[1,2,3,4,5,6,7],[0,1,2,3,4,5,6,7,8],[0,1,2,3,4,5,6,7,8,9]] ?_ ?_;kernel_rfl)
  have e:(ρ 8).1=nv (z a d c):=e;have A:(ρ 8).2= [.blk B 129 [nv (k a d c)],.blk j 131 (l.map nv),.blk m 131 (zg y),.blk q 131 (List.replicate 16 (Value.int IntKind.u64 0))]:=A;refine F9 (fr':=[(19,nv (z a d c)),(11,.int .i64 i),(2,.func (.func f) #[] #[.pointer (some ⟨B,0,none⟩)]),(3,.pointer (some ⟨j,0,none⟩)),(4,.pointer (some ⟨m,0,none⟩)),(6,.pointer (some ⟨q,0,none⟩)),(8,.int .i64 i)])
   (L':=[.blk B 129 [nv (k a d c)],.blk j 131 (l.map nv),.blk m 131 (zg y),.blk q 131 (List.replicate 16 (Value.int IntKind.u64 0))]) ?_ ?_ ?_
  ·repeat' (first|refine s_0 ?_|refine ze 5 ?_;refine za9 ?_;refine zf ?_|(refine zx ?_;first|refine zR ?_|refine zJ ?_|fail)|fail)
   refine zQ (i+1,l.set i (z a d c),k a d c) ⟨by show i+1<=16;omega,by rw[AI,r],E⟩ ?_ ?_ ?_
   ·show 16-(i+1)<16-i;omega
   ·exact q_h
   ·show SubR [.blk B 129 [nv (k a d c)],.blk j 131 ((l.set i (z a d c)).map nv),.blk m 131 (zg y),.blk q 131 (List.replicate 16 (Value.int IntKind.u64 0))] _;rw[Bw];exact q_h
  ·(repeat' (first|exact FL|refine Fa rfl ?_ ?_|rfl))
   exact e
  ·show SubR _ ((ρ 8).2++[]);rw[A];exact q_h
 obtain rfl:i=16:=q_o;repeat' (first|refine s_0 ?_|refine ze 2 ?_;refine q_v zm ?_|refine ze 6 ?_;refine zl ?_;refine zJ ?_)
 exact zaq rfl (zB (B:=l.map nv) rfl (ty rfl) rfl En Em (by rw[A1,r])) q_h ⟨l,c,Q,r,rfl,rfl⟩
theorem ztz(B x y:Nat)(w:World)(hx:x<18446744073709551616^16)(F:y<18446744073709551616^16)(hC:(Res.blk B 129 [nv 0]).holds w):
  Sy.Fn Tryz.prog 304 [zu x,zu y,.func (.func 307) #[] #[.pointer (some ⟨B,0,none⟩)]] w (λx=>x=B) (λv R=>∃s c,s<18446744073709551616^16/\s+c*18446744073709551616^16=x+y/\v=zu s/\R= [.blk B 129 [nv c]]):=by
 refine Sy.Fn.mono (zpj 307 B x y (λa d c=>(a+d+c)%18446744073709551616) (λa d c=>(a+d+c)/18446744073709551616) (AddJ 18446744073709551616 16 x y) w (en rfl)
  (λa d c w A hC=>zvO B a d c w A hC) (AddJ.start _ _ _ _ q_e hx) (λi l c j h=>⟨h.bit,h.len,h.rest i (A8 _) j,?_⟩) hC) ?_
 ·have I:x/18446744073709551616^i%18446744073709551616<18446744073709551616:=AG _ q_e;have E:y/18446744073709551616^i%18446744073709551616<18446744073709551616:=AG _ q_e;have G:=h.bit;refine h.step j (AG _ q_e) ?_ ?_
  ·generalize y/18446744073709551616^i%18446744073709551616=d,x/18446744073709551616^i%18446744073709551616=a at*;omega
  ·omega
 ·rintro v R ⟨l,c,h,H,rfl,rfl⟩;obtain⟨m,q,r⟩:=h.done F;exact⟨_,c,q,r,by unfold zu zg;rw[<-m],rfl⟩
theorem ztr(B x y:Nat)(w:World)(hx:x<18446744073709551616^16)(F:y<18446744073709551616^16)(hC:(Res.blk B 129 [nv 0]).holds w):
  Sy.Fn Tryz.prog 304 [zu x,zu y,.func (.func 305) #[] #[.pointer (some ⟨B,0,none⟩)]] w (λx=>x=B) (λv R=>∃s c,s<18446744073709551616^16/\s+y=x+c*18446744073709551616^16/\v=zu s/\R= [.blk B 129 [nv c]]):=by
 refine Sy.Fn.mono (zpj 305 B x y (λa d c=>(a+18446744073709551616-d-c)%18446744073709551616) (λa d c=>if a<d+c then 1 else 0) (SubJ 18446744073709551616 16 x y) w (en rfl)
  (λa d c w A hC=>zvR B a d c w A hC) (SubJ.start _ _ _ _ q_e hx) (λi l c j h=>⟨h.bit,h.len,h.rest i (A8 _) j,?_⟩) hC) ?_
 ·have I:x/18446744073709551616^i%18446744073709551616<18446744073709551616:=AG _ q_e;have E:y/18446744073709551616^i%18446744073709551616<18446744073709551616:=AG _ q_e;have G:=h.bit;refine h.step j (AG _ q_e) ?_ ?_
  ·split <;> omega
  ·generalize y/18446744073709551616^i%18446744073709551616=d,x/18446744073709551616^i%18446744073709551616=a at*;split <;> omega
 ·rintro v R ⟨l,c,h,H,rfl,rfl⟩;obtain⟨m,q,r⟩:=h.done F;exact⟨_,c,q,r,by unfold zu zg;rw[<-m],rfl⟩
theorem zrM(x y:Nat)(w:World)(hx:x<18446744073709551616^16)(G:y<18446744073709551616^16):
  q_G 273 [zu x,zu y] w (if x+y<18446744073709551616^16 then .tuple #[zu (x+y),.int .i64 0] else .tuple #[zu 0,.int .i64 7]):=by
 refine zz Tryz.func273 Tryz.ntmps273 ?_;have A:=zb x;have E:=zb y;repeat' (first|refine s_0 ?_|refine ze 0 ?_;refine zi ?_;intro _;refine zi ?_;intro _;refine z9 ?_;intro _|refine ze 1 ?_;refine zi ?_;intro _|refine q_k 2 ?_;refine zl ?_;refine zf ?_;refine zl ?_;refine q_v zZ ?_)
 rename_i I J K j;refine q_s (zd1 (vs:=[zu x,zu y,.func (.func 307) #[] #[.pointer (some ⟨j,0,none⟩)]]) (cap:=[]) (C:=[.blk j 129 [nv 0]]) (M':=λx=>x=j) (hC:=Eo Ej rfl Er) (hM:=λb m=>⟨_,AC.2 rfl,m.symm⟩) (hc:=λH X O q=>ztz j x y H hx G (q.has (by exact Et Ev)))) ?_;rintro _ _ ⟨R,rfl,s,c,Q,e,rfl,rfl⟩;have r:=zb s;by_cases hc:c=0
 ·subst hc;obtain rfl:s=x+y:=q_o;repeat' (first|refine s_0 ?_|refine ze 3 ?_;refine zl ?_;refine zat ?_|refine ze 5 ?_;refine zl ?_;refine q_v (zfu (n:=x+y)) ?_;refine q_y (zk (n:=x+y)) ?_|(refine zx ?_;first|refine q_n (zk (n:=x+y)) ?_|refine zi ?_;intro _|fail)|fail)
  rw[if_pos q_o];exact zT rfl (zB (B:=zg (x+y)) rfl (ty rfl) rfl En Em (zb _).symm) (zj rfl) El ⟨rfl,rfl⟩
 ·repeat' (first|refine s_0 ?_|refine ze 3 ?_;refine zl ?_;refine zat ?_|refine ze 4 ?_;refine za4 ?_;refine zJ ?_;refine zf ?_|(refine zx ?_;first|refine q_n (zk (n:=s)) ?_|refine zi ?_;intro _|fail)|fail)
  have F:18446744073709551616^16<=c*18446744073709551616^16:=C4 _ q_o;rw[if_neg q_o];exact zT rfl (zB (B:=List.replicate 16 (Value.int IntKind.u64 0)) rfl (ty rfl) rfl En Em rfl) (zj rfl) El ⟨by rw[<-zeY],rfl⟩
theorem zj4(x y:Nat)(w:World)(hx:x<18446744073709551616^16)(G:y<18446744073709551616^16):
  q_G 272 [zu x,zu y] w (if y<=x then .tuple #[zu (x-y),.int .i64 0] else .tuple #[zu 0,.int .i64 3]):=by
 refine zz Tryz.func272 Tryz.ntmps272 ?_;have A:=zb x;have E:=zb y;repeat' (first|refine s_0 ?_|refine ze 0 ?_;refine zi ?_;intro _;refine zi ?_;intro _;refine z9 ?_;intro _|refine ze 1 ?_;refine zi ?_;intro _|refine q_k 2 ?_;refine zl ?_;refine zf ?_;refine zl ?_;refine q_v zZ ?_)
 rename_i I J K j;refine q_s (zd1 (vs:=[zu x,zu y,.func (.func 305) #[] #[.pointer (some ⟨j,0,none⟩)]]) (cap:=[]) (C:=[.blk j 129 [nv 0]]) (M':=λx=>x=j) (hC:=Eo Ej rfl Er) (hM:=λb m=>⟨_,AC.2 rfl,m.symm⟩) (hc:=λH X O q=>ztr j x y H hx G (q.has (by exact Et Ev)))) ?_;rintro _ _ ⟨R,rfl,s,c,Q,e,rfl,rfl⟩;have r:=zb s;by_cases hc:c=0
 ·subst hc;obtain rfl:s=x-y:=q_o;repeat' (first|refine s_0 ?_|refine ze 3 ?_;refine zl ?_;refine zat ?_|refine ze 5 ?_;refine zl ?_;refine q_v (zfu (n:=x-y)) ?_;refine q_y (zk (n:=x-y)) ?_|(refine zx ?_;first|refine q_n (zk (n:=x-y)) ?_|refine zi ?_;intro _|fail)|fail)
  rw[if_pos q_o];exact zT rfl (zB (B:=zg (x-y)) rfl (ty rfl) rfl En Em (zb _).symm) (zj rfl) El ⟨rfl,rfl⟩
 ·repeat' (first|refine s_0 ?_|refine ze 3 ?_;refine zl ?_;refine zat ?_|refine ze 4 ?_;refine za4 ?_;refine zJ ?_;refine zf ?_|(refine zx ?_;first|refine q_n (zk (n:=s)) ?_|refine zi ?_;intro _|fail)|fail)
  have F:18446744073709551616^16<=c*18446744073709551616^16:=C4 _ q_o;rw[if_neg q_o];exact zT rfl (zB (B:=List.replicate 16 (Value.int IntKind.u64 0)) rfl (ty rfl) rfl En Em rfl) (zj rfl) El ⟨by rw[<-zeY],rfl⟩
end Go.Proofs.YtdnlngbjpdbffaaGreatDoor
