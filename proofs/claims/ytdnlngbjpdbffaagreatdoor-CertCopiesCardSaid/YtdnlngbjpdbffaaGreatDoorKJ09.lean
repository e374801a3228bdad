/- Lemmas of this proof. -/
import Derived.Test.YtdnlngbjpdbffaaGreatDoorKJ06
import Derived.Test.YtdnlngbjpdbffaaGreatDoorKJ08
import Derived.Shelf.Spec.BitsCarry
set_option maxRecDepth 10000
set_option linter.all false
namespace Go.Proofs.YtdnlngbjpdbffaaGreatDoor
section
open Go Go.Sy Go.Nt Go.RowKit
attribute [local irreducible] Sy SyL SyX Sy.Fn callFunc zf
def za0(x y:Nat):Int:=if x<y then -1 else if x=y then 0 else 1
theorem zh4(x:Nat):za0 x x=0:=by unfold za0;simp
theorem zha{x y:Nat}(h:x<y):za0 x y= -1:=by unfold za0;simp[h]
theorem ziV{x y:Nat}(h:y<x):za0 x y=1:=by unfold za0;rw[if_neg q_o,if_neg q_o]
theorem zcz(x:Nat)(w:World)(hx:x<18446744073709551616^16):
  q_G 284 [zm x] w (.int .i64 ((nd 18446744073709551616 x:Nat):Int)):=by
 refine zo Tryz.func284 Tryz.ntmps284 ?_;have q:=zbz x;have F:=zd x;repeat' (first|refine s_t ?_|refine zg 0 ?_;refine zV ?_;intro _|refine q_k 1 ?_)
 rename_i E;refine zE (γ:=Nat) (λi=>[(1,.pointer (some ⟨E,0,none⟩)),(3,.int .i64 i)]) (λ_=>[.blk E 131 (zf x)]) (λi=>i<=16/\x<18446744073709551616^i) (λi=>i) 16 ⟨A4 _,hx⟩ ?_ ?_ ?_
 ·exact q_h
 ·exact q_h
 rintro i ⟨H,t⟩;have j:(i=0\/x/18446744073709551616^(i-1)%18446744073709551616≠0)->nd 18446744073709551616 x=i:=λh=>by
  refine zch _ _ _ q_e t λI=>?_;rcases h with h|h
  ·omega
  ·rcases AH x (18446744073709551616^(i-1)) with m|m
   ·rw[Al m] at h;exact absurd rfl h
   ·exact m
 have r:IntKind.i64.wrap ((i:Int)-1)=((i-1:Nat):Int)\/i=0:=by
  rcases AD i with h|h
  ·exact .inr h
  ·rw[IntWalk.i64_in _ q_o];exact .inl q_o
 rcases AD i with h0|G
 ·have B:=j (.inl h0);subst h0;repeat' (first|refine s_0 ?_|refine q_k 2 ?_;refine q_x zF ?_|refine q_k 4 ?_)
  exact zaw rfl (zr rfl) F2 ⟨by rw[B],rfl⟩
 have C:IntKind.i64.wrap ((i:Int)-1)=((i-1:Nat):Int):=by
  rcases r with h|h
  ·exact h
  ·omega
 have A:=q (i-1) q_o;by_cases hz:x/18446744073709551616^(i-1)%18446744073709551616=0
 ·rw[hz] at A;repeat' (first|refine s_t ?_|refine q_k 2 ?_;refine q_x zF ?_;refine q_v (zH (hr:=C)) ?_;refine zD ?_;refine q_v (zM (hv:=A)) ?_;refine zaH ?_;refine zb ?_|refine q_k 3 ?_;refine q_x (zH (hr:=C)) ?_)
  refine zy (i-1) ⟨by omega,?_⟩ ?_ ?_ ?_
  ·have:=(AW (x:=x) (y:=18446744073709551616) (k:=18446744073709551616^(i-1)) (AP q_e)).2 (by rw[A8,<-AJ,show(i-1).succ=i by omega];exact t);rcases AH x (18446744073709551616^(i-1)) with m|m
   ·exact m
   ·rw[A3 this] at hz;have:=DZ m (AP q_e);omega
  ·show i-1<i;omega
  ·exact q_h
  ·exact q_h
 ·have B:=j (.inr hz);generalize x/18446744073709551616^(i-1)%18446744073709551616=d at*;repeat' (first|refine s_0 ?_|refine q_k 2 ?_;refine q_x zF ?_;refine q_v (zH (hr:=C)) ?_;refine zD ?_;refine q_v (zM (hv:=A)) ?_;refine q_x (zaa (a:=((d:Nat):Int)) (hr:=q_f)) ?_|refine q_k 4 ?_)
  exact zaw rfl (zr rfl) F2 ⟨by rw[B],rfl⟩
theorem ztA(x y:Nat)(w:World)(hx:x<18446744073709551616^16)(S:y<18446744073709551616^16):
  q_G 213 [zm x,zm y] w (.int .i64 (za0 x y)):=by
 refine zo Tryz.func213 Tryz.ntmps213 ?_;have B:=zbz x;have C:=zbz y;have O:=zd x;have Q:=zd y;repeat' (first|refine s_t ?_|refine zg 0 ?_;refine zi ?_;intro _;refine zV ?_;intro _|refine q_k 1 ?_)
 rename_i G H;refine zE (γ:=Nat) (λi=>[(2,.pointer (some ⟨G,0,none⟩)),(3,.pointer (some ⟨H,0,none⟩)),(5,.int .i64 ((i:Int)-1))]) (λ_=>[.blk G 131 (zf x),.blk H 131 (zf y)]) (λi=>i<=16/\x/18446744073709551616^i=y/18446744073709551616^i) (λi=>i) 16 ⟨A4 _,by rw[Al hx,Al S]⟩ ?_ ?_ ?_
 ·exact q_h
 ·exact q_h
 rintro i ⟨T,r⟩;rcases AD i with h0|I
 ·subst h0;simp only[Ad,C7] at r;subst r;repeat' (first|refine s_0 ?_|refine q_k 2 ?_;refine q_v zP ?_|refine q_k 8 ?_)
  exact zaw rfl (zr rfl) F2 ⟨by rw[zh4],rfl⟩
 obtain⟨j,rfl⟩:∃j,i=j+1:=⟨i-1,by omega⟩;have E:(((j+1:Nat):Int)-1)=((j:Nat):Int):=q_o;have R:IntKind.i64.wrap ((j:Int)-1)=(j:Int)-1:=IntWalk.i64_in _ q_o;rw[E];have m:=B j q_o;have q:=C j q_o;have F:=zfn 18446744073709551616 x y j q_e r;have A:=zfn 18446744073709551616 y x j q_e r.symm;have t:=zmE 18446744073709551616 x y j r;generalize K:y/18446744073709551616^j%18446744073709551616=e,J:x/18446744073709551616^j%18446744073709551616=d at*;rcases D8 d e with h|h|h
 ·repeat' (first|refine s_t ?_|refine q_k 2 ?_;refine q_v zP ?_|refine z5 (id:=4) 6 [[],[0],[0,1],[],[3],[3,4],[0,1,2,3,4,5]] mixed ?_ ?_;kernel_rfl;refine zt ?_;refine zT ?_;refine q_D (zM (hv:=m)) ?_;refine zt ?_;refine zT ?_;refine q_D (zM (hv:=q)) ?_;refine zam ?_;refine zR ?_|refine q_k 5 ?_)
  exact zaw rfl (zr rfl) F2 ⟨by rw[zha (F h)],rfl⟩
 ·subst h;repeat' (first|refine s_t ?_|refine q_k 2 ?_;refine q_v zP ?_|refine z5 (id:=4) 6 [[],[0],[0,1],[],[3],[3,4],[0,1,2,3,4,5]] mixed ?_ ?_;kernel_rfl;refine zt ?_;refine zT ?_;refine q_D (zM (hv:=m)) ?_;refine zt ?_;refine zT ?_;refine q_D (zM (hv:=q)) ?_;refine zam ?_;refine zR ?_|refine z5 (id:=6) 6 [[],[0],[0,1],[],[3],[3,4],[0,1,2,3,4,5]] mixed ?_ ?_;kernel_rfl;refine zt ?_;refine zT ?_;refine q_D (zM (hv:=m)) ?_;refine zt ?_;refine zT ?_;refine q_D (zM (hv:=q)) ?_;refine zam ?_;refine q_v zF ?_|refine q_k 3 ?_;refine q_x (zH (hr:=R)) ?_)
  refine zy j ⟨by omega,t rfl⟩ ?_ ?_ ?_
  ·show j<j+1;omega
  ·exact q_h
  ·exact q_h
 ·repeat' (first|refine s_t ?_|refine q_k 2 ?_;refine q_v zP ?_|refine z5 (id:=4) 6 [[],[0],[0,1],[],[3],[3,4],[0,1,2,3,4,5]] mixed ?_ ?_;kernel_rfl;refine zt ?_;refine zT ?_;refine q_D (zM (hv:=m)) ?_;refine zt ?_;refine zT ?_;refine q_D (zM (hv:=q)) ?_;refine zam ?_;refine zR ?_|refine z5 (id:=6) 6 [[],[0],[0,1],[],[3],[3,4],[0,1,2,3,4,5]] mixed ?_ ?_;kernel_rfl;refine zt ?_;refine zT ?_;refine q_D (zM (hv:=m)) ?_;refine zt ?_;refine zT ?_;refine q_D (zM (hv:=q)) ?_;refine zam ?_;refine q_v zF ?_|refine q_k 7 ?_)
  exact zaw rfl (zr rfl) F2 ⟨by rw[ziV (A h)],rfl⟩
theorem zc7(x y:Nat)(w:World)(hx:x<18446744073709551616^16)(q:y<18446744073709551616^16):
  q_G 134 [zm x,zm y] w (.int .i64 (za0 x y)):=by
 refine zo Tryz.func134 Tryz.ntmps134 ?_;have j:=zd x;have m:=zd y;repeat' (first|refine s_0 ?_|refine zg 0 ?_;refine zi ?_;intro _;refine zV ?_;intro _|refine q_k 1 ?_;refine zk ?_;refine zb ?_;refine zk ?_;refine q_v (za (hc:=λ_ _ _ _=>(ztA x y _ hx q))) ?_;refine zb ?_)
 exact q_r
end
open Go Go.Sy Go.Nt Go.RowKit
theorem zuh:NatTy Tryz.prog 133 131 129 16 where
 und:=by kernel_rfl
 stood:=by kernel_rfl
 flds:=by kernel_rfl
 arr:=⟨_,ty rfl,rfl,rfl⟩
 elem:=⟨_,ty rfl,rfl,rfl⟩
 guard:=by kernel_rfl
theorem natC0:List.replicate 16 (Value.int IntKind.u64 0)=zf 0:=by
 unfold zf;rw[zf1,Ba];rfl
theorem zw5(n:Nat)(h:n<18446744073709551616):Value.int IntKind.u64 (n:Int)::List.replicate 15 (Value.int IntKind.u64 0)=zf n:=by
 unfold zf;rw[dg,A3 h,Al h,zf1,Ay,Ba];rfl
theorem zeF:Value.agg (List.replicate 16 (Value.int IntKind.u64 0)).toArray=zm 0:=congrArg (λl:List Value=>Value.agg l.toArray) natC0
theorem ztw(n:Nat)(h:n<18446744073709551616):FillTo (λi=>some (i*1,1)) [(0,Value.int IntKind.u64 (n:Int))] (List.replicate 16 (Value.int IntKind.u64 0)) (zf n):=by
 refine .cons (cs:=[.int .u64 n]) rfl rfl rfl q_e ?_;rw[<-zw5 n h];exact .nil
theorem znK(n:Nat):FillTo (nth [(0,16)]) [(0,zm n)] (List.replicate 16 (Value.int IntKind.u64 0)) (zf n):=by
 refine .cons (cs:=zf n) rfl rfl (zd n) q_e ?_;rw[show zaz (List.replicate 16 (Value.int IntKind.u64 0)) 0 (zf n)=zf n by unfold zaz;rw[zd];simp];exact .nil
variable {ro:Option Nat}{N:Nat}{w0:World}{M:Nat->Prop}{ds:List Deferred}{g:Nat->Option Value}{L:List Res}{o:Oper}{t':TypeId}{x z:Operand}
theorem zfl{n:Nat}(j:o.op= .build 133 #[(0,z)]:=by exact rfl)(hz:ev g z=some (zm n):=by exact rfl):OpT Tryz.prog ro N w0 M ds o g L (Det (zm n) L):=
 zfz (parts:=#[(0,z)]) (vs:=[zm n]) (C:=zf n) (znK n) j (by simp[evs,hz]) (ty rfl) rfl rfl (zc rfl)
theorem zn8{n:Nat}(hn:n<18446744073709551616:=by omega)(j:o.op= .build 131 #[(0,z)]:=by exact rfl)(hz:ev g z=some (.int .u64 (n:Int)):=by exact rfl):OpT Tryz.prog ro N w0 M ds o g L (Det (zm n) L):=
 zpL (parts:=#[(0,z)]) (n:=16) (e:=129) (vs:=[.int .u64 n]) (C:=zf n) (ty rfl) (ztw n hn) j (by simp[evs,hz]) (ty rfl) rfl (zc rfl)
theorem zj{t:TypeId}{b T n:Nat}{C:List Value}{y:Ty}{L':List Res}(j:o.op= .store t x z:=by exact rfl)(hx:ev g x=some (.pointer (some ⟨b,0,none⟩)):=by exact rfl)(hz:ev g z=some (zm n):=by exact rfl)(m:zac Tryz.prog t=some y:=by exact ty rfl)(h1:y.size=16:=by exact rfl)
  (hL:Upd L (.blk b T C) (.blk b T (zf n)) L':=by repeat (first|exact FU|apply FY))(hC:C.length=16:=by first|exact zd _|rfl|assumption|simp;done|fail):OpT Tryz.prog ro N w0 M ds o g L (Det undef L'):=
 zC (B:=zf n) j hx hz m (by rw[h1,zd]) (zeK n) hL (by rw[hC,zd])
theorem zv9{n:Nat}{r:Bool}(hn:n<18446744073709551616^16)(hr:decide (n=0)=r)(j:o.op= .binOp .eql 133 x z t':=by exact rfl)(hx:ev g x=some (zm n):=by exact rfl)(hz:ev g z=some (.agg (List.replicate 16 (Value.int IntKind.u64 0)).toArray):=by exact rfl):OpT Tryz.prog ro N w0 M ds o g L (Det (.bool r) L):=
 zmw zuh hn q_e hr j hx (zeF ▸ hz)
attribute [local irreducible] Sy SyL SyX Sy.Fn callFunc zf
theorem zc6(x:Nat)(w:World)(hx:x<18446744073709551616^16):
  q_G 101 [zm x] w (.bool (decide (x=0))):=by
 refine zo Tryz.func101 Tryz.ntmps101 ?_;have j:=zd x;repeat' (first|refine s_0 ?_|refine zg 0 ?_;refine zV ?_;intro _|refine zg 1 ?_;refine zk ?_;refine zbj ?_;refine q_x (zv9 (n:=x) hx rfl) ?_)
 exact q_r
theorem zhw(n:Nat)(w:World)(hn:n<9223372036854775808):
  q_G 191 [.int .i64 n] w (.tuple #[zm n,.int .i64 0]):=by
 refine zo Tryz.func191 Tryz.ntmps191 ?_;have j:=zd n;repeat' (first|refine s_0 ?_|refine zg 0 ?_;refine zV ?_;intro _|refine q_k 1 ?_;refine zR ?_|refine q_k 3 ?_;refine q_v (by first|exact op_convSame|exact op_toStrD|exact zal) ?_;refine q_v (zn8 (n:=n)) ?_;refine q_v (zfl (n:=n)) ?_;refine q_y (zj (n:=n)) ?_)
 exact zad rfl (zz rfl (ty rfl) rfl F4 F0 (by first|rfl|simp only[A0,AI,AK,A2];omega|(simp only[A0];first|assumption|omega)|simp;omega|fail)) (zr rfl) F2 ⟨rfl,rfl⟩
end Go.Proofs.YtdnlngbjpdbffaaGreatDoor
namespace Go.Sy
open Go
variable {P:Program}{ro:Option Nat}{N:Nat}{w0:World}{M:Nat->Prop}{ds:List Deferred}{g:Nat->Option Value}{L:List Res}{o:Oper}
theorem zc1{q:Operand}{args:Array Operand}{m:Array TypeId}{f:Nat}{vs:List Value}{v:Value}
  (hr:∀w,(callFunc f vs.toArray).run P w= .ok (.value v) w)(r:o.op= .call { callee:=.value q,args:=args,argTypes:=m } :=by exact rfl)(A:ev g q=some (.func (.func f) #[] #[]):=by exact rfl)(ha:evs g args.toList=some vs:=by exact rfl):OpT P ro N w0 M ds o g L (Det v L):=
 F7 (by rw[r];rfl) λa w X t=>by
  have j:args.map a.eval=vs.toArray:=BC.1 (by rw[Bn,t.agr.evals ha]);simp only[execOp,r,resolve,t.agr.eval A,Deferred.ofValue,j,Sem.run_bind,Sem.run_pure,Result.andThen_ok,invoke];rw[show(#[]++vs.toArray ++ #[]:Array Value)=vs.toArray by simp];exact hr w
end Go.Sy
namespace Go.Proofs.YtdnlngbjpdbffaaGreatDoor
open Go Go.Sy Go.Nt Go.RowKit
theorem zct(x y c:Nat)(hc:c<=1)(w:World):(callFunc 308 [nv x,nv y,nv c].toArray).run Tryz.prog w= .ok (.value (.tuple #[nv ((x+y+c)%18446744073709551616),nv ((x+y+c)/18446744073709551616)])) w:=by
 show(callFunc 308 #[.int .u64 x,.int .u64 y,.int .u64 c]).run Tryz.prog w=_;rw[run_callFunc_extern Tryz.func308 (by kernel_rfl) (by kernel_rfl) (by kernel_rfl) (e:=add64Entry) (by kernel_rfl),run_add64 x y c q_o q_o q_o q_o];simp only[Result.andThen,nv];congr 5 <;> omega
theorem zhl(x y b:Nat)(hb:b<=1)(w:World):(callFunc 306 [nv x,nv y,nv b].toArray).run Tryz.prog w= .ok (.value (.tuple #[nv ((x+18446744073709551616-y-b)%18446744073709551616),nv (if x<y+b then 1 else 0)])) w:=by
 show(callFunc 306 #[.int .u64 x,.int .u64 y,.int .u64 b]).run Tryz.prog w=_;rw[run_callFunc_extern Tryz.func306 (by kernel_rfl) (by kernel_rfl) (by kernel_rfl) (e:=sub64Entry) (by kernel_rfl),run_sub64 x y b hb];rfl
attribute [local irreducible] Sy SyL SyX Sy.Fn callFunc zf
theorem zuI(B x y c:Nat)(w:World)(hc:c<=1)(hC:(FD B 129 [nv c]).holds w):
  Sy.Fn Tryz.prog 307 [nv x,nv y,.pointer (some ⟨B,0,none⟩)] w (λx=>x=B) (λv R=>v=nv ((x+y+c)%18446744073709551616)/\R= [.blk B 129 [nv ((x+y+c)/18446744073709551616)]]):=by
 have j:Holds w.heap.size (λx=>x=B) [.blk B 129 [nv c]] w:=⟨λx m=>by obtain rfl:=AF.1 m;exact hC,Bh _ _,λx m y q=>by obtain rfl:=AF.1 m;exact .inr (E7 q)⟩;refine zcl Tryz.func307 rfl Tryz.ntmps307 q_p j ?_;repeat' (first|refine s_0 ?_|refine zK [0,2] ?_;refine zb ?_|refine q_k 1 ?_;refine zk ?_;refine q_x (zc1 (hr:=zct x y c hc)) ?_;refine zS ?_)
 exact zaw rfl (zr rfl) q_h ⟨rfl,rfl⟩
theorem zuo(B x y c:Nat)(w:World)(hc:c<=1)(hC:(FD B 129 [nv c]).holds w):
  Sy.Fn Tryz.prog 305 [nv x,nv y,.pointer (some ⟨B,0,none⟩)] w (λx=>x=B) (λv R=>v=nv ((x+18446744073709551616-y-c)%18446744073709551616)/\R= [.blk B 129 [nv (if x<y+c then 1 else 0)]]):=by
 have j:Holds w.heap.size (λx=>x=B) [.blk B 129 [nv c]] w:=⟨λx m=>by obtain rfl:=AF.1 m;exact hC,Bh _ _,λx m y q=>by obtain rfl:=AF.1 m;exact .inr (E7 q)⟩;refine zcl Tryz.func305 rfl Tryz.ntmps305 q_p j ?_;repeat' (first|refine s_0 ?_|refine zK [0,2] ?_;refine zb ?_|refine q_k 1 ?_;refine zk ?_;refine q_x (zc1 (hr:=zhl x y c hc)) ?_;refine zS ?_)
 exact zaw rfl (zr rfl) q_h ⟨rfl,rfl⟩
theorem zpc(f B x y:Nat)(z k:Nat->Nat->Nat->Nat)(J:Nat->List Nat->Nat->Prop)(w:World)
  (I:∀args w,(callFunc f args).run Tryz.prog w= .ok (.enter f args) w)
  (Y:∀a d c w,c<=1->(FD B 129 [nv c]).holds w->Sy.Fn Tryz.prog f [nv a,nv d,.pointer (some ⟨B,0,none⟩)] w (λx=>x=B) (λv R=>v=nv (z a d c)/\R= [.blk B 129 [nv (k a d c)]]))
  (h0:J 0 (dg 18446744073709551616 16 x) 0)
  (W:∀i l c,i<16->J i l c->c<=1/\l.length=16/\l[i]?=some (x/18446744073709551616^i%18446744073709551616)/\J (i+1) (l.set i (z (x/18446744073709551616^i%18446744073709551616) (y/18446744073709551616^i%18446744073709551616) c)) (k (x/18446744073709551616^i%18446744073709551616) (y/18446744073709551616^i%18446744073709551616) c))
  (hC:(FD B 129 [nv 0]).holds w):
  Sy.Fn Tryz.prog 304 [zm x,zm y,.func (.func f) #[] #[.pointer (some ⟨B,0,none⟩)]] w (λx=>x=B) (λv R=>∃l c,J 16 l c/\l.length=16/\v= .agg (l.map nv).toArray/\R= [.blk B 129 [nv c]]):=by
 have E:Holds w.heap.size (λx=>x=B) [.blk B 129 [nv 0]] w:=⟨λx U=>by obtain rfl:=AF.1 U;exact hC,Bh _ _,λx U y hy=>by obtain rfl:=AF.1 U;exact .inr (E7 hy)⟩;refine zcl Tryz.func304 rfl Tryz.ntmps304 q_p E ?_;have a6:=zd y;have S:zf x=(dg 18446744073709551616 16 x).map nv:=by unfold zf;rfl
 have K:=zbz y;repeat' (first|refine s_t ?_|refine zg 0 ?_;refine zi ?_;intro _;refine zi ?_;intro _;refine zi ?_;intro _|refine q_k 1 ?_)
 rename_i j m q;refine zE (γ:=Nat×List Nat×Nat) (λg=>[(2,.func (.func f) #[] #[.pointer (some ⟨B,0,none⟩)]),(3,.pointer (some ⟨j,0,none⟩)),(4,.pointer (some ⟨m,0,none⟩)),(6,.pointer (some ⟨q,0,none⟩)),(8,.int .i64 g.1)])
  (λg=>[.blk B 129 [nv g.2.2],.blk j 131 (g.2.1.map nv),.blk m 131 (zf y),.blk q 131 (List.replicate 16 (Value.int IntKind.u64 0))])
  (λg=>g.1<=16/\g.2.1.length=16/\J g.1 g.2.1 g.2.2) (λg=>16-g.1) (0,dg 18446744073709551616 16 x,0) ⟨AE _,zcq _ _ _,h0⟩ ?_ ?_ ?_
 ·exact q_h
 ·show SubR [.blk B 129 [nv 0],.blk j 131 ((dg 18446744073709551616 16 x).map nv),.blk m 131 (zf y),.blk q 131 (List.replicate 16 (Value.int IntKind.u64 0))] _;rw[<-S];exact q_h
 rintro⟨i,l,c⟩ ⟨hi,r,O⟩;dsimp only at hi r O ⊢;by_cases hlt:i<16
 ·obtain⟨F,-,Q,A⟩:=W i l c hlt O;have G:(l.map nv)[i]?=some (nv (x/18446744073709551616^i%18446744073709551616)):=by rw[AY,Q];rfl
  have H:=K i hlt;have a7:(l.map nv).length=16:=by rw[A0,r]
  generalize y/18446744073709551616^i%18446744073709551616=d,x/18446744073709551616^i%18446744073709551616=a at*;repeat' (first|refine s_t ?_|refine zg 2 ?_;refine zR ?_|refine q_k 3 ?_)
  refine zb2 (id:=4) mixed ?_
  (refine zbY 9 9 [[],[],[],[2],[2,3],[],[5],[5,6],[1,2,3,4,5,6,7],[0,1,2,3,4,5,6,7,8],[0,1,2,3,4,5,6,7,8,9]] [[],[],[],[],[],[],[],[],[],[],[]] (some 8) rfl ?_ ?_ ?_;kernel_rfl;kernel_rfl;refine q_E zao ?_;refine q_E zao ?_;refine q_E zao ?_;refine zcB ?_;refine q_E (zM (hv:=G)) ?_;refine q_E zao ?_;refine zcB ?_;refine q_E (zM (hv:=H)) ?_;try refine dh_0nE (h:=?_))
  refine zcW (R:=λ_ v V=>v=nv (z a d c)/\V= [.blk B 129 [nv (k a d c)],.blk j 131 (l.map nv),.blk m 131 (zf y),.blk q 131 (List.replicate 16 (Value.int IntKind.u64 0))]) (λ_ _ _=>rfl)
   (λρ hρ=>FF (zmp (b:=B) (T:=129) (C:=[nv c]) (C':=[nv (k a d c)]) (v:=nv (z a d c)) (vs:=[nv a,nv d]) (cap:=[.pointer (some ⟨B,0,none⟩)]) (he:=I) (hL:=FU) (hc:=λw' X hk Z=>Y a d c w' F (Z.has (by exact F5 F6)))) λv L' h=>?_) (h:=?_)
  ·obtain⟨rfl,rfl⟩:=h;exact⟨_,(AZ _).symm,rfl,rfl⟩
  refine zdI (h:=?_);rintro ρ ⟨⟨e,t⟩,-⟩
  (refine zb1 [[],[],[],[2],[2,3],[],[5],[5,6],[1,2,3,4,5,6,7],[0,1,2,3,4,5,6,7,8],[0,1,2,3,4,5,6,7,8,9]] ?_ ?_;kernel_rfl)
  have e:(ρ 8).1=nv (z a d c):=e;have t:(ρ 8).2= [.blk B 129 [nv (k a d c)],.blk j 131 (l.map nv),.blk m 131 (zf y),.blk q 131 (List.replicate 16 (Value.int IntKind.u64 0))]:=t;refine FI (fr':=[(19,nv (z a d c)),(11,.int .i64 i),(2,.func (.func f) #[] #[.pointer (some ⟨B,0,none⟩)]),(3,.pointer (some ⟨j,0,none⟩)),(4,.pointer (some ⟨m,0,none⟩)),(6,.pointer (some ⟨q,0,none⟩)),(8,.int .i64 i)])
   (L':=[.blk B 129 [nv (k a d c)],.blk j 131 (l.map nv),.blk m 131 (zf y),.blk q 131 (List.replicate 16 (Value.int IntKind.u64 0))]) ?_ ?_ ?_
  ·repeat' (first|refine s_0 ?_|refine zg 5 ?_;refine zaI ?_;refine zb ?_|(refine zW ?_;first|refine zD ?_|refine zS ?_|fail)|fail)
   refine zy (i+1,l.set i (z a d c),k a d c) ⟨by show i+1<=16;omega,by rw[AI,r],A⟩ ?_ ?_ ?_
   ·show 16-(i+1)<16-i;omega
   ·exact q_h
   ·show SubR [.blk B 129 [nv (k a d c)],.blk j 131 ((l.set i (z a d c)).map nv),.blk m 131 (zf y),.blk q 131 (List.replicate 16 (Value.int IntKind.u64 0))] _;rw[BS];exact q_h
  ·(repeat' (first|exact FQ|refine FX rfl ?_ ?_|rfl))
   exact e
  ·show SubR _ ((ρ 8).2++[]);rw[t];exact q_h
 obtain rfl:i=16:=q_o;repeat' (first|refine s_0 ?_|refine zg 2 ?_;refine zR ?_|refine zg 6 ?_;refine zk ?_;refine zS ?_)
 exact zaw rfl (zz (B:=l.map nv) rfl (ty rfl) rfl F4 F0 (by rw[A0,r])) q_h ⟨l,c,O,r,rfl,rfl⟩
theorem zsN(B x y:Nat)(w:World)(hx:x<18446744073709551616^16)(C:y<18446744073709551616^16)(hC:(FD B 129 [nv 0]).holds w):
  Sy.Fn Tryz.prog 304 [zm x,zm y,.func (.func 307) #[] #[.pointer (some ⟨B,0,none⟩)]] w (λx=>x=B) (λv R=>∃s c,s<18446744073709551616^16/\s+c*18446744073709551616^16=x+y/\v=zm s/\R= [.blk B 129 [nv c]]):=by
 refine Sy.Fn.mono (zpc 307 B x y (λa d c=>(a+d+c)%18446744073709551616) (λa d c=>(a+d+c)/18446744073709551616) (AddJ 18446744073709551616 16 x y) w (en rfl)
  (λa d c w t hC=>zuI B a d c w t hC) (AddJ.start _ _ _ _ q_e hx) (λi l c j h=>⟨h.bit,h.len,h.rest i (A4 _) j,?_⟩) hC) ?_
 ·have G:x/18446744073709551616^i%18446744073709551616<18446744073709551616:=A7 _ q_e;have A:y/18446744073709551616^i%18446744073709551616<18446744073709551616:=A7 _ q_e;have E:=h.bit;refine h.step j (A7 _ q_e) ?_ ?_
  ·generalize y/18446744073709551616^i%18446744073709551616=d,x/18446744073709551616^i%18446744073709551616=a at*;omega
  ·omega
 ·rintro v R ⟨l,c,h,F,rfl,rfl⟩;obtain⟨m,q,r⟩:=h.done C;exact⟨_,c,q,r,by unfold zm zf;rw[<-m],rfl⟩
theorem zsE(B x y:Nat)(w:World)(hx:x<18446744073709551616^16)(C:y<18446744073709551616^16)(hC:(FD B 129 [nv 0]).holds w):
  Sy.Fn Tryz.prog 304 [zm x,zm y,.func (.func 305) #[] #[.pointer (some ⟨B,0,none⟩)]] w (λx=>x=B) (λv R=>∃s c,s<18446744073709551616^16/\s+y=x+c*18446744073709551616^16/\v=zm s/\R= [.blk B 129 [nv c]]):=by
 refine Sy.Fn.mono (zpc 305 B x y (λa d c=>(a+18446744073709551616-d-c)%18446744073709551616) (λa d c=>if a<d+c then 1 else 0) (SubJ 18446744073709551616 16 x y) w (en rfl)
  (λa d c w t hC=>zuo B a d c w t hC) (SubJ.start _ _ _ _ q_e hx) (λi l c j h=>⟨h.bit,h.len,h.rest i (A4 _) j,?_⟩) hC) ?_
 ·have G:x/18446744073709551616^i%18446744073709551616<18446744073709551616:=A7 _ q_e;have A:y/18446744073709551616^i%18446744073709551616<18446744073709551616:=A7 _ q_e;have E:=h.bit;refine h.step j (A7 _ q_e) ?_ ?_
  ·split <;> omega
  ·generalize y/18446744073709551616^i%18446744073709551616=d,x/18446744073709551616^i%18446744073709551616=a at*;split <;> omega
 ·rintro v R ⟨l,c,h,F,rfl,rfl⟩;obtain⟨m,q,r⟩:=h.done C;exact⟨_,c,q,r,by unfold zm zf;rw[<-m],rfl⟩
theorem zrl(x y:Nat)(w:World)(hx:x<18446744073709551616^16)(F:y<18446744073709551616^16):
  q_G 273 [zm x,zm y] w (if x+y<18446744073709551616^16 then .tuple #[zm (x+y),.int .i64 0] else .tuple #[zm 0,.int .i64 7]):=by
 refine zo Tryz.func273 Tryz.ntmps273 ?_;have t:=zd x;have A:=zd y;repeat' (first|refine s_0 ?_|refine zg 0 ?_;refine zi ?_;intro _;refine zi ?_;intro _;refine zV ?_;intro _|refine zg 1 ?_;refine zi ?_;intro _|refine q_k 2 ?_;refine zk ?_;refine zb ?_;refine zk ?_;refine q_v zaj ?_)
 rename_i H I J j;refine q_s (zei (vs:=[zm x,zm y,.func (.func 307) #[] #[.pointer (some ⟨j,0,none⟩)]]) (cap:=[]) (C:=[.blk j 129 [nv 0]]) (M':=λx=>x=j) (hC:=FH F1 rfl FP) (hM:=λb m=>⟨_,AF.2 rfl,m.symm⟩) (hc:=λG X K q=>zsN j x y G hx F (q.has (by exact F5 F6)))) ?_;rintro _ _ ⟨R,rfl,s,c,O,e,rfl,rfl⟩;have r:=zd s;by_cases hc:c=0
 ·subst hc;obtain rfl:s=x+y:=q_o;repeat' (first|refine s_0 ?_|refine zg 3 ?_;refine zk ?_;refine zat ?_|refine zg 5 ?_;refine zk ?_;refine q_v (zfl (n:=x+y)) ?_;refine q_y (zj (n:=x+y)) ?_|(refine zW ?_;first|refine q_n (zj (n:=x+y)) ?_|refine zi ?_;intro _|fail)|fail)
  rw[if_pos q_o];exact zad rfl (zz (B:=zf (x+y)) rfl (ty rfl) rfl F4 F0 (zd _).symm) (zr rfl) F2 ⟨rfl,rfl⟩
 ·repeat' (first|refine s_0 ?_|refine zg 3 ?_;refine zk ?_;refine zat ?_|refine zg 4 ?_;refine zbj ?_;refine zS ?_;refine zb ?_|(refine zW ?_;first|refine q_n (zj (n:=s)) ?_|refine zi ?_;intro _|fail)|fail)
  have E:18446744073709551616^16<=c*18446744073709551616^16:=BZ _ q_o;rw[if_neg q_o];exact zad rfl (zz (B:=List.replicate 16 (Value.int IntKind.u64 0)) rfl (ty rfl) rfl F4 F0 rfl) (zr rfl) F2 ⟨by rw[<-zeF],rfl⟩
theorem zj8(x y:Nat)(w:World)(hx:x<18446744073709551616^16)(F:y<18446744073709551616^16):
  q_G 272 [zm x,zm y] w (if y<=x then .tuple #[zm (x-y),.int .i64 0] else .tuple #[zm 0,.int .i64 3]):=by
 refine zo Tryz.func272 Tryz.ntmps272 ?_;have t:=zd x;have A:=zd y;repeat' (first|refine s_0 ?_|refine zg 0 ?_;refine zi ?_;intro _;refine zi ?_;intro _;refine zV ?_;intro _|refine zg 1 ?_;refine zi ?_;intro _|refine q_k 2 ?_;refine zk ?_;refine zb ?_;refine zk ?_;refine q_v zaj ?_)
 rename_i H I J j;refine q_s (zei (vs:=[zm x,zm y,.func (.func 305) #[] #[.pointer (some ⟨j,0,none⟩)]]) (cap:=[]) (C:=[.blk j 129 [nv 0]]) (M':=λx=>x=j) (hC:=FH F1 rfl FP) (hM:=λb m=>⟨_,AF.2 rfl,m.symm⟩) (hc:=λG X K q=>zsE j x y G hx F (q.has (by exact F5 F6)))) ?_;rintro _ _ ⟨R,rfl,s,c,O,e,rfl,rfl⟩;have r:=zd s;by_cases hc:c=0
 ·subst hc;obtain rfl:s=x-y:=q_o;repeat' (first|refine s_0 ?_|refine zg 3 ?_;refine zk ?_;refine zat ?_|refine zg 5 ?_;refine zk ?_;refine q_v (zfl (n:=x-y)) ?_;refine q_y (zj (n:=x-y)) ?_|(refine zW ?_;first|refine q_n (zj (n:=x-y)) ?_|refine zi ?_;intro _|fail)|fail)
  rw[if_pos q_o];exact zad rfl (zz (B:=zf (x-y)) rfl (ty rfl) rfl F4 F0 (zd _).symm) (zr rfl) F2 ⟨rfl,rfl⟩
 ·repeat' (first|refine s_0 ?_|refine zg 3 ?_;refine zk ?_;refine zat ?_|refine zg 4 ?_;refine zbj ?_;refine zS ?_;refine zb ?_|(refine zW ?_;first|refine q_n (zj (n:=s)) ?_|refine zi ?_;intro _|fail)|fail)
  have E:18446744073709551616^16<=c*18446744073709551616^16:=BZ _ q_o;rw[if_neg q_o];exact zad rfl (zz (B:=List.replicate 16 (Value.int IntKind.u64 0)) rfl (ty rfl) rfl F4 F0 rfl) (zr rfl) F2 ⟨by rw[<-zeF],rfl⟩
end Go.Proofs.YtdnlngbjpdbffaaGreatDoor
