/- Lemmas. -/
import Derived.Test.YtdnlngbjpdbffaaGreatDoorZJ16
import Derived.Laws.Small
set_option maxHeartbeats 1000000
set_option maxRecDepth 10000
set_option linter.all false
namespace Go.Sy
open Go
variable {P:Program}{ro:Option Nat}{N:Nat}{w0:World}{M:Nat->Prop}{ds:List Deferred}{g:Nat->Option Value}{L:List Res}{o:Oper}
theorem zwP{x z:Operand}{ts:Array TypeId}{k q:IntKind}{a b c:Int}(hr:min a b=c)(j:o.op= .call { callee:=.builtin .min,args:=#[x,z],argTypes:=ts } :=by exact rfl)(hx:ev g x=some (.int k a):=by exact rfl)(hz:ev g z=some (.int q b):=by exact rfl):OpT P ro N w0 M ds o g L (Det (.int k c) L):=
 F4 (by rw[j];rfl) λr w X m=>by
  have:(if b<a then b else a)=c:=by rw[<-hr];split <;> omega
  subst this;simp[execOp,j,m.agr.eval hx,m.agr.eval hz,resolve,invoke,builtin,run_min_int2]
theorem zyX{x z:Operand}{ts:Array TypeId}{k q:IntKind}{a b c:Int}(hr:max a b=c)(j:o.op= .call { callee:=.builtin .max,args:=#[x,z],argTypes:=ts } :=by exact rfl)(hx:ev g x=some (.int k a):=by exact rfl)(hz:ev g z=some (.int q b):=by exact rfl):OpT P ro N w0 M ds o g L (Det (.int k c) L):=
 F4 (by rw[j];rfl) λr w X m=>by
  have:(if b>a then b else a)=c:=by rw[<-hr];split <;> omega
  subst this;simp[execOp,j,m.agr.eval hx,m.agr.eval hz,resolve,invoke,builtin,run_max_int2]
end Go.Sy
namespace Go.Nt
open Go Go.Sy
theorem zAw(d r:Nat)(k:IntKind)(h:r<64)(hb:d*2^r<9223372036854775808):Op.shift .shl .i64 (d:Int) k (r:Int)=pure (.int .i64 ((d*2^r:Nat):Int)):=by
 have j:¬((r:Int)<0):=q_o;have m:¬64<=r:=q_o;simp[Op.shift,j,m,IntKind.bits];have e:(d:Int)*2^r=((d*2^r:Nat):Int):=by simp
 rw[e,IntWalk.i64_in _ q_o]
theorem ztN(n:Nat):∀d∈List.replicate n 0,d<65536:=λd j=>by rw[(List.mem_replicate.1 j).2];decide
theorem zkA(n:Nat):List.replicate n (Value.int IntKind.i64 0)=iC (List.replicate n 0):=by unfold iC;rw[BY];rfl
end Go.Nt
namespace Go.Proofs.YtdnlngbjpdbffaaGreatDoor
open Go Go.Sy Go.Nt Go.RowKit
attribute [local irreducible] Sy SyL SyX Sy.Fn callFunc zg zac iC
theorem zhB(a b:Option Addr)(F G x y:Nat)(w:World)(ha:SlA w a (zac x))(hb:SlA w b (zac y))(hx:nd 65536 x<100000000)(X:nd 65536 y<100000000):
  q_G 162 [.slice a (nd 65536 x) F,.slice b (nd 65536 y) G] w (.int .i64 (zbA x y)):=by
 refine zt Tryz.func162 Tryz.ntmps162 ?_;have A:=λi q (r:Keep No w q)=>zcm a F x i q (ha.to r (λ_ h=> .inr h)).sla;have B:=λi q (r:Keep No w q)=>zcm b G y i q (hb.to r (λ_ h=> .inr h)).sla;have O:=zaV 65536 x q_e;have Q:=zaV 65536 y q_e;generalize nd 65536 y=m,nd 65536 x=n at*;obtain⟨k,r⟩:∃k,k=max n m:=⟨_,rfl⟩;have U:x<65536^k:=AK O (AB q_e q_o);have V:y<65536^k:=AK Q (AB q_e q_o);have R:max (n:Int) (m:Int)=((k:Nat):Int):=q_o;have S:IntKind.i64.wrap ((k:Int)-1)=(k:Int)-1:=IntWalk.i64_in _ q_o;repeat' (first|refine s_t ?_|refine q_k 0 ?_|refine q_k 1 ?_;refine q_v (zyX (hr:=R)) ?_;refine q_x (zK (hr:=S)) ?_)
 refine zL (γ:=Nat) (λi=>[(0,.slice a n F),(1,.slice b m G),(5,.int .i64 ((i:Int)-1))]) (λ_=>[]) (λi=>i<=k/\x/65536^i=y/65536^i) (λi=>i) k ⟨A7 _,by rw[An U,An V]⟩ ?_ ?_ ?_
 ·exact q_h
 ·exact q_h
 rintro i ⟨W,E⟩;rcases AE i with h0|h0
 ·subst h0;rw[Ao,CH,CH] at E;subst E;rw[zjf];repeat' (first|refine s_0 ?_|refine q_k 2 ?_;refine q_v zO ?_|refine q_k 8 ?_)
  exact q_r
 obtain⟨i,rfl⟩:∃j,i=j+1:=⟨i-1,by omega⟩;have J:(((i+1:Nat):Int)-1)=((i:Nat):Int):=q_o;have T:IntKind.i64.wrap ((i:Int)-1)=(i:Int)-1:=IntWalk.i64_in _ q_o;rw[J];have A:=λq r=>A i q r;have B:=λq r=>B i q r;have K:=zf7 65536 x y i q_e E;have I:=zf7 65536 y x i q_e E.symm;have H:=zpc 65536 x y i E;generalize y/65536^i%65536=e,x/65536^i%65536=d at*;rcases Cp d e with h|h|h
 ·rw[zhZ (K h)];repeat' (first|refine s_t ?_|refine q_k 2 ?_;refine q_v zO ?_|refine q_k 4 ?_;refine q_v (za (hc:=zr A)) ?_;refine zb ?_;refine q_v (za (hc:=zr B)) ?_;refine zaf ?_|refine q_k 5 ?_)
  exact q_r
 ·subst h;repeat' (first|refine s_t ?_|refine q_k 2 ?_;refine q_v zO ?_|refine q_k 4 ?_;refine q_v (za (hc:=zr A)) ?_;refine zb ?_;refine q_v (za (hc:=zr B)) ?_;refine zaf ?_|refine q_k 6 ?_;refine q_v (za (hc:=zr A)) ?_;refine zb ?_;refine q_v (za (hc:=zr B)) ?_;refine q_v zH ?_|refine q_k 3 ?_;refine q_x (zK (hr:=T)) ?_)
  refine zC i ⟨by omega,H rfl⟩ ?_ ?_ ?_
  ·show i<i+1;omega
  ·exact q_h
  ·exact q_h
 ·rw[zjQ (I h)];repeat' (first|refine s_t ?_|refine q_k 2 ?_;refine q_v zO ?_|refine q_k 4 ?_;refine q_v (za (hc:=zr A)) ?_;refine zb ?_;refine q_v (za (hc:=zr B)) ?_;refine zaf ?_|refine q_k 6 ?_;refine q_v (za (hc:=zr A)) ?_;refine zb ?_;refine q_v (za (hc:=zr B)) ?_;refine q_v zH ?_|refine q_k 7 ?_)
  exact q_r
theorem zxW(a b:Option Addr)(O Q x y:Nat)(w:World)(ha:SlA w a (zac x))(hb:SlA w b (zac y))(hx:nd 65536 x<100000000)(hy:nd 65536 y<100000000):
  Sy.Fn Tryz.prog 277 [.slice a (nd 65536 x) O,.slice b (nd 65536 y) Q] w No (zc7 (x+y)):=by
 refine zt Tryz.func277 Tryz.ntmps277 ?_;have R:=λi j (q:Keep No w j)=>zcm a O x i j (ha.to q (λ_ h=> .inr h)).sla;have S:=λi j (q:Keep No w j)=>zcm b Q y i j (hb.to q (λ_ h=> .inr h)).sla;have G:=zaV 65536 x q_e;have H:=zaV 65536 y q_e;generalize nd 65536 y=m,nd 65536 x=n at*;repeat' (first|refine s_t ?_|refine zA [0,1,2,3] ?_;refine zb ?_)
 refine zbg (zaT 3 1) ?_;refine zL (γ:=Nat×List Nat×Nat×Option Addr×Nat) (λg=>[(0,.slice a n O),(1,.slice b m Q),(5,.slice g.2.2.2.1 g.1 g.2.2.2.2),(6,.int .i64 ((g.2.2.1:Nat):Int)),(7,.int .i64 g.1)]) (λg=>[.row (.slice g.2.2.2.1 g.1 g.2.2.2.2) 3 1 g.1 (iC g.2.1)])
  (λg=>g.1<=max n m+1/\g.2.2.1<=1/\OutJ 65536 (x%65536^g.1+y%65536^g.1) g.1 g.2.1 g.2.2.1) (λg=>max n m+1-g.1) (0,[],0,none,0) ⟨AA _,by decide,by
   have:=OutJ.start 65536;rw[show x%65536^0+y%65536^0=0 by rw[Ao,C5,C5]];exact this⟩ ?_ ?_ ?_
 ·exact q_h
 ·show SubR [.row (.slice none 0 0) 3 1 0 (iC [])] _;rw[zk1];exact q_h
 rintro⟨i,l,c,a1,K⟩ ⟨hi,hc,A⟩;dsimp only at hi hc A ⊢;have I:=A.sum;have F:=A.len;by_cases hgo:i<n\/i<m\/0<c
 ·have a8:i<max n m+1:=by
   rcases AG i (max n m+1) with h|h
   ·exact h
   ·exfalso;have b0:x<65536^(i-1):=AK G (AB q_e q_o);have b1:y<65536^(i-1):=AK H (AB q_e q_o);have U:0<c:=q_o;have a9:65536^i=65536^(i-1)*65536:=by rw[<-AN,show(i-1).succ=i by omega]
    have W:=EI x (65536^i);have X:=EI y (65536^i);have Y:65536^i<=c*65536^i:=BU _ U;omega
  have hstep:=λt=>OutJ.step (t:=t) A q_e (T':=x%65536^(i+1)+y%65536^(i+1));have r:=zuV 65536 x y i c;have R:=λj q=>R i j q;have S:=λj q=>S i j q;have a6:x/65536^i%65536<65536:=AC _ q_e;have a7:y/65536^i%65536<65536:=AC _ q_e;generalize y/65536^i%65536=e,x/65536^i%65536=d at*;have hstep:=hstep (d+e+c) r;have W:IntKind.i64.wrap ((d:Int)+(e:Int))=((d+e:Nat):Int):=q_w;have X:IntKind.i64.wrap (((d+e:Nat):Int)+(c:Int))=((d+e+c:Nat):Int):=q_w;have Y:((d+e+c:Nat):Int).tmod 65536=(((d+e+c)%65536:Nat):Int):=zex _ 65536;have h4:IntKind.i64.wrap (((d+e+c:Nat):Int).tdiv 65536)=(((d+e+c)/65536:Nat):Int):=zdw (k:=65536) q_o;have T:(d+e+c)/65536<=1:=q_o;repeat refine zdf ?_
  refine zcu (γ:=Unit) (λ_=>[(0,.slice a n O),(1,.slice b m Q),(5,.slice a1 i K),(6,.int .i64 ((c:Nat):Int)),(7,.int .i64 i),(22,.bool true)]) (λ_=>[.row (.slice a1 i K) 3 1 i (iC l)]) (λ_=>True) ?_ ?_
  ·by_cases g1:i<n
   ·have B:decide ((i:Int)<(n:Int))=true:=q_d;repeat' (first|refine zap ?_|refine zao ?_|refine q_k 4 ?_;refine q_x (zn (hr:=B)) ?_)
    exact zaj () trivial q_h q_h
   ·have B:decide ((i:Int)<(n:Int))=false:=q_f;by_cases g2:i<m
    ·have J:decide ((i:Int)<(m:Int))=true:=q_d;repeat' (first|refine zap ?_|refine zao ?_|refine q_k 4 ?_;refine q_x (zn (hr:=B)) ?_;refine q_x (zn (hr:=J)) ?_)
     exact zaj () trivial q_h q_h
    ·have J:decide ((i:Int)<(m:Int))=false:=q_f;have n3:decide ((0:Int)<(c:Int))=true:=q_d;repeat' (first|refine zap ?_|refine zao ?_|refine q_k 4 ?_;refine q_x (zn (hr:=B)) ?_;refine q_x (zn (hr:=J)) ?_;refine q_x (zH (hr:=n3)) ?_)
     exact zaj () trivial q_h q_h
  rintro - -;repeat' (first|refine s_t ?_|refine q_k 6 ?_;refine q_v (za (hc:=zr R)) ?_;refine zb ?_;refine q_v (za (hc:=zr S)) ?_;refine q_x (zD (hr:=W)) ?_;refine q_x (zD (hr:=X)) ?_|refine q_k 7 ?_;refine q_v (zbI (hr:=Y)) ?_;(refine q_s zz ?_;rintro _ _ ⟨_,rfl,rfl⟩);(refine q_s (zaz (k:=i) (m:=1) (hn:=rfl) (hkm:=rfl) (hys:=zfF l ((d+e+c)%65536))) ?_;rintro _ _ ⟨rfl,Z,cN,rfl⟩);refine zb ?_|refine q_k 8 ?_;refine q_x (zbz (hr:=h4)) ?_|refine q_k 5 ?_;refine zba ?_;refine zb ?_)
  refine zC (i+1,l++[(d+e+c)%65536],(d+e+c)/65536,Z,cN) ⟨by show i+1<=_;omega,T,hstep⟩ ?_ ?_ ?_
  ·show max n m+1-(i+1)<max n m+1-i;omega
  ·exact q_h
  ·exact q_h
 ·obtain rfl:c=0:=q_o;have hv:vl 65536 l=x+y:=by
   rw[A9 (AK G (AB q_e q_o)),A9 (AK H (AB q_e q_o))] at I;omega
  rw[<-hv];refine zfJ (λj V=>(FF V F5:i<=K)) λE=>?_;have B:decide ((i:Int)<(n:Int))=false:=q_f;have J:decide ((i:Int)<(m:Int))=false:=q_f;repeat' (first|refine s_0 ?_|refine q_k 4 ?_;refine q_x (zn (hr:=B)) ?_;refine q_x (zn (hr:=J)) ?_;refine q_x zH ?_|refine q_k 9 ?_;refine q_v (za (hc:=λj _ _ V=>zeO a1 i K l j F E A.low (zat V (by exact F1 F5)) q_o)) ?_;refine zb ?_)
  refine zcp (zfE Eu F A.low) ?_;exact q_r
theorem zmc(a b:Option Addr)(K O x y:Nat)(w:World)(ha:SlA w a (zac x))(hb:SlA w b (zac y))(hx:nd 65536 x<100000000)(S:y<=x):
  Sy.Fn Tryz.prog 157 [.slice a (nd 65536 x) K,.slice b (nd 65536 y) O] w No (zc7 (x-y)):=by
 refine zt Tryz.func157 Tryz.ntmps157 ?_;have E:=λi j (r:Keep No w j)=>zcm a K x i j (ha.to r (λ_ h=> .inr h)).sla;have F:=λi j (r:Keep No w j)=>zcm b O y i j (hb.to r (λ_ h=> .inr h)).sla;have R:=zaV 65536 x q_e;generalize nd 65536 y=m,nd 65536 x=n at*;repeat' (first|refine s_t ?_|refine zA [0,1,2,3] ?_;refine zb ?_)
 refine zbg (zaT 3 1) ?_;refine zL (γ:=Nat×List Nat×Nat×Option Addr×Nat) (λg=>[(0,.slice a n K),(1,.slice b m O),(5,.slice g.2.2.2.1 g.1 g.2.2.2.2),(6,.int .i64 ((g.2.2.1:Nat):Int)),(7,.int .i64 g.1)]) (λg=>[.row (.slice g.2.2.2.1 g.1 g.2.2.2.2) 3 1 g.1 (iC g.2.1)])
  (λg=>g.1<=n/\OutS 65536 x y g.1 g.2.1 g.2.2.1) (λg=>n-g.1) (0,[],0,none,0) ⟨AA _,OutS.start 65536 x y⟩ ?_ ?_ ?_
 ·exact q_h
 ·show SubR [.row (.slice none 0 0) 3 1 0 (iC [])] _;rw[zk1];exact q_h
 rintro⟨i,l,c,a1,T⟩ ⟨Z,q⟩;dsimp only at Z q ⊢;have B:=q.len;have hc:=q.bit;by_cases hlt:i<n
 ·have hstep:=λt c'=>OutS.step (t:=t) (c':=c') q;have E:=λj r=>E i j r;have F:=λj r=>F i j r;have X:x/65536^i%65536<65536:=AC _ q_e;have Y:y/65536^i%65536<65536:=AC _ q_e;generalize y/65536^i%65536=e,x/65536^i%65536=d at*;have U:IntKind.i64.wrap ((d:Int)-(e:Int))=(d:Int)-(e:Int):=IntWalk.i64_in _ q_o;have G:IntKind.i64.wrap ((d:Int)-(e:Int)-(c:Int))=(d:Int)-(e:Int)-(c:Int):=IntWalk.i64_in _ q_o;by_cases hneg:d<e+c
  ·have H:decide ((d:Int)-(e:Int)-(c:Int)<0)=true:=q_d;have W:IntKind.i64.wrap ((d:Int)-(e:Int)-(c:Int)+65536)=((d+65536-e-c:Nat):Int):=q_w;repeat' (first|refine s_t ?_|refine q_k 4 ?_;refine zaf ?_|refine q_k 6 ?_;refine q_v (za (hc:=zr E)) ?_;refine zb ?_;refine q_v (za (hc:=zr F)) ?_;refine q_x (zK (hr:=U)) ?_;refine q_x (zK (hr:=G)) ?_|refine q_k 7 ?_|refine q_k 8 ?_;refine q_v (zn (hr:=H)) ?_|refine q_k 9 ?_;refine q_x (zD (hr:=W)) ?_|refine q_k 10 ?_;(refine q_s zz ?_;rintro _ _ ⟨_,rfl,rfl⟩);(refine q_s (zaz (k:=i) (m:=1) (hn:=rfl) (hkm:=rfl) (hys:=zfF l (d+65536-e-c))) ?_;rintro _ _ ⟨rfl,I,J,rfl⟩);refine zb ?_|refine q_k 5 ?_;refine zba ?_;refine zb ?_)
   refine zC (i+1,l++[d+65536-e-c],1,I,J) ⟨by show i+1<=n;omega,hstep _ 1 q_o q_o q_o⟩ ?_ ?_ ?_
   ·show n-(i+1)<n-i;omega
   ·exact q_h
   ·exact q_h
  ·have H:decide ((d:Int)-(e:Int)-(c:Int)<0)=false:=q_f;have V:(d:Int)-(e:Int)-(c:Int)=((d-e-c:Nat):Int):=q_o;have G:=G.trans V;rw[V] at H;repeat' (first|refine s_t ?_|refine q_k 4 ?_;refine zaf ?_|refine q_k 6 ?_;refine q_v (za (hc:=zr E)) ?_;refine zb ?_;refine q_v (za (hc:=zr F)) ?_;refine q_x (zK (hr:=U)) ?_;refine q_x (zK (hr:=G)) ?_|refine q_k 7 ?_|refine q_k 8 ?_;refine q_v (zn (hr:=H)) ?_|refine q_k 10 ?_;(refine q_s zz ?_;rintro _ _ ⟨_,rfl,rfl⟩);(refine q_s (zaz (k:=i) (m:=1) (hn:=rfl) (hkm:=rfl) (hys:=zfF l (d-e-c))) ?_;rintro _ _ ⟨rfl,I,J,rfl⟩);refine zb ?_|refine q_k 5 ?_;refine zba ?_;refine zb ?_)
   refine zC (i+1,l++[d-e-c],0,I,J) ⟨by show i+1<=n;omega,hstep _ 0 q_o q_o q_o⟩ ?_ ?_ ?_
   ·show n-(i+1)<n-i;omega
   ·exact q_h
   ·exact q_h
 ·obtain rfl:i=n:=q_o;have hv:=q.done R S;rw[<-hv];refine zfJ (λj Q=>(FF Q F5:i<=T)) λA=>?_;repeat' (first|refine s_0 ?_|refine q_k 4 ?_;refine zaf ?_|refine q_k 11 ?_;refine q_v (za (hc:=λj _ _ Q=>zeO a1 i T l j B A q.low (zat Q (by exact F1 F5)) q_o)) ?_;refine zb ?_)
  refine zcp (zfE Eu B q.low) ?_;exact q_r
end Go.Proofs.YtdnlngbjpdbffaaGreatDoor
namespace Go.Nt
theorem zwW{b r:Nat}(hr:r<16)(hb:b=65536):2^r<=32768:=by
 have:2^r<=2^15:=AB q_e q_o;exact this
end Go.Nt
namespace Go.Proofs.YtdnlngbjpdbffaaGreatDoor
open Go Go.Sy Go.Nt Go.RowKit
attribute [local irreducible] Sy SyL SyX Sy.Fn callFunc zg zac iC
theorem ztw(a:Option Addr)(Q x n:Nat)(w:World)(ha:SlA w a (zac x))(hx:nd 65536 x<100000000)(hn:n<1000000000):
  Sy.Fn Tryz.prog 312 [.slice a (nd 65536 x) Q,.int .i64 n] w No (zc7 (x*2^n)):=by
 refine zt Tryz.func312 Tryz.ntmps312 ?_;have R:=λi B (U:Keep No w B)=>zcm a Q x i B (ha.to U (λ_ h=> .inr h)).sla;have G:=zaV 65536 x q_e;generalize nd 65536 x=k at*;obtain⟨z,hz⟩:∃z,z=n/16:=⟨_,rfl⟩;obtain⟨r,hr⟩:∃r,r=n%16:=⟨_,rfl⟩;have H:r<16:=q_o;have I:=zwW H rfl;have q1:IntKind.i64.wrap ((n:Int).tdiv 16)=((z:Nat):Int):=by rw[hz];exact zdw (k:=16) q_o
 have q2:(n:Int).tmod 16=((r:Nat):Int):=by rw[hr];exact zex n 16
 repeat' (first|refine s_t ?_|refine zA [0,2,3] ?_;refine zb ?_|refine q_k 1 ?_;refine q_v (zbz (hr:=q1)) ?_|refine q_s zeP ?_;rintro _ _ ⟨W,rfl,rfl⟩|(refine zx ?_;first|refine zw ?_|fail)|fail)
 refine zbg (zee (n:=z) (s:=1) Eu q_p (by unfold maxLen;omega)) ?_;refine zL (γ:=Nat×List Nat×Nat×Option Addr×Nat) (λg=>[(0,.slice a k Q),(1,.int .i64 n),(5,.slice g.2.2.2.1 (z+g.1) g.2.2.2.2),(6,.int .i64 ((g.2.2.1:Nat):Int)),(7,.int .i64 g.1)]) (λg=>[.row (.slice g.2.2.2.1 (z+g.1) g.2.2.2.2) 3 1 (z+g.1) (iC (List.replicate z 0++g.2.1))])
  (λg=>g.1<=k+1/\g.2.2.1<32768/\OutJ 65536 (x%65536^g.1*2^r) g.1 g.2.1 g.2.2.1) (λg=>k+1-g.1) (0,[],0,some ⟨W,0,none⟩,z) ⟨AA _,by show 0<32768;decide,by
   have:=OutJ.start 65536;rw[show x%65536^0*2^r=0 by rw[Ao,C5,BF]];exact this⟩ ?_ ?_ ?_
 ·exact q_h
 ·show SubR [.row (.slice (some ⟨W,0,none⟩) z z) 3 1 z (iC (List.replicate z 0++[]))] _;rw[AJ,<-zkA];exact q_h
 rintro⟨i,l,c,a1,O⟩ ⟨hi,hc,E⟩;dsimp only at hi hc E ⊢;have J:=E.sum;have V:=E.len;by_cases hgo:i<k\/0<c
 ·have a8:i<k+1:=by
   rcases AG i (k+1) with h|h
   ·exact h
   ·exfalso;have b0:x<65536^(i-1):=AK G (AB q_e q_o);have S:0<c:=q_o;have a9:65536^i=65536^(i-1)*65536:=by rw[<-AN,show(i-1).succ=i by omega]
    have X:x%65536^i*2^r<=x*32768:=CR (EI _ _) I;have Y:65536^i<=c*65536^i:=BU _ S;omega
  have hstep:=λt=>OutJ.step (t:=t) E q_e (T':=x%65536^(i+1)*2^r);have A:=zvo 65536 x (2^r) i c;have R:=λB U=>R i B U;have a6:x/65536^i%65536<65536:=AC _ q_e;generalize x/65536^i%65536=d at*;have hstep:=hstep (d*2^r+c) A;have a7:d*2^r<=65535*32768:=CR q_o I;have X:=zAw d r .i64 q_o q_o;have h2:IntKind.i64.wrap (((d*2^r:Nat):Int)+(c:Int))=((d*2^r+c:Nat):Int):=q_w;have Y:((d*2^r+c:Nat):Int).tmod 65536=(((d*2^r+c)%65536:Nat):Int):=zex _ 65536;have h4:IntKind.i64.wrap (((d*2^r+c:Nat):Int).tdiv 65536)=(((d*2^r+c)/65536:Nat):Int):=zdw (k:=65536) q_o;generalize d*2^r=f at*;repeat refine zdf ?_
  refine zcu (γ:=Unit) (λ_=>[(0,.slice a k Q),(1,.int .i64 n),(5,.slice a1 (z+i) O),(6,.int .i64 ((c:Nat):Int)),(7,.int .i64 i),(19,.bool true)]) (λ_=>[.row (.slice a1 (z+i) O) 3 1 (z+i) (iC (List.replicate z 0++l))]) (λ_=>True) ?_ ?_
  ·by_cases g1:i<k
   ·have K:decide ((i:Int)<(k:Int))=true:=q_d;repeat' (first|refine zap ?_|refine zao ?_|refine q_k 4 ?_;refine q_x (zn (hr:=K)) ?_)
    exact zaj () trivial q_h q_h
   ·have K:decide ((i:Int)<(k:Int))=false:=q_f;have n3:decide ((0:Int)<(c:Int))=true:=q_d;repeat' (first|refine zap ?_|refine zao ?_|refine q_k 4 ?_;refine q_x (zn (hr:=K)) ?_;refine q_x (zH (hr:=n3)) ?_)
    exact zaj () trivial q_h q_h
  rintro - -;have hys:iC (List.replicate z 0++l)++[iv ((f+c)%65536)]=iC (List.replicate z 0++(l++[(f+c)%65536])):=by rw[zfF,AI]
  repeat' (first|refine s_t ?_|refine q_k 6 ?_;refine q_v (za (hc:=zr R)) ?_;refine zb ?_;refine q_v (zbI (hr:=q2)) ?_;refine q_x (zeD (hr:=X)) ?_;refine q_x (zD (hr:=h2)) ?_|refine q_k 7 ?_;refine q_v (zbI (hr:=Y)) ?_;(refine q_s zz ?_;rintro _ _ ⟨_,rfl,rfl⟩);(refine q_s (zaz (k:=z+i) (m:=1) (km:=z+(i+1)) (hn:=rfl) (hkm:=rfl) (hys:=hys)) ?_;rintro _ _ ⟨rfl,Z,cN,rfl⟩);refine zb ?_|refine q_k 8 ?_;refine q_x (zbz (hr:=h4)) ?_|refine q_k 5 ?_;refine zba ?_;refine zb ?_)
  refine zC (i+1,l++[(f+c)%65536],(f+c)/65536,Z,cN) ⟨by show i+1<=_;omega,by show(f+c)/65536<32768;omega,hstep⟩ ?_ ?_ ?_
  ·show k+1-(i+1)<k+1-i;omega
  ·exact q_h
  ·exact q_h
 ·obtain rfl:c=0:=q_o;have q:∀d∈List.replicate z 0++l,d<65536:=λd hd=>by
   rcases Ap.1 hd with h|h
   ·exact ztN z d h
   ·exact E.low d h
  have j:(List.replicate z 0++l).length=z+i:=by rw[A4,AL,V]
  have hv:vl 65536 (List.replicate z 0++l)=x*2^n:=by
   rw[A9 (AK G (AB q_e q_o))] at J;rw[zgk,zeN,AL,Aa,show vl 65536 l=x*2^r by omega,znF,show n=16*z+r by omega,Ax]
   ac_rfl
  rw[<-hv];refine zfJ (λB T=>(FF T F5:z+i<=O)) λF=>?_;have K:decide ((i:Int)<(k:Int))=false:=q_f;generalize List.replicate z 0++l=l' at*;repeat' (first|refine s_0 ?_|refine q_k 4 ?_;refine q_x (zn (hr:=K)) ?_;refine q_x zH ?_|refine q_k 9 ?_;refine q_v (za (hc:=λB _ _ T=>zeO a1 (z+i) O l' B j F q (zat T (by exact F1 F5)) q_o)) ?_;refine zb ?_)
  refine zcp (zfE Eu j q) ?_;exact q_r
theorem zqk(a b:Option Addr)(I F x y:Nat)(w:World)(ha:SlA w a (zac x))(hb:SlA w b (zac y))(hx:nd 65536 x<100000000)(hy:nd 65536 y<100000000):
  Sy.Fn Tryz.prog 278 [.slice a (nd 65536 x) I,.slice b (nd 65536 y) F] w No (zc7 (x*y)):=by
 refine zt Tryz.func278 Tryz.ntmps278 ?_;have J:=λi B (E:Keep No w B)=>zcm b F y i B (hb.to E (λ_ h=> .inr h)).sla;have U:=zaV 65536 x q_e;have G:=zaV 65536 y q_e;have S:=ziq x;have T:=zgV x;generalize nd 65536 y=m,nd 65536 x=n at*;obtain⟨k,E⟩:∃k,k=n+m+1:=⟨_,rfl⟩;have h1:IntKind.i64.wrap ((n:Int)+(m:Int))=((n+m:Nat):Int):=q_w;have h2:IntKind.i64.wrap (((n+m:Nat):Int)+1)=((k:Nat):Int):=q_w;have X:=MulK.start 65536 k x y q_e;repeat' (first|refine s_t ?_|refine zA [0,2] ?_;refine zb ?_|refine q_k 1 ?_;refine q_v (zD (hr:=h1)) ?_;refine q_v (zD (hr:=h2)) ?_|refine q_s zeP ?_;rintro _ _ ⟨r,rfl,rfl⟩|(refine zx ?_;first|refine zw ?_|fail)|fail)
 refine zL (γ:=Nat×List Nat) (λg=>[(0,.slice a n I),(1,.slice b m F),(5,.slice (some ⟨r,0,none⟩) k k),(6,.int .i64 g.1)]) (λg=>[.blk r 3 (iC g.2)])
  (λg=>g.1<=n/\MulK 65536 k x y g.1 0 g.2 0) (λg=>n-g.1) (0,List.replicate k 0) ⟨AA _,X⟩ ?_ ?_ ?_
 ·exact q_h
 ·show SubR [.blk r 3 (iC (List.replicate k 0))] _;rw[<-zkA];exact q_h
 rintro⟨i,l⟩ ⟨hi,q⟩;dsimp only at hi q ⊢;by_cases hlt:i<n
 ·obtain⟨ba,oa,rfl,W⟩:=zhQ ha q_o;have O:=W i _ (S i hlt);repeat' (first|refine s_t ?_|refine q_k 3 ?_;refine zaf ?_|refine zA [5,6] ?_;refine zb ?_)
  refine zL (γ:=Nat×List Nat×Nat) (λg=>[(0,.slice (some ⟨ba,oa,none⟩) n I),(1,.slice b m F),(5,.slice (some ⟨r,0,none⟩) k k),(6,.int .i64 i),(7,.int .i64 ((g.2.2:Nat):Int)),(8,.int .i64 g.1)]) (λg=>[.blk r 3 (iC g.2.1)])
   (λg=>g.1<=m+1/\MulK 65536 k x y i g.1 g.2.1 g.2.2) (λg=>m+1-g.1) (0,l,0) ⟨AA _,q⟩ ?_ ?_ ?_
  ·exact q_h
  ·exact q_h
  clear q;rintro⟨j,l,c⟩ ⟨hj,q⟩;dsimp only at hj q ⊢;have A:=q.len;have a9:(iC l).length=k:=by rw[zhO,A]
  have K:=q.car;by_cases hgo:j<m\/0<c
  ·have a8:j<=m:=by
    rcases AG j m with h|h
    ·omega
    ·exact q.place q_e G h q_o
   obtain⟨u,hu⟩:∃u,l[i+j]?=some u:=⟨l[i+j]'q_o,A2 _⟩;have Z:=q.low u (BB hu);have Y:=zoy hu;have hstep:=λz c'=>q.step (z:=z) (c':=c') hu;have J:=λB E=>J j B E;have Q:x/65536^i%65536<65536:=AC _ q_e;have R:y/65536^j%65536<65536:=AC _ q_e;generalize y/65536^j%65536=e,x/65536^i%65536=d at*;have V:=zvw Q R Z K;have a7:d*e<=65535*65535:=CR q_o q_o;have hstep:=hstep ((u+d*e+c)%65536) ((u+d*e+c)/65536) (AC _ q_e) V (by
    have:=Nat.mod_add_div (u+d*e+c) 65536;omega)
   have a1:IntKind.i64.wrap ((i:Int)+(j:Int))=((i+j:Nat):Int):=q_w;have a2:IntKind.i64.wrap ((d:Int)*(e:Int))=((d*e:Nat):Int):=by
    rw[show((d:Nat):Int)*((e:Nat):Int)=((d*e:Nat):Int) by simp,IntWalk.i64_in _ q_o]
   generalize d*e=f at*;have a3:IntKind.i64.wrap ((u:Int)+(f:Int))=((u+f:Nat):Int):=q_w;have a4:IntKind.i64.wrap (((u+f:Nat):Int)+(c:Int))=((u+f+c:Nat):Int):=q_w;have a5:((u+f+c:Nat):Int).tmod 65536=(((u+f+c)%65536:Nat):Int):=zex _ 65536;have a6:IntKind.i64.wrap (((u+f+c:Nat):Int).tdiv 65536)=(((u+f+c)/65536:Nat):Int):=zdw (k:=65536) q_o;repeat refine zdf ?_
   refine zcu (γ:=Unit) (λ_=>[(0,.slice (some ⟨ba,oa,none⟩) n I),(1,.slice b m F),(5,.slice (some ⟨r,0,none⟩) k k),(6,.int .i64 i),(7,.int .i64 ((c:Nat):Int)),(8,.int .i64 j),(30,.bool true)]) (λ_=>[.blk r 3 (iC l)]) (λ_=>True) ?_ ?_
   ·by_cases g1:j<m
    ·have H:decide ((j:Int)<(m:Int))=true:=q_d;repeat' (first|refine zap ?_|refine zao ?_|refine q_k 7 ?_;refine q_x (zn (hr:=H)) ?_)
     exact zaj () trivial q_h q_h
    ·have H:decide ((j:Int)<(m:Int))=false:=q_f;have n3:decide ((0:Int)<(c:Int))=true:=q_d;repeat' (first|refine zap ?_|refine zao ?_|refine q_k 7 ?_;refine q_x (zn (hr:=H)) ?_;refine q_x (zH (hr:=n3)) ?_)
     exact zaj () trivial q_h q_h
   rintro - -;repeat' (first|refine s_t ?_|refine zai (id:=9) 16 [[],[],[],[1,2],[0,1,2,3],[0,1,2,3,4],[],[],[6,7],[6,7,8],[],[],[10,11],[6,7,8,9,10,11,12],[0,1,2,3,4,5,6,7,8,9,10,11,12,13],[],[0,1,2,3,4,5,6,7,8,9,10,11,12,13,14,15],[0,1,2,3,4,5,6,7,8,9,10,11,12,13,14,15,16]] mixed ?_ ?_;kernel_rfl;refine zB ?_;refine zB ?_;refine zB ?_;refine q_D (zD (hr:=a1)) ?_;refine zaB ?_;refine q_D (zM (hv:=Y)) ?_;refine zB ?_;refine zB ?_;refine zaB ?_;refine q_D (zo (hv:=O)) ?_;refine zB ?_;refine zB ?_;refine q_D (za (hc:=λB _ E _=>J B E)) ?_;refine q_D (zaM (hr:=a2)) ?_;refine q_D (zD (hr:=a3)) ?_;refine zB ?_;refine zaF ?_;refine q_v (zD (hr:=a4)) ?_;refine zw ?_|refine q_k 10 ?_;refine q_x (zD (hr:=a1)) ?_;refine q_v (zbI (hr:=a5)) ?_;refine zQ ?_;refine zP ?_|refine q_k 11 ?_;refine q_x (zbz (hr:=a6)) ?_|refine q_k 8 ?_;refine zba ?_;refine zb ?_)
   refine zC (j+1,l.set (i+j) ((u+f+c)%65536),(u+f+c)/65536) ⟨by show j+1<=_;omega,hstep⟩ ?_ ?_ ?_
   ·show m+1-(j+1)<m+1-j;omega
   ·exact q_h
   ·show SubR [.blk r 3 (iC (l.set (i+j) ((u+f+c)%65536)))] _;rw[show iC (l.set (i+j) ((u+f+c)%65536))=(iC l).set (i+j) (iv ((u+f+c)%65536)) by unfold iC;rw[Bw]];exact q_h
  ·obtain rfl:c=0:=q_o;have H:decide ((j:Int)<(m:Int))=false:=q_f;repeat' (first|refine s_0 ?_|refine q_k 7 ?_;refine q_x (zn (hr:=H)) ?_;refine q_x zH ?_|refine q_k 4 ?_;refine zba ?_;refine zb ?_)
   refine zC (i+1,l) ⟨by show i+1<=n;omega,q.row (AK G (AB q_e q_o)) q_e⟩ ?_ ?_ ?_
   ·show n-(i+1)<n-i;omega
   ·exact q_h
   ·exact q_h
 ·obtain rfl:i=n:=q_o;have hv:=q.done U;have A:=q.len;rw[<-hv];repeat' (first|refine s_0 ?_|refine q_k 3 ?_;refine zaf ?_|refine q_k 12 ?_;refine q_v (za (hc:=λB _ _ hh=>zeO (some ⟨r,0,none⟩) k k l B A (A7 _) q.low (.inr ⟨r,0,rfl,zp (hh.has (by exact F1 F5)) Ex⟩) q_o)) ?_;refine zb ?_)
  refine zcp (zee (n:=k) (s:=1) Eu (by rw[zhO];omega) (by unfold maxLen;omega)) ?_;refine zcp (zfE Eu A q.low) ?_;exact q_r
end Go.Proofs.YtdnlngbjpdbffaaGreatDoor
