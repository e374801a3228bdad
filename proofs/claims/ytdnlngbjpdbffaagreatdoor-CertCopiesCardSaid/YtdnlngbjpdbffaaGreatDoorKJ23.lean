/- Lemmas of this proof. -/
import Derived.Test.YtdnlngbjpdbffaaGreatDoorKJ17
import Derived.Laws.Small
set_option maxHeartbeats 1000000
set_option maxRecDepth 10000
set_option linter.all false
namespace Go.Sy
open Go
variable {P:Program}{ro:Option Nat}{N:Nat}{w0:World}{M:Nat->Prop}{ds:List Deferred}{g:Nat->Option Value}{L:List Res}{o:Oper}
theorem zuH{x z:Operand}{ts:Array TypeId}{k q:IntKind}{a b c:Int}(hr:min a b=c)(j:o.op= .call { callee:=.builtin .min,args:=#[x,z],argTypes:=ts } :=by exact rfl)(hx:ev g x=some (.int k a):=by exact rfl)(hz:ev g z=some (.int q b):=by exact rfl):OpT P ro N w0 M ds o g L (Det (.int k c) L):=
 F7 (by rw[j];rfl) λr w X m=>by
  have:(if b<a then b else a)=c:=by rw[<-hr];split <;> omega
  subst this;simp[execOp,j,m.agr.eval hx,m.agr.eval hz,resolve,invoke,builtin,run_min_int2]
theorem zvX{x z:Operand}{ts:Array TypeId}{k q:IntKind}{a b c:Int}(hr:max a b=c)(j:o.op= .call { callee:=.builtin .max,args:=#[x,z],argTypes:=ts } :=by exact rfl)(hx:ev g x=some (.int k a):=by exact rfl)(hz:ev g z=some (.int q b):=by exact rfl):OpT P ro N w0 M ds o g L (Det (.int k c) L):=
 F7 (by rw[j];rfl) λr w X m=>by
  have:(if b>a then b else a)=c:=by rw[<-hr];split <;> omega
  subst this;simp[execOp,j,m.agr.eval hx,m.agr.eval hz,resolve,invoke,builtin,run_max_int2]
end Go.Sy
namespace Go.Nt
open Go Go.Sy
theorem zxk(d r:Nat)(k:IntKind)(h:r<64)(hb:d*2^r<9223372036854775808):Op.shift .shl .i64 (d:Int) k (r:Int)=pure (.int .i64 ((d*2^r:Nat):Int)):=by
 have j:¬((r:Int)<0):=q_o;have m:¬64<=r:=q_o;simp[Op.shift,j,m,IntKind.bits];have e:(d:Int)*2^r=((d*2^r:Nat):Int):=by simp
 rw[e,IntWalk.i64_in _ q_o]
theorem zqk(n:Nat):∀d∈List.replicate n 0,d<65536:=λd j=>by rw[(DX.1 j).2];decide
theorem zjH(n:Nat):List.replicate n (Value.int IntKind.i64 0)=iC (List.replicate n 0):=by unfold iC;rw[Ba];rfl
end Go.Nt
namespace Go.Proofs.YtdnlngbjpdbffaaGreatDoor
open Go Go.Sy Go.Nt Go.RowKit
attribute [local irreducible] Sy SyL SyX Sy.Fn callFunc zf zG iC
theorem zdQ(a b:Option Addr)(C E x y:Nat)(w:World)(ha:SlA w a (zG x))(hb:SlA w b (zG y))(hx:nd 65536 x<100000000)(V:nd 65536 y<100000000):
  q_G 162 [.slice a (nd 65536 x) C,.slice b (nd 65536 y) E] w (.int .i64 (za0 x y)):=by
 refine zo Tryz.func162 Tryz.ntmps162 ?_;have t:=λi q (r:Keep No w q)=>zb3 a C x i q (ha.to r (λ_ h=> .inr h)).sla;have A:=λi q (r:Keep No w q)=>zb3 b E y i q (hb.to r (λ_ h=> .inr h)).sla;have J:=zaE 65536 x q_e;have K:=zaE 65536 y q_e;generalize nd 65536 y=m,nd 65536 x=n at*;obtain⟨k,r⟩:∃k,k=max n m:=⟨_,rfl⟩;have S:x<65536^k:=AG J (AA q_e q_o);have T:y<65536^k:=AG K (AA q_e q_o);have O:max (n:Int) (m:Int)=((k:Nat):Int):=q_o;have Q:IntKind.i64.wrap ((k:Int)-1)=(k:Int)-1:=IntWalk.i64_in _ q_o;repeat' (first|refine s_t ?_|refine q_k 0 ?_|refine q_k 1 ?_;refine q_v (zvX (hr:=O)) ?_;refine q_x (zH (hr:=Q)) ?_)
 refine zE (γ:=Nat) (λi=>[(0,.slice a n C),(1,.slice b m E),(5,.int .i64 ((i:Int)-1))]) (λ_=>[]) (λi=>i<=k/\x/65536^i=y/65536^i) (λi=>i) k ⟨A4 _,by rw[Al S,Al T]⟩ ?_ ?_ ?_
 ·exact q_h
 ·exact q_h
 rintro i ⟨U,B⟩;rcases AD i with h0|h0
 ·subst h0;rw[Ad,C7,C7] at B;subst B;rw[zh4];repeat' (first|refine s_0 ?_|refine q_k 2 ?_;refine q_v zP ?_|refine q_k 8 ?_)
  exact q_r
 obtain⟨i,rfl⟩:∃j,i=j+1:=⟨i-1,by omega⟩;have H:(((i+1:Nat):Int)-1)=((i:Nat):Int):=q_o;have R:IntKind.i64.wrap ((i:Int)-1)=(i:Int)-1:=IntWalk.i64_in _ q_o;rw[H];have t:=λq r=>t i q r;have A:=λq r=>A i q r;have I:=zfn 65536 x y i q_e B;have G:=zfn 65536 y x i q_e B.symm;have F:=zmE 65536 x y i B;generalize y/65536^i%65536=e,x/65536^i%65536=d at*;rcases D8 d e with h|h|h
 ·rw[zha (I h)];repeat' (first|refine s_t ?_|refine q_k 2 ?_;refine q_v zP ?_|refine q_k 4 ?_;refine q_v (za (hc:=zq t)) ?_;refine zb ?_;refine q_v (za (hc:=zq A)) ?_;refine zR ?_|refine q_k 5 ?_)
  exact q_r
 ·subst h;repeat' (first|refine s_t ?_|refine q_k 2 ?_;refine q_v zP ?_|refine q_k 4 ?_;refine q_v (za (hc:=zq t)) ?_;refine zb ?_;refine q_v (za (hc:=zq A)) ?_;refine zR ?_|refine q_k 6 ?_;refine q_v (za (hc:=zq t)) ?_;refine zb ?_;refine q_v (za (hc:=zq A)) ?_;refine q_v zF ?_|refine q_k 3 ?_;refine q_x (zH (hr:=R)) ?_)
  refine zy i ⟨by omega,F rfl⟩ ?_ ?_ ?_
  ·show i<i+1;omega
  ·exact q_h
  ·exact q_h
 ·rw[ziV (G h)];repeat' (first|refine s_t ?_|refine q_k 2 ?_;refine q_v zP ?_|refine q_k 4 ?_;refine q_v (za (hc:=zq t)) ?_;refine zb ?_;refine q_v (za (hc:=zq A)) ?_;refine zR ?_|refine q_k 6 ?_;refine q_v (za (hc:=zq t)) ?_;refine zb ?_;refine q_v (za (hc:=zq A)) ?_;refine q_v zF ?_|refine q_k 7 ?_)
  exact q_r
theorem zo9(a b:Option Addr)(K O x y:Nat)(w:World)(ha:SlA w a (zG x))(hb:SlA w b (zG y))(hx:nd 65536 x<100000000)(hy:nd 65536 y<100000000):
  Sy.Fn Tryz.prog 277 [.slice a (nd 65536 x) K,.slice b (nd 65536 y) O] w No (zaW (x+y)):=by
 refine zo Tryz.func277 Tryz.ntmps277 ?_;have Q:=λi j (q:Keep No w j)=>zb3 a K x i j (ha.to q (λ_ h=> .inr h)).sla;have R:=λi j (q:Keep No w j)=>zb3 b O y i j (hb.to q (λ_ h=> .inr h)).sla;have F:=zaE 65536 x q_e;have G:=zaE 65536 y q_e;generalize nd 65536 y=m,nd 65536 x=n at*;repeat' (first|refine s_t ?_|refine zK [0,1,2,3] ?_;refine zb ?_)
 refine zbn (zaO 3 1) ?_;refine zE (γ:=Nat×List Nat×Nat×Option Addr×Nat) (λg=>[(0,.slice a n K),(1,.slice b m O),(5,.slice g.2.2.2.1 g.1 g.2.2.2.2),(6,.int .i64 ((g.2.2.1:Nat):Int)),(7,.int .i64 g.1)]) (λg=>[.row (.slice g.2.2.2.1 g.1 g.2.2.2.2) 3 1 g.1 (iC g.2.1)])
  (λg=>g.1<=max n m+1/\g.2.2.1<=1/\OutJ 65536 (x%65536^g.1+y%65536^g.1) g.1 g.2.1 g.2.2.1) (λg=>max n m+1-g.1) (0,[],0,none,0) ⟨AE _,by decide,by
   have:=OutJ.start 65536;rw[show x%65536^0+y%65536^0=0 by rw[Ad,Bj,Bj]];exact this⟩ ?_ ?_ ?_
 ·exact q_h
 ·show SubR [.row (.slice none 0 0) 3 1 0 (iC [])] _;rw[zj5];exact q_h
 rintro⟨i,l,c,a1,J⟩ ⟨hi,hc,A⟩;dsimp only at hi hc A ⊢;have H:=A.sum;have E:=A.len;by_cases hgo:i<n\/i<m\/0<c
 ·have a8:i<max n m+1:=by
   rcases AH i (max n m+1) with h|h
   ·exact h
   ·exfalso;have b0:x<65536^(i-1):=AG F (AA q_e q_o);have b1:y<65536^(i-1):=AG G (AA q_e q_o);have T:0<c:=q_o;have a9:65536^i=65536^(i-1)*65536:=by rw[<-AJ,show(i-1).succ=i by omega]
    have V:=EZ x (65536^i);have W:=EZ y (65536^i);have X:65536^i<=c*65536^i:=BZ _ T;omega
  have hstep:=λt=>OutJ.step (t:=t) A q_e (T':=x%65536^(i+1)+y%65536^(i+1));have r:=ztg 65536 x y i c;have Q:=λj q=>Q i j q;have R:=λj q=>R i j q;have a6:x/65536^i%65536<65536:=A7 _ q_e;have a7:y/65536^i%65536<65536:=A7 _ q_e;generalize y/65536^i%65536=e,x/65536^i%65536=d at*;have hstep:=hstep (d+e+c) r;have V:IntKind.i64.wrap ((d:Int)+(e:Int))=((d+e:Nat):Int):=q_w;have W:IntKind.i64.wrap (((d+e:Nat):Int)+(c:Int))=((d+e+c:Nat):Int):=q_w;have X:((d+e+c:Nat):Int).tmod 65536=(((d+e+c)%65536:Nat):Int):=zdL _ 65536;have h4:IntKind.i64.wrap (((d+e+c:Nat):Int).tdiv 65536)=(((d+e+c)/65536:Nat):Int):=zcV (k:=65536) q_o;have S:(d+e+c)/65536<=1:=q_o;repeat refine zb0 ?_
  refine zb9 (γ:=Unit) (λ_=>[(0,.slice a n K),(1,.slice b m O),(5,.slice a1 i J),(6,.int .i64 ((c:Nat):Int)),(7,.int .i64 i),(22,.bool true)]) (λ_=>[.row (.slice a1 i J) 3 1 i (iC l)]) (λ_=>True) ?_ ?_
  ·by_cases g1:i<n
   ·have B:decide ((i:Int)<(n:Int))=true:=q_d;repeat' (first|refine zav ?_|refine zai ?_|refine q_k 4 ?_;refine q_x (zl (hr:=B)) ?_)
    exact zZ () trivial q_h q_h
   ·have B:decide ((i:Int)<(n:Int))=false:=q_f;by_cases g2:i<m
    ·have I:decide ((i:Int)<(m:Int))=true:=q_d;repeat' (first|refine zav ?_|refine zai ?_|refine q_k 4 ?_;refine q_x (zl (hr:=B)) ?_;refine q_x (zl (hr:=I)) ?_)
     exact zZ () trivial q_h q_h
    ·have I:decide ((i:Int)<(m:Int))=false:=q_f;have n3:decide ((0:Int)<(c:Int))=true:=q_d;repeat' (first|refine zav ?_|refine zai ?_|refine q_k 4 ?_;refine q_x (zl (hr:=B)) ?_;refine q_x (zl (hr:=I)) ?_;refine q_x (zF (hr:=n3)) ?_)
     exact zZ () trivial q_h q_h
  rintro - -;repeat' (first|refine s_t ?_|refine q_k 6 ?_;refine q_v (za (hc:=zq Q)) ?_;refine zb ?_;refine q_v (za (hc:=zq R)) ?_;refine q_x (zA (hr:=V)) ?_;refine q_x (zA (hr:=W)) ?_|refine q_k 7 ?_;refine q_v (zaN (hr:=X)) ?_;(refine q_s zw ?_;rintro _ _ ⟨_,rfl,rfl⟩);(refine q_s (zak (k:=i) (m:=1) (hn:=rfl) (hkm:=rfl) (hys:=zeQ l ((d+e+c)%65536))) ?_;rintro _ _ ⟨rfl,Y,Z,rfl⟩);refine zb ?_|refine q_k 8 ?_;refine q_x (zbb (hr:=h4)) ?_|refine q_k 5 ?_;refine zaI ?_;refine zb ?_)
  refine zy (i+1,l++[(d+e+c)%65536],(d+e+c)/65536,Y,Z) ⟨by show i+1<=_;omega,S,hstep⟩ ?_ ?_ ?_
  ·show max n m+1-(i+1)<max n m+1-i;omega
  ·exact q_h
  ·exact q_h
 ·obtain rfl:c=0:=q_o;have hv:vl 65536 l=x+y:=by
   rw[A3 (AG F (AA q_e q_o)),A3 (AG G (AA q_e q_o))] at H;omega
  rw[<-hv];refine zen (λj U=>(FR U F6:i<=J)) λC=>?_;have B:decide ((i:Int)<(n:Int))=false:=q_f;have I:decide ((i:Int)<(m:Int))=false:=q_f;repeat' (first|refine s_0 ?_|refine q_k 4 ?_;refine q_x (zl (hr:=B)) ?_;refine q_x (zl (hr:=I)) ?_;refine q_x zF ?_|refine q_k 9 ?_;refine q_v (za (hc:=λj _ _ U=>zd2 a1 i J l j E C A.low (zI U (by exact F5 F6)) q_o)) ?_;refine zb ?_)
  refine zbK (zeI F1 E A.low) ?_;exact q_r
theorem ziL(a b:Option Addr)(J K x y:Nat)(w:World)(ha:SlA w a (zG x))(hb:SlA w b (zG y))(hx:nd 65536 x<100000000)(R:y<=x):
  Sy.Fn Tryz.prog 157 [.slice a (nd 65536 x) J,.slice b (nd 65536 y) K] w No (zaW (x-y)):=by
 refine zo Tryz.func157 Tryz.ntmps157 ?_;have C:=λi j (r:Keep No w j)=>zb3 a J x i j (ha.to r (λ_ h=> .inr h)).sla;have E:=λi j (r:Keep No w j)=>zb3 b K y i j (hb.to r (λ_ h=> .inr h)).sla;have Q:=zaE 65536 x q_e;generalize nd 65536 y=m,nd 65536 x=n at*;repeat' (first|refine s_t ?_|refine zK [0,1,2,3] ?_;refine zb ?_)
 refine zbn (zaO 3 1) ?_;refine zE (γ:=Nat×List Nat×Nat×Option Addr×Nat) (λg=>[(0,.slice a n J),(1,.slice b m K),(5,.slice g.2.2.2.1 g.1 g.2.2.2.2),(6,.int .i64 ((g.2.2.1:Nat):Int)),(7,.int .i64 g.1)]) (λg=>[.row (.slice g.2.2.2.1 g.1 g.2.2.2.2) 3 1 g.1 (iC g.2.1)])
  (λg=>g.1<=n/\OutS 65536 x y g.1 g.2.1 g.2.2.1) (λg=>n-g.1) (0,[],0,none,0) ⟨AE _,OutS.start 65536 x y⟩ ?_ ?_ ?_
 ·exact q_h
 ·show SubR [.row (.slice none 0 0) 3 1 0 (iC [])] _;rw[zj5];exact q_h
 rintro⟨i,l,c,a1,S⟩ ⟨Y,q⟩;dsimp only at Y q ⊢;have B:=q.len;have hc:=q.bit;by_cases hlt:i<n
 ·have hstep:=λt c'=>OutS.step (t:=t) (c':=c') q;have C:=λj r=>C i j r;have E:=λj r=>E i j r;have W:x/65536^i%65536<65536:=A7 _ q_e;have X:y/65536^i%65536<65536:=A7 _ q_e;generalize y/65536^i%65536=e,x/65536^i%65536=d at*;have T:IntKind.i64.wrap ((d:Int)-(e:Int))=(d:Int)-(e:Int):=IntWalk.i64_in _ q_o;have F:IntKind.i64.wrap ((d:Int)-(e:Int)-(c:Int))=(d:Int)-(e:Int)-(c:Int):=IntWalk.i64_in _ q_o;by_cases hneg:d<e+c
  ·have G:decide ((d:Int)-(e:Int)-(c:Int)<0)=true:=q_d;have V:IntKind.i64.wrap ((d:Int)-(e:Int)-(c:Int)+65536)=((d+65536-e-c:Nat):Int):=q_w;repeat' (first|refine s_t ?_|refine q_k 4 ?_;refine zR ?_|refine q_k 6 ?_;refine q_v (za (hc:=zq C)) ?_;refine zb ?_;refine q_v (za (hc:=zq E)) ?_;refine q_x (zH (hr:=T)) ?_;refine q_x (zH (hr:=F)) ?_|refine q_k 7 ?_|refine q_k 8 ?_;refine q_v (zl (hr:=G)) ?_|refine q_k 9 ?_;refine q_x (zA (hr:=V)) ?_|refine q_k 10 ?_;(refine q_s zw ?_;rintro _ _ ⟨_,rfl,rfl⟩);(refine q_s (zak (k:=i) (m:=1) (hn:=rfl) (hkm:=rfl) (hys:=zeQ l (d+65536-e-c))) ?_;rintro _ _ ⟨rfl,H,I,rfl⟩);refine zb ?_|refine q_k 5 ?_;refine zaI ?_;refine zb ?_)
   refine zy (i+1,l++[d+65536-e-c],1,H,I) ⟨by show i+1<=n;omega,hstep _ 1 q_o q_o q_o⟩ ?_ ?_ ?_
   ·show n-(i+1)<n-i;omega
   ·exact q_h
   ·exact q_h
  ·have G:decide ((d:Int)-(e:Int)-(c:Int)<0)=false:=q_f;have U:(d:Int)-(e:Int)-(c:Int)=((d-e-c:Nat):Int):=q_o;have F:=F.trans U;rw[U] at G;repeat' (first|refine s_t ?_|refine q_k 4 ?_;refine zR ?_|refine q_k 6 ?_;refine q_v (za (hc:=zq C)) ?_;refine zb ?_;refine q_v (za (hc:=zq E)) ?_;refine q_x (zH (hr:=T)) ?_;refine q_x (zH (hr:=F)) ?_|refine q_k 7 ?_|refine q_k 8 ?_;refine q_v (zl (hr:=G)) ?_|refine q_k 10 ?_;(refine q_s zw ?_;rintro _ _ ⟨_,rfl,rfl⟩);(refine q_s (zak (k:=i) (m:=1) (hn:=rfl) (hkm:=rfl) (hys:=zeQ l (d-e-c))) ?_;rintro _ _ ⟨rfl,H,I,rfl⟩);refine zb ?_|refine q_k 5 ?_;refine zaI ?_;refine zb ?_)
   refine zy (i+1,l++[d-e-c],0,H,I) ⟨by show i+1<=n;omega,hstep _ 0 q_o q_o q_o⟩ ?_ ?_ ?_
   ·show n-(i+1)<n-i;omega
   ·exact q_h
   ·exact q_h
 ·obtain rfl:i=n:=q_o;have Z:=q.done Q R;rw[<-Z];refine zen (λj O=>(FR O F6:i<=S)) λA=>?_;repeat' (first|refine s_0 ?_|refine q_k 4 ?_;refine zR ?_|refine q_k 11 ?_;refine q_v (za (hc:=λj _ _ O=>zd2 a1 i S l j B A q.low (zI O (by exact F5 F6)) q_o)) ?_;refine zb ?_)
  refine zbK (zeI F1 B q.low) ?_;exact q_r
end Go.Proofs.YtdnlngbjpdbffaaGreatDoor
namespace Go.Nt
theorem zu8{b r:Nat}(hr:r<16)(hb:b=65536):2^r<=32768:=by
 have:2^r<=2^15:=AA q_e q_o;exact this
end Go.Nt
namespace Go.Proofs.YtdnlngbjpdbffaaGreatDoor
open Go Go.Sy Go.Nt Go.RowKit
attribute [local irreducible] Sy SyL SyX Sy.Fn callFunc zf zG iC
theorem zrv(a:Option Addr)(O x n:Nat)(w:World)(ha:SlA w a (zG x))(hx:nd 65536 x<100000000)(hn:n<1000000000):
  Sy.Fn Tryz.prog 312 [.slice a (nd 65536 x) O,.int .i64 n] w No (zaW (x*2^n)):=by
 refine zo Tryz.func312 Tryz.ntmps312 ?_;have Q:=λi B (T:Keep No w B)=>zb3 a O x i B (ha.to T (λ_ h=> .inr h)).sla;have F:=zaE 65536 x q_e;generalize nd 65536 x=k at*;obtain⟨z,hz⟩:∃z,z=n/16:=⟨_,rfl⟩;obtain⟨r,hr⟩:∃r,r=n%16:=⟨_,rfl⟩;have G:r<16:=q_o;have H:=zu8 G rfl;have q1:IntKind.i64.wrap ((n:Int).tdiv 16)=((z:Nat):Int):=by rw[hz];exact zcV (k:=16) q_o
 have q2:(n:Int).tmod 16=((r:Nat):Int):=by rw[hr];exact zdL n 16
 repeat' (first|refine s_t ?_|refine zK [0,2,3] ?_;refine zb ?_|refine q_k 1 ?_;refine q_v (zbb (hr:=q1)) ?_|refine q_s zd1 ?_;rintro _ _ ⟨V,rfl,rfl⟩|(refine zW ?_;first|refine zB ?_|fail)|fail)
 refine zbn (zdx (n:=z) (s:=1) F1 q_p (by unfold maxLen;omega)) ?_;refine zE (γ:=Nat×List Nat×Nat×Option Addr×Nat) (λg=>[(0,.slice a k O),(1,.int .i64 n),(5,.slice g.2.2.2.1 (z+g.1) g.2.2.2.2),(6,.int .i64 ((g.2.2.1:Nat):Int)),(7,.int .i64 g.1)]) (λg=>[.row (.slice g.2.2.2.1 (z+g.1) g.2.2.2.2) 3 1 (z+g.1) (iC (List.replicate z 0++g.2.1))])
  (λg=>g.1<=k+1/\g.2.2.1<32768/\OutJ 65536 (x%65536^g.1*2^r) g.1 g.2.1 g.2.2.1) (λg=>k+1-g.1) (0,[],0,some ⟨V,0,none⟩,z) ⟨AE _,by show 0<32768;decide,by
   have:=OutJ.start 65536;rw[show x%65536^0*2^r=0 by rw[Ad,Bj,BJ]];exact this⟩ ?_ ?_ ?_
 ·exact q_h
 ·show SubR [.row (.slice (some ⟨V,0,none⟩) z z) 3 1 z (iC (List.replicate z 0++[]))] _;rw[AZ,<-zjH];exact q_h
 rintro⟨i,l,c,a1,K⟩ ⟨hi,hc,C⟩;dsimp only at hi hc C ⊢;have I:=C.sum;have U:=C.len;by_cases hgo:i<k\/0<c
 ·have a8:i<k+1:=by
   rcases AH i (k+1) with h|h
   ·exact h
   ·exfalso;have b0:x<65536^(i-1):=AG F (AA q_e q_o);have R:0<c:=q_o;have a9:65536^i=65536^(i-1)*65536:=by rw[<-AJ,show(i-1).succ=i by omega]
    have W:x%65536^i*2^r<=x*32768:=Ca (EZ _ _) H;have X:65536^i<=c*65536^i:=BZ _ R;omega
  have hstep:=λt=>OutJ.step (t:=t) C q_e (T':=x%65536^(i+1)*2^r);have A:=ztr 65536 x (2^r) i c;have Q:=λB T=>Q i B T;have a6:x/65536^i%65536<65536:=A7 _ q_e;generalize x/65536^i%65536=d at*;have hstep:=hstep (d*2^r+c) A;have a7:d*2^r<=65535*32768:=Ca q_o H;have W:=zxk d r .i64 q_o q_o;have h2:IntKind.i64.wrap (((d*2^r:Nat):Int)+(c:Int))=((d*2^r+c:Nat):Int):=q_w;have X:((d*2^r+c:Nat):Int).tmod 65536=(((d*2^r+c)%65536:Nat):Int):=zdL _ 65536;have h4:IntKind.i64.wrap (((d*2^r+c:Nat):Int).tdiv 65536)=(((d*2^r+c)/65536:Nat):Int):=zcV (k:=65536) q_o;generalize d*2^r=f at*;repeat refine zb0 ?_
  refine zb9 (γ:=Unit) (λ_=>[(0,.slice a k O),(1,.int .i64 n),(5,.slice a1 (z+i) K),(6,.int .i64 ((c:Nat):Int)),(7,.int .i64 i),(19,.bool true)]) (λ_=>[.row (.slice a1 (z+i) K) 3 1 (z+i) (iC (List.replicate z 0++l))]) (λ_=>True) ?_ ?_
  ·by_cases g1:i<k
   ·have J:decide ((i:Int)<(k:Int))=true:=q_d;repeat' (first|refine zav ?_|refine zai ?_|refine q_k 4 ?_;refine q_x (zl (hr:=J)) ?_)
    exact zZ () trivial q_h q_h
   ·have J:decide ((i:Int)<(k:Int))=false:=q_f;have n3:decide ((0:Int)<(c:Int))=true:=q_d;repeat' (first|refine zav ?_|refine zai ?_|refine q_k 4 ?_;refine q_x (zl (hr:=J)) ?_;refine q_x (zF (hr:=n3)) ?_)
    exact zZ () trivial q_h q_h
  rintro - -;have hys:iC (List.replicate z 0++l)++[iv ((f+c)%65536)]=iC (List.replicate z 0++(l++[(f+c)%65536])):=by rw[zeQ,AL]
  repeat' (first|refine s_t ?_|refine q_k 6 ?_;refine q_v (za (hc:=zq Q)) ?_;refine zb ?_;refine q_v (zaN (hr:=q2)) ?_;refine q_x (zgb (hr:=W)) ?_;refine q_x (zA (hr:=h2)) ?_|refine q_k 7 ?_;refine q_v (zaN (hr:=X)) ?_;(refine q_s zw ?_;rintro _ _ ⟨_,rfl,rfl⟩);(refine q_s (zak (k:=z+i) (m:=1) (km:=z+(i+1)) (hn:=rfl) (hkm:=rfl) (hys:=hys)) ?_;rintro _ _ ⟨rfl,Y,Z,rfl⟩);refine zb ?_|refine q_k 8 ?_;refine q_x (zbb (hr:=h4)) ?_|refine q_k 5 ?_;refine zaI ?_;refine zb ?_)
  refine zy (i+1,l++[(f+c)%65536],(f+c)/65536,Y,Z) ⟨by show i+1<=_;omega,by show(f+c)/65536<32768;omega,hstep⟩ ?_ ?_ ?_
  ·show k+1-(i+1)<k+1-i;omega
  ·exact q_h
  ·exact q_h
 ·obtain rfl:c=0:=q_o;have q:∀d∈List.replicate z 0++l,d<65536:=λd hd=>by
   rcases BE.1 hd with h|h
   ·exact zqk z d h
   ·exact C.low d h
  have j:(List.replicate z 0++l).length=z+i:=by rw[A2,AK,U]
  have hv:vl 65536 (List.replicate z 0++l)=x*2^n:=by
   rw[A3 (AG F (AA q_e q_o))] at I;rw[zfw,zd3,AK,AR,show vl 65536 l=x*2^r by omega,zl8,show n=16*z+r by omega,As]
   ac_rfl
  rw[<-hv];refine zen (λB S=>(FR S F6:z+i<=K)) λE=>?_;have J:decide ((i:Int)<(k:Int))=false:=q_f;generalize List.replicate z 0++l=l' at*;repeat' (first|refine s_0 ?_|refine q_k 4 ?_;refine q_x (zl (hr:=J)) ?_;refine q_x zF ?_|refine q_k 9 ?_;refine q_v (za (hc:=λB _ _ S=>zd2 a1 (z+i) K l' B j E q (zI S (by exact F5 F6)) q_o)) ?_;refine zb ?_)
  refine zbK (zeI F1 j q) ?_;exact q_r
theorem zo1(a b:Option Addr)(G C x y:Nat)(w:World)(ha:SlA w a (zG x))(hb:SlA w b (zG y))(hx:nd 65536 x<100000000)(hy:nd 65536 y<100000000):
  Sy.Fn Tryz.prog 278 [.slice a (nd 65536 x) G,.slice b (nd 65536 y) C] w No (zaW (x*y)):=by
 refine zo Tryz.func278 Tryz.ntmps278 ?_;have H:=λi A (B:Keep No w A)=>zb3 b C y i A (hb.to B (λ_ h=> .inr h)).sla;have S:=zaE 65536 x q_e;have E:=zaE 65536 y q_e;have Q:=zhG x;have R:=zf9 x;generalize nd 65536 y=m,nd 65536 x=n at*;obtain⟨k,B⟩:∃k,k=n+m+1:=⟨_,rfl⟩;have h1:IntKind.i64.wrap ((n:Int)+(m:Int))=((n+m:Nat):Int):=q_w;have h2:IntKind.i64.wrap (((n+m:Nat):Int)+1)=((k:Nat):Int):=q_w;have V:=MulK.start 65536 k x y q_e;repeat' (first|refine s_t ?_|refine zK [0,2] ?_;refine zb ?_|refine q_k 1 ?_;refine q_v (zA (hr:=h1)) ?_;refine q_v (zA (hr:=h2)) ?_|refine q_s zd1 ?_;rintro _ _ ⟨r,rfl,rfl⟩|(refine zW ?_;first|refine zB ?_|fail)|fail)
 refine zE (γ:=Nat×List Nat) (λg=>[(0,.slice a n G),(1,.slice b m C),(5,.slice (some ⟨r,0,none⟩) k k),(6,.int .i64 g.1)]) (λg=>[.blk r 3 (iC g.2)])
  (λg=>g.1<=n/\MulK 65536 k x y g.1 0 g.2 0) (λg=>n-g.1) (0,List.replicate k 0) ⟨AE _,V⟩ ?_ ?_ ?_
 ·exact q_h
 ·show SubR [.blk r 3 (iC (List.replicate k 0))] _;rw[<-zjH];exact q_h
 rintro⟨i,l⟩ ⟨hi,q⟩;dsimp only at hi q ⊢;by_cases hlt:i<n
 ·obtain⟨Y,Z,rfl,U⟩:=zg0 ha q_o;have J:=U i _ (Q i hlt);repeat' (first|refine s_t ?_|refine q_k 3 ?_;refine zR ?_|refine zK [5,6] ?_;refine zb ?_)
  refine zE (γ:=Nat×List Nat×Nat) (λg=>[(0,.slice (some ⟨Y,Z,none⟩) n G),(1,.slice b m C),(5,.slice (some ⟨r,0,none⟩) k k),(6,.int .i64 i),(7,.int .i64 ((g.2.2:Nat):Int)),(8,.int .i64 g.1)]) (λg=>[.blk r 3 (iC g.2.1)])
   (λg=>g.1<=m+1/\MulK 65536 k x y i g.1 g.2.1 g.2.2) (λg=>m+1-g.1) (0,l,0) ⟨AE _,q⟩ ?_ ?_ ?_
  ·exact q_h
  ·exact q_h
  clear q;rintro⟨j,l,c⟩ ⟨hj,q⟩;dsimp only at hj q ⊢;have t:=q.len;have a9:(iC l).length=k:=by rw[zhb,t]
  have I:=q.car;by_cases hgo:j<m\/0<c
  ·have a8:j<=m:=by
    rcases AH j m with h|h
    ·omega
    ·exact q.place q_e E h q_o
   obtain⟨u,hu⟩:∃u,l[i+j]?=some u:=⟨l[i+j]'q_o,A1 _⟩;have X:=q.low u (Bk hu);have W:=zmN hu;have hstep:=λz c'=>q.step (z:=z) (c':=c') hu;have H:=λA B=>H j A B;have K:x/65536^i%65536<65536:=A7 _ q_e;have O:y/65536^j%65536<65536:=A7 _ q_e;generalize y/65536^j%65536=e,x/65536^i%65536=d at*;have T:=zsi K O X I;have a7:d*e<=65535*65535:=Ca q_o q_o;have hstep:=hstep ((u+d*e+c)%65536) ((u+d*e+c)/65536) (A7 _ q_e) T (by
    have:=Nat.mod_add_div (u+d*e+c) 65536;omega)
   have a1:IntKind.i64.wrap ((i:Int)+(j:Int))=((i+j:Nat):Int):=q_w;have a2:IntKind.i64.wrap ((d:Int)*(e:Int))=((d*e:Nat):Int):=by
    rw[show((d:Nat):Int)*((e:Nat):Int)=((d*e:Nat):Int) by simp,IntWalk.i64_in _ q_o]
   generalize d*e=f at*;have a3:IntKind.i64.wrap ((u:Int)+(f:Int))=((u+f:Nat):Int):=q_w;have a4:IntKind.i64.wrap (((u+f:Nat):Int)+(c:Int))=((u+f+c:Nat):Int):=q_w;have a5:((u+f+c:Nat):Int).tmod 65536=(((u+f+c)%65536:Nat):Int):=zdL _ 65536;have a6:IntKind.i64.wrap (((u+f+c:Nat):Int).tdiv 65536)=(((u+f+c)/65536:Nat):Int):=zcV (k:=65536) q_o;repeat refine zb0 ?_
   refine zb9 (γ:=Unit) (λ_=>[(0,.slice (some ⟨Y,Z,none⟩) n G),(1,.slice b m C),(5,.slice (some ⟨r,0,none⟩) k k),(6,.int .i64 i),(7,.int .i64 ((c:Nat):Int)),(8,.int .i64 j),(30,.bool true)]) (λ_=>[.blk r 3 (iC l)]) (λ_=>True) ?_ ?_
   ·by_cases g1:j<m
    ·have F:decide ((j:Int)<(m:Int))=true:=q_d;repeat' (first|refine zav ?_|refine zai ?_|refine q_k 7 ?_;refine q_x (zl (hr:=F)) ?_)
     exact zZ () trivial q_h q_h
    ·have F:decide ((j:Int)<(m:Int))=false:=q_f;have n3:decide ((0:Int)<(c:Int))=true:=q_d;repeat' (first|refine zav ?_|refine zai ?_|refine q_k 7 ?_;refine q_x (zl (hr:=F)) ?_;refine q_x (zF (hr:=n3)) ?_)
     exact zZ () trivial q_h q_h
   rintro - -;repeat' (first|refine s_t ?_|refine z5 (id:=9) 16 [[],[],[],[1,2],[0,1,2,3],[0,1,2,3,4],[],[],[6,7],[6,7,8],[],[],[10,11],[6,7,8,9,10,11,12],[0,1,2,3,4,5,6,7,8,9,10,11,12,13],[],[0,1,2,3,4,5,6,7,8,9,10,11,12,13,14,15],[0,1,2,3,4,5,6,7,8,9,10,11,12,13,14,15,16]] mixed ?_ ?_;kernel_rfl;refine zt ?_;refine zt ?_;refine zt ?_;refine q_D (zA (hr:=a1)) ?_;refine zT ?_;refine q_D (zM (hv:=W)) ?_;refine zt ?_;refine zt ?_;refine zT ?_;refine q_D (zn (hv:=J)) ?_;refine zt ?_;refine zt ?_;refine q_D (za (hc:=λA _ B _=>H A B)) ?_;refine q_D (zas (hr:=a2)) ?_;refine q_D (zA (hr:=a3)) ?_;refine zt ?_;refine zam ?_;refine q_v (zA (hr:=a4)) ?_;refine zB ?_|refine q_k 10 ?_;refine q_x (zA (hr:=a1)) ?_;refine q_v (zaN (hr:=a5)) ?_;refine zD ?_;refine zS ?_|refine q_k 11 ?_;refine q_x (zbb (hr:=a6)) ?_|refine q_k 8 ?_;refine zaI ?_;refine zb ?_)
   refine zy (j+1,l.set (i+j) ((u+f+c)%65536),(u+f+c)/65536) ⟨by show j+1<=_;omega,hstep⟩ ?_ ?_ ?_
   ·show m+1-(j+1)<m+1-j;omega
   ·exact q_h
   ·show SubR [.blk r 3 (iC (l.set (i+j) ((u+f+c)%65536)))] _;rw[show iC (l.set (i+j) ((u+f+c)%65536))=(iC l).set (i+j) (iv ((u+f+c)%65536)) by unfold iC;rw[BS]];exact q_h
  ·obtain rfl:c=0:=q_o;have F:decide ((j:Int)<(m:Int))=false:=q_f;repeat' (first|refine s_0 ?_|refine q_k 7 ?_;refine q_x (zl (hr:=F)) ?_;refine q_x zF ?_|refine q_k 4 ?_;refine zaI ?_;refine zb ?_)
   refine zy (i+1,l) ⟨by show i+1<=n;omega,q.row (AG E (AA q_e q_o)) q_e⟩ ?_ ?_ ?_
   ·show n-(i+1)<n-i;omega
   ·exact q_h
   ·exact q_h
 ·obtain rfl:i=n:=q_o;have hv:=q.done S;have t:=q.len;rw[<-hv];repeat' (first|refine s_0 ?_|refine q_k 3 ?_;refine zR ?_|refine q_k 12 ?_;refine q_v (za (hc:=λA _ _ hh=>zd2 (some ⟨r,0,none⟩) k k l A t (A4 _) q.low (.inr ⟨r,0,rfl,zp (hh.has (by exact F5 F6)) F0⟩) q_o)) ?_;refine zb ?_)
  refine zbK (zdx (n:=k) (s:=1) F1 (by rw[zhb];omega) (by unfold maxLen;omega)) ?_;refine zbK (zeI F1 t q.low) ?_;exact q_r
end Go.Proofs.YtdnlngbjpdbffaaGreatDoor
