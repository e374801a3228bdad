/- Lemmas of this proof. -/
import Derived.Test.YtdnlngbjpdbffaaGreatDoorWJ16
import Derived.Laws.Small
set_option maxHeartbeats 1000000
set_option maxRecDepth 10000
set_option linter.all false
namespace Go.Sy
open Go
variable {P:Program}{ro:Option Nat}{N:Nat}{w0:World}{M:Nat->Prop}{ds:List Deferred}{g:Nat->Option Value}{L:List Res}{o:Oper}
theorem zw1{x z:Operand}{ts:Array TypeId}{k q:IntKind}{a b c:Int}(hr:min a b=c)(j:o.op= .call { callee:=.builtin .min,args:=#[x,z],argTypes:=ts } :=by exact rfl)(hx:ev g x=some (.int k a):=by exact rfl)(hz:ev g z=some (.int q b):=by exact rfl):OpT P ro N w0 M ds o g L (Det (.int k c) L):=
 F0 (by rw[j];rfl) λr w X m=>by
  have:(if b<a then b else a)=c:=by rw[<-hr];split <;> omega
  subst this;simp[execOp,j,m.agr.eval hx,m.agr.eval hz,resolve,invoke,builtin,run_min_int2]
theorem zyu{x z:Operand}{ts:Array TypeId}{k q:IntKind}{a b c:Int}(hr:max a b=c)(j:o.op= .call { callee:=.builtin .max,args:=#[x,z],argTypes:=ts } :=by exact rfl)(hx:ev g x=some (.int k a):=by exact rfl)(hz:ev g z=some (.int q b):=by exact rfl):OpT P ro N w0 M ds o g L (Det (.int k c) L):=
 F0 (by rw[j];rfl) λr w X m=>by
  have:(if b>a then b else a)=c:=by rw[<-hr];split <;> omega
  subst this;simp[execOp,j,m.agr.eval hx,m.agr.eval hz,resolve,invoke,builtin,run_max_int2]
end Go.Sy
namespace Go.Nt
open Go Go.Sy
theorem zz2(d r:Nat)(k:IntKind)(h:r<64)(hb:d*2^r<9223372036854775808):Op.shift .shl .i64 (d:Int) k (r:Int)=pure (.int .i64 ((d*2^r:Nat):Int)):=by
 have j:¬((r:Int)<0):=q_o;have m:¬64<=r:=q_o;simp[Op.shift,j,m,IntKind.bits];have e:(d:Int)*2^r=((d*2^r:Nat):Int):=by simp
 rw[e,IntWalk.i64_in _ q_o]
theorem ztm(n:Nat):∀d∈List.replicate n 0,d<65536:=λd j=>by rw[(List.mem_replicate.1 j).2];decide
theorem zkA(n:Nat):List.replicate n (Value.int IntKind.i64 0)=iC (List.replicate n 0):=by unfold iC;rw[BT];rfl
end Go.Nt
namespace Go.Proofs.YtdnlngbjpdbffaaGreatDoor
open Go Go.Sy Go.Nt Go.RowKit
attribute [local irreducible] Sy SyL SyX Sy.Fn callFunc zg zac iC
theorem zho(a b:Option Addr)(E F x y:Nat)(w:World)(ha:SlA w a (zac x))(hb:SlA w b (zac y))(hx:nd 65536 x<100000000)(W:nd 65536 y<100000000):
  q_G 162 [.slice a (nd 65536 x) E,.slice b (nd 65536 y) F] w (.int .i64 (zbx x y)):=by
 refine zt Tryz.func162 Tryz.ntmps162 ?_;have A:=λi q (r:Keep No w q)=>zci a E x i q (ha.to r (λ_ h=> .inr h)).sla;have B:=λi q (r:Keep No w q)=>zci b F y i q (hb.to r (λ_ h=> .inr h)).sla;have K:=zaS 65536 x q_e;have O:=zaS 65536 y q_e;generalize nd 65536 y=m,nd 65536 x=n at*;obtain⟨k,r⟩:∃k,k=max n m:=⟨_,rfl⟩;have T:x<65536^k:=AI K (AB q_e q_o);have U:y<65536^k:=AI O (AB q_e q_o);have Q:max (n:Int) (m:Int)=((k:Nat):Int):=q_o;have R:IntKind.i64.wrap ((k:Int)-1)=(k:Int)-1:=IntWalk.i64_in _ q_o;repeat' (first|refine s_t ?_|refine q_k 0 ?_|refine q_k 1 ?_;refine q_v (zyu (hr:=Q)) ?_;refine q_x (zI (hr:=R)) ?_)
 refine zN (γ:=Nat) (λi=>[(0,.slice a n E),(1,.slice b m F),(5,.int .i64 ((i:Int)-1))]) (λ_=>[]) (λi=>i<=k/\x/65536^i=y/65536^i) (λi=>i) k ⟨A6 _,by rw[Al T,Al U]⟩ ?_ ?_ ?_
 ·exact q_h
 ·exact q_h
 rintro i ⟨V,C⟩;rcases AD i with h0|h0
 ·subst h0;rw[An,CF,CF] at C;subst C;rw[ziK];repeat' (first|refine s_0 ?_|refine q_k 2 ?_;refine q_v zP ?_|refine q_k 8 ?_)
  exact q_r
 obtain⟨i,rfl⟩:∃j,i=j+1:=⟨i-1,by omega⟩;have I:(((i+1:Nat):Int)-1)=((i:Nat):Int):=q_o;have S:IntKind.i64.wrap ((i:Int)-1)=(i:Int)-1:=IntWalk.i64_in _ q_o;rw[I];have A:=λq r=>A i q r;have B:=λq r=>B i q r;have J:=zfT 65536 x y i q_e C;have H:=zfT 65536 y x i q_e C.symm;have G:=zox 65536 x y i C;generalize y/65536^i%65536=e,x/65536^i%65536=d at*;rcases Cm d e with h|h|h
 ·rw[zhJ (J h)];repeat' (first|refine s_t ?_|refine q_k 2 ?_;refine q_v zP ?_|refine q_k 4 ?_;refine q_v (za (hc:=zu A)) ?_;refine zb ?_;refine q_v (za (hc:=zu B)) ?_;refine zag ?_|refine q_k 5 ?_)
  exact q_r
 ·subst h;repeat' (first|refine s_t ?_|refine q_k 2 ?_;refine q_v zP ?_|refine q_k 4 ?_;refine q_v (za (hc:=zu A)) ?_;refine zb ?_;refine q_v (za (hc:=zu B)) ?_;refine zag ?_|refine q_k 6 ?_;refine q_v (za (hc:=zu A)) ?_;refine zb ?_;refine q_v (za (hc:=zu B)) ?_;refine q_v zH ?_|refine q_k 3 ?_;refine q_x (zI (hr:=S)) ?_)
  refine zE i ⟨by omega,G rfl⟩ ?_ ?_ ?_
  ·show i<i+1;omega
  ·exact q_h
  ·exact q_h
 ·rw[zjJ (H h)];repeat' (first|refine s_t ?_|refine q_k 2 ?_;refine q_v zP ?_|refine q_k 4 ?_;refine q_v (za (hc:=zu A)) ?_;refine zb ?_;refine q_v (za (hc:=zu B)) ?_;refine zag ?_|refine q_k 6 ?_;refine q_v (za (hc:=zu A)) ?_;refine zb ?_;refine q_v (za (hc:=zu B)) ?_;refine q_v zH ?_|refine q_k 7 ?_)
  exact q_r
theorem zw9(a b:Option Addr)(K O x y:Nat)(w:World)(ha:SlA w a (zac x))(hb:SlA w b (zac y))(hx:nd 65536 x<100000000)(hy:nd 65536 y<100000000):
  Sy.Fn Tryz.prog 277 [.slice a (nd 65536 x) K,.slice b (nd 65536 y) O] w No (zc0 (x+y)):=by
 refine zt Tryz.func277 Tryz.ntmps277 ?_;have Q:=λi j (q:Keep No w j)=>zci a K x i j (ha.to q (λ_ h=> .inr h)).sla;have R:=λi j (q:Keep No w j)=>zci b O y i j (hb.to q (λ_ h=> .inr h)).sla;have F:=zaS 65536 x q_e;have G:=zaS 65536 y q_e;generalize nd 65536 y=m,nd 65536 x=n at*;repeat' (first|refine s_t ?_|refine zD [0,1,2,3] ?_;refine zb ?_)
 refine zbz (za3 3 1) ?_;refine zN (γ:=Nat×List Nat×Nat×Option Addr×Nat) (λg=>[(0,.slice a n K),(1,.slice b m O),(5,.slice g.2.2.2.1 g.1 g.2.2.2.2),(6,.int .i64 ((g.2.2.1:Nat):Int)),(7,.int .i64 g.1)]) (λg=>[.row (.slice g.2.2.2.1 g.1 g.2.2.2.2) 3 1 g.1 (iC g.2.1)])
  (λg=>g.1<=max n m+1/\g.2.2.1<=1/\OutJ 65536 (x%65536^g.1+y%65536^g.1) g.1 g.2.1 g.2.2.1) (λg=>max n m+1-g.1) (0,[],0,none,0) ⟨A9 _,by decide,by
   have:=OutJ.start 65536;rw[show x%65536^0+y%65536^0=0 by rw[An,C0,C0]];exact this⟩ ?_ ?_ ?_
 ·exact q_h
 ·show SubR [.row (.slice none 0 0) 3 1 0 (iC [])] _;rw[zkL];exact q_h
 rintro⟨i,l,c,a1,J⟩ ⟨hi,hc,A⟩;dsimp only at hi hc A ⊢;have H:=A.sum;have E:=A.len;by_cases hgo:i<n\/i<m\/0<c
 ·have a8:i<max n m+1:=by
   rcases AF i (max n m+1) with h|h
   ·exact h
   ·exfalso;have b0:x<65536^(i-1):=AI F (AB q_e q_o);have b1:y<65536^(i-1):=AI G (AB q_e q_o);have T:0<c:=q_o;have a9:65536^i=65536^(i-1)*65536:=by rw[<-AN,show(i-1).succ=i by omega]
    have V:=EH x (65536^i);have W:=EH y (65536^i);have X:65536^i<=c*65536^i:=BQ _ T;omega
  have hstep:=λt=>OutJ.step (t:=t) A q_e (T':=x%65536^(i+1)+y%65536^(i+1));have r:=zu6 65536 x y i c;have Q:=λj q=>Q i j q;have R:=λj q=>R i j q;have a6:x/65536^i%65536<65536:=AC _ q_e;have a7:y/65536^i%65536<65536:=AC _ q_e;generalize y/65536^i%65536=e,x/65536^i%65536=d at*;have hstep:=hstep (d+e+c) r;have V:IntKind.i64.wrap ((d:Int)+(e:Int))=((d+e:Nat):Int):=q_w;have W:IntKind.i64.wrap (((d+e:Nat):Int)+(c:Int))=((d+e+c:Nat):Int):=q_w;have X:((d+e+c:Nat):Int).tmod 65536=(((d+e+c)%65536:Nat):Int):=zeq _ 65536;have h4:IntKind.i64.wrap (((d+e+c:Nat):Int).tdiv 65536)=(((d+e+c)/65536:Nat):Int):=zdn (k:=65536) q_o;have S:(d+e+c)/65536<=1:=q_o;repeat refine zc9 ?_
  refine zcn (γ:=Unit) (λ_=>[(0,.slice a n K),(1,.slice b m O),(5,.slice a1 i J),(6,.int .i64 ((c:Nat):Int)),(7,.int .i64 i),(22,.bool true)]) (λ_=>[.row (.slice a1 i J) 3 1 i (iC l)]) (λ_=>True) ?_ ?_
  ·by_cases g1:i<n
   ·have B:decide ((i:Int)<(n:Int))=true:=q_d;repeat' (first|refine zaq ?_|refine zat ?_|refine q_k 4 ?_;refine q_x (zo (hr:=B)) ?_)
    exact zak () trivial q_h q_h
   ·have B:decide ((i:Int)<(n:Int))=false:=q_f;by_cases g2:i<m
    ·have I:decide ((i:Int)<(m:Int))=true:=q_d;repeat' (first|refine zaq ?_|refine zat ?_|refine q_k 4 ?_;refine q_x (zo (hr:=B)) ?_;refine q_x (zo (hr:=I)) ?_)
     exact zak () trivial q_h q_h
    ·have I:decide ((i:Int)<(m:Int))=false:=q_f;have n3:decide ((0:Int)<(c:Int))=true:=q_d;repeat' (first|refine zaq ?_|refine zat ?_|refine q_k 4 ?_;refine q_x (zo (hr:=B)) ?_;refine q_x (zo (hr:=I)) ?_;refine q_x (zH (hr:=n3)) ?_)
     exact zak () trivial q_h q_h
  rintro - -;repeat' (first|refine s_t ?_|refine q_k 6 ?_;refine q_v (za (hc:=zu Q)) ?_;refine zb ?_;refine q_v (za (hc:=zu R)) ?_;refine q_x (zF (hr:=V)) ?_;refine q_x (zF (hr:=W)) ?_|refine q_k 7 ?_;refine q_v (zbE (hr:=X)) ?_;(refine q_s zz ?_;rintro _ _ ⟨_,rfl,rfl⟩);(refine q_s (zaE (k:=i) (m:=1) (hn:=rfl) (hkm:=rfl) (hys:=zfH l ((d+e+c)%65536))) ?_;rintro _ _ ⟨rfl,Y,Z,rfl⟩);refine zb ?_|refine q_k 8 ?_;refine q_x (zbv (hr:=h4)) ?_|refine q_k 5 ?_;refine za4 ?_;refine zb ?_)
  refine zE (i+1,l++[(d+e+c)%65536],(d+e+c)/65536,Y,Z) ⟨by show i+1<=_;omega,S,hstep⟩ ?_ ?_ ?_
  ·show max n m+1-(i+1)<max n m+1-i;omega
  ·exact q_h
  ·exact q_h
 ·obtain rfl:c=0:=q_o;have hv:vl 65536 l=x+y:=by
   rw[A7 (AI F (AB q_e q_o)),A7 (AI G (AB q_e q_o))] at H;omega
  rw[<-hv];refine zfu (λj U=>(FJ U F1:i<=J)) λC=>?_;have B:decide ((i:Int)<(n:Int))=false:=q_f;have I:decide ((i:Int)<(m:Int))=false:=q_f;repeat' (first|refine s_0 ?_|refine q_k 4 ?_;refine q_x (zo (hr:=B)) ?_;refine q_x (zo (hr:=I)) ?_;refine q_x zH ?_|refine q_k 9 ?_;refine q_v (za (hc:=λj _ _ U=>zeE a1 i J l j E C A.low (zas U (by exact Ey F1)) q_o)) ?_;refine zb ?_)
  refine zcf (zfA Es E A.low) ?_;exact q_r
theorem zlD(a b:Option Addr)(J K x y:Nat)(w:World)(ha:SlA w a (zac x))(hb:SlA w b (zac y))(hx:nd 65536 x<100000000)(R:y<=x):
  Sy.Fn Tryz.prog 157 [.slice a (nd 65536 x) J,.slice b (nd 65536 y) K] w No (zc0 (x-y)):=by
 refine zt Tryz.func157 Tryz.ntmps157 ?_;have C:=λi j (r:Keep No w j)=>zci a J x i j (ha.to r (λ_ h=> .inr h)).sla;have E:=λi j (r:Keep No w j)=>zci b K y i j (hb.to r (λ_ h=> .inr h)).sla;have Q:=zaS 65536 x q_e;generalize nd 65536 y=m,nd 65536 x=n at*;repeat' (first|refine s_t ?_|refine zD [0,1,2,3] ?_;refine zb ?_)
 refine zbz (za3 3 1) ?_;refine zN (γ:=Nat×List Nat×Nat×Option Addr×Nat) (λg=>[(0,.slice a n J),(1,.slice b m K),(5,.slice g.2.2.2.1 g.1 g.2.2.2.2),(6,.int .i64 ((g.2.2.1:Nat):Int)),(7,.int .i64 g.1)]) (λg=>[.row (.slice g.2.2.2.1 g.1 g.2.2.2.2) 3 1 g.1 (iC g.2.1)])
  (λg=>g.1<=n/\OutS 65536 x y g.1 g.2.1 g.2.2.1) (λg=>n-g.1) (0,[],0,none,0) ⟨A9 _,OutS.start 65536 x y⟩ ?_ ?_ ?_
 ·exact q_h
 ·show SubR [.row (.slice none 0 0) 3 1 0 (iC [])] _;rw[zkL];exact q_h
 rintro⟨i,l,c,a1,S⟩ ⟨Y,q⟩;dsimp only at Y q ⊢;have B:=q.len;have hc:=q.bit;by_cases hlt:i<n
 ·have hstep:=λt c'=>OutS.step (t:=t) (c':=c') q;have C:=λj r=>C i j r;have E:=λj r=>E i j r;have W:x/65536^i%65536<65536:=AC _ q_e;have X:y/65536^i%65536<65536:=AC _ q_e;generalize y/65536^i%65536=e,x/65536^i%65536=d at*;have T:IntKind.i64.wrap ((d:Int)-(e:Int))=(d:Int)-(e:Int):=IntWalk.i64_in _ q_o;have F:IntKind.i64.wrap ((d:Int)-(e:Int)-(c:Int))=(d:Int)-(e:Int)-(c:Int):=IntWalk.i64_in _ q_o;by_cases hneg:d<e+c
  ·have G:decide ((d:Int)-(e:Int)-(c:Int)<0)=true:=q_d;have V:IntKind.i64.wrap ((d:Int)-(e:Int)-(c:Int)+65536)=((d+65536-e-c:Nat):Int):=q_w;repeat' (first|refine s_t ?_|refine q_k 4 ?_;refine zag ?_|refine q_k 6 ?_;refine q_v (za (hc:=zu C)) ?_;refine zb ?_;refine q_v (za (hc:=zu E)) ?_;refine q_x (zI (hr:=T)) ?_;refine q_x (zI (hr:=F)) ?_|refine q_k 7 ?_|refine q_k 8 ?_;refine q_v (zo (hr:=G)) ?_|refine q_k 9 ?_;refine q_x (zF (hr:=V)) ?_|refine q_k 10 ?_;(refine q_s zz ?_;rintro _ _ ⟨_,rfl,rfl⟩);(refine q_s (zaE (k:=i) (m:=1) (hn:=rfl) (hkm:=rfl) (hys:=zfH l (d+65536-e-c))) ?_;rintro _ _ ⟨rfl,H,I,rfl⟩);refine zb ?_|refine q_k 5 ?_;refine za4 ?_;refine zb ?_)
   refine zE (i+1,l++[d+65536-e-c],1,H,I) ⟨by show i+1<=n;omega,hstep _ 1 q_o q_o q_o⟩ ?_ ?_ ?_
   ·show n-(i+1)<n-i;omega
   ·exact q_h
   ·exact q_h
  ·have G:decide ((d:Int)-(e:Int)-(c:Int)<0)=false:=q_f;have U:(d:Int)-(e:Int)-(c:Int)=((d-e-c:Nat):Int):=q_o;have F:=F.trans U;rw[U] at G;repeat' (first|refine s_t ?_|refine q_k 4 ?_;refine zag ?_|refine q_k 6 ?_;refine q_v (za (hc:=zu C)) ?_;refine zb ?_;refine q_v (za (hc:=zu E)) ?_;refine q_x (zI (hr:=T)) ?_;refine q_x (zI (hr:=F)) ?_|refine q_k 7 ?_|refine q_k 8 ?_;refine q_v (zo (hr:=G)) ?_|refine q_k 10 ?_;(refine q_s zz ?_;rintro _ _ ⟨_,rfl,rfl⟩);(refine q_s (zaE (k:=i) (m:=1) (hn:=rfl) (hkm:=rfl) (hys:=zfH l (d-e-c))) ?_;rintro _ _ ⟨rfl,H,I,rfl⟩);refine zb ?_|refine q_k 5 ?_;refine za4 ?_;refine zb ?_)
   refine zE (i+1,l++[d-e-c],0,H,I) ⟨by show i+1<=n;omega,hstep _ 0 q_o q_o q_o⟩ ?_ ?_ ?_
   ·show n-(i+1)<n-i;omega
   ·exact q_h
   ·exact q_h
 ·obtain rfl:i=n:=q_o;have Z:=q.done Q R;rw[<-Z];refine zfu (λj O=>(FJ O F1:i<=S)) λA=>?_;repeat' (first|refine s_0 ?_|refine q_k 4 ?_;refine zag ?_|refine q_k 11 ?_;refine q_v (za (hc:=λj _ _ O=>zeE a1 i S l j B A q.low (zas O (by exact Ey F1)) q_o)) ?_;refine zb ?_)
  refine zcf (zfA Es B q.low) ?_;exact q_r
end Go.Proofs.YtdnlngbjpdbffaaGreatDoor
namespace Go.Nt
theorem zwp{b r:Nat}(hr:r<16)(hb:b=65536):2^r<=32768:=by
 have:2^r<=2^15:=AB q_e q_o;exact this
end Go.Nt
namespace Go.Proofs.YtdnlngbjpdbffaaGreatDoor
open Go Go.Sy Go.Nt Go.RowKit
attribute [local irreducible] Sy SyL SyX Sy.Fn callFunc zg zac iC
theorem ztd(a:Option Addr)(O x n:Nat)(w:World)(ha:SlA w a (zac x))(hx:nd 65536 x<100000000)(hn:n<1000000000):
  Sy.Fn Tryz.prog 312 [.slice a (nd 65536 x) O,.int .i64 n] w No (zc0 (x*2^n)):=by
 refine zt Tryz.func312 Tryz.ntmps312 ?_;have Q:=λi B (T:Keep No w B)=>zci a O x i B (ha.to T (λ_ h=> .inr h)).sla;have F:=zaS 65536 x q_e;generalize nd 65536 x=k at*;obtain⟨z,hz⟩:∃z,z=n/16:=⟨_,rfl⟩;obtain⟨r,hr⟩:∃r,r=n%16:=⟨_,rfl⟩;have G:r<16:=q_o;have H:=zwp G rfl;have q1:IntKind.i64.wrap ((n:Int).tdiv 16)=((z:Nat):Int):=by rw[hz];exact zdn (k:=16) q_o
 have q2:(n:Int).tmod 16=((r:Nat):Int):=by rw[hr];exact zeq n 16
 repeat' (first|refine s_t ?_|refine zD [0,2,3] ?_;refine zb ?_|refine q_k 1 ?_;refine q_v (zbv (hr:=q1)) ?_|refine q_s zeD ?_;rintro _ _ ⟨V,rfl,rfl⟩|(refine zy ?_;first|refine zw ?_|fail)|fail)
 refine zbz (zeb (n:=z) (s:=1) Es q_p (by unfold maxLen;omega)) ?_;refine zN (γ:=Nat×List Nat×Nat×Option Addr×Nat) (λg=>[(0,.slice a k O),(1,.int .i64 n),(5,.slice g.2.2.2.1 (z+g.1) g.2.2.2.2),(6,.int .i64 ((g.2.2.1:Nat):Int)),(7,.int .i64 g.1)]) (λg=>[.row (.slice g.2.2.2.1 (z+g.1) g.2.2.2.2) 3 1 (z+g.1) (iC (List.replicate z 0++g.2.1))])
  (λg=>g.1<=k+1/\g.2.2.1<32768/\OutJ 65536 (x%65536^g.1*2^r) g.1 g.2.1 g.2.2.1) (λg=>k+1-g.1) (0,[],0,some ⟨V,0,none⟩,z) ⟨A9 _,by show 0<32768;decide,by
   have:=OutJ.start 65536;rw[show x%65536^0*2^r=0 by rw[An,C0,BF]];exact this⟩ ?_ ?_ ?_
 ·exact q_h
 ·show SubR [.row (.slice (some ⟨V,0,none⟩) z z) 3 1 z (iC (List.replicate z 0++[]))] _;rw[AG,<-zkA];exact q_h
 rintro⟨i,l,c,a1,K⟩ ⟨hi,hc,C⟩;dsimp only at hi hc C ⊢;have I:=C.sum;have U:=C.len;by_cases hgo:i<k\/0<c
 ·have a8:i<k+1:=by
   rcases AF i (k+1) with h|h
   ·exact h
   ·exfalso;have b0:x<65536^(i-1):=AI F (AB q_e q_o);have R:0<c:=q_o;have a9:65536^i=65536^(i-1)*65536:=by rw[<-AN,show(i-1).succ=i by omega]
    have W:x%65536^i*2^r<=x*32768:=CN (EH _ _) H;have X:65536^i<=c*65536^i:=BQ _ R;omega
  have hstep:=λt=>OutJ.step (t:=t) C q_e (T':=x%65536^(i+1)*2^r);have A:=zuw 65536 x (2^r) i c;have Q:=λB T=>Q i B T;have a6:x/65536^i%65536<65536:=AC _ q_e;generalize x/65536^i%65536=d at*;have hstep:=hstep (d*2^r+c) A;have a7:d*2^r<=65535*32768:=CN q_o H;have W:=zz2 d r .i64 q_o q_o;have h2:IntKind.i64.wrap (((d*2^r:Nat):Int)+(c:Int))=((d*2^r+c:Nat):Int):=q_w;have X:((d*2^r+c:Nat):Int).tmod 65536=(((d*2^r+c)%65536:Nat):Int):=zeq _ 65536;have h4:IntKind.i64.wrap (((d*2^r+c:Nat):Int).tdiv 65536)=(((d*2^r+c)/65536:Nat):Int):=zdn (k:=65536) q_o;generalize d*2^r=f at*;repeat refine zc9 ?_
  refine zcn (γ:=Unit) (λ_=>[(0,.slice a k O),(1,.int .i64 n),(5,.slice a1 (z+i) K),(6,.int .i64 ((c:Nat):Int)),(7,.int .i64 i),(19,.bool true)]) (λ_=>[.row (.slice a1 (z+i) K) 3 1 (z+i) (iC (List.replicate z 0++l))]) (λ_=>True) ?_ ?_
  ·by_cases g1:i<k
   ·have J:decide ((i:Int)<(k:Int))=true:=q_d;repeat' (first|refine zaq ?_|refine zat ?_|refine q_k 4 ?_;refine q_x (zo (hr:=J)) ?_)
    exact zak () trivial q_h q_h
   ·have J:decide ((i:Int)<(k:Int))=false:=q_f;have n3:decide ((0:Int)<(c:Int))=true:=q_d;repeat' (first|refine zaq ?_|refine zat ?_|refine q_k 4 ?_;refine q_x (zo (hr:=J)) ?_;refine q_x (zH (hr:=n3)) ?_)
    exact zak () trivial q_h q_h
  rintro - -;have hys:iC (List.replicate z 0++l)++[iv ((f+c)%65536)]=iC (List.replicate z 0++(l++[(f+c)%65536])):=by rw[zfH,AH]
  repeat' (first|refine s_t ?_|refine q_k 6 ?_;refine q_v (za (hc:=zu Q)) ?_;refine zb ?_;refine q_v (zbE (hr:=q2)) ?_;refine q_x (zew (hr:=W)) ?_;refine q_x (zF (hr:=h2)) ?_|refine q_k 7 ?_;refine q_v (zbE (hr:=X)) ?_;(refine q_s zz ?_;rintro _ _ ⟨_,rfl,rfl⟩);(refine q_s (zaE (k:=z+i) (m:=1) (km:=z+(i+1)) (hn:=rfl) (hkm:=rfl) (hys:=hys)) ?_;rintro _ _ ⟨rfl,Y,Z,rfl⟩);refine zb ?_|refine q_k 8 ?_;refine q_x (zbv (hr:=h4)) ?_|refine q_k 5 ?_;refine za4 ?_;refine zb ?_)
  refine zE (i+1,l++[(f+c)%65536],(f+c)/65536,Y,Z) ⟨by show i+1<=_;omega,by show(f+c)/65536<32768;omega,hstep⟩ ?_ ?_ ?_
  ·show k+1-(i+1)<k+1-i;omega
  ·exact q_h
  ·exact q_h
 ·obtain rfl:c=0:=q_o;have q:∀d∈List.replicate z 0++l,d<65536:=λd hd=>by
   rcases Ao.1 hd with h|h
   ·exact ztm z d h
   ·exact C.low d h
  have j:(List.replicate z 0++l).length=z+i:=by rw[A2,AJ,U]
  have hv:vl 65536 (List.replicate z 0++l)=x*2^n:=by
   rw[A7 (AI F (AB q_e q_o))] at I;rw[zgd,zeH,AJ,AZ,show vl 65536 l=x*2^r by omega,znf,show n=16*z+r by omega,Av]
   ac_rfl
  rw[<-hv];refine zfu (λB S=>(FJ S F1:z+i<=K)) λE=>?_;have J:decide ((i:Int)<(k:Int))=false:=q_f;generalize List.replicate z 0++l=l' at*;repeat' (first|refine s_0 ?_|refine q_k 4 ?_;refine q_x (zo (hr:=J)) ?_;refine q_x zH ?_|refine q_k 9 ?_;refine q_v (za (hc:=λB _ _ S=>zeE a1 (z+i) K l' B j E q (zas S (by exact Ey F1)) q_o)) ?_;refine zb ?_)
  refine zcf (zfA Es j q) ?_;exact q_r
theorem zpZ(a b:Option Addr)(H E x y:Nat)(w:World)(ha:SlA w a (zac x))(hb:SlA w b (zac y))(hx:nd 65536 x<100000000)(hy:nd 65536 y<100000000):
  Sy.Fn Tryz.prog 278 [.slice a (nd 65536 x) H,.slice b (nd 65536 y) E] w No (zc0 (x*y)):=by
 refine zt Tryz.func278 Tryz.ntmps278 ?_;have I:=λi B (C:Keep No w B)=>zci b E y i B (hb.to C (λ_ h=> .inr h)).sla;have T:=zaS 65536 x q_e;have F:=zaS 65536 y q_e;have R:=zh8 x;have S:=zgO x;generalize nd 65536 y=m,nd 65536 x=n at*;obtain⟨k,C⟩:∃k,k=n+m+1:=⟨_,rfl⟩;have h1:IntKind.i64.wrap ((n:Int)+(m:Int))=((n+m:Nat):Int):=q_w;have h2:IntKind.i64.wrap (((n+m:Nat):Int)+1)=((k:Nat):Int):=q_w;have W:=MulK.start 65536 k x y q_e;repeat' (first|refine s_t ?_|refine zD [0,2] ?_;refine zb ?_|refine q_k 1 ?_;refine q_v (zF (hr:=h1)) ?_;refine q_v (zF (hr:=h2)) ?_|refine q_s zeD ?_;rintro _ _ ⟨r,rfl,rfl⟩|(refine zy ?_;first|refine zw ?_|fail)|fail)
 refine zN (γ:=Nat×List Nat) (λg=>[(0,.slice a n H),(1,.slice b m E),(5,.slice (some ⟨r,0,none⟩) k k),(6,.int .i64 g.1)]) (λg=>[.blk r 3 (iC g.2)])
  (λg=>g.1<=n/\MulK 65536 k x y g.1 0 g.2 0) (λg=>n-g.1) (0,List.replicate k 0) ⟨A9 _,W⟩ ?_ ?_ ?_
 ·exact q_h
 ·show SubR [.blk r 3 (iC (List.replicate k 0))] _;rw[<-zkA];exact q_h
 rintro⟨i,l⟩ ⟨hi,q⟩;dsimp only at hi q ⊢;by_cases hlt:i<n
 ·obtain⟨Z,oa,rfl,V⟩:=zhA ha q_o;have K:=V i _ (R i hlt);repeat' (first|refine s_t ?_|refine q_k 3 ?_;refine zag ?_|refine zD [5,6] ?_;refine zb ?_)
  refine zN (γ:=Nat×List Nat×Nat) (λg=>[(0,.slice (some ⟨Z,oa,none⟩) n H),(1,.slice b m E),(5,.slice (some ⟨r,0,none⟩) k k),(6,.int .i64 i),(7,.int .i64 ((g.2.2:Nat):Int)),(8,.int .i64 g.1)]) (λg=>[.blk r 3 (iC g.2.1)])
   (λg=>g.1<=m+1/\MulK 65536 k x y i g.1 g.2.1 g.2.2) (λg=>m+1-g.1) (0,l,0) ⟨A9 _,q⟩ ?_ ?_ ?_
  ·exact q_h
  ·exact q_h
  clear q;rintro⟨j,l,c⟩ ⟨hj,q⟩;dsimp only at hj q ⊢;have A:=q.len;have a9:(iC l).length=k:=by rw[zhx,A]
  have J:=q.car;by_cases hgo:j<m\/0<c
  ·have a8:j<=m:=by
    rcases AF j m with h|h
    ·omega
    ·exact q.place q_e F h q_o
   obtain⟨u,hu⟩:∃u,l[i+j]?=some u:=⟨l[i+j]'q_o,A1 _⟩;have Y:=q.low u (BY hu);have X:=znY hu;have hstep:=λz c'=>q.step (z:=z) (c':=c') hu;have I:=λB C=>I j B C;have O:x/65536^i%65536<65536:=AC _ q_e;have Q:y/65536^j%65536<65536:=AC _ q_e;generalize y/65536^j%65536=e,x/65536^i%65536=d at*;have U:=zus O Q Y J;have a7:d*e<=65535*65535:=CN q_o q_o;have hstep:=hstep ((u+d*e+c)%65536) ((u+d*e+c)/65536) (AC _ q_e) U (by
    have:=Nat.mod_add_div (u+d*e+c) 65536;omega)
   have a1:IntKind.i64.wrap ((i:Int)+(j:Int))=((i+j:Nat):Int):=q_w;have a2:IntKind.i64.wrap ((d:Int)*(e:Int))=((d*e:Nat):Int):=by
    rw[show((d:Nat):Int)*((e:Nat):Int)=((d*e:Nat):Int) by simp,IntWalk.i64_in _ q_o]
   generalize d*e=f at*;have a3:IntKind.i64.wrap ((u:Int)+(f:Int))=((u+f:Nat):Int):=q_w;have a4:IntKind.i64.wrap (((u+f:Nat):Int)+(c:Int))=((u+f+c:Nat):Int):=q_w;have a5:((u+f+c:Nat):Int).tmod 65536=(((u+f+c)%65536:Nat):Int):=zeq _ 65536;have a6:IntKind.i64.wrap (((u+f+c:Nat):Int).tdiv 65536)=(((u+f+c)/65536:Nat):Int):=zdn (k:=65536) q_o;repeat refine zc9 ?_
   refine zcn (γ:=Unit) (λ_=>[(0,.slice (some ⟨Z,oa,none⟩) n H),(1,.slice b m E),(5,.slice (some ⟨r,0,none⟩) k k),(6,.int .i64 i),(7,.int .i64 ((c:Nat):Int)),(8,.int .i64 j),(30,.bool true)]) (λ_=>[.blk r 3 (iC l)]) (λ_=>True) ?_ ?_
   ·by_cases g1:j<m
    ·have G:decide ((j:Int)<(m:Int))=true:=q_d;repeat' (first|refine zaq ?_|refine zat ?_|refine q_k 7 ?_;refine q_x (zo (hr:=G)) ?_)
     exact zak () trivial q_h q_h
    ·have G:decide ((j:Int)<(m:Int))=false:=q_f;have n3:decide ((0:Int)<(c:Int))=true:=q_d;repeat' (first|refine zaq ?_|refine zat ?_|refine q_k 7 ?_;refine q_x (zo (hr:=G)) ?_;refine q_x (zH (hr:=n3)) ?_)
     exact zak () trivial q_h q_h
   rintro - -;repeat' (first|refine s_t ?_|refine zaj (id:=9) 16 [[],[],[],[1,2],[0,1,2,3],[0,1,2,3,4],[],[],[6,7],[6,7,8],[],[],[10,11],[6,7,8,9,10,11,12],[0,1,2,3,4,5,6,7,8,9,10,11,12,13],[],[0,1,2,3,4,5,6,7,8,9,10,11,12,13,14,15],[0,1,2,3,4,5,6,7,8,9,10,11,12,13,14,15,16]] mixed ?_ ?_;kernel_rfl;refine zA ?_;refine zA ?_;refine zA ?_;refine q_D (zF (hr:=a1)) ?_;refine zay ?_;refine q_D (zL (hv:=X)) ?_;refine zA ?_;refine zA ?_;refine zay ?_;refine q_D (zn (hv:=K)) ?_;refine zA ?_;refine zA ?_;refine q_D (za (hc:=λB _ C _=>I B C)) ?_;refine q_D (zaJ (hr:=a2)) ?_;refine q_D (zF (hr:=a3)) ?_;refine zA ?_;refine zaB ?_;refine q_v (zF (hr:=a4)) ?_;refine zw ?_|refine q_k 10 ?_;refine q_x (zF (hr:=a1)) ?_;refine q_v (zbE (hr:=a5)) ?_;refine zQ ?_;refine zO ?_|refine q_k 11 ?_;refine q_x (zbv (hr:=a6)) ?_|refine q_k 8 ?_;refine za4 ?_;refine zb ?_)
   refine zE (j+1,l.set (i+j) ((u+f+c)%65536),(u+f+c)/65536) ⟨by show j+1<=_;omega,hstep⟩ ?_ ?_ ?_
   ·show m+1-(j+1)<m+1-j;omega
   ·exact q_h
   ·show SubR [.blk r 3 (iC (l.set (i+j) ((u+f+c)%65536)))] _;rw[show iC (l.set (i+j) ((u+f+c)%65536))=(iC l).set (i+j) (iv ((u+f+c)%65536)) by unfold iC;rw[Bq]];exact q_h
  ·obtain rfl:c=0:=q_o;have G:decide ((j:Int)<(m:Int))=false:=q_f;repeat' (first|refine s_0 ?_|refine q_k 7 ?_;refine q_x (zo (hr:=G)) ?_;refine q_x zH ?_|refine q_k 4 ?_;refine za4 ?_;refine zb ?_)
   refine zE (i+1,l) ⟨by show i+1<=n;omega,q.row (AI F (AB q_e q_o)) q_e⟩ ?_ ?_ ?_
   ·show n-(i+1)<n-i;omega
   ·exact q_h
   ·exact q_h
 ·obtain rfl:i=n:=q_o;have hv:=q.done T;have A:=q.len;rw[<-hv];repeat' (first|refine s_0 ?_|refine q_k 3 ?_;refine zag ?_|refine q_k 12 ?_;refine q_v (za (hc:=λB _ _ hh=>zeE (some ⟨r,0,none⟩) k k l B A (A6 _) q.low (.inr ⟨r,0,rfl,zp (hh.has (by exact Ey F1)) Et⟩) q_o)) ?_;refine zb ?_)
  refine zcf (zeb (n:=k) (s:=1) Es (by rw[zhx];omega) (by unfold maxLen;omega)) ?_;refine zcf (zfA Es A q.low) ?_;exact q_r
end Go.Proofs.YtdnlngbjpdbffaaGreatDoor
