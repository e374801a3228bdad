/- Lemmas of this proof. -/
import Derived.Test.YtdnlngbjpdbffaaGreatDoorHJ11
set_option maxHeartbeats 2000000
set_option maxRecDepth 10000
set_option linter.all false
namespace Go.Nt
open Go Go.Sy
theorem zgn{a b c:Nat}(h:a*b%18446744073709551616=c):IntKind.u64.wrap ((a:Int)*(b:Int))=((c:Nat):Int):=by
 rw[<-h,show((a:Nat):Int)*((b:Nat):Int)=((a*b:Nat):Int) by simp,Wd.wrap_u64_nat]
theorem zjX{a b c:Nat}(h:(a+b)%18446744073709551616=c):IntKind.u64.wrap ((a:Int)+(b:Int))=((c:Nat):Int):=by
 rw[<-h,show((a:Nat):Int)+((b:Nat):Int)=((a+b:Nat):Int) by simp,Wd.wrap_u64_nat]
theorem zqv{a b c:Nat}(hb:b<=18446744073709551616)(h:(a+(18446744073709551616-b))%18446744073709551616=c):IntKind.u64.wrap ((a:Int)-(b:Int))=((c:Nat):Int):=by
 rw[<-h];exact wrap_sub_u64_nat a b _ q_o
theorem zxA{a b c:Nat}(ha:a<18446744073709551616)(h:a/b=c):IntKind.u64.wrap ((a:Int).tdiv (b:Int))=((c:Nat):Int):=by
 have:=C6 a b;rw[Cu q_o,show((a:Int)/(b:Int))=((a/b:Nat):Int) from rfl,h];exact IntWalk.u64_in _ q_o
theorem zxQ{a s c:Nat}(j:s<=64)(ha:a<18446744073709551616)(h:a%2^s=c):bits .and .u64 (a:Int) ((2^s-1:Nat):Int)=((c:Nat):Int):=by
 have:2^s<=2^64:=AR q_e j;rw[bits_and_u64_nat _ _ ha q_o,DX,h]
theorem zuR{a b c:Nat}(h:a=b+c)(hc:c<18446744073709551616):(a%18446744073709551616+(18446744073709551616-b%18446744073709551616))%18446744073709551616=c:=q_o
end Go.Nt
namespace Go.Proofs.YtdnlngbjpdbffaaGreatDoor
open Go Go.Sy Go.Nt Go.RowKit
attribute [local irreducible] Sy SyL SyX Sy.Fn callFunc zg
theorem znH(W lo y:Nat)(w:World)(hy:W<y)(e0:y<18446744073709551616)(a7:lo<18446744073709551616):
  q_G 327 [nv W,nv lo,nv y] w (.tuple #[nv ((W*18446744073709551616+lo)/y),nv ((W*18446744073709551616+lo)%y)]):=by
 refine zz Tryz.func327 Tryz.ntmps327 ?_;have d9:decide ((y:Int)=0)=false:=q_f;have e1:decide ((y:Int)<=(W:Int))=false:=q_f;by_cases hh:W=0
 ·subst hh;rw[BA,AU];repeat' (first|refine s_0 ?_|refine q_k 0 ?_|refine q_k 1 ?_;refine q_v (zY (hr:=d9)) ?_|refine q_k 3 ?_;refine q_v (zaP (hr:=e1)) ?_|refine q_k 5 ?_;refine zaH ?_|refine zal (id:=6) 7 [[],[],[0,1],[],[],[3,4],[0,1,2],[0,1,2,3,4,5,6]] mixed ?_ ?_;kernel_rfl;refine zO ?_;refine zO ?_;refine q_D (zvo (a:=lo) (b:=y) q_o a7) ?_;refine zO ?_;refine zO ?_;refine q_D (zvc (a:=lo) (b:=y) q_o) ?_;refine q_D zbl ?_;refine zaG ?_;refine zo ?_|fail)
  exact q_r
 have e5:decide ((W:Int)=0)=false:=q_f;obtain⟨l3,e6,e7⟩:=zg8 y q_o;have j7:=zcI 2 y 64 q_e e0;have c7:=λw=>zpJ y w e0;generalize nd 2 y=m at*;obtain⟨s,hs⟩:∃s,s=64-m:=⟨_,rfl⟩;obtain⟨t,ht⟩:∃t,t=64-s:=⟨_,rfl⟩;rw[<-hs] at c7;have e9:t=m:=q_o;have b2:(2:Nat)^s*2^t=18446744073709551616:=by rw[<-B6,show s+t=64 by omega]
 have b1:0<2^s:=Ab q_e;obtain⟨V,hV⟩:∃V,V=y*2^s:=⟨_,rfl⟩;have b3:V<18446744073709551616:=by
  rw[hV,<-b2,AN,e9];exact Dw e7 b1
 have l2:9223372036854775808<=V:=by
  have h1:=AP (2^s) e6;rw[<-B6,show m-1+s=63 by omega,<-hV] at h1;exact h1
 have k1:Op.shift .shl .u64 (y:Int) .u64 (s:Int)=pure (.int .u64 ((V:Nat):Int)):=by
  rw[ziI,<-hV,AA b3]
 obtain⟨j,f9⟩:∃j,j=V/4294967296:=⟨_,rfl⟩;obtain⟨v0,f8⟩:∃v0,v0=V%4294967296:=⟨_,rfl⟩;have G:V=j*4294967296+v0:=q_o;have I:v0<4294967296:=q_o;have J:0<j:=q_o;have l0:j<4294967296:=q_o;have k2:Op.shift .shr .u64 (V:Int) .u64 32=pure (.int .u64 ((j:Nat):Int)):=by rw[f9];exact zqJ V 32 .u64 q_e
 have k3:bits .and .u64 (V:Int) 4294967295=((v0:Nat):Int):=zxQ (s:=32) q_e b3 f8.symm;obtain⟨H,hH⟩:∃H,H=W*2^s:=⟨_,rfl⟩;have c0:H<18446744073709551616:=by
  rw[hH];exact Ah (Bj hy b1) (by rw[<-hV];exact b3)
 have k4:Op.shift .shl .u64 (W:Int) .u64 (s:Int)=pure (.int .u64 ((H:Nat):Int)):=by
  rw[ziI,<-hH,AA c0]
 have k5:IntKind.u64.wrap (64-(s:Int))=((t:Nat):Int):=by rw[IntWalk.u64_in _ q_o];omega
 obtain⟨l1,a6⟩:∃l1,l1=lo/2^t:=⟨_,rfl⟩;have c5:l1<18446744073709551616:=by rw[a6];exact BQ (C6 _ _) a7
 have c6:l1<2^s:=by
  rw[a6];exact(Af (Ab q_e)).2 (by rw[b2];exact a7)
 have k6:Op.shift .shr .u64 (lo:Int) .u64 (t:Int)=pure (.int .u64 ((l1:Nat):Int)):=by rw[zob lo t .u64 a7,a6]
 obtain⟨X,b5⟩:∃X,X=H+l1:=⟨_,rfl⟩;have k7:bits .or .u64 (H:Int) (l1:Int)=((X:Nat):Int):=by
  rw[bits_or_u64_nat _ _ c0 c5,hH,or_add W l1 s c6,<-hH,b5]
 have hX:X<V:=by
  rw[b5,hH,a6,hV];exact zxm b2.symm hy a7
 obtain⟨L,hL⟩:∃L,L=lo*2^s%18446744073709551616:=⟨_,rfl⟩;have e2:L<18446744073709551616:=by rw[hL];exact AG _ q_e
 have k8:Op.shift .shl .u64 (lo:Int) .u64 (s:Int)=pure (.int .u64 ((L:Nat):Int)):=by rw[ziI,<-hL]
 obtain⟨E,d8⟩:∃E,E=L/4294967296:=⟨_,rfl⟩;obtain⟨u0,c9⟩:∃u0,u0=L%4294967296:=⟨_,rfl⟩;have b9:E<4294967296:=q_o;have b8:u0<4294967296:=q_o;have k9:Op.shift .shr .u64 (L:Int) .u64 32=pure (.int .u64 ((E:Nat):Int)):=by rw[d8];exact zqJ L 32 .u64 q_e
 have h3:bits .and .u64 (L:Int) 4294967295=((u0:Nat):Int):=zxQ (s:=32) q_e e2 c9.symm;have e3:X<18446744073709551616:=q_o;have h4:IntKind.u64.wrap ((X:Int).tdiv (j:Int))=((X/j:Nat):Int):=zxA e3 rfl;have e4:=Ae X j;have l4:=AG X J;rw[AN] at e4;have h5:IntKind.u64.wrap (((X/j:Nat):Int)*(j:Int))=((X/j*j:Nat):Int):=zgn (AA q_o);have h6:IntKind.u64.wrap ((X:Int)-((X/j*j:Nat):Int))=((X%j:Nat):Int):=zqv q_o q_o;have kv:(j:Int)≠0:=q_o;have kc:IntKind.u64.wrap ((s:Nat):Int)=((s:Nat):Int):=IntWalk.u64_in _ q_o;have b4:0<V:=q_o
 -- the quotients' digits
 obtain⟨T,a8⟩:∃T,(X*4294967296+E)/V=T:=⟨_,rfl⟩;obtain⟨Y,b0⟩:∃Y,Y=(X*4294967296+E)%V:=⟨_,rfl⟩;have hY:Y<V:=by rw[b0];exact AG _ b4
 have c1:Y<18446744073709551616:=q_o;obtain⟨qb,a9⟩:∃qb,(Y*4294967296+u0)/V=qb:=⟨_,rfl⟩;obtain⟨Z,b6⟩:∃Z,Z=(Y*4294967296+u0)%V:=⟨_,rfl⟩;have hZ:Z<V:=by rw[b6];exact AG _ b4
 have j9:T<4294967296:=by
  rw[<-a8];exact EP (by have:=zgI (q:=4294967296) hX b9 (A8 _);rw[AN V];exact this)
 have k0:qb<4294967296:=by
  rw[<-a9];exact EP (by have:=zgI (q:=4294967296) hY b8 (A8 _);rw[AN V];exact this)
 have c2:=Ae (X*4294967296+E) V;have c3:=Ae (Y*4294967296+u0) V;rw[a8,<-b0,AN] at c2;rw[a9,<-b6,AN] at c3;obtain⟨f1,f2⟩:=zv5 4294967296 V ((W*18446744073709551616+lo)*2^s) X E u0 T qb (by
  have h1:=zvx 18446744073709551616 W lo s t b2.symm;rw[<-hH,<-a6,<-b5,<-hL] at h1;rw[<-h1];omega) a8.symm (by rw[<-b0];exact a9.symm) b4
 rw[<-b0] at f2;rw[hV,DS _ _ b1] at f1;rw[<-b6] at f2;rw[hV,DT] at f2;repeat' (first|refine s_0 ?_|refine q_k 0 ?_|refine q_k 1 ?_;refine q_v (zY (hr:=d9)) ?_|refine q_k 3 ?_;refine q_v (zaP (hr:=e1)) ?_|refine q_k 5 ?_;refine q_v (zY (hr:=e5)) ?_|refine q_k 7 ?_;refine q_v (za (hc:=q_c c7)) ?_;refine q_x (zaw (hr:=kc)) ?_|refine q_k 8 ?_;refine q_x (zfz (hr:=k1)) ?_|refine q_k 9 ?_;refine q_x (zcq (hr:=k2)) ?_|refine q_k 10 ?_;refine q_x (znG (hr:=k3)) ?_|refine q_k 11 ?_;refine q_x (zfz (hr:=k4)) ?_;refine q_v (zab (hr:=k5)) ?_;refine q_v (zcq (hr:=k6)) ?_;refine q_x (zkx (hr:=k7)) ?_|refine q_k 12 ?_;refine q_x (zfz (hr:=k8)) ?_|refine q_k 13 ?_;refine q_x (zcq (hr:=k9)) ?_|refine q_k 14 ?_;refine q_x (znG (hr:=h3)) ?_|refine q_k 15 ?_;refine q_x (zcp (hb:=kv) (hr:=h4)) ?_|refine q_k 16 ?_;refine q_v (zaV (hr:=h5)) ?_;refine q_x (zab (hr:=h6)) ?_)
 refine zda (γ:=Unit) (λ_=>[(2,nv V),(6,.int .u64 0),(7,.int .u64 0),(8,.int .u64 s),(9,nv j),(10,nv v0),(11,nv X),(13,nv E),(14,nv u0),(15,nv T)]) (λ_=>[]) (λ_=>True) ?_ ?_
 ·repeat' (first|refine zfh ?_|fail)
  refine zX (γ:=Nat×Nat) (λg=>[(2,nv V),(6,.int .u64 0),(7,.int .u64 0),(8,.int .u64 s),(9,nv j),(10,nv v0),(11,nv X),(13,nv E),(14,nv u0),(15,nv g.1),(16,nv g.2)]) (λ_=>[]) (λg=>Est 4294967296 X E j v0 g.1 g.2/\g.2<4294967296) (λg=>g.1) (X/j,X%j) ⟨Fo _ _ _ _ _ J b9,by have:=AG X J;omega⟩ ?_ ?_ ?_
  ·exact q_h
  ·exact q_h
  rintro⟨q,r⟩ ⟨U,hr⟩;dsimp only at U hr ⊢;have c8:=zrt U.eq (by rw[<-G];exact hX) q_o I q_e;repeat refine zd4 ?_
  refine zda (γ:=Bool) (λg=>[(2,nv V),(6,.int .u64 0),(7,.int .u64 0),(8,.int .u64 s),(9,nv j),(10,nv v0),(11,nv X),(13,nv E),(14,nv u0),(15,nv q),(16,nv r),(78,.bool g)]) (λ_=>[]) (λg=>(g=true->X*4294967296+E<q*(j*4294967296+v0))/\(g=false->q<4294967296/\q*(j*4294967296+v0)<=X*4294967296+E)) ?_ ?_
  ·by_cases hq:4294967296<=q
   ·have A:decide ((4294967296:Int)<=(q:Int))=true:=q_d;repeat' (first|refine zaC ?_|refine zaD ?_|refine q_k 17 ?_;refine q_x (zai (hr:=A)) ?_)
    exact zam true ⟨λ_=>zgI (by rw[<-G];exact hX) b9 hq,λh=>absurd h q_e⟩ q_h q_h
   ·have A:decide ((4294967296:Int)<=(q:Int))=false:=q_f;have hm:=Lib.half_mul_le (a:=q) (b:=v0) q_o q_o;have m1:IntKind.u64.wrap ((q:Int)*(v0:Int))=((q*v0:Nat):Int):=zgn (AA q_o);have m2:IntKind.u64.wrap ((4294967296:Int)*(r:Int))=((r*4294967296:Nat):Int):=by rw[Int.mul_comm];exact zgn (b:=4294967296) (AA q_o)
    have m3:IntKind.u64.wrap (((r*4294967296:Nat):Int)+(E:Int))=((r*4294967296+E:Nat):Int):=zjX (AA q_o);by_cases hb:r*4294967296+E<q*v0
    ·have R:decide (((r*4294967296+E:Nat):Int)<((q*v0:Nat):Int))=true:=decide_eq_true (EC.2 hb);repeat' (first|refine zaC ?_|refine zaD ?_|refine q_k 17 ?_;refine q_x (zai (hr:=A)) ?_;refine q_x (zaV (hr:=m1)) ?_;refine q_x (zaV (hr:=m2)) ?_;refine q_v (zN (hr:=m3)) ?_;refine q_x (zF (hr:=R)) ?_)
     exact zam true ⟨λ_=>zkR U.eq hb,λh=>absurd h q_e⟩ q_h q_h
    ·have R:decide (((r*4294967296+E:Nat):Int)<((q*v0:Nat):Int))=false:=decide_eq_false (λh=>hb (EC.1 h));repeat' (first|refine zaC ?_|refine zaD ?_|refine q_k 17 ?_;refine q_x (zai (hr:=A)) ?_;refine q_x (zaV (hr:=m1)) ?_;refine q_x (zaV (hr:=m2)) ?_;refine q_v (zN (hr:=m3)) ?_;refine q_x (zF (hr:=R)) ?_)
     exact zam false ⟨λh=>absurd h q_e,λ_=>⟨by omega,zeh U.eq q_o⟩⟩ q_h q_h
  rintro t ⟨ht,hf⟩;cases t with
  |false=>
   obtain⟨h1,h2⟩:=hf rfl;have B:=U.up;rw[<-G] at h2 B;obtain⟨S,-⟩:=zf5 _ _ _ h2 B;repeat' (first|refine s_0 ?_|fail)
   refine zam () trivial ?_ q_h;rw[<-a8,S];exact q_h
  |true=>
   have ht:=ht rfl;obtain⟨e8,hN⟩:=zjG U.eq ht;have K:IntKind.u64.wrap ((q:Int)-1)=((q-1:Nat):Int):=by rw[IntWalk.u64_in _ q_o];omega
   have O:IntKind.u64.wrap ((r:Int)+(j:Int))=((r+j:Nat):Int):=zjX (AA q_o);by_cases hrb:4294967296<=r+j
   ·have A:decide ((4294967296:Int)<=((r+j:Nat):Int))=true:=q_d;have b7:=zmL hN.eq (by rw[<-G];exact hX) I hrb;have h2:=zeh hN.eq (zhx (u0:=E) I (Bh b7) hrb);have B:=hN.up;rw[<-G] at h2 B;obtain⟨S,-⟩:=zf5 _ _ _ h2 B;repeat' (first|refine s_t ?_|refine q_k 18 ?_;refine q_x (zab (hr:=K)) ?_|refine q_k 19 ?_;refine q_x (zN (hr:=O)) ?_|refine q_k 20 ?_;refine q_v (zai (hr:=A)) ?_)
    refine zam () trivial ?_ q_h;rw[<-a8,S];exact q_h
   ·have A:decide ((4294967296:Int)<=((r+j:Nat):Int))=false:=q_f;repeat' (first|refine s_t ?_|refine q_k 18 ?_;refine q_x (zab (hr:=K)) ?_|refine q_k 19 ?_;refine q_x (zN (hr:=O)) ?_|refine q_k 20 ?_;refine q_v (zai (hr:=A)) ?_)
    refine zQ (q-1,r+j) ⟨hN,by show r+j<4294967296;omega⟩ ?_ ?_ ?_
    ·show q-1<q;omega
    ·exact q_h
    ·exact q_h
 rintro - -;have h7:IntKind.u64.wrap ((X:Int)*(4294967296:Int))=((X*4294967296%18446744073709551616:Nat):Int):=zgn (b:=4294967296) rfl;have h8:IntKind.u64.wrap (((X*4294967296%18446744073709551616:Nat):Int)+(E:Int))=(((X*4294967296+E)%18446744073709551616:Nat):Int):=zjX q_o;have h9:IntKind.u64.wrap ((T:Int)*(V:Int))=((T*V%18446744073709551616:Nat):Int):=zgn rfl;have i5:IntKind.u64.wrap ((((X*4294967296+E)%18446744073709551616:Nat):Int)-((T*V%18446744073709551616:Nat):Int))=((Y:Nat):Int):=zqv q_o (zuR c2.symm c1);have i7:IntKind.u64.wrap ((Y:Int).tdiv (j:Int))=((Y/j:Nat):Int):=zxA c1 rfl;have c4:=Ae Y j;have j8:=AG Y J;rw[AN] at c4;have i8:IntKind.u64.wrap (((Y/j:Nat):Int)*(j:Int))=((Y/j*j:Nat):Int):=zgn (AA q_o);have i9:IntKind.u64.wrap ((Y:Int)-((Y/j*j:Nat):Int))=((Y%j:Nat):Int):=zqv q_o q_o;repeat' (first|refine s_0 ?_|refine q_k 21 ?_;refine q_x (zaV (hr:=h7)) ?_;refine q_x (zN (hr:=h8)) ?_;refine q_v (zaV (hr:=h9)) ?_;refine q_x (zab (hr:=i5)) ?_|refine q_k 22 ?_;refine q_x (zcp (hb:=kv) (hr:=i7)) ?_|refine q_k 23 ?_;refine q_v (zaV (hr:=i8)) ?_;refine q_x (zab (hr:=i9)) ?_)
 refine zda (γ:=Unit) (λ_=>[(2,nv V),(6,.int .u64 0),(7,.int .u64 0),(8,.int .u64 s),(9,nv j),(10,nv v0),(14,nv u0),(15,nv T),(17,nv Y),(18,nv qb)]) (λ_=>[]) (λ_=>True) ?_ ?_
 ·repeat' (first|refine zfh ?_|fail)
  refine zX (γ:=Nat×Nat) (λg=>[(2,nv V),(6,.int .u64 0),(7,.int .u64 0),(8,.int .u64 s),(9,nv j),(10,nv v0),(14,nv u0),(15,nv T),(17,nv Y),(18,nv g.1),(16,nv g.2)]) (λ_=>[]) (λg=>Est 4294967296 Y u0 j v0 g.1 g.2/\g.2<4294967296) (λg=>g.1) (Y/j,Y%j) ⟨Fo _ _ _ _ _ J b8,by have:=AG Y J;omega⟩ ?_ ?_ ?_
  ·exact q_h
  ·exact q_h
  rintro⟨q,r⟩ ⟨U,hr⟩;dsimp only at U hr ⊢;have c8:=zrt U.eq (by rw[<-G];exact hY) q_o I q_e;repeat refine zd4 ?_
  refine zda (γ:=Bool) (λg=>[(2,nv V),(6,.int .u64 0),(7,.int .u64 0),(8,.int .u64 s),(9,nv j),(10,nv v0),(14,nv u0),(15,nv T),(17,nv Y),(18,nv q),(16,nv r),(113,.bool g)]) (λ_=>[]) (λg=>(g=true->Y*4294967296+u0<q*(j*4294967296+v0))/\(g=false->q<4294967296/\q*(j*4294967296+v0)<=Y*4294967296+u0)) ?_ ?_
  ·by_cases hq:4294967296<=q
   ·have A:decide ((4294967296:Int)<=(q:Int))=true:=q_d;repeat' (first|refine zaC ?_|refine zaD ?_|refine q_k 24 ?_;refine q_x (zai (hr:=A)) ?_)
    exact zam true ⟨λ_=>zgI (by rw[<-G];exact hY) b8 hq,λh=>absurd h q_e⟩ q_h q_h
   ·have A:decide ((4294967296:Int)<=(q:Int))=false:=q_f;have hm:=Lib.half_mul_le (a:=q) (b:=v0) q_o q_o;have m1:IntKind.u64.wrap ((q:Int)*(v0:Int))=((q*v0:Nat):Int):=zgn (AA q_o);have m2:IntKind.u64.wrap ((4294967296:Int)*(r:Int))=((r*4294967296:Nat):Int):=by rw[Int.mul_comm];exact zgn (b:=4294967296) (AA q_o)
    have m3:IntKind.u64.wrap (((r*4294967296:Nat):Int)+(u0:Int))=((r*4294967296+u0:Nat):Int):=zjX (AA q_o);by_cases hb:r*4294967296+u0<q*v0
    ·have R:decide (((r*4294967296+u0:Nat):Int)<((q*v0:Nat):Int))=true:=decide_eq_true (EC.2 hb);repeat' (first|refine zaC ?_|refine zaD ?_|refine q_k 24 ?_;refine q_x (zai (hr:=A)) ?_;refine q_x (zaV (hr:=m1)) ?_;refine q_x (zaV (hr:=m2)) ?_;refine q_v (zN (hr:=m3)) ?_;refine q_x (zF (hr:=R)) ?_)
     exact zam true ⟨λ_=>zkR U.eq hb,λh=>absurd h q_e⟩ q_h q_h
    ·have R:decide (((r*4294967296+u0:Nat):Int)<((q*v0:Nat):Int))=false:=decide_eq_false (λh=>hb (EC.1 h));repeat' (first|refine zaC ?_|refine zaD ?_|refine q_k 24 ?_;refine q_x (zai (hr:=A)) ?_;refine q_x (zaV (hr:=m1)) ?_;refine q_x (zaV (hr:=m2)) ?_;refine q_v (zN (hr:=m3)) ?_;refine q_x (zF (hr:=R)) ?_)
     exact zam false ⟨λh=>absurd h q_e,λ_=>⟨by omega,zeh U.eq q_o⟩⟩ q_h q_h
  rintro t ⟨ht,hf⟩;cases t with
  |false=>
   obtain⟨h1,h2⟩:=hf rfl;have B:=U.up;rw[<-G] at h2 B;obtain⟨S,-⟩:=zf5 _ _ _ h2 B;repeat' (first|refine s_0 ?_|fail)
   refine zam () trivial ?_ q_h;rw[<-a9,S];exact q_h
  |true=>
   have ht:=ht rfl;obtain⟨e8,hN⟩:=zjG U.eq ht;have K:IntKind.u64.wrap ((q:Int)-1)=((q-1:Nat):Int):=by rw[IntWalk.u64_in _ q_o];omega
   have O:IntKind.u64.wrap ((r:Int)+(j:Int))=((r+j:Nat):Int):=zjX (AA q_o);by_cases hrb:4294967296<=r+j
   ·have A:decide ((4294967296:Int)<=((r+j:Nat):Int))=true:=q_d;have b7:=zmL hN.eq (by rw[<-G];exact hY) I hrb;have h2:=zeh hN.eq (zhx (u0:=u0) I (Bh b7) hrb);have B:=hN.up;rw[<-G] at h2 B;obtain⟨S,-⟩:=zf5 _ _ _ h2 B;repeat' (first|refine s_t ?_|refine q_k 25 ?_;refine q_x (zab (hr:=K)) ?_|refine q_k 26 ?_;refine q_x (zN (hr:=O)) ?_|refine q_k 27 ?_;refine q_v (zai (hr:=A)) ?_)
    refine zam () trivial ?_ q_h;rw[<-a9,S];exact q_h
   ·have A:decide ((4294967296:Int)<=((r+j:Nat):Int))=false:=q_f;repeat' (first|refine s_t ?_|refine q_k 25 ?_;refine q_x (zab (hr:=K)) ?_|refine q_k 26 ?_;refine q_x (zN (hr:=O)) ?_|refine q_k 27 ?_;refine q_v (zai (hr:=A)) ?_)
    refine zQ (q-1,r+j) ⟨hN,by show r+j<4294967296;omega⟩ ?_ ?_ ?_
    ·show q-1<q;omega
    ·exact q_h
    ·exact q_h
 rintro - -;have j0:IntKind.u64.wrap ((T:Int)*(4294967296:Int))=((T*4294967296:Nat):Int):=zgn (b:=4294967296) (AA q_o);have j1:IntKind.u64.wrap (((T*4294967296:Nat):Int)+(qb:Int))=((T*4294967296+qb:Nat):Int):=zjX (AA q_o);have j2:IntKind.u64.wrap ((Y:Int)*(4294967296:Int))=((Y*4294967296%18446744073709551616:Nat):Int):=zgn (b:=4294967296) rfl;have j3:IntKind.u64.wrap (((Y*4294967296%18446744073709551616:Nat):Int)+(u0:Int))=(((Y*4294967296+u0)%18446744073709551616:Nat):Int):=zjX q_o;have j4:IntKind.u64.wrap ((qb:Int)*(V:Int))=((qb*V%18446744073709551616:Nat):Int):=zgn rfl;have j5:IntKind.u64.wrap ((((Y*4294967296+u0)%18446744073709551616:Nat):Int)-((qb*V%18446744073709551616:Nat):Int))=((Z:Nat):Int):=zqv q_o (zuR c3.symm q_o);have j6:Op.shift .shr .u64 (Z:Int) .u64 (s:Int)=pure (.int .u64 (((W*18446744073709551616+lo)%y:Nat):Int)):=by
  rw[zob Z s .u64 q_o,f2,DC _ b1]
 repeat' (first|refine s_0 ?_|refine q_k 28 ?_;refine q_x (zaV (hr:=j0)) ?_;refine q_x (zN (hr:=j1)) ?_;refine q_x (zaV (hr:=j2)) ?_;refine q_x (zN (hr:=j3)) ?_;refine q_v (zaV (hr:=j4)) ?_;refine q_x (zab (hr:=j5)) ?_;refine q_x (zcq (hr:=j6)) ?_)
 exact zT rfl (zj rfl) (zj rfl) El ⟨by rw[f1];rfl,rfl⟩
end Go.Proofs.YtdnlngbjpdbffaaGreatDoor
namespace Go.Sy
open Go
variable {P:Program}{ro:Option Nat}{N:Nat}{w0:World}{M:Nat->Prop}{ds:List Deferred}{ops:Array Oper}{Q:Exit->Act->World->Prop}{C:List (List Nat)}{L0:List Res}{k i n:Nat}{o:Oper}{rest:List Oper}{F:Env->Fr}{rs:List (Nat×(Env->Value->List Res->Prop))}
theorem dcn(m:∀ρ,zbe (cl C i) rs ρ->OpT P ro N w0 M ds o (only (o.looksAt ops) (get (F ρ))) (zak (cl C i) rs ρ L0) (Det undef (zak (cl C i) rs ρ L0)))(q:∀ρ,zah ops o (only (o.looksAt ops) (get (F ρ)))=some true:=by exact λ_=>rfl)(j:o.dst=none:=by exact rfl)
  (k:DH P ro N w0 M ds ops Q C L0 n (i+1) rest F rs):DH P ro N w0 M ds ops Q C L0 (n+1) i (o::rest) F rs:=
 .inl ⟨λ_=>undef,λ_ _ _=>rfl,λρ r=> .inl ⟨q ρ,m ρ r⟩,by rw[j];exact k⟩
end Go.Sy
