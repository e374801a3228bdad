/- Lemmas of this proof. -/
import Derived.Test.YtdnlngbjpdbffaaGreatDoorKJ11
set_option maxHeartbeats 2000000
set_option maxRecDepth 10000
set_option linter.all false
namespace Go.Nt
open Go Go.Sy
theorem zgl{a b c:Nat}(h:a*b%18446744073709551616=c):IntKind.u64.wrap ((a:Int)*(b:Int))=((c:Nat):Int):=by
 rw[<-h,show((a:Nat):Int)*((b:Nat):Int)=((a*b:Nat):Int) by simp,Wd.wrap_u64_nat]
theorem zjQ{a b c:Nat}(h:(a+b)%18446744073709551616=c):IntKind.u64.wrap ((a:Int)+(b:Int))=((c:Nat):Int):=by
 rw[<-h,show((a:Nat):Int)+((b:Nat):Int)=((a+b:Nat):Int) by simp,Wd.wrap_u64_nat]
theorem zqh{a b c:Nat}(hb:b<=18446744073709551616)(h:(a+(18446744073709551616-b))%18446744073709551616=c):IntKind.u64.wrap ((a:Int)-(b:Int))=((c:Nat):Int):=by
 rw[<-h];exact wrap_sub_u64_nat a b _ q_o
theorem zwx{a b c:Nat}(ha:a<18446744073709551616)(h:a/b=c):IntKind.u64.wrap ((a:Int).tdiv (b:Int))=((c:Nat):Int):=by
 have:=Bv a b;rw[DE q_o,show((a:Int)/(b:Int))=((a/b:Nat):Int) from rfl,h];exact IntWalk.u64_in _ q_o
theorem zwL{a s c:Nat}(j:s<=64)(ha:a<18446744073709551616)(h:a%2^s=c):bits .and .u64 (a:Int) ((2^s-1:Nat):Int)=((c:Nat):Int):=by
 have:2^s<=2^64:=AA q_e j;rw[bits_and_u64_nat _ _ ha q_o,Dm,h]
theorem zt5{a b c:Nat}(h:a=b+c)(hc:c<18446744073709551616):(a%18446744073709551616+(18446744073709551616-b%18446744073709551616))%18446744073709551616=c:=q_o
end Go.Nt
namespace Go.Proofs.YtdnlngbjpdbffaaGreatDoor
open Go Go.Sy Go.Nt Go.RowKit
attribute [local irreducible] Sy SyL SyX Sy.Fn callFunc zf
theorem zm9(W lo y:Nat)(w:World)(hy:W<y)(e0:y<18446744073709551616)(a7:lo<18446744073709551616):
  q_G 327 [nv W,nv lo,nv y] w (.tuple #[nv ((W*18446744073709551616+lo)/y),nv ((W*18446744073709551616+lo)%y)]):=by
 refine zo Tryz.func327 Tryz.ntmps327 ?_;have d9:decide ((y:Int)=0)=false:=q_f;have e1:decide ((y:Int)<=(W:Int))=false:=q_f;by_cases hh:W=0
 ·subst hh;rw[BJ,AR];repeat' (first|refine s_0 ?_|refine q_k 0 ?_|refine q_k 1 ?_;refine q_v (zaa (hr:=d9)) ?_|refine q_k 3 ?_;refine q_v (zax (hr:=e1)) ?_|refine q_k 5 ?_;refine zaH ?_|refine z5 (id:=6) 7 [[],[],[0,1],[],[],[3,4],[0,1,2],[0,1,2,3,4,5,6]] mixed ?_ ?_;kernel_rfl;refine zt ?_;refine zt ?_;refine q_D (zvo (a:=lo) (b:=y) q_o a7) ?_;refine zt ?_;refine zt ?_;refine q_D (zvq (a:=lo) (b:=y) q_o) ?_;refine q_D zbM ?_;refine zam ?_;refine zB ?_|fail)
  exact q_r
 have e5:decide ((W:Int)=0)=false:=q_f;obtain⟨j9,e6,e7⟩:=zg8 y q_o;have j3:=zaQ 2 y 64 q_e e0;have c7:=λw=>zoR y w e0;generalize nd 2 y=m at*;obtain⟨s,hs⟩:∃s,s=64-m:=⟨_,rfl⟩;obtain⟨t,ht⟩:∃t,t=64-s:=⟨_,rfl⟩;rw[<-hs] at c7;have e9:t=m:=q_o;have b2:(2:Nat)^s*2^t=18446744073709551616:=by rw[<-As,show s+t=64 by omega]
 have b1:0<2^s:=AP q_e;obtain⟨V,hV⟩:∃V,V=y*2^s:=⟨_,rfl⟩;have b3:V<18446744073709551616:=by
  rw[hV,<-b2,A8,e9];exact DC e7 b1
 have j8:9223372036854775808<=V:=by
  have h1:=AN (2^s) e6;rw[<-As,show m-1+s=63 by omega,<-hV] at h1;exact h1
 have k1:Op.shift .shl .u64 (y:Int) .u64 (s:Int)=pure (.int .u64 ((V:Nat):Int)):=by
  rw[ziE,<-hV,A3 b3]
 obtain⟨j,f6⟩:∃j,j=V/4294967296:=⟨_,rfl⟩;obtain⟨v0,f5⟩:∃v0,v0=V%4294967296:=⟨_,rfl⟩;have G:V=j*4294967296+v0:=q_o;have I:v0<4294967296:=q_o;have J:0<j:=q_o;have j7:j<4294967296:=q_o;have k2:Op.shift .shr .u64 (V:Int) .u64 32=pure (.int .u64 ((j:Nat):Int)):=by rw[f6];exact zqd V 32 .u64 q_e
 have k3:bits .and .u64 (V:Int) 4294967295=((v0:Nat):Int):=zwL (s:=32) q_e b3 f5.symm;obtain⟨H,hH⟩:∃H,H=W*2^s:=⟨_,rfl⟩;have c0:H<18446744073709551616:=by
  rw[hH];exact AS (Bf hy b1) (by rw[<-hV];exact b3)
 have k4:Op.shift .shl .u64 (W:Int) .u64 (s:Int)=pure (.int .u64 ((H:Nat):Int)):=by
  rw[ziE,<-hH,A3 c0]
 have k5:IntKind.u64.wrap (64-(s:Int))=((t:Nat):Int):=by rw[IntWalk.u64_in _ q_o];omega
 obtain⟨l1,a6⟩:∃l1,l1=lo/2^t:=⟨_,rfl⟩;have c5:l1<18446744073709551616:=by rw[a6];exact Av (Bv _ _) a7
 have c6:l1<2^s:=by
  rw[a6];exact(AW (AP q_e)).2 (by rw[b2];exact a7)
 have k6:Op.shift .shr .u64 (lo:Int) .u64 (t:Int)=pure (.int .u64 ((l1:Nat):Int)):=by rw[znX lo t .u64 a7,a6]
 obtain⟨X,b5⟩:∃X,X=H+l1:=⟨_,rfl⟩;have k7:bits .or .u64 (H:Int) (l1:Int)=((X:Nat):Int):=by
  rw[bits_or_u64_nat _ _ c0 c5,hH,znF W l1 s c6,<-hH,b5]
 have hX:X<V:=by
  rw[b5,hH,a6,hV];exact zvZ b2.symm hy a7
 obtain⟨L,hL⟩:∃L,L=lo*2^s%18446744073709551616:=⟨_,rfl⟩;have e2:L<18446744073709551616:=by rw[hL];exact A7 _ q_e
 have k8:Op.shift .shl .u64 (lo:Int) .u64 (s:Int)=pure (.int .u64 ((L:Nat):Int)):=by rw[ziE,<-hL]
 obtain⟨E,d8⟩:∃E,E=L/4294967296:=⟨_,rfl⟩;obtain⟨u0,c9⟩:∃u0,u0=L%4294967296:=⟨_,rfl⟩;have b9:E<4294967296:=q_o;have b8:u0<4294967296:=q_o;have k9:Op.shift .shr .u64 (L:Int) .u64 32=pure (.int .u64 ((E:Nat):Int)):=by rw[d8];exact zqd L 32 .u64 q_e
 have f7:bits .and .u64 (L:Int) 4294967295=((u0:Nat):Int):=zwL (s:=32) q_e e2 c9.symm;have e3:X<18446744073709551616:=q_o;have f8:IntKind.u64.wrap ((X:Int).tdiv (j:Int))=((X/j:Nat):Int):=zwx e3 rfl;have e4:=AV X j;have k0:=A7 X J;rw[A8] at e4;have f9:IntKind.u64.wrap (((X/j:Nat):Int)*(j:Int))=((X/j*j:Nat):Int):=zgl (A3 q_o);have h3:IntKind.u64.wrap ((X:Int)-((X/j*j:Nat):Int))=((X%j:Nat):Int):=zqh q_o q_o;have kv:(j:Int)≠0:=q_o;have kc:IntKind.u64.wrap ((s:Nat):Int)=((s:Nat):Int):=IntWalk.u64_in _ q_o;have b4:0<V:=q_o
 -- the quotients' digits
 obtain⟨T,a8⟩:∃T,(X*4294967296+E)/V=T:=⟨_,rfl⟩;obtain⟨Y,b0⟩:∃Y,Y=(X*4294967296+E)%V:=⟨_,rfl⟩;have hY:Y<V:=by rw[b0];exact A7 _ b4
 have c1:Y<18446744073709551616:=q_o;obtain⟨qb,a9⟩:∃qb,(Y*4294967296+u0)/V=qb:=⟨_,rfl⟩;obtain⟨Z,b6⟩:∃Z,Z=(Y*4294967296+u0)%V:=⟨_,rfl⟩;have hZ:Z<V:=by rw[b6];exact A7 _ b4
 have j5:T<4294967296:=by
  rw[<-a8];exact Du (by have:=zgx (q:=4294967296) hX b9 (A4 _);rw[A8 V];exact this)
 have j6:qb<4294967296:=by
  rw[<-a9];exact Du (by have:=zgx (q:=4294967296) hY b8 (A4 _);rw[A8 V];exact this)
 have c2:=AV (X*4294967296+E) V;have c3:=AV (Y*4294967296+u0) V;rw[a8,<-b0,A8] at c2;rw[a9,<-b6,A8] at c3;obtain⟨f1,f2⟩:=zuE 4294967296 V ((W*18446744073709551616+lo)*2^s) X E u0 T qb (by
  have h1:=zvv 18446744073709551616 W lo s t b2.symm;rw[<-hH,<-a6,<-b5,<-hL] at h1;rw[<-h1];omega) a8.symm (by rw[<-b0];exact a9.symm) b4
 rw[<-b0] at f2;rw[hV,CG _ _ b1] at f1;rw[<-b6] at f2;rw[hV,Cd] at f2;repeat' (first|refine s_0 ?_|refine q_k 0 ?_|refine q_k 1 ?_;refine q_v (zaa (hr:=d9)) ?_|refine q_k 3 ?_;refine q_v (zax (hr:=e1)) ?_|refine q_k 5 ?_;refine q_v (zaa (hr:=e5)) ?_|refine q_k 7 ?_;refine q_v (za (hc:=q_c c7)) ?_;refine q_x (zal (hr:=kc)) ?_|refine q_k 8 ?_;refine q_x (zgb (hr:=k1)) ?_|refine q_k 9 ?_;refine q_x (zbp (hr:=k2)) ?_|refine q_k 10 ?_;refine q_x (zfE (hr:=k3)) ?_|refine q_k 11 ?_;refine q_x (zgb (hr:=k4)) ?_;refine q_v (zH (hr:=k5)) ?_;refine q_v (zbp (hr:=k6)) ?_;refine q_x (zt2 (hr:=k7)) ?_|refine q_k 12 ?_;refine q_x (zgb (hr:=k8)) ?_|refine q_k 13 ?_;refine q_x (zbp (hr:=k9)) ?_|refine q_k 14 ?_;refine q_x (zfE (hr:=f7)) ?_|refine q_k 15 ?_;refine q_x (zbb (hb:=kv) (hr:=f8)) ?_|refine q_k 16 ?_;refine q_v (zas (hr:=f9)) ?_;refine q_x (zH (hr:=h3)) ?_)
 refine zb9 (γ:=Unit) (λ_=>[(2,nv V),(6,.int .u64 0),(7,.int .u64 0),(8,.int .u64 s),(9,nv j),(10,nv v0),(11,nv X),(13,nv E),(14,nv u0),(15,nv T)]) (λ_=>[]) (λ_=>True) ?_ ?_
 ·repeat' (first|refine zd4 ?_|fail)
  refine zE (γ:=Nat×Nat) (λg=>[(2,nv V),(6,.int .u64 0),(7,.int .u64 0),(8,.int .u64 s),(9,nv j),(10,nv v0),(11,nv X),(13,nv E),(14,nv u0),(15,nv g.1),(16,nv g.2)]) (λ_=>[]) (λg=>Est 4294967296 X E j v0 g.1 g.2/\g.2<4294967296) (λg=>g.1) (X/j,X%j) ⟨GA _ _ _ _ _ J b9,by have:=A7 X J;omega⟩ ?_ ?_ ?_
  ·exact q_h
  ·exact q_h
  rintro⟨q,r⟩ ⟨U,hr⟩;dsimp only at U hr ⊢;have c8:=zri U.eq (by rw[<-G];exact hX) q_o I q_e;repeat refine zb0 ?_
  refine zb9 (γ:=Bool) (λg=>[(2,nv V),(6,.int .u64 0),(7,.int .u64 0),(8,.int .u64 s),(9,nv j),(10,nv v0),(11,nv X),(13,nv E),(14,nv u0),(15,nv q),(16,nv r),(78,.bool g)]) (λ_=>[]) (λg=>(g=true->X*4294967296+E<q*(j*4294967296+v0))/\(g=false->q<4294967296/\q*(j*4294967296+v0)<=X*4294967296+E)) ?_ ?_
  ·by_cases hq:4294967296<=q
   ·have A:decide ((4294967296:Int)<=(q:Int))=true:=q_d;repeat' (first|refine zav ?_|refine zai ?_|refine q_k 17 ?_;refine q_x (zP (hr:=A)) ?_)
    exact zZ true ⟨λ_=>zgx (by rw[<-G];exact hX) b9 hq,λh=>absurd h q_e⟩ q_h q_h
   ·have A:decide ((4294967296:Int)<=(q:Int))=false:=q_f;have hm:=Lib.half_mul_le (a:=q) (b:=v0) q_o q_o;have m1:IntKind.u64.wrap ((q:Int)*(v0:Int))=((q*v0:Nat):Int):=zgl (A3 q_o);have m2:IntKind.u64.wrap ((4294967296:Int)*(r:Int))=((r*4294967296:Nat):Int):=by rw[Int.mul_comm];exact zgl (b:=4294967296) (A3 q_o)
    have m3:IntKind.u64.wrap (((r*4294967296:Nat):Int)+(E:Int))=((r*4294967296+E:Nat):Int):=zjQ (A3 q_o);by_cases hb:r*4294967296+E<q*v0
    ·have R:decide (((r*4294967296+E:Nat):Int)<((q*v0:Nat):Int))=true:=decide_eq_true (Eb.2 hb);repeat' (first|refine zav ?_|refine zai ?_|refine q_k 17 ?_;refine q_x (zP (hr:=A)) ?_;refine q_x (zas (hr:=m1)) ?_;refine q_x (zas (hr:=m2)) ?_;refine q_v (zA (hr:=m3)) ?_;refine q_x (zF (hr:=R)) ?_)
     exact zZ true ⟨λ_=>zkX U.eq hb,λh=>absurd h q_e⟩ q_h q_h
    ·have R:decide (((r*4294967296+E:Nat):Int)<((q*v0:Nat):Int))=false:=decide_eq_false (λh=>hb (Eb.1 h));repeat' (first|refine zav ?_|refine zai ?_|refine q_k 17 ?_;refine q_x (zP (hr:=A)) ?_;refine q_x (zas (hr:=m1)) ?_;refine q_x (zas (hr:=m2)) ?_;refine q_v (zA (hr:=m3)) ?_;refine q_x (zF (hr:=R)) ?_)
     exact zZ false ⟨λh=>absurd h q_e,λ_=>⟨by omega,zd0 U.eq q_o⟩⟩ q_h q_h
  rintro t ⟨ht,hf⟩;cases t with
  |false=>
   obtain⟨h1,h2⟩:=hf rfl;have B:=U.up;rw[<-G] at h2 B;obtain⟨S,-⟩:=zgd _ _ _ h2 B;repeat' (first|refine s_0 ?_|fail)
   refine zZ () trivial ?_ q_h;rw[<-a8,S];exact q_h
  |true=>
   have ht:=ht rfl;obtain⟨e8,hN⟩:=zjr U.eq ht;have K:IntKind.u64.wrap ((q:Int)-1)=((q-1:Nat):Int):=by rw[IntWalk.u64_in _ q_o];omega
   have O:IntKind.u64.wrap ((r:Int)+(j:Int))=((r+j:Nat):Int):=zjQ (A3 q_o);by_cases hrb:4294967296<=r+j
   ·have A:decide ((4294967296:Int)<=((r+j:Nat):Int))=true:=q_d;have b7:=znc hN.eq (by rw[<-G];exact hX) I hrb;have h2:=zd0 hN.eq (zhz (u0:=E) I (BH b7) hrb);have B:=hN.up;rw[<-G] at h2 B;obtain⟨S,-⟩:=zgd _ _ _ h2 B;repeat' (first|refine s_t ?_|refine q_k 18 ?_;refine q_x (zH (hr:=K)) ?_|refine q_k 19 ?_;refine q_x (zA (hr:=O)) ?_|refine q_k 20 ?_;refine q_v (zP (hr:=A)) ?_)
    refine zZ () trivial ?_ q_h;rw[<-a8,S];exact q_h
   ·have A:decide ((4294967296:Int)<=((r+j:Nat):Int))=false:=q_f;repeat' (first|refine s_t ?_|refine q_k 18 ?_;refine q_x (zH (hr:=K)) ?_|refine q_k 19 ?_;refine q_x (zA (hr:=O)) ?_|refine q_k 20 ?_;refine q_v (zP (hr:=A)) ?_)
    refine zy (q-1,r+j) ⟨hN,by show r+j<4294967296;omega⟩ ?_ ?_ ?_
    ·show q-1<q;omega
    ·exact q_h
    ·exact q_h
 rintro - -;have h4:IntKind.u64.wrap ((X:Int)*(4294967296:Int))=((X*4294967296%18446744073709551616:Nat):Int):=zgl (b:=4294967296) rfl;have h5:IntKind.u64.wrap (((X*4294967296%18446744073709551616:Nat):Int)+(E:Int))=(((X*4294967296+E)%18446744073709551616:Nat):Int):=zjQ q_o;have h6:IntKind.u64.wrap ((T:Int)*(V:Int))=((T*V%18446744073709551616:Nat):Int):=zgl rfl;have h7:IntKind.u64.wrap ((((X*4294967296+E)%18446744073709551616:Nat):Int)-((T*V%18446744073709551616:Nat):Int))=((Y:Nat):Int):=zqh q_o (zt5 c2.symm c1);have h8:IntKind.u64.wrap ((Y:Int).tdiv (j:Int))=((Y/j:Nat):Int):=zwx c1 rfl;have c4:=AV Y j;have j4:=A7 Y J;rw[A8] at c4;have h9:IntKind.u64.wrap (((Y/j:Nat):Int)*(j:Int))=((Y/j*j:Nat):Int):=zgl (A3 q_o);have i1:IntKind.u64.wrap ((Y:Int)-((Y/j*j:Nat):Int))=((Y%j:Nat):Int):=zqh q_o q_o;repeat' (first|refine s_0 ?_|refine q_k 21 ?_;refine q_x (zas (hr:=h4)) ?_;refine q_x (zA (hr:=h5)) ?_;refine q_v (zas (hr:=h6)) ?_;refine q_x (zH (hr:=h7)) ?_|refine q_k 22 ?_;refine q_x (zbb (hb:=kv) (hr:=h8)) ?_|refine q_k 23 ?_;refine q_v (zas (hr:=h9)) ?_;refine q_x (zH (hr:=i1)) ?_)
 refine zb9 (γ:=Unit) (λ_=>[(2,nv V),(6,.int .u64 0),(7,.int .u64 0),(8,.int .u64 s),(9,nv j),(10,nv v0),(14,nv u0),(15,nv T),(17,nv Y),(18,nv qb)]) (λ_=>[]) (λ_=>True) ?_ ?_
 ·repeat' (first|refine zd4 ?_|fail)
  refine zE (γ:=Nat×Nat) (λg=>[(2,nv V),(6,.int .u64 0),(7,.int .u64 0),(8,.int .u64 s),(9,nv j),(10,nv v0),(14,nv u0),(15,nv T),(17,nv Y),(18,nv g.1),(16,nv g.2)]) (λ_=>[]) (λg=>Est 4294967296 Y u0 j v0 g.1 g.2/\g.2<4294967296) (λg=>g.1) (Y/j,Y%j) ⟨GA _ _ _ _ _ J b8,by have:=A7 Y J;omega⟩ ?_ ?_ ?_
  ·exact q_h
  ·exact q_h
  rintro⟨q,r⟩ ⟨U,hr⟩;dsimp only at U hr ⊢;have c8:=zri U.eq (by rw[<-G];exact hY) q_o I q_e;repeat refine zb0 ?_
  refine zb9 (γ:=Bool) (λg=>[(2,nv V),(6,.int .u64 0),(7,.int .u64 0),(8,.int .u64 s),(9,nv j),(10,nv v0),(14,nv u0),(15,nv T),(17,nv Y),(18,nv q),(16,nv r),(113,.bool g)]) (λ_=>[]) (λg=>(g=true->Y*4294967296+u0<q*(j*4294967296+v0))/\(g=false->q<4294967296/\q*(j*4294967296+v0)<=Y*4294967296+u0)) ?_ ?_
  ·by_cases hq:4294967296<=q
   ·have A:decide ((4294967296:Int)<=(q:Int))=true:=q_d;repeat' (first|refine zav ?_|refine zai ?_|refine q_k 24 ?_;refine q_x (zP (hr:=A)) ?_)
    exact zZ true ⟨λ_=>zgx (by rw[<-G];exact hY) b8 hq,λh=>absurd h q_e⟩ q_h q_h
   ·have A:decide ((4294967296:Int)<=(q:Int))=false:=q_f;have hm:=Lib.half_mul_le (a:=q) (b:=v0) q_o q_o;have m1:IntKind.u64.wrap ((q:Int)*(v0:Int))=((q*v0:Nat):Int):=zgl (A3 q_o);have m2:IntKind.u64.wrap ((4294967296:Int)*(r:Int))=((r*4294967296:Nat):Int):=by rw[Int.mul_comm];exact zgl (b:=4294967296) (A3 q_o)
    have m3:IntKind.u64.wrap (((r*4294967296:Nat):Int)+(u0:Int))=((r*4294967296+u0:Nat):Int):=zjQ (A3 q_o);by_cases hb:r*4294967296+u0<q*v0
    ·have R:decide (((r*4294967296+u0:Nat):Int)<((q*v0:Nat):Int))=true:=decide_eq_true (Eb.2 hb);repeat' (first|refine zav ?_|refine zai ?_|refine q_k 24 ?_;refine q_x (zP (hr:=A)) ?_;refine q_x (zas (hr:=m1)) ?_;refine q_x (zas (hr:=m2)) ?_;refine q_v (zA (hr:=m3)) ?_;refine q_x (zF (hr:=R)) ?_)
     exact zZ true ⟨λ_=>zkX U.eq hb,λh=>absurd h q_e⟩ q_h q_h
    ·have R:decide (((r*4294967296+u0:Nat):Int)<((q*v0:Nat):Int))=false:=decide_eq_false (λh=>hb (Eb.1 h));repeat' (first|refine zav ?_|refine zai ?_|refine q_k 24 ?_;refine q_x (zP (hr:=A)) ?_;refine q_x (zas (hr:=m1)) ?_;refine q_x (zas (hr:=m2)) ?_;refine q_v (zA (hr:=m3)) ?_;refine q_x (zF (hr:=R)) ?_)
     exact zZ false ⟨λh=>absurd h q_e,λ_=>⟨by omega,zd0 U.eq q_o⟩⟩ q_h q_h
  rintro t ⟨ht,hf⟩;cases t with
  |false=>
   obtain⟨h1,h2⟩:=hf rfl;have B:=U.up;rw[<-G] at h2 B;obtain⟨S,-⟩:=zgd _ _ _ h2 B;repeat' (first|refine s_0 ?_|fail)
   refine zZ () trivial ?_ q_h;rw[<-a9,S];exact q_h
  |true=>
   have ht:=ht rfl;obtain⟨e8,hN⟩:=zjr U.eq ht;have K:IntKind.u64.wrap ((q:Int)-1)=((q-1:Nat):Int):=by rw[IntWalk.u64_in _ q_o];omega
   have O:IntKind.u64.wrap ((r:Int)+(j:Int))=((r+j:Nat):Int):=zjQ (A3 q_o);by_cases hrb:4294967296<=r+j
   ·have A:decide ((4294967296:Int)<=((r+j:Nat):Int))=true:=q_d;have b7:=znc hN.eq (by rw[<-G];exact hY) I hrb;have h2:=zd0 hN.eq (zhz (u0:=u0) I (BH b7) hrb);have B:=hN.up;rw[<-G] at h2 B;obtain⟨S,-⟩:=zgd _ _ _ h2 B;repeat' (first|refine s_t ?_|refine q_k 25 ?_;refine q_x (zH (hr:=K)) ?_|refine q_k 26 ?_;refine q_x (zA (hr:=O)) ?_|refine q_k 27 ?_;refine q_v (zP (hr:=A)) ?_)
    refine zZ () trivial ?_ q_h;rw[<-a9,S];exact q_h
   ·have A:decide ((4294967296:Int)<=((r+j:Nat):Int))=false:=q_f;repeat' (first|refine s_t ?_|refine q_k 25 ?_;refine q_x (zH (hr:=K)) ?_|refine q_k 26 ?_;refine q_x (zA (hr:=O)) ?_|refine q_k 27 ?_;refine q_v (zP (hr:=A)) ?_)
    refine zy (q-1,r+j) ⟨hN,by show r+j<4294967296;omega⟩ ?_ ?_ ?_
    ·show q-1<q;omega
    ·exact q_h
    ·exact q_h
 rintro - -;have i5:IntKind.u64.wrap ((T:Int)*(4294967296:Int))=((T*4294967296:Nat):Int):=zgl (b:=4294967296) (A3 q_o);have i7:IntKind.u64.wrap (((T*4294967296:Nat):Int)+(qb:Int))=((T*4294967296+qb:Nat):Int):=zjQ (A3 q_o);have i8:IntKind.u64.wrap ((Y:Int)*(4294967296:Int))=((Y*4294967296%18446744073709551616:Nat):Int):=zgl (b:=4294967296) rfl;have i9:IntKind.u64.wrap (((Y*4294967296%18446744073709551616:Nat):Int)+(u0:Int))=(((Y*4294967296+u0)%18446744073709551616:Nat):Int):=zjQ q_o;have j0:IntKind.u64.wrap ((qb:Int)*(V:Int))=((qb*V%18446744073709551616:Nat):Int):=zgl rfl;have j1:IntKind.u64.wrap ((((Y*4294967296+u0)%18446744073709551616:Nat):Int)-((qb*V%18446744073709551616:Nat):Int))=((Z:Nat):Int):=zqh q_o (zt5 c3.symm q_o);have j2:Op.shift .shr .u64 (Z:Int) .u64 (s:Int)=pure (.int .u64 (((W*18446744073709551616+lo)%y:Nat):Int)):=by
  rw[znX Z s .u64 q_o,f2,CJ _ b1]
 repeat' (first|refine s_0 ?_|refine q_k 28 ?_;refine q_x (zas (hr:=i5)) ?_;refine q_x (zA (hr:=i7)) ?_;refine q_x (zas (hr:=i8)) ?_;refine q_x (zA (hr:=i9)) ?_;refine q_v (zas (hr:=j0)) ?_;refine q_x (zH (hr:=j1)) ?_;refine q_x (zbp (hr:=j2)) ?_)
 exact zad rfl (zr rfl) (zr rfl) F2 ⟨by rw[f1];rfl,rfl⟩
end Go.Proofs.YtdnlngbjpdbffaaGreatDoor
namespace Go.Sy
open Go
variable {P:Program}{ro:Option Nat}{N:Nat}{w0:World}{M:Nat->Prop}{ds:List Deferred}{ops:Array Oper}{Q:Exit->Act->World->Prop}{C:List (List Nat)}{L0:List Res}{k i n:Nat}{o:Oper}{rest:List Oper}{F:Env->Fr}{rs:List (Nat×(Env->Value->List Res->Prop))}
theorem dcn(m:∀ρ,za2 (cl C i) rs ρ->OpT P ro N w0 M ds o (only (o.looksAt ops) (get (F ρ))) (zah (cl C i) rs ρ L0) (Det undef (zah (cl C i) rs ρ L0)))(q:∀ρ,zar ops o (only (o.looksAt ops) (get (F ρ)))=some true:=by exact λ_=>rfl)(j:o.dst=none:=by exact rfl)
  (k:DH P ro N w0 M ds ops Q C L0 n (i+1) rest F rs):DH P ro N w0 M ds ops Q C L0 (n+1) i (o::rest) F rs:=
 .inl ⟨λ_=>undef,λ_ _ _=>rfl,λρ r=> .inl ⟨q ρ,m ρ r⟩,by rw[j];exact k⟩
end Go.Sy
