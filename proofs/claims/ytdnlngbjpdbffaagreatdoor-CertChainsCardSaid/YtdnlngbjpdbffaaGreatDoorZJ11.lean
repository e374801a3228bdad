/- Lemmas. -/
import Derived.Test.YtdnlngbjpdbffaaGreatDoorZJ10
set_option maxHeartbeats 2000000
set_option maxRecDepth 10000
set_option linter.all false
namespace Go.Nt
open Go Go.Sy
def zv8(_:Nat->Prop)(x:Nat)(vs:List Value)(RA:List Res)(_:World):Prop:=vs= [.int .i64 ((x:Nat):Int)]/\RA= []
theorem zx5(r i low:Nat)(hr:0<r)(j:low<18446744073709551616^i):nd 2 (r*18446744073709551616^i+low)=64*i+nd 2 r:=by
 rw[zrR] at j ⊢;have q:0<2^(64*i):=AU q_e;have w:2^(64*i)<=r*2^(64*i):=BU _ hr;have m:=zi1 2 (r*2^(64*i)+low) (64*i) q_e q_o;rw[m,AM r,Ck q,An j,BZ]
end Go.Nt
namespace Go.Proofs.YtdnlngbjpdbffaaGreatDoor
open Go Go.Sy Go.Nt Go.RowKit
attribute [local irreducible] Sy SyL SyX Sy.Fn callFunc zg
theorem zqe(x:Nat)(w:World):
  Sy.Fn Tryz.prog 283 [zu x] w No (λv R=>∃b,v= .func (.func 316) #[] #[.pointer (some ⟨b,0,none⟩)]/\R= [.blk b 133 (zg x)]):=by
 refine zt Tryz.func283 Tryz.ntmps283 ?_;have j:=zd x;repeat' (first|refine s_0 ?_|refine zf 0 ?_;refine z9 ?_;intro _|refine zf 1 ?_;refine q_x zab ?_)
 rename_i b;exact zar rfl (zh rfl) q_h ⟨b,rfl,rfl⟩
theorem zo0(K x:Nat)(w:World)(M:Nat->Prop)(hx:x<18446744073709551616^16):
  zlM Tryz.prog 316 [.pointer (some ⟨K,0,none⟩)] (zbE x) zv8 w M [.blk K 133 (zg x)]:=by
 intro l J Jx j0 V hh hY;refine zaX Tryz.func316 rfl Tryz.ntmps316 q_p hh ?_;have b7:=zd x;have Y:=zbO x;repeat' (first|refine s_t ?_|refine q_k 0 ?_)
 refine zL (γ:=Nat×Nat×Res) (λg=>[(0,.func (.yield l) #[] #[]),(1,.pointer (some ⟨K,0,none⟩)),(3,.int .i64 ((g.1:Int)-1))])
  (λg=>[g.2.2,.blk K 133 (zg x)])
  (λg=>g.1<=16/\g.2.1<=(zbE x).length/\left g.2.1 x=x%18446744073709551616^g.1/\J g.2.1 g.2.2)
  (λg=>g.1) (16,0,j0) ⟨A7 _,AA _,(A9 hx).symm,V⟩ ?_ ?_ ?_
 ·exact q_h
 ·exact q_h
 rintro⟨i,k,j⟩ ⟨hi,I,A,H⟩;dsimp only at hi I A H ⊢;rcases AE i with h0|h0
 ·subst h0;rw[Nat.pow_zero,Nat.mod_one] at A;have a6:k=(zbE x).length:=by
   rcases AG k (zbE x).length with h|h
   ·have:=(zgO h).1;omega
   ·omega
  subst a6;repeat' (first|refine s_0 ?_|refine q_k 1 ?_;refine q_v zO ?_)
  exact zft rfl q_h ⟨j,rfl,.inl H⟩
 obtain⟨i,rfl⟩:∃i',i=i'+1:=⟨i-1,by omega⟩;have Z:(((i+1:Nat):Int)-1)=((i:Nat):Int):=q_o;have b3:IntKind.i64.wrap ((i:Int)-1)=(i:Int)-1:=IntWalk.i64_in _ q_o;rw[Z];have hd:=Y i q_o;rw[zbZ] at A;have L:x/18446744073709551616^i%18446744073709551616<18446744073709551616:=AC _ q_e;have S:x%18446744073709551616^i<18446744073709551616^i:=AC _ (AU q_e);generalize x/18446744073709551616^i%18446744073709551616=d at*;repeat' (first|refine s_t ?_|refine q_k 1 ?_;refine q_v zO ?_|refine q_k 3 ?_;refine zQ ?_;refine q_x (zM (hv:=hd)) ?_)
 refine zL (γ:=Nat×Nat×Res) (λg=>[(0,.func (.yield l) #[] #[]),(1,.pointer (some ⟨K,0,none⟩)),(3,.int .i64 i),(4,nv g.1)])
  (λg=>[g.2.2,.blk K 133 (zg x)])
  (λg=>g.1<18446744073709551616/\g.2.1<=(zbE x).length/\left g.2.1 x=x%18446744073709551616^i+g.1*18446744073709551616^i/\J g.2.1 g.2.2)
  (λg=>g.1) (d,k,j) ⟨L,I,A,H⟩ ?_ ?_ ?_
 ·exact q_h
 ·exact q_h
 clear A H I hd L;rintro⟨r,k,j⟩ ⟨hr,I,A,H⟩;dsimp only at hr I A H ⊢;rcases AE r with h0|h0
 ·subst h0;rw[Nat.zero_mul,Nat.add_zero] at A;repeat' (first|refine s_0 ?_|refine q_k 4 ?_;refine zaJ ?_|refine q_k 2 ?_;refine q_x (zK (hr:=b3)) ?_)
  refine zC (i,k,j) ⟨by show i<=16;omega,I,A,H⟩ ?_ ?_ ?_
  ·show i<i+1;omega
  ·exact q_h
  ·exact q_h
 obtain⟨b8,a8,a9⟩:=zhP r h0;have b5:=zbj 2 r 64 q_e hr;have T:=zx5 r i _ h0 S;rw[Cz,<-A] at T;have R:=λw=>zkF r w hr;have U:0<left k x:=by
  have:18446744073709551616^i<=r*18446744073709551616^i:=BU _ h0;have:0<18446744073709551616^i:=AU q_e;omega
 have O:=zsx I U;have G:=(zgO O).2;have E:=zge k x;rw[T] at G E;generalize nd 2 r=m at*;obtain⟨q,rfl⟩:∃q,m=q+1:=⟨m-1,by omega⟩;obtain⟨B,rfl⟩:∃B,r=2^q+B:=⟨r-2^q,by rw[Aw] at a8;omega⟩;have b2:B<2^q:=by rw[AN] at a9;omega
 have G:(zbE x)[k]=64*i+q:=by rw[G];omega
 have E:left (k+1) x=x%18446744073709551616^i+B*18446744073709551616^i:=by
  rw[E,A,show 64*i+(q+1)-1=64*i+q by omega,Ax,<-zrR,B5,AM (2^q)];omega
 have b4:IntKind.i64.wrap (((q+1:Nat):Int)-1)=((q:Nat):Int):=q_w;have a7:IntKind.i64.wrap (64*(i:Int))=((64*i:Nat):Int):=q_w;have W:IntKind.i64.wrap (((64*i:Nat):Int)+(q:Int))=((64*i+q:Nat):Int):=q_w;have b0:decide (((2^q+B:Nat):Int)≠0)=true:=decide_eq_true (by
  have:0<2^q:=AU q_e;omega)
 have b9:0<2^q:=AU q_e;repeat' (first|refine s_t ?_|refine q_k 4 ?_;refine q_v (zad (hr:=b0)) ?_|refine q_k 5 ?_;refine q_v (za (hc:=q_c R)) ?_;refine q_x (zK (hr:=b4)) ?_|refine q_k 6 ?_;refine q_x (zaM (hr:=a7)) ?_;refine q_v (zD (hr:=W)) ?_;(refine q_s (zdK hY O H (hL:=F0 (by exact Eu) rfl F2) (harg:=λw' X I b6=>⟨by rw[G],rfl⟩)) ?_;rintro _ _ ⟨y,j',rfl,rfl,hy⟩);refine zI ?_)
 cases y with
 |false=>
  repeat' (first|refine s_0 ?_|fail)
  exact zmr rfl q_h ⟨j',rfl,.inr ⟨k+1,by omega,hy⟩⟩
 |true=>
  repeat' (first|refine s_0 ?_|refine q_k 7 ?_;refine q_v (zqL (n:=q) q_o) ?_;refine q_x (ztY (r:=B) (k:=q) q_o b2) ?_)
  refine zC (B,k+1,j') ⟨by show B<_;omega,by show k+1<=_;omega,E,hy⟩ ?_ ?_ ?_
  ·show B<2^q+B;omega
  ·exact q_h
  ·exact q_h
end Go.Proofs.YtdnlngbjpdbffaaGreatDoor
namespace Go.Nt
open Go Go.Sy
theorem zxE(A p:Nat):
  A*2^(p+1)/18446744073709551616^(p/64)%18446744073709551616<18446744073709551616/\
  2^(p%64)<18446744073709551616/\
  (A*2^(p+1)/18446744073709551616^(p/64)%18446744073709551616 ||| 2^(p%64))=A*2^(p+1)/18446744073709551616^(p/64)%18446744073709551616+2^(p%64)/\
  A*2^(p+1)/18446744073709551616^(p/64)%18446744073709551616+2^(p%64)<18446744073709551616/\
  A*2^(p+1)+2^(p%64)*18446744073709551616^(p/64)=(A*2+1)*2^p:=by
 have h:=zkD 1 64 A p 1 rfl q_e q_e;rw[show(2:Nat)^1=2 from rfl,Al,Bu] at h;exact⟨h.1,h.2.2.1,h.2.2.2.1,h.2.2.2.2.1,h.2.2.2.2.2⟩
end Go.Nt
namespace Go.Proofs.YtdnlngbjpdbffaaGreatDoor
open Go Go.Sy Go.Nt Go.RowKit
attribute [local irreducible] Sy SyL SyX Sy.Fn callFunc zg
theorem zyL(x n:Nat)(w:World)(hx:x<18446744073709551616^16)(hn:n<9223372036854775808):
  q_G 240 [zu x,.int .i64 n] w (.tuple #[zu (x/2^n),.int .i64 0]):=by
 refine zt Tryz.func240 Tryz.ntmps240 ?_;have a9:=zd x;have r:0<2^n:=AU q_e;repeat' (first|refine s_0 ?_|refine zf 0 ?_;refine zk ?_;intro _;refine zk ?_;intro _;refine z9 ?_;intro _|refine zf 1 ?_;refine zm ?_;refine zaf ?_|refine zf 3 ?_;refine zk ?_;intro _|refine zf 4 ?_;refine zm ?_)
 rename_i b2 b3 b4 b6;refine q_s (zi (hc:=λT X S hh=>zqe x T)) ?_;rintro _ _ ⟨R,rfl,b,rfl,rfl⟩;repeat' (first|refine s_t ?_|fail)
 refine zgQ (γ:=Nat) (xs:=zbE x) (Arg:=zv8) zde rfl (en rfl) rfl (λk s=>s*2^n+left k x=x) (λc k s=>c= .exit 0/\s=x/2^n)
  (λs=>[.blk b6 133 (zg s),.blk b3 3 [.int .i64 n]])
  [.blk b 133 (zg x)] [.blk b4 133 (List.replicate 16 (Value.int IntKind.u64 0)),.blk b2 133 (zg x)] 0 (by rw[show left 0 x=x from rfl,BF,Aa]) ?_ ?_ ?_ ?_ ?_ ?_
 ·rw[show zg 0=List.replicate 16 (Value.int IntKind.u64 0) from natC0.symm]
  ((try simp only[Ae,Ag,AJ]);(repeat' (first|exact List.Perm.nil|exact Ay _|apply zhu;with_reducible (focus ((repeat (first|exact Eu|apply Ew));done))|apply zhu;(focus ((repeat (first|exact Eu|apply Ew));done)))))
 ·exact λT Mi X S hm _ _=>zo0 b x T Mi hx
 ·rintro O x vs RA T ⟨rfl,_⟩;rfl
 ·rintro lp k S s vs RA W rec a7 E ⟨rfl,rfl⟩ a8 q;clear q;obtain⟨K,L⟩:=zgO S;obtain⟨b0,I,Z⟩:=zhP _ K;have V:=zt3 k x q_o;have H:=zge k x;have Y:=zqf k x q_o;have G:=zd s;generalize left k x=y at*;generalize nd 2 y=m at*;obtain⟨i,rfl⟩:∃i,m=i+1:=⟨m-1,by omega⟩;rw[Aw] at L I H;have hi:i<1024:=zz3 (BE I Y) hx;rw[L];by_cases hb:i<n
  ·repeat' (first|refine s_t ?_|apply zcR;(focus ((repeat (first|exact Eu|apply Ew));done));assumption|refine q_k 5 ?_|refine q_k 6 ?_;refine zm ?_;refine zaf ?_)
   refine zjm s ⟨rfl,?_⟩ ?_
   ·have h1:y<2^n:=AK Z (AB q_e hb);rw[<-E,AM,Ck r,An h1,BZ]
   ·exact q_h
  ·obtain⟨p,hp⟩:∃p,p=i-n:=⟨_,rfl⟩;have e0:s=x/2^(i+1)*2^(p+1):=by
    refine Nat.eq_of_mul_eq_mul_right r ?_;rw[B8,<-Ax,show p+1+n=i+1 by omega,<-V];omega
   obtain⟨e1,e2,e3,e4,e5⟩:=zxE (x/2^(i+1)) p;have hd:=zbO s (p/64) q_o;have j:=zeQ s (p/64) (2^(p%64));have J:(x/2^(i+1)*2+1)*2^p=s+2^p:=by
    rw[e0];generalize x/2^(i+1)=A at*;rw[B5,AN,Bu];congr 1
    ac_rfl
   have U:(s+2^p)*2^n+left (k+1) x=x:=by
    rw[B5,<-Ax,show p+n=i by omega,H];omega
   rw[<-e0] at e1 e3 e4 e5;rw[e5,J] at j;have j:=j e4;rw[<-e3] at j;generalize s/18446744073709551616^(p/64)%18446744073709551616=d at*;have ha:IntKind.i64.wrap ((i:Int)-(n:Int))=((p:Nat):Int):=q_w;have q1:IntKind.i64.wrap ((p:Int).tdiv 64)=((p/64:Nat):Int):=zdw (k:=64) q_o;have q2:(p:Int).tmod 64=((p%64:Nat):Int):=zex p 64;have a6:p/64<16:=q_o;repeat' (first|refine s_t ?_|apply zcR;(focus ((repeat (first|exact Eu|apply Ew));done));assumption|refine q_k 5 ?_|refine q_k 6 ?_;refine zm ?_;refine zaf ?_|refine zai (id:=7) 14 [[],[],[0,1],[0,1,2],[],[0,1,2,3,4],[0,1,2,3,4,5],[],[],[7,8],[7,8,9],[7,8,9,10],[0,1,2,3,4,5,6,7,8,9,10,11],[],[0,1,2,3,4,5,6,7,8,9,10,11,12,13],[0,1,2,3,4,5,6,7,8,9,10,11,12,13,14]] mixed ?_ ?_;kernel_rfl;refine zB ?_;refine zdB ?_;refine q_D (zK (hr:=ha)) ?_;refine q_D (zbz (hr:=q1)) ?_;refine q_D zN ?_;refine zaB ?_;refine q_D (zM (hv:=hd)) ?_;refine zB ?_;refine zdB ?_;refine q_D (zK (hr:=ha)) ?_;refine q_D (zbI (hr:=q2)) ?_;refine q_D (zqL (n:=p%64) (AC _ q_e)) ?_;refine q_D (zjk (a:=d) (b:=2^(p%64)) e1 e2) ?_;refine q_D zN ?_;refine zaF ?_;refine zQ ?_;refine zP ?_|fail)
   refine zgE (s+2^p) U ?_;rw[<-j];exact q_h
 ·intro s E;rw[zkV,BZ] at E;have E:s=x/2^n:=by rw[<-E,Ci _ r]
  subst E;have G:=zd (x/2^n);generalize x/2^n=X at*;repeat' (first|refine s_0 ?_|refine zf 8 ?_;refine q_v (ze (B:=zg X)) ?_;refine q_y (zl (n:=X)) ?_)
  exact zU rfl (zE (B:=zg X) rfl (ty rfl) rfl Ey Ex (zd _).symm) (zh rfl) Ev ⟨rfl,rfl⟩
 ·rintro _ k s S ⟨rfl,rfl⟩;have G:=zd (x/2^n);generalize x/2^n=X at*;repeat' (first|refine s_0 ?_|refine zf 8 ?_;refine q_v (ze (B:=zg X)) ?_;refine q_y (zl (n:=X)) ?_)
  exact zU rfl (zE (B:=zg X) rfl (ty rfl) rfl Ey Ex (zd _).symm) (zh rfl) Ev ⟨rfl,rfl⟩
end Go.Proofs.YtdnlngbjpdbffaaGreatDoor
namespace Go.Nt
open Go Go.Sy
theorem zg4{a b c:Nat}(h:a*b%18446744073709551616=c):IntKind.u64.wrap ((a:Int)*(b:Int))=((c:Nat):Int):=by
 rw[<-h,show((a:Nat):Int)*((b:Nat):Int)=((a*b:Nat):Int) by simp,Wd.wrap_u64_nat]
theorem zkZ{a b c:Nat}(h:(a+b)%18446744073709551616=c):IntKind.u64.wrap ((a:Int)+(b:Int))=((c:Nat):Int):=by
 rw[<-h,show((a:Nat):Int)+((b:Nat):Int)=((a+b:Nat):Int) by simp,Wd.wrap_u64_nat]
theorem zr6{a b c:Nat}(hb:b<=18446744073709551616)(h:(a+(18446744073709551616-b))%18446744073709551616=c):IntKind.u64.wrap ((a:Int)-(b:Int))=((c:Nat):Int):=by
 rw[<-h];exact wrap_sub_u64_nat a b _ q_o
theorem zzD{a b c:Nat}(ha:a<18446744073709551616)(h:a/b=c):IntKind.u64.wrap ((a:Int).tdiv (b:Int))=((c:Nat):Int):=by
 have:=Bz a b;rw[Cx q_o,show((a:Int)/(b:Int))=((a/b:Nat):Int) from rfl,h];exact IntWalk.u64_in _ q_o
theorem zzH{a s c:Nat}(j:s<=64)(ha:a<18446744073709551616)(h:a%2^s=c):bits .and .u64 (a:Int) ((2^s-1:Nat):Int)=((c:Nat):Int):=by
 have:2^s<=2^64:=AB q_e j;rw[bits_and_u64_nat _ _ ha q_o,DZ,h]
theorem zwC{a b c:Nat}(h:a=b+c)(hc:c<18446744073709551616):(a%18446744073709551616+(18446744073709551616-b%18446744073709551616))%18446744073709551616=c:=q_o
end Go.Nt
namespace Go.Proofs.YtdnlngbjpdbffaaGreatDoor
open Go Go.Sy Go.Nt Go.RowKit
attribute [local irreducible] Sy SyL SyX Sy.Fn callFunc zg
theorem zoq(W lo y:Nat)(w:World)(hy:W<y)(e0:y<18446744073709551616)(a7:lo<18446744073709551616):
  q_G 327 [nv W,nv lo,nv y] w (.tuple #[nv ((W*18446744073709551616+lo)/y),nv ((W*18446744073709551616+lo)%y)]):=by
 refine zt Tryz.func327 Tryz.ntmps327 ?_;have d9:decide ((y:Int)=0)=false:=q_f;have e1:decide ((y:Int)<=(W:Int))=false:=q_f;by_cases hh:W=0
 ·subst hh;rw[BF,Aa];repeat' (first|refine s_0 ?_|refine q_k 0 ?_|refine q_k 1 ?_;refine q_v (zS (hr:=d9)) ?_|refine q_k 3 ?_;refine q_v (zaA (hr:=e1)) ?_|refine q_k 5 ?_;refine zaH ?_|refine zai (id:=6) 7 [[],[],[0,1],[],[],[3,4],[0,1,2],[0,1,2,3,4,5,6]] mixed ?_ ?_;kernel_rfl;refine zB ?_;refine zB ?_;refine q_D (zya (a:=lo) (b:=y) q_o a7) ?_;refine zB ?_;refine zB ?_;refine q_D (zxl (a:=lo) (b:=y) q_o) ?_;refine q_D za6 ?_;refine zaF ?_;refine zw ?_|fail)
  exact q_r
 have e5:decide ((W:Int)=0)=false:=q_f;obtain⟨l3,e6,e7⟩:=zhP y q_o;have j7:=zbj 2 y 64 q_e e0;have c7:=λw=>zqp y w e0;generalize nd 2 y=m at*;obtain⟨s,hs⟩:∃s,s=64-m:=⟨_,rfl⟩;obtain⟨t,ht⟩:∃t,t=64-s:=⟨_,rfl⟩;rw[<-hs] at c7;have e9:t=m:=q_o;have b2:(2:Nat)^s*2^t=18446744073709551616:=by rw[<-Ax,show s+t=64 by omega]
 have b1:0<2^s:=AU q_e;obtain⟨V,hV⟩:∃V,V=y*2^s:=⟨_,rfl⟩;have b3:V<18446744073709551616:=by
  rw[hV,<-b2,AM,e9];exact Cu e7 b1
 have l2:9223372036854775808<=V:=by
  have h1:=AP (2^s) e6;rw[<-Ax,show m-1+s=63 by omega,<-hV] at h1;exact h1
 have k1:Op.shift .shl .u64 (y:Int) .u64 (s:Int)=pure (.int .u64 ((V:Nat):Int)):=by
  rw[zjE,<-hV,A9 b3]
 obtain⟨j,f9⟩:∃j,j=V/4294967296:=⟨_,rfl⟩;obtain⟨v0,f8⟩:∃v0,v0=V%4294967296:=⟨_,rfl⟩;have G:V=j*4294967296+v0:=q_o;have I:v0<4294967296:=q_o;have J:0<j:=q_o;have l0:j<4294967296:=q_o;have k2:Op.shift .shr .u64 (V:Int) .u64 32=pure (.int .u64 ((j:Nat):Int)):=by rw[f9];exact zr3 V 32 .u64 q_e
 have k3:bits .and .u64 (V:Int) 4294967295=((v0:Nat):Int):=zzH (s:=32) q_e b3 f8.symm;obtain⟨H,hH⟩:∃H,H=W*2^s:=⟨_,rfl⟩;have c0:H<18446744073709551616:=by
  rw[hH];exact Ai (Bb hy b1) (by rw[<-hV];exact b3)
 have k4:Op.shift .shl .u64 (W:Int) .u64 (s:Int)=pure (.int .u64 ((H:Nat):Int)):=by
  rw[zjE,<-hH,A9 c0]
 have k5:IntKind.u64.wrap (64-(s:Int))=((t:Nat):Int):=by rw[IntWalk.u64_in _ q_o];omega
 obtain⟨l1,a6⟩:∃l1,l1=lo/2^t:=⟨_,rfl⟩;have c5:l1<18446744073709551616:=by rw[a6];exact B3 (Bz _ _) a7
 have c6:l1<2^s:=by
  rw[a6];exact(AZ (AU q_e)).2 (by rw[b2];exact a7)
 have k6:Op.shift .shr .u64 (lo:Int) .u64 (t:Int)=pure (.int .u64 ((l1:Nat):Int)):=by rw[zpr lo t .u64 a7,a6]
 obtain⟨X,b5⟩:∃X,X=H+l1:=⟨_,rfl⟩;have k7:bits .or .u64 (H:Int) (l1:Int)=((X:Nat):Int):=by
  rw[bits_or_u64_nat _ _ c0 c5,hH,or_add W l1 s c6,<-hH,b5]
 have hX:X<V:=by
  rw[b5,hH,a6,hV];exact zy4 b2.symm hy a7
 obtain⟨L,hL⟩:∃L,L=lo*2^s%18446744073709551616:=⟨_,rfl⟩;have e2:L<18446744073709551616:=by rw[hL];exact AC _ q_e
 have k8:Op.shift .shl .u64 (lo:Int) .u64 (s:Int)=pure (.int .u64 ((L:Nat):Int)):=by rw[zjE,<-hL]
 obtain⟨E,d8⟩:∃E,E=L/4294967296:=⟨_,rfl⟩;obtain⟨u0,c9⟩:∃u0,u0=L%4294967296:=⟨_,rfl⟩;have b9:E<4294967296:=q_o;have b8:u0<4294967296:=q_o;have k9:Op.shift .shr .u64 (L:Int) .u64 32=pure (.int .u64 ((E:Nat):Int)):=by rw[d8];exact zr3 L 32 .u64 q_e
 have h3:bits .and .u64 (L:Int) 4294967295=((u0:Nat):Int):=zzH (s:=32) q_e e2 c9.symm;have e3:X<18446744073709551616:=q_o;have h4:IntKind.u64.wrap ((X:Int).tdiv (j:Int))=((X/j:Nat):Int):=zzD e3 rfl;have e4:=Ad X j;have l4:=AC X J;rw[AM] at e4;have h5:IntKind.u64.wrap (((X/j:Nat):Int)*(j:Int))=((X/j*j:Nat):Int):=zg4 (A9 q_o);have h6:IntKind.u64.wrap ((X:Int)-((X/j*j:Nat):Int))=((X%j:Nat):Int):=zr6 q_o q_o;have kv:(j:Int)≠0:=q_o;have kc:IntKind.u64.wrap ((s:Nat):Int)=((s:Nat):Int):=IntWalk.u64_in _ q_o;have b4:0<V:=q_o
 -- the quotients' digits
 obtain⟨T,a8⟩:∃T,(X*4294967296+E)/V=T:=⟨_,rfl⟩;obtain⟨Y,b0⟩:∃Y,Y=(X*4294967296+E)%V:=⟨_,rfl⟩;have hY:Y<V:=by rw[b0];exact AC _ b4
 have c1:Y<18446744073709551616:=q_o;obtain⟨qb,a9⟩:∃qb,(Y*4294967296+u0)/V=qb:=⟨_,rfl⟩;obtain⟨Z,b6⟩:∃Z,Z=(Y*4294967296+u0)%V:=⟨_,rfl⟩;have hZ:Z<V:=by rw[b6];exact AC _ b4
 have j9:T<4294967296:=by
  rw[<-a8];exact Df (by have:=zhh (q:=4294967296) hX b9 (A7 _);rw[AM V];exact this)
 have k0:qb<4294967296:=by
  rw[<-a9];exact Df (by have:=zhh (q:=4294967296) hY b8 (A7 _);rw[AM V];exact this)
 have c2:=Ad (X*4294967296+E) V;have c3:=Ad (Y*4294967296+u0) V;rw[a8,<-b0,AM] at c2;rw[a9,<-b6,AM] at c3;obtain⟨f1,f2⟩:=zxx 4294967296 V ((W*18446744073709551616+lo)*2^s) X E u0 T qb (by
  have h1:=zxA 18446744073709551616 W lo s t b2.symm;rw[<-hH,<-a6,<-b5,<-hL] at h1;rw[<-h1];omega) a8.symm (by rw[<-b0];exact a9.symm) b4
 rw[<-b0] at f2;rw[hV,Cm _ _ b1] at f1;rw[<-b6] at f2;rw[hV,DU] at f2;repeat' (first|refine s_0 ?_|refine q_k 0 ?_|refine q_k 1 ?_;refine q_v (zS (hr:=d9)) ?_|refine q_k 3 ?_;refine q_v (zaA (hr:=e1)) ?_|refine q_k 5 ?_;refine q_v (zS (hr:=e5)) ?_|refine q_k 7 ?_;refine q_v (za (hc:=q_c c7)) ?_;refine q_x (zam (hr:=kc)) ?_|refine q_k 8 ?_;refine q_x (zeD (hr:=k1)) ?_|refine q_k 9 ?_;refine q_x (zcl (hr:=k2)) ?_|refine q_k 10 ?_;refine q_x (zn2 (hr:=k3)) ?_|refine q_k 11 ?_;refine q_x (zeD (hr:=k4)) ?_;refine q_v (zK (hr:=k5)) ?_;refine q_v (zcl (hr:=k6)) ?_;refine q_x (zj3 (hr:=k7)) ?_|refine q_k 12 ?_;refine q_x (zeD (hr:=k8)) ?_|refine q_k 13 ?_;refine q_x (zcl (hr:=k9)) ?_|refine q_k 14 ?_;refine q_x (zn2 (hr:=h3)) ?_|refine q_k 15 ?_;refine q_x (zbz (hb:=kv) (hr:=h4)) ?_|refine q_k 16 ?_;refine q_v (zaM (hr:=h5)) ?_;refine q_x (zK (hr:=h6)) ?_)
 refine zcu (γ:=Unit) (λ_=>[(2,nv V),(6,.int .u64 0),(7,.int .u64 0),(8,.int .u64 s),(9,nv j),(10,nv v0),(11,nv X),(13,nv E),(14,nv u0),(15,nv T)]) (λ_=>[]) (λ_=>True) ?_ ?_
 ·repeat' (first|refine zeJ ?_|fail)
  refine zL (γ:=Nat×Nat) (λg=>[(2,nv V),(6,.int .u64 0),(7,.int .u64 0),(8,.int .u64 s),(9,nv j),(10,nv v0),(11,nv X),(13,nv E),(14,nv u0),(15,nv g.1),(16,nv g.2)]) (λ_=>[]) (λg=>Est 4294967296 X E j v0 g.1 g.2/\g.2<4294967296) (λg=>g.1) (X/j,X%j) ⟨GB _ _ _ _ _ J b9,by have:=AC X J;omega⟩ ?_ ?_ ?_
  ·exact q_h
  ·exact q_h
  rintro⟨q,r⟩ ⟨U,hr⟩;dsimp only at U hr ⊢;have c8:=zsk U.eq (by rw[<-G];exact hX) q_o I q_e;repeat refine zdf ?_
  refine zcu (γ:=Bool) (λg=>[(2,nv V),(6,.int .u64 0),(7,.int .u64 0),(8,.int .u64 s),(9,nv j),(10,nv v0),(11,nv X),(13,nv E),(14,nv u0),(15,nv q),(16,nv r),(78,.bool g)]) (λ_=>[]) (λg=>(g=true->X*4294967296+E<q*(j*4294967296+v0))/\(g=false->q<4294967296/\q*(j*4294967296+v0)<=X*4294967296+E)) ?_ ?_
  ·by_cases hq:4294967296<=q
   ·have A:decide ((4294967296:Int)<=(q:Int))=true:=q_d;repeat' (first|refine zap ?_|refine zao ?_|refine q_k 17 ?_;refine q_x (zO (hr:=A)) ?_)
    exact zaj true ⟨λ_=>zhh (by rw[<-G];exact hX) b9 hq,λh=>absurd h q_e⟩ q_h q_h
   ·have A:decide ((4294967296:Int)<=(q:Int))=false:=q_f;have hm:=Lib.half_mul_le (a:=q) (b:=v0) q_o q_o;have m1:IntKind.u64.wrap ((q:Int)*(v0:Int))=((q*v0:Nat):Int):=zg4 (A9 q_o);have m2:IntKind.u64.wrap ((4294967296:Int)*(r:Int))=((r*4294967296:Nat):Int):=by rw[Int.mul_comm];exact zg4 (b:=4294967296) (A9 q_o)
    have m3:IntKind.u64.wrap (((r*4294967296:Nat):Int)+(E:Int))=((r*4294967296+E:Nat):Int):=zkZ (A9 q_o);by_cases hb:r*4294967296+E<q*v0
    ·have R:decide (((r*4294967296+E:Nat):Int)<((q*v0:Nat):Int))=true:=decide_eq_true (EK.2 hb);repeat' (first|refine zap ?_|refine zao ?_|refine q_k 17 ?_;refine q_x (zO (hr:=A)) ?_;refine q_x (zaM (hr:=m1)) ?_;refine q_x (zaM (hr:=m2)) ?_;refine q_v (zD (hr:=m3)) ?_;refine q_x (zH (hr:=R)) ?_)
     exact zaj true ⟨λ_=>zl5 U.eq hb,λh=>absurd h q_e⟩ q_h q_h
    ·have R:decide (((r*4294967296+E:Nat):Int)<((q*v0:Nat):Int))=false:=decide_eq_false (λh=>hb (EK.1 h));repeat' (first|refine zap ?_|refine zao ?_|refine q_k 17 ?_;refine q_x (zO (hr:=A)) ?_;refine q_x (zaM (hr:=m1)) ?_;refine q_x (zaM (hr:=m2)) ?_;refine q_v (zD (hr:=m3)) ?_;refine q_x (zH (hr:=R)) ?_)
     exact zaj false ⟨λh=>absurd h q_e,λ_=>⟨by omega,zeS U.eq q_o⟩⟩ q_h q_h
  rintro t ⟨ht,hf⟩;cases t with
  |false=>
   obtain⟨h1,h2⟩:=hf rfl;have B:=U.up;rw[<-G] at h2 B;obtain⟨S,-⟩:=zgW _ _ _ h2 B;repeat' (first|refine s_0 ?_|fail)
   refine zaj () trivial ?_ q_h;rw[<-a8,S];exact q_h
  |true=>
   have ht:=ht rfl;obtain⟨e8,hN⟩:=zkR U.eq ht;have K:IntKind.u64.wrap ((q:Int)-1)=((q-1:Nat):Int):=by rw[IntWalk.u64_in _ q_o];omega
   have O:IntKind.u64.wrap ((r:Int)+(j:Int))=((r+j:Nat):Int):=zkZ (A9 q_o);by_cases hrb:4294967296<=r+j
   ·have A:decide ((4294967296:Int)<=((r+j:Nat):Int))=true:=q_d;have b7:=zom hN.eq (by rw[<-G];exact hX) I hrb;have h2:=zeS hN.eq (zis (u0:=E) I (BT b7) hrb);have B:=hN.up;rw[<-G] at h2 B;obtain⟨S,-⟩:=zgW _ _ _ h2 B;repeat' (first|refine s_t ?_|refine q_k 18 ?_;refine q_x (zK (hr:=K)) ?_|refine q_k 19 ?_;refine q_x (zD (hr:=O)) ?_|refine q_k 20 ?_;refine q_v (zO (hr:=A)) ?_)
    refine zaj () trivial ?_ q_h;rw[<-a8,S];exact q_h
   ·have A:decide ((4294967296:Int)<=((r+j:Nat):Int))=false:=q_f;repeat' (first|refine s_t ?_|refine q_k 18 ?_;refine q_x (zK (hr:=K)) ?_|refine q_k 19 ?_;refine q_x (zD (hr:=O)) ?_|refine q_k 20 ?_;refine q_v (zO (hr:=A)) ?_)
    refine zC (q-1,r+j) ⟨hN,by show r+j<4294967296;omega⟩ ?_ ?_ ?_
    ·show q-1<q;omega
    ·exact q_h
    ·exact q_h
 rintro - -;have h7:IntKind.u64.wrap ((X:Int)*(4294967296:Int))=((X*4294967296%18446744073709551616:Nat):Int):=zg4 (b:=4294967296) rfl;have h8:IntKind.u64.wrap (((X*4294967296%18446744073709551616:Nat):Int)+(E:Int))=(((X*4294967296+E)%18446744073709551616:Nat):Int):=zkZ q_o;have h9:IntKind.u64.wrap ((T:Int)*(V:Int))=((T*V%18446744073709551616:Nat):Int):=zg4 rfl;have i5:IntKind.u64.wrap ((((X*4294967296+E)%18446744073709551616:Nat):Int)-((T*V%18446744073709551616:Nat):Int))=((Y:Nat):Int):=zr6 q_o (zwC c2.symm c1);have i7:IntKind.u64.wrap ((Y:Int).tdiv (j:Int))=((Y/j:Nat):Int):=zzD c1 rfl;have c4:=Ad Y j;have j8:=AC Y J;rw[AM] at c4;have i8:IntKind.u64.wrap (((Y/j:Nat):Int)*(j:Int))=((Y/j*j:Nat):Int):=zg4 (A9 q_o);have i9:IntKind.u64.wrap ((Y:Int)-((Y/j*j:Nat):Int))=((Y%j:Nat):Int):=zr6 q_o q_o;repeat' (first|refine s_0 ?_|refine q_k 21 ?_;refine q_x (zaM (hr:=h7)) ?_;refine q_x (zD (hr:=h8)) ?_;refine q_v (zaM (hr:=h9)) ?_;refine q_x (zK (hr:=i5)) ?_|refine q_k 22 ?_;refine q_x (zbz (hb:=kv) (hr:=i7)) ?_|refine q_k 23 ?_;refine q_v (zaM (hr:=i8)) ?_;refine q_x (zK (hr:=i9)) ?_)
 refine zcu (γ:=Unit) (λ_=>[(2,nv V),(6,.int .u64 0),(7,.int .u64 0),(8,.int .u64 s),(9,nv j),(10,nv v0),(14,nv u0),(15,nv T),(17,nv Y),(18,nv qb)]) (λ_=>[]) (λ_=>True) ?_ ?_
 ·repeat' (first|refine zeJ ?_|fail)
  refine zL (γ:=Nat×Nat) (λg=>[(2,nv V),(6,.int .u64 0),(7,.int .u64 0),(8,.int .u64 s),(9,nv j),(10,nv v0),(14,nv u0),(15,nv T),(17,nv Y),(18,nv g.1),(16,nv g.2)]) (λ_=>[]) (λg=>Est 4294967296 Y u0 j v0 g.1 g.2/\g.2<4294967296) (λg=>g.1) (Y/j,Y%j) ⟨GB _ _ _ _ _ J b8,by have:=AC Y J;omega⟩ ?_ ?_ ?_
  ·exact q_h
  ·exact q_h
  rintro⟨q,r⟩ ⟨U,hr⟩;dsimp only at U hr ⊢;have c8:=zsk U.eq (by rw[<-G];exact hY) q_o I q_e;repeat refine zdf ?_
  refine zcu (γ:=Bool) (λg=>[(2,nv V),(6,.int .u64 0),(7,.int .u64 0),(8,.int .u64 s),(9,nv j),(10,nv v0),(14,nv u0),(15,nv T),(17,nv Y),(18,nv q),(16,nv r),(113,.bool g)]) (λ_=>[]) (λg=>(g=true->Y*4294967296+u0<q*(j*4294967296+v0))/\(g=false->q<4294967296/\q*(j*4294967296+v0)<=Y*4294967296+u0)) ?_ ?_
  ·by_cases hq:4294967296<=q
   ·have A:decide ((4294967296:Int)<=(q:Int))=true:=q_d;repeat' (first|refine zap ?_|refine zao ?_|refine q_k 24 ?_;refine q_x (zO (hr:=A)) ?_)
    exact zaj true ⟨λ_=>zhh (by rw[<-G];exact hY) b8 hq,λh=>absurd h q_e⟩ q_h q_h
   ·have A:decide ((4294967296:Int)<=(q:Int))=false:=q_f;have hm:=Lib.half_mul_le (a:=q) (b:=v0) q_o q_o;have m1:IntKind.u64.wrap ((q:Int)*(v0:Int))=((q*v0:Nat):Int):=zg4 (A9 q_o);have m2:IntKind.u64.wrap ((4294967296:Int)*(r:Int))=((r*4294967296:Nat):Int):=by rw[Int.mul_comm];exact zg4 (b:=4294967296) (A9 q_o)
    have m3:IntKind.u64.wrap (((r*4294967296:Nat):Int)+(u0:Int))=((r*4294967296+u0:Nat):Int):=zkZ (A9 q_o);by_cases hb:r*4294967296+u0<q*v0
    ·have R:decide (((r*4294967296+u0:Nat):Int)<((q*v0:Nat):Int))=true:=decide_eq_true (EK.2 hb);repeat' (first|refine zap ?_|refine zao ?_|refine q_k 24 ?_;refine q_x (zO (hr:=A)) ?_;refine q_x (zaM (hr:=m1)) ?_;refine q_x (zaM (hr:=m2)) ?_;refine q_v (zD (hr:=m3)) ?_;refine q_x (zH (hr:=R)) ?_)
     exact zaj true ⟨λ_=>zl5 U.eq hb,λh=>absurd h q_e⟩ q_h q_h
    ·have R:decide (((r*4294967296+u0:Nat):Int)<((q*v0:Nat):Int))=false:=decide_eq_false (λh=>hb (EK.1 h));repeat' (first|refine zap ?_|refine zao ?_|refine q_k 24 ?_;refine q_x (zO (hr:=A)) ?_;refine q_x (zaM (hr:=m1)) ?_;refine q_x (zaM (hr:=m2)) ?_;refine q_v (zD (hr:=m3)) ?_;refine q_x (zH (hr:=R)) ?_)
     exact zaj false ⟨λh=>absurd h q_e,λ_=>⟨by omega,zeS U.eq q_o⟩⟩ q_h q_h
  rintro t ⟨ht,hf⟩;cases t with
  |false=>
   obtain⟨h1,h2⟩:=hf rfl;have B:=U.up;rw[<-G] at h2 B;obtain⟨S,-⟩:=zgW _ _ _ h2 B;repeat' (first|refine s_0 ?_|fail)
   refine zaj () trivial ?_ q_h;rw[<-a9,S];exact q_h
  |true=>
   have ht:=ht rfl;obtain⟨e8,hN⟩:=zkR U.eq ht;have K:IntKind.u64.wrap ((q:Int)-1)=((q-1:Nat):Int):=by rw[IntWalk.u64_in _ q_o];omega
   have O:IntKind.u64.wrap ((r:Int)+(j:Int))=((r+j:Nat):Int):=zkZ (A9 q_o);by_cases hrb:4294967296<=r+j
   ·have A:decide ((4294967296:Int)<=((r+j:Nat):Int))=true:=q_d;have b7:=zom hN.eq (by rw[<-G];exact hY) I hrb;have h2:=zeS hN.eq (zis (u0:=u0) I (BT b7) hrb);have B:=hN.up;rw[<-G] at h2 B;obtain⟨S,-⟩:=zgW _ _ _ h2 B;repeat' (first|refine s_t ?_|refine q_k 25 ?_;refine q_x (zK (hr:=K)) ?_|refine q_k 26 ?_;refine q_x (zD (hr:=O)) ?_|refine q_k 27 ?_;refine q_v (zO (hr:=A)) ?_)
    refine zaj () trivial ?_ q_h;rw[<-a9,S];exact q_h
   ·have A:decide ((4294967296:Int)<=((r+j:Nat):Int))=false:=q_f;repeat' (first|refine s_t ?_|refine q_k 25 ?_;refine q_x (zK (hr:=K)) ?_|refine q_k 26 ?_;refine q_x (zD (hr:=O)) ?_|refine q_k 27 ?_;refine q_v (zO (hr:=A)) ?_)
    refine zC (q-1,r+j) ⟨hN,by show r+j<4294967296;omega⟩ ?_ ?_ ?_
    ·show q-1<q;omega
    ·exact q_h
    ·exact q_h
 rintro - -;have j0:IntKind.u64.wrap ((T:Int)*(4294967296:Int))=((T*4294967296:Nat):Int):=zg4 (b:=4294967296) (A9 q_o);have j1:IntKind.u64.wrap (((T*4294967296:Nat):Int)+(qb:Int))=((T*4294967296+qb:Nat):Int):=zkZ (A9 q_o);have j2:IntKind.u64.wrap ((Y:Int)*(4294967296:Int))=((Y*4294967296%18446744073709551616:Nat):Int):=zg4 (b:=4294967296) rfl;have j3:IntKind.u64.wrap (((Y*4294967296%18446744073709551616:Nat):Int)+(u0:Int))=(((Y*4294967296+u0)%18446744073709551616:Nat):Int):=zkZ q_o;have j4:IntKind.u64.wrap ((qb:Int)*(V:Int))=((qb*V%18446744073709551616:Nat):Int):=zg4 rfl;have j5:IntKind.u64.wrap ((((Y*4294967296+u0)%18446744073709551616:Nat):Int)-((qb*V%18446744073709551616:Nat):Int))=((Z:Nat):Int):=zr6 q_o (zwC c3.symm q_o);have j6:Op.shift .shr .u64 (Z:Int) .u64 (s:Int)=pure (.int .u64 (((W*18446744073709551616+lo)%y:Nat):Int)):=by
  rw[zpr Z s .u64 q_o,f2,Ci _ b1]
 repeat' (first|refine s_0 ?_|refine q_k 28 ?_;refine q_x (zaM (hr:=j0)) ?_;refine q_x (zD (hr:=j1)) ?_;refine q_x (zaM (hr:=j2)) ?_;refine q_x (zD (hr:=j3)) ?_;refine q_v (zaM (hr:=j4)) ?_;refine q_x (zK (hr:=j5)) ?_;refine q_x (zcl (hr:=j6)) ?_)
 exact zU rfl (zh rfl) (zh rfl) Ev ⟨by rw[f1];rfl,rfl⟩
end Go.Proofs.YtdnlngbjpdbffaaGreatDoor
namespace Go.Sy
open Go
variable {P:Program}{ro:Option Nat}{N:Nat}{w0:World}{M:Nat->Prop}{ds:List Deferred}{ops:Array Oper}{Q:Exit->Act->World->Prop}{C:List (List Nat)}{L0:List Res}{k i n:Nat}{o:Oper}{rest:List Oper}{F:Env->Fr}{rs:List (Nat×(Env->Value->List Res->Prop))}
theorem dcn(m:∀ρ,zbo (cl C i) rs ρ->OpT P ro N w0 M ds o (only (o.looksAt ops) (get (F ρ))) (zaq (cl C i) rs ρ L0) (Det undef (zaq (cl C i) rs ρ L0)))(q:∀ρ,zak ops o (only (o.looksAt ops) (get (F ρ)))=some true:=by exact λ_=>rfl)(j:o.dst=none:=by exact rfl)
  (k:DH P ro N w0 M ds ops Q C L0 n (i+1) rest F rs):DH P ro N w0 M ds ops Q C L0 (n+1) i (o::rest) F rs:=
 .inl ⟨λ_=>undef,λ_ _ _=>rfl,λρ r=> .inl ⟨q ρ,m ρ r⟩,by rw[j];exact k⟩
end Go.Sy
