/- Lemmas of this proof. -/
import Derived.Test.YtdnlngbjpdbffaaGreatDoorWJ36
set_option maxHeartbeats 1000000
set_option maxRecDepth 10000
set_option linter.all false
namespace Go.Ct
open Go Go.Sy
theorem zzZ(v:Int)(j:IntKind):Op.shift .shl .i64 v j 8=pure (.int .i64 (IntKind.i64.wrap (v*256))):=by
 simp[Op.shift,IntKind.bits]
theorem zmO{n:Nat}(h:n<9223372036854775808):w64 n=(n:Int):=by
 unfold w64;rw[A7 q_o,if_pos h]
theorem zwd{v:Nat}(h:v<72057594037927936):∃u:Int,-36028797018963968<=u/\u<36028797018963968/\IntKind.i64.wrap ((v:Int)*256)=u*256/\∀c<256,w64 (v*256+c)=u*256+(c:Int):=by
 by_cases hv:v<36028797018963968
 ·refine⟨v,by omega,by omega,IntWalk.i64_in _ q_o,λc j=>?_⟩;rw[zmO q_o];omega
 ·refine⟨(v:Int)-72057594037927936,by omega,by omega,?_,λc j=>?_⟩
  ·simp only[IntKind.wrap,IntKind.bits,IntKind.signed];simp;omega
  ·unfold w64;rw[A7 q_o,if_neg q_o];omega
theorem zgL(l:List UInt8)(i:Nat):zau (l.take i)<256^i:=by
 have j:=zfq (l.take i);have m:(l.take i).length<=i:=by rw[AR];omega
 exact AI j (AB q_e m)
end Go.Ct
namespace Go.Proofs.YtdnlngbjpdbffaaGreatDoor
open Go Go.Sy Go.Ct Go.RowKit
attribute [local irreducible] Sy SyL SyX SyC SyF SyG SyH Sy.Fn Sy.FnP callFunc
theorem zft(s:Bs)(w:World)(O:s.ok w)(hb:s.n<1000000):q_G 97 [s.val] w (.int .i64 (zcj s.l)):=by
 refine zt Tryz.func97 Tryz.ntmps97 ?_;have hv:s.val= .slice s.a s.n s.c:=rfl;have hc:=λP (V:Keep No w P)=>zdH s P (O.keep V) q_o;rw[hv] at hc ⊢;unfold zd0 at hc;repeat' (first|refine s_0 ?_|refine q_k 0 ?_|refine q_k 1 ?_;(refine q_s (zi (hc:=zu hc)) ?_;rintro _ _ ⟨R,rfl,s1,rfl,J,q,W,rfl⟩);refine zb ?_)
 have B:=q w O;have N:=B.len;have L:s1.val= .slice s1.a s1.n s1.c:=rfl;unfold zcj;rw[<-J,L];have X:∀i,i<=7->zau (s1.l.take i)<72057594037927936:=λi C=>by
  have H:=zgL s1.l i;have Q:=AB (show 0<256 by decide) C;have S:256^7=72057594037927936:=by decide
  omega
 have I:∀i,i<=6->zau (s1.l.take i)<281474976710656:=λi C=>by
  have H:=zgL s1.l i;have Q:=AB (show 0<256 by decide) C;have S:256^6=281474976710656:=by decide
  omega
 repeat' (first|refine s_t ?_|refine zD [2,3] ?_;refine zb ?_)
 refine zN (γ:=Nat) (λi=>[(3,.slice s1.a s1.n s1.c),(4,.int .i64 ((zau (s1.l.take i):Nat):Int)),(5,.int .i64 (i:Int))]) (λ_=>[]) (λi=>i<=7/\i<=s1.n) (λi=>7-i) 0 ⟨by decide,A9 _⟩ ?_ ?_ ?_
 ·exact q_h
 ·exact q_h
 rintro i ⟨U,C⟩;by_cases hlt:i<s1.n/\i<7
 ·have g1:decide ((i:Int)<(s1.n:Int))=true:=q_d;have g2:decide ((i:Int)<7)=true:=q_d;obtain⟨b,o,M,m⟩:=zb2 B.sla (i:=i) (by rw[A0];omega);have r:w.cell? ⟨b,o+i,none⟩=some (.int .u8 ((s1.l[i]'q_o).toNat:Int)):=m i _ (zcM v8 q_o);rw[M];have H:=I i q_o;have K:=zga s1.l i q_o;have T:=(s1.l[i]'q_o).toNat_lt;generalize (s1.l[i]'q_o).toNat=x at*;have g9:IntKind.i64.wrap (256*((zau (s1.l.take i):Nat):Int))=256*((zau (s1.l.take i):Nat):Int):=IntWalk.i64_in _ q_o;have E:IntKind.i64.wrap (x:Int)=(x:Int):=IntWalk.i64_in _ q_o;have F:IntKind.i64.wrap (256*((zau (s1.l.take i):Nat):Int)+(x:Int))=((zau (s1.l.take (i+1)):Nat):Int):=by rw[IntWalk.i64_in _ q_o,K];omega
  have G:IntKind.i64.wrap ((i:Int)+1)=((i+1:Nat):Int):=q_w;repeat' (first|refine s_t ?_|refine q_k 4 ?_;refine q_x (zo (hr:=g1)) ?_;refine q_x (zo (hr:=g2)) ?_|refine q_k 6 ?_;refine q_x (zaJ (hr:=g9)) ?_;refine q_v (zq (j:=i)) ?_;refine q_v (zn (hv:=r)) ?_;refine q_v (zam (hr:=E)) ?_;refine q_x (zF (hr:=F)) ?_|refine q_k 5 ?_;refine q_x (zF (hr:=G)) ?_)
  refine zE (i+1) ⟨by omega,by omega⟩ ?_ ?_ ?_
  ·show 7-(i+1)<7-i;omega
  ·rw[<-M];exact q_h
  ·exact q_h
 have A:s1.l.take i=s1.l.take 7:=by
  rcases(show i=s1.n\/i=7 by omega) with h|h
  ·rw[A8 q_o,A8 q_o]
  ·rw[h]
 rw[A];by_cases H:i<s1.n
 ·have g1:decide ((i:Int)<(s1.n:Int))=true:=q_d;have g2:decide ((i:Int)<7)=false:=q_f;repeat' (first|refine s_0 ?_|refine q_k 4 ?_;refine q_x (zo (hr:=g1)) ?_;refine q_x (zo (hr:=g2)) ?_|refine q_k 7 ?_)
  exact q_r
 ·have g1:decide ((i:Int)<(s1.n:Int))=false:=q_f;repeat' (first|refine s_0 ?_|refine q_k 4 ?_;refine q_x (zo (hr:=g1)) ?_|refine q_k 7 ?_)
  exact q_r
theorem zl7(s:Bs)(w:World)(Q:s.ok w)(hb:s.n<1000000):q_G 95 [s.val] w (.int .i64 (zfn s.l)):=by
 refine zt Tryz.func95 Tryz.ntmps95 ?_;have hv:s.val= .slice s.a s.n s.c:=rfl;have hc:=λS (W:Keep No w S)=>zdH s S (Q.keep W) q_o;rw[hv] at hc ⊢;unfold zd0 at hc;repeat' (first|refine s_0 ?_|refine q_k 0 ?_|refine q_k 1 ?_;(refine q_s (zi (hc:=zu hc)) ?_;rintro _ _ ⟨R,rfl,s1,rfl,I,q,X,rfl⟩);refine zb ?_)
 have C:=q w Q;have P:=C.len;have M:s1.val= .slice s1.a s1.n s1.c:=rfl;unfold zfn;rw[<-I,M];have T:∀i,i<=7->zau (s1.l.take i)<72057594037927936:=λi O=>by
  have H:=zgL s1.l i;have h2:=AB (show 0<256 by decide) O;have h3:256^7=72057594037927936:=by decide
  omega
 repeat' (first|refine s_t ?_|refine zD [2,3] ?_;refine zb ?_)
 refine zN (γ:=Nat) (λi=>[(3,.slice s1.a s1.n s1.c),(4,.int .i64 (w64 (zau (s1.l.take i)))),(5,.int .i64 (i:Int))]) (λ_=>[]) (λi=>i<=8/\i<=s1.n) (λi=>8-i) 0 ⟨by decide,A9 _⟩ ?_ ?_ ?_
 ·exact q_h
 ·exact q_h
 rintro i ⟨V,O⟩;by_cases hlt:i<s1.n/\i<8
 ·have g1:decide ((i:Int)<(s1.n:Int))=true:=q_d;have g2:decide ((i:Int)<8)=true:=q_d;obtain⟨b,o,N,m⟩:=zb2 C.sla (i:=i) (by rw[A0];omega);have A:w.cell? ⟨b,o+i,none⟩=some (.int .u8 ((s1.l[i]'q_o).toNat:Int)):=m i _ (zcM v8 q_o);rw[N];have H:=T i q_o;have J:=zga s1.l i q_o;have U:=(s1.l[i]'q_o).toNat_lt;generalize (s1.l[i]'q_o).toNat=x at*;obtain⟨u,Y,Z,K,L⟩:=zwd H;have E:=L x q_o;rw[<-J] at E;rw[zmO (show zau (s1.l.take i)<9223372036854775808 by omega)];have g9:=zzZ ((zau (s1.l.take i):Nat):Int) .u64;rw[K] at g9;have F:IntKind.i64.wrap (x:Int)=(x:Int):=IntWalk.i64_in _ q_o;have r:=zk4 u x q_o q_o q_o;rw[<-E] at r;have G:IntKind.i64.wrap ((i:Int)+1)=((i+1:Nat):Int):=q_w;repeat' (first|refine s_t ?_|refine q_k 4 ?_;refine q_x (zo (hr:=g1)) ?_;refine q_x (zo (hr:=g2)) ?_|refine q_k 6 ?_;refine q_x (zew (hr:=g9)) ?_;refine q_v (zq (j:=i)) ?_;refine q_v (zn (hv:=A)) ?_;refine q_v (zam (hr:=F)) ?_;refine q_x (zjx (hr:=r)) ?_|refine q_k 5 ?_;refine q_x (zF (hr:=G)) ?_)
  refine zE (i+1) ⟨by omega,by omega⟩ ?_ ?_ ?_
  ·show 8-(i+1)<8-i;omega
  ·rw[<-N];exact q_h
  ·exact q_h
 have B:s1.l.take i=s1.l.take 8:=by
  rcases(show i=s1.n\/i=8 by omega) with h|h
  ·rw[A8 q_o,A8 q_o]
  ·rw[h]
 rw[B];by_cases H:i<s1.n
 ·have g1:decide ((i:Int)<(s1.n:Int))=true:=q_d;have g2:decide ((i:Int)<8)=false:=q_f;repeat' (first|refine s_0 ?_|refine q_k 4 ?_;refine q_x (zo (hr:=g1)) ?_;refine q_x (zo (hr:=g2)) ?_|refine q_k 7 ?_)
  exact q_r
 ·have g1:decide ((i:Int)<(s1.n:Int))=false:=q_f;repeat' (first|refine s_0 ?_|refine q_k 4 ?_;refine q_x (zo (hr:=g1)) ?_|refine q_k 7 ?_)
  exact q_r
theorem zii(s:Bs)(w:World)(C:s.ok w)(hb:s.n<1000000):Sy.Fn Tryz.prog 98 [s.val] w No (zbi (zaL s.l)):=by
 refine zt Tryz.func98 Tryz.ntmps98 ?_;have I:s.val= .slice s.a s.n s.c:=rfl;have hc:=λF (G:Keep No w F)=>zdH s F (C.keep G) q_o;rw[I] at hc ⊢;unfold zd0 at hc;repeat' (first|refine s_0 ?_|refine q_k 0 ?_|refine zf 1 ?_;(refine q_s zfr ?_;rintro _ _ ⟨_,rfl,rfl⟩);refine zb ?_;(refine q_s (zi (hc:=zu hc)) ?_;rintro _ _ ⟨R,rfl,s1,rfl,r,q,H,rfl⟩))
 have m:=q w C;have j:=m.len;have E:=m.sla;have B:=m.nil;have A:s1.val= .slice s1.a s1.n s1.c:=rfl;rw[<-r,A];repeat' (first|refine s_0 ?_|(refine zy ?_;first|refine zw ?_|refine q_s zb4 ?_;rintro _ _ ⟨rfl,_,_,rfl⟩|fail)|fail)
 exact zap rfl (zh rfl) Ex ⟨_,_,by rw[j],by rw[j]⟩
def zhM(p:Prin)(v:Value)(R:List Res):Prop:=∃a k,v= .agg #[.slice a p.parts.length k,zT p.realm]/\R= [.row (.slice a p.parts.length k) 9 1 p.parts.length (p.parts.map zT)]
theorem zhZ(s:Bs)(w:World)(hs:s.ok w)(hb:s.n<1000000):Sy.Fn Tryz.prog 96 [s.val] w No (zhM (zdu s.l)):=by
 refine zt Tryz.func96 Tryz.ntmps96 ?_;have hv:s.val= .slice s.a s.n s.c:=rfl;have K:=λq (A:Keep No w q)=>zgJ s 0 q (hs.keep A) hb q_e;have L:=λq (A:Keep No w q)=>zgJ s 1 q (hs.keep A) hb q_e;rw[hv] at K L ⊢;unfold zd0 at K L;unfold zhM zdu;repeat' (first|refine s_0 ?_|refine zf 0 ?_;refine zj ?_;intro _|refine zf 1 ?_;refine zj ?_;intro _)
 rename_i b2 b3;repeat' (first|refine q_k 2 ?_;(refine q_s (zi (hc:=zu K)) ?_;rintro _ _ ⟨R,rfl,s1,rfl,a6,M,c8,rfl⟩))
 have T:=M w hs;have G:=λq (A:Keep No w q)=>zdH s1 q (T.keep A) q_o;unfold zd0 at G;have b7:s1.val= .slice s1.a s1.n s1.c:=rfl;rw[b7] at G ⊢;repeat' (first|(refine zy ?_;first|refine q_s (zi (hc:=zu G)) ?_;rintro _ _ ⟨R,rfl,s2,rfl,a7,N,c9,rfl⟩|fail)|fail)
 have U:=N w T;have he:=λq (A:Keep No w q)=>zmE s2 q (U.keep A) q_o;unfold zvL at he;have b8:s2.val= .slice s2.a s2.n s2.c:=rfl;rw[b8] at he ⊢;repeat' (first|refine s_t ?_|refine q_k 3 ?_|(refine zy ?_;first|refine q_s (zi (hc:=zu he)) ?_;rintro _ _ ⟨R,rfl,aE,cE,xs,rfl,rfl,c4,e3,c7⟩|refine zw ?_|fail)|fail)
 have b1:(zb5 (zaL (item s.l 0))).map zaL=xs.map (λx=>zaL x.l):=by rw[<-a6,<-a7,<-c4,D8];rfl
 rw[b1];obtain⟨m,hm⟩:∃m,m=xs.length:=⟨_,rfl⟩;rw[<-hm];refine zgX (a:=aE) (cp:=cE) (E:=23) (s:=1) (n:=m) (xs:=xs.map Bs.val) (by exact Es) λr hr=>?_;refine zbz (za3 9 1) ?_;refine zN (γ:=Nat×Option Addr×Nat) (λg=>[(0,.slice s.a s.n s.c),(2,.pointer (some ⟨b2,0,none⟩)),(3,.pointer (some ⟨b3,0,none⟩)),(4,.slice aE m cE),(5,.int .i64 (g.1:Int))])
  (λg=>[.row (.slice g.2.1 g.1 g.2.2) 9 1 g.1 (((xs.map (λx=>zaL x.l)).take g.1).map zT),r,.blk b3 43 [.slice g.2.1 g.1 g.2.2,.string ByteArray.empty],.blk b2 43 [.slice none 0 0,.string ByteArray.empty]])
  (λg=>g.1<=m) (λg=>m-g.1) (0,none,0) (A9 _) ?_ ?_ ?_
 ·exact q_h
 ·exact q_h
 rintro⟨i,Z,cP⟩ hi;dsimp only at hi ⊢;by_cases hlt:i<m
 ·have g1:decide ((i:Int)<(m:Int))=true:=q_d;have g5:IntKind.i64.wrap ((i:Int)+1)=((i+1:Nat):Int):=q_w;obtain⟨x,hx⟩:∃x,x=xs[i]'q_o:=⟨_,rfl⟩;have c5:x∈xs:=by rw[hx];exact Ad _
  obtain⟨c6,e1,e2⟩:=c7 x c5;have F:=c6 w U;obtain⟨bE,J,rfl,rfl⟩:=hr q_o;have c3:(xs.map Bs.val++J)[0+i]?=some (.slice x.a x.n x.c):=by rw[AZ,BO (by rw[A0];omega),AY,A1 q_o,<-hx];rfl
  have I:=λq (A:Keep No w q)=>zdH x q (F.keep A) q_o;unfold zd0 at I;have c2:x.val= .slice x.a x.n x.c:=rfl;rw[c2] at I;have b6:(xs.map (λx=>zaL x.l)).take (i+1)=(xs.map (λx=>zaL x.l)).take i++[zaL x.l]:=by rw[zaO (by rw[A0];omega),EE,<-hx]
  repeat' (first|refine s_t ?_|refine q_k 4 ?_;refine q_v (zo (hr:=g1)) ?_)
  (refine zdy (id:=6) [0] true [] [0,1,2,3,4,5] [(6,[]),(7,[]),(8,[]),(9,[10]),(11,[])] mixed q_h ?_ ?_;kernel_rfl;refine ygv zM (k:=?_);refine ygv zL (k:=?_);refine ygv zZ (k:=?_);refine ygv zZ (k:=?_);refine ygv (zq (j:=i)) (k:=?_);refine ygv (zL (hv:=c3)) (k:=?_);refine yg0 ?_;try refine yg0 ?_;try refine yg0 ?_;try refine yg0 ?_;try refine yg0 ?_;try refine zin ?_)
  refine yhs (zi (hc:=zu I)) (k:=?_);rintro _ _ ⟨R,rfl,S,rfl,a8,O,d8,rfl⟩;refine yg0 ?_;have V:=O w F;have hys:((xs.map (λx=>zaL x.l)).take i).map zT++[.string (str S.l)]=((xs.map (λx=>zaL x.l)).take (i+1)).map zT:=by rw[b6,Aq,a8];rfl
  have b9:S.val= .slice S.a S.n S.c:=rfl;rw[b9];refine yhv (zch (l:=S.l) (hr:=FM V.sla (λ_ _ h=>h)) (hn:=V.len)) (k:=?_);refine yg0 ?_;refine yhs zz (k:=?_);rintro _ _ ⟨bL,rfl,rfl⟩;refine yg0 ?_;refine yhs (zaE (hys:=hys) (hkm:=rfl)) (k:=?_);rintro _ _ ⟨rfl,aN,cN,rfl⟩;refine ygv zM (k:=?_);refine yg0 ?_;refine yhn (zaM (v:=.slice aN (i+1) cN) (hC:=⟨A5 rfl,rfl⟩)) (k:=?_);refine zin ?_;repeat' (first|refine s_0 ?_|refine q_k 5 ?_;refine q_x (zF (hr:=g5)) ?_)
  refine zE (i+1,aN,cN) hlt ?_ ?_ ?_
  ·show m-(i+1)<m-i;omega
  ·exact q_h
  ·exact q_h
 obtain rfl:i=m:=q_o;rw[A8 (by rw[A0];omega)];have g1:decide ((i:Int)<(i:Int))=false:=q_f;repeat' (first|refine s_0 ?_|refine q_k 4 ?_;refine q_v (zo (hr:=g1)) ?_|refine q_k 7 ?_;(refine q_s (zi (hc:=zu L)) ?_;rintro _ _ ⟨R,rfl,Y,rfl,a9,P,d9,rfl⟩))
 have W:=P w hs;have H:=λq (A:Keep No w q)=>zdH Y q (W.keep A) q_o;unfold zd0 at H;have c0:Y.val= .slice Y.a Y.n Y.c:=rfl;rw[c0] at H ⊢;repeat' (first|(refine zy ?_;first|refine q_s (zi (hc:=zu H)) ?_;rintro _ _ ⟨R,rfl,C,rfl,b0,Q,e0,rfl⟩|fail)|fail)
 have X:=Q w W;have c1:C.val= .slice C.a C.n C.c:=rfl;rw[c1];have b5:zaL (item s.l 1)=C.l:=by rw[b0,a9]
 rw[b5];unfold zT;repeat' (first|refine s_0 ?_|refine zf 8 ?_;refine q_v (ze (B:=[.slice Z i cP,.string (str C.l)]) (hv:=Et)) ?_;refine q_n (zC (B:=[.slice Z i cP,.string (str C.l)]) (h1:=rfl)) ?_|(refine zy ?_;first|refine q_v (zch (l:=C.l) (hr:=FM X.sla (λ_ _ h=>h)) (hn:=X.len)) ?_|refine q_n (zaM (v:=.string (str C.l)) (hC:=⟨A5 rfl,rfl⟩)) ?_|refine za2 ?_|fail)|fail)
 have b4:(xs.map (λx=>zaL x.l)).length=i:=by rw[A0,hm]
 rw[b4];exact zap rfl (zB (B:=[.slice Z i cP,.string (str C.l)]) rfl (ty rfl) rfl Ev Et rfl) q_h ⟨Z,cP,rfl,rfl⟩
end Go.Proofs.YtdnlngbjpdbffaaGreatDoor
namespace Go.Ct
open Go Go.Sy
theorem LstAt.at{α β:Type}{cell:β->α->List Value}{q:World->β->α->Prop}{w:World}{a:Option Addr}{c k:Nat}{ps:List β}{l:List α}(h:LstAt cell q w a c ps l)(h0:0<k)(hk:∀p x,(cell p x).length=k){i:Nat}(r:i<l.length):∃j m p,a=some ⟨j,m,none⟩/\ps[i]?=some p/\q w p l[i]/\w.rangeAt j (m+i*k) (cell p l[i]):=by
 have F:(List.zipWith cell ps l).length=l.length:=by rw[Dq,h.len,Dv]
 obtain⟨j,m,rfl,E⟩:=zn7 (k:=k) h.mem (λC B=>by
  obtain⟨p,x,rfl⟩:=mem_zipWith B;exact hk p x) h0 (i:=i) q_o
 have A:i<ps.length:=by rw[h.len];exact r
 refine⟨j,m,ps[i],rfl,A1 A,h.each i _ _ (A1 A) (A1 r),?_⟩;have:=E i q_o;rwa[List.getElem_zipWith] at this
where
 mem_zipWith:∀ {ps:List β}{l:List α}{C:List Value},C∈List.zipWith cell ps l->∃p x,C=cell p x
  |p::ps,x::l,C,h=>by
   rcases AS.1 h with rfl|h
   ·exact⟨p,x,rfl⟩
   ·exact mem_zipWith h
theorem ziX{α β:Type}{cell:β->α->List Value} :∀ {j:List β}{l:List α}{z:List Value×α},z∈List.zip (List.zipWith cell j l) l->∃p,z.1=cell p z.2/\∃i:Nat,j[i]?=some p/\l[i]?=some z.2
 |p::j,x::l,z,h=>by
  rcases AS.1 h with rfl|h
  ·exact⟨p,rfl,0,rfl,rfl⟩
  ·obtain⟨w,m,i,q,r⟩:=ziX h;exact⟨w,m,i+1,q,r⟩
theorem zlt{α β:Type}{cell:β->α->List Value} :∀ {ps:List β}{l:List α},ps.length=l.length->(List.zip (List.zipWith cell ps l) l).map (·.2)=l
 | [],[],_=>rfl
 |p::ps,x::l,h=>by
  have:=zlt (cell:=cell) (ps:=ps) (l:=l) (by simpa using h);rw[List.zipWith_cons_cons,DF,Aw,this]
theorem znm{α γ:Type}(q:α->Bool):∀j:List (γ×α),(j.filter (λp=>q p.2)).map (·.2)=(j.map (·.2)).filter q
 | []=>rfl
 |z::j=>by
  have m:=znm q j;cases h:q z.2
  ·rw[DK (by simp[h]),Aw,DK (by simp[h]),m]
  ·rw[DL (by simp[h]),Aw,Aw,DL (by simp[h]),m]
theorem ztZ{γ:Type}{k:Nat}{zs:List (List Value×γ)}(hk:∀z∈zs,z.1.length=k){i:Nat}(r:i<zs.length)(J:List Value):Seg ((zs.map (·.1)).flatten++J) (i*k) zs[i].1:=λj v w=>by
 have A:j<k:=by have:=(AU.1 w).1;rw[hk zs[i] (Ad r)] at this;exact this
 have q:=zgQ (f:=λ(z:List Value×γ)=>z.1) (k:=k) zs hk i j A;rw[A1 r,List.flatMap_def] at q;have m:(zs.map (·.1)).flatten[i*k+j]?=some v:=by rw[q];exact w
 rw[BO (AU.1 m).1];exact m
end Go.Ct
namespace Go.Proofs.YtdnlngbjpdbffaaGreatDoor
open Go Go.Sy Go.Ct Go.Nt Go.RowKit
attribute [local irreducible] Sy SyL SyX SyC SyF Sy.Fn callFunc
theorem zvZ:Tryz.prog.underlying 103=some (.map 3 4):=by kernel_rfl
theorem zvX:Tryz.prog.underlying 3=some (.int .i64):=by kernel_rfl
theorem zvD(w:World):(zeroValue 4).run Tryz.prog w= .ok (.bool false) w:=by
 have h:Tryz.prog.underlying 4=some .bool:=by kernel_rfl
 simp[zeroValue,h,go_sem];rfl
abbrev zhP:=LstAt zG CertAt
abbrev zhN:=LstAt zcu AnchAt
abbrev zhO:=LstAt zen RevoAt
theorem zrZ(a:Option Addr)(n c:Nat)(ps:List Pl)(l:List Cert)(w:World)(N:GT w)(hn:l.length=n)(h:zhP w a c ps l)(O:∀x∈l,x.fine)(hb:n<1000000):q_G 39 [.slice a n c] w (.bool (zbO svK l)):=by
 refine zt Tryz.func39 Tryz.ntmps39 ?_;have q:n<1\/5<n\/(1<=n/\n<=5):=q_o;have F:n<1\/5<n->zbO svK l=false:=λh=>by
  have:(decide (1<=l.length)&&decide (l.length<=5))=false:=by rw[hn];rcases h with h|h <;> simp <;> omega
  unfold zbO;rw[this];rfl
 rcases q with h1|h1|⟨h1,M⟩
 ·rw[F (.inl h1)];repeat' (first|refine s_0 ?_|refine zD [0,2] ?_;refine zb ?_|refine q_k 1 ?_;refine zag ?_;refine zb ?_)
  exact q_r
 ·rw[F (.inr h1)];repeat' (first|refine s_0 ?_|refine zD [0,2] ?_;refine zb ?_|refine q_k 1 ?_;refine zag ?_;refine zb ?_;refine q_x zH ?_)
  exact q_r
 have H:zbO svK l=l.all (Cert.ok svK):=by unfold zbO;rw[hn,decide_eq_true h1,decide_eq_true M];rfl
 rw[H];repeat' (first|refine s_t ?_|refine zD [0,3] ?_;refine zb ?_|refine q_k 1 ?_;refine zag ?_;refine zb ?_;refine q_x zH ?_)
 refine zN (γ:=Nat) (λi=>[(13,.slice a n c),(14,.int .i64 (n:Int)),(15,.int .i64 (i:Int))]) (λ_=>[]) (λi=>i<=n/\(l.take i).all (Cert.ok svK)=true) (λi=>n-i) 0 ⟨A9 _,rfl⟩ ?_ ?_ ?_
 ·exact q_h
 ·exact q_h
 rintro i ⟨Q,m⟩;by_cases hlt:i<n
 ·obtain⟨P,S,p,rfl,R,G,hc⟩:=h.at (k:=11) q_e (λ_ _=>rfl) (i:=i) q_o;have E:l[i]∈l:=Ad q_o;have J:l.take (i+1)=l.take i++[l[i]]:=zaO q_o;have I:=O l[i] E;have hv:=λL (K:Keep No w L)=>zd9 p l[i] L (N.to K) (G.keep K) I;have hC:(zG p l[i]).length=11:=rfl;have r:(zG p l[i]).all (·.oneCell')=true:=rfl;generalize l[i]=x at*;generalize zG p x=C at*;have g1:decide ((i:Int)<(n:Int))=true:=q_d;have g5:IntKind.i64.wrap ((i:Int)+1)=((i+1:Nat):Int):=q_w;by_cases hx:x.ok svK=true
  ·rw[hx] at hv;repeat' (first|refine s_t ?_|refine zf 4 ?_;refine q_v (zo (hr:=g1)) ?_|refine zf 5 ?_;refine q_v (zaG (j:=i)) ?_;refine q_v (zad (hv:=hc) (hz:=hC.symm)) ?_;refine zj ?_;intro _;refine q_n (zC (B:=C) (hv:=r) (h1:=hC.symm) (hC:=by exact hC.symm)) ?_|refine zf 6 ?_;refine q_v (ze (B:=C) (hz:=hC.symm)) ?_;refine q_v (za (hc:=zu hv)) ?_;refine zJ ?_|refine zf 8 ?_;refine q_x (zF (hr:=g5)) ?_)
   refine zE (i+1) ⟨hlt,by rw[J,BW,m];simp[hx]⟩ ?_ ?_ ?_
   ·show n-(i+1)<n-i;omega
   ·exact q_h
   ·exact q_h
  ·rw[C8] at hx;rw[hx] at hv;have A:l.all (Cert.ok svK)=false:=by rw[Bk];exact⟨x,E,by rw[hx];decide⟩
   rw[A];repeat' (first|refine s_t ?_|refine zf 4 ?_;refine q_v (zo (hr:=g1)) ?_|refine zf 5 ?_;refine q_v (zaG (j:=i)) ?_;refine q_v (zad (hv:=hc) (hz:=hC.symm)) ?_;refine zj ?_;intro _;refine q_n (zC (B:=C) (hv:=r) (h1:=hC.symm) (hC:=by exact hC.symm)) ?_|refine zf 6 ?_;refine q_v (ze (B:=C) (hz:=hC.symm)) ?_;refine q_v (za (hc:=zu hv)) ?_;refine zJ ?_|refine q_k 7 ?_)
   exact q_r
 obtain rfl:i=n:=q_o;rw[A8 q_o] at m;rw[m];have g1:decide ((i:Int)<(i:Int))=false:=q_f;repeat' (first|refine s_0 ?_|refine zf 4 ?_;refine q_v (zo (hr:=g1)) ?_|refine q_k 9 ?_)
 exact q_r
theorem zue(a:Option Addr)(n c:Nat)(ps:List Pa)(l:List Anch)(w:World)(O:GT w)(hn:l.length=n)(h:zhN w a c ps l)(P:∀x∈l,x.name.fine)(hb:n<1000000):q_G 57 [.slice a n c] w (.bool (decide (l.length<=64)&&l.all (Anch.ok svK))):=by
 refine zt Tryz.func57 Tryz.ntmps57 ?_;rw[hn];rcases(show 64<n\/n<=64 by omega) with h1|h1
 ·rw[decide_eq_false (show ¬n<=64 by omega),BZ];repeat' (first|refine s_0 ?_|refine zD [0,2] ?_;refine zb ?_|refine q_k 1 ?_;refine q_v zH ?_)
  exact q_r
 rw[decide_eq_true h1,B6];repeat' (first|refine s_t ?_|refine zD [0,3] ?_;refine zb ?_|refine q_k 1 ?_;refine q_v zH ?_)
 refine zN (γ:=Nat) (λi=>[(8,.slice a n c),(9,.int .i64 (n:Int)),(10,.int .i64 (i:Int))]) (λ_=>[]) (λi=>i<=n/\(l.take i).all (Anch.ok svK)=true) (λi=>n-i) 0 ⟨A9 _,rfl⟩ ?_ ?_ ?_
 ·exact q_h
 ·exact q_h
 rintro i ⟨S,r⟩;by_cases hlt:i<n
 ·obtain⟨R,U,p,rfl,T,A,hc⟩:=h.at (k:=4) q_e (λ_ _=>rfl) (i:=i) q_o;have E:l[i]∈l:=Ad q_o;have M:l.take (i+1)=l.take i++[l[i]]:=zaO q_o;have C:=P l[i] E;have hv:=λH (I:Keep No w H)=>zge _ _ H (A.name.keep I) C.1 C.2.1 C.2.2;have J:=λH (I:Keep No w H)=>zkd l[i].group p.a2 l[i].pub.length p.k2 l[i].pub H (O.to I) rfl A.pub.cap (A.pub.keep I).sla;rw[show decide ((gel l[i].group l[i].pub).2=0)=svK l[i].group l[i].pub from rfl] at J;have m:Anch.ok svK l[i]=(l[i].name.ok&&svK l[i].group l[i].pub):=rfl;generalize l[i]=x at*;unfold zba at hv;unfold zcu at hc;have g1:decide ((i:Int)<(n:Int))=true:=q_d;have g5:IntKind.i64.wrap ((i:Int)+1)=((i+1:Nat):Int):=q_w;obtain⟨K,F⟩:∃u,u=x.name.ok:=⟨_,rfl⟩;obtain⟨N,G⟩:∃u,u=svK x.group x.pub:=⟨_,rfl⟩;rw[<-F] at hv m;rw[<-G] at J m;have L:K=false\/(K=true/\N=false)\/(K=true/\N=true):=by cases K <;> cases N <;> simp
  have q:Anch.ok svK x=false->l.all (Anch.ok svK)=false:=λQ=>by rw[Bk];exact⟨x,E,by rw[Q];decide⟩
  clear F G;rcases L with rfl|⟨rfl,rfl⟩|⟨rfl,rfl⟩
  ·rw[q m];repeat' (first|refine s_t ?_|refine zf 4 ?_;refine q_v (zo (hr:=g1)) ?_|refine zf 5 ?_;refine q_v (zaG (j:=i)) ?_;refine q_v (zad (hv:=hc)) ?_;refine zj ?_;intro _;refine q_n (zC (h1:=rfl)) ?_|refine q_k 6 ?_;refine q_v (ze (B:=[.slice p.a1 x.name.parts.length p.k1,zT x.name.realm]) (hv:=FF rfl)) ?_;refine q_v (za (hc:=zu hv)) ?_;refine zJ ?_;refine zb ?_|refine q_k 7 ?_)
   exact q_r
  ·rw[q m];repeat' (first|refine s_t ?_|refine zf 4 ?_;refine q_v (zo (hr:=g1)) ?_|refine zf 5 ?_;refine q_v (zaG (j:=i)) ?_;refine q_v (zad (hv:=hc)) ?_;refine zj ?_;intro _;refine q_n (zC (h1:=rfl)) ?_|refine q_k 6 ?_;refine q_v (ze (B:=[.slice p.a1 x.name.parts.length p.k1,zT x.name.realm]) (hv:=FF rfl)) ?_;refine q_v (za (hc:=zu hv)) ?_;refine zJ ?_;refine zb ?_;refine zm ?_;refine zb ?_;refine zm ?_;refine q_v (za (hc:=zu J)) ?_;refine zJ ?_;refine zb ?_|refine q_k 7 ?_)
   exact q_r
  ·repeat' (first|refine s_t ?_|refine zf 4 ?_;refine q_v (zo (hr:=g1)) ?_|refine zf 5 ?_;refine q_v (zaG (j:=i)) ?_;refine q_v (zad (hv:=hc)) ?_;refine zj ?_;intro _;refine q_n (zC (h1:=rfl)) ?_|refine q_k 6 ?_;refine q_v (ze (B:=[.slice p.a1 x.name.parts.length p.k1,zT x.name.realm]) (hv:=FF rfl)) ?_;refine q_v (za (hc:=zu hv)) ?_;refine zJ ?_;refine zb ?_;refine zm ?_;refine zb ?_;refine zm ?_;refine q_v (za (hc:=zu J)) ?_;refine zJ ?_;refine zb ?_|refine zf 8 ?_;refine q_x (zF (hr:=g5)) ?_)
   refine zE (i+1) ⟨hlt,by rw[M,BW,r];simp[m]⟩ ?_ ?_ ?_
   ·show n-(i+1)<n-i;omega
   ·exact q_h
   ·exact q_h
 obtain rfl:i=n:=q_o;rw[A8 q_o] at r;rw[r];have g1:decide ((i:Int)<(i:Int))=false:=q_f;repeat' (first|refine s_0 ?_|refine zf 4 ?_;refine q_v (zo (hr:=g1)) ?_|refine q_k 9 ?_)
 exact q_r
end Go.Proofs.YtdnlngbjpdbffaaGreatDoor
namespace Go.Ct
open Go Go.Sy
def zrH(ks:List Int)(u:Int):List Int:=if u∈ks then ks else ks++[u]
theorem ztO{j:List Int}{u x:Int} :x∈zrH j u↔x∈j\/x=u:=by
 unfold zrH;split
 ·rename_i h;exact⟨.inl,λm=>m.elim id (λe=>e ▸ h)⟩
 ·simp
end Go.Ct
namespace Go.Proofs.YtdnlngbjpdbffaaGreatDoor
open Go Go.Sy Go.Ct Go.Nt Go.RowKit
attribute [local irreducible] Sy SyL SyX SyC SyF Sy.Fn callFunc
theorem zxR(b:Nat)(D:List Value)(p:Prin)(pr:Option Addr×Nat)(x:Revo)(w:World)(r:w.rangeAt b 0 D)(hp:PrinIn w D p)(hx:RevoAt w pr x)(A:x.issuer.fine):
  q_G 144 [.agg (zen pr x).toArray,.pointer (some ⟨b,0,none⟩)] w (.bool (x.issuer.same p)):=by
 refine zt Tryz.func144 Tryz.ntmps144 ?_;have h:=λm (j:Keep No w m)=>zja _ _ _ _ m (hx.name.keep j) (hp.keep j) A.1;have q:=hp.two;unfold zen zba at*;repeat' (first|refine s_0 ?_|refine zf 0 ?_;refine zW ?_;intro _|refine q_k 1 ?_;refine q_v (ze (B:=[.slice pr.1 x.issuer.parts.length pr.2,zT x.issuer.realm]) (hv:=FF rfl)) ?_;refine q_v (zad (hv:=r) (hz:=q.symm)) ?_;refine q_v (za (hc:=zu h)) ?_;refine zb ?_)
 exact q_r
theorem zwG(b:Nat)(p:Pl)(c:Cert)(m:Pa)(x:Anch)(w:World)(E:w.rangeAt b 0 (zG p c))(hc:CertAt w p c)(hx:AnchAt w m x)(F:x.name.fine):
  q_G 142 [.agg (zcu m x).toArray,.pointer (some ⟨b,0,none⟩)] w (.bool (x.name.same c.issuer)):=by
 refine zt Tryz.func142 Tryz.ntmps142 ?_;have h:=λA (r:Keep No w A)=>zja _ _ _ _ A (hx.name.keep r) (hc.iss.keep r) F.1;have C:w.rangeAt b 1 (zba p.a1 p.k1 c.issuer):=λj v q=>E (1+j) v (by
  have:(zG p c).drop 1=zba p.a1 p.k1 c.issuer++(zG p c).drop 3:=rfl;rw[<-Bn,this,BO (AU.1 q).1];exact q) |> λh=>by rwa[show 0+(1+j)=1+j by omega] at h
 unfold zcu zba at*;repeat' (first|refine s_0 ?_|refine zf 0 ?_;refine zW ?_;intro _|refine q_k 1 ?_;refine q_x (ze (B:=[.slice m.a1 x.name.parts.length m.k1,zT x.name.realm]) (hv:=FF rfl)) ?_;refine q_v (zad (hv:=C)) ?_;refine q_v (za (hc:=zu h)) ?_;refine zb ?_)
 exact q_r
theorem zvh(D:List Value)(p:Prin)(a:Option Addr)(n c:Nat)(ps:List (Option Addr×Nat))(rs:List Revo)(w:World)(hp:PrinIn w D p)(h:zhO w a c ps rs)(hn:rs.length=n)(hf:∀x∈rs,x.issuer.fine)(hb:n<1000):
  Sy.Fn Tryz.prog 66 [.agg D.toArray,.slice a n c] w No (λv R=>∃b m,v= .map (some b)/\R= [zdW b (zb1 m 0) m.length]/\∀u,u∈m↔ ∃r∈rs,r.issuer.same p=true/\r.serial=u):=by
 refine zt Tryz.func66 Tryz.ntmps66 ?_;have N:(List.zipWith zen ps rs).length=n:=by rw[Dq,h.len,hn,Dv]
 have A:=hp.two;have G:=λV (O:Keep No w V) K (hD:V.rangeAt K 0 D)=>zt3 a n c 144 [.pointer (some ⟨K,0,none⟩)] rs (List.zipWith zen ps rs) (λx=>x.issuer.same p) V (en rfl) hn N (λC hC=>by
  obtain⟨q,x,rfl⟩:=LstAt.at.mem_zipWith hC;exact⟨rfl,rfl⟩) ((Fc h.mem).to (Mi:=No) O (λ_ h=> .inr h)).sla hb (λi C x M W a6 I=>by
  rw[DW,W] at M;cases Q:ps[i]? with
  |none=>rw[Q] at M;cases M
  |some q=>
   rw[Q] at M;cases M;have Y:=h.each i q x Q W;exact zxR K D p q x a6 (zaX hD I (λh=>h)) ((hp.keep O).keep I) ((Y.keep O).keep I) (hf x (BY W)))
 unfold zjK at G;have T:∀z∈(List.zip (List.zipWith zen ps rs) rs).filter (λz=>z.2.issuer.same p),∃q,z.1=zen q z.2:=λz hz=>by
  obtain⟨q,h1,_⟩:=ziX (Bf.1 hz).1;exact⟨q,h1⟩
 have U:((List.zip (List.zipWith zen ps rs) rs).filter (λz=>z.2.issuer.same p)).map (·.2)=rs.filter (λx=>x.issuer.same p):=by rw[znm (q:=λ(x:Revo)=>x.issuer.same p),zlt h.len]
 have a7:((List.zip (List.zipWith zen ps rs) rs).filter (λz=>z.2.issuer.same p)).length<=n:=by
  refine BG (Ci _ _) ?_;rw[List.length_zip,N,hn,Dv];exact A6 _
 generalize (List.zip (List.zipWith zen ps rs) rs).filter (λz=>z.2.issuer.same p)=zs at*;repeat' (first|refine s_0 ?_|refine zf 0 ?_;refine zW ?_;intro _|refine zf 1 ?_|refine q_s zqF ?_;rintro _ _ ⟨L,rfl,rfl⟩|(refine zy ?_;first|refine zw ?_|fail)|fail)
 rename_i K;repeat' (first|refine s_t ?_|refine q_k 2 ?_;refine q_v zab ?_;(refine q_s (zi (hc:=λV X O hh=>G V O K (zp (hh.has (r:=.blk K 43 D) q_h) Et))) ?_;rintro _ _ ⟨R,rfl,aF,cF,rfl,rfl⟩);refine zb ?_)
 refine zgX (a:=aF) (cp:=cF) (E:=67) (s:=3) (n:=zs.length) (xs:=(zs.map (λ(z:List Value×Revo)=>z.1)).flatten) (by exact Es) λr hr=>?_;refine zN (γ:=Nat×List Int) (λg=>[(5,.map (some L)),(11,.slice aF zs.length cF),(12,.int .i64 (zs.length:Int)),(13,.int .i64 (g.1:Int))]) (λg=>[r,zdW L (zb1 g.2 0) g.2.length]) (λg=>g.1<=zs.length/\∀u,u∈g.2↔ ∃z∈zs.take g.1,z.2.serial=u) (λg=>zs.length-g.1) (0,[]) ⟨A9 _,λu=>by simp⟩ ?_ ?_ ?_
 ·exact q_h
 ·exact q_h
 rintro⟨i,m⟩ ⟨hi,F⟩;dsimp only at hi F ⊢;by_cases hlt:i<zs.length
 ·obtain⟨bF,J,rfl,rfl⟩:=hr q_o;have Z:zs.take (i+1)=zs.take i++[zs[i]]:=zaO hlt;have S:=ztZ (k:=3) (zs:=zs) (λz hz=>by obtain⟨q,e⟩:=T z hz;rw[e];rfl) hlt J;obtain⟨q,Q⟩:=T zs[i] (Ad hlt);rw[Q] at S;have P:∀u,u∈zrH m zs[i].2.serial↔ ∃z∈zs.take (i+1),z.2.serial=u:=λu=>by
   rw[ztO,F u,Z];constructor
   ·rintro(⟨z,h1,A⟩|rfl)
    ·exact⟨z,AM _ h1,A⟩
    ·exact⟨zs[i],AX _ A3,rfl⟩
   ·rintro⟨z,h1,A⟩;rcases Ao.1 h1 with h1|h1
    ·exact .inl ⟨z,h1,A⟩
    ·rw[AE.1 h1] at A;exact .inr A.symm
  generalize zs[i].2=x at*;have g1:decide ((i:Int)<(zs.length:Int))=true:=q_d;have g5:IntKind.i64.wrap ((i:Int)+1)=((i+1:Nat):Int):=q_w;have H:Seg ((zs.map (·.1)).flatten++J) (0+i*3) (zen q x):=by rw[AZ];exact S
  unfold zen at H;repeat' (first|refine s_t ?_|refine zf 3 ?_;refine q_v (zo (hr:=g1)) ?_|refine zf 4 ?_;refine q_v (zaG (j:=i)) ?_;refine q_v (ze (B:=[.slice q.1 x.issuer.parts.length q.2,zT x.issuer.realm,.int .i64 x.serial]) (hv:=H)) ?_;refine zj ?_;intro _;refine q_n (zC (h1:=rfl)) ?_|refine q_k 5 ?_;refine zm ?_;(refine q_n (zsA (l:=m) (u:=x.serial) zvZ zvX) ?_)|refine zf 6 ?_;refine q_x (zF (hr:=g5)) ?_)
  refine zE (i+1,zrH m x.serial) ⟨hlt,P⟩ ?_ ?_ ?_
  ·show zs.length-(i+1)<zs.length-i;omega
  ·exact q_h
  ·show SubR [_,zdW L (zb1 (if x.serial∈m then m else m++[x.serial]) 0) (if x.serial∈m then m else m++[x.serial]).length] _;exact q_h
 obtain rfl:i=zs.length:=q_o;rw[A8 (A6 _)] at F;have g1:decide ((zs.length:Int)<(zs.length:Int))=false:=q_f;repeat' (first|refine s_0 ?_|refine zf 3 ?_;refine q_v (zo (hr:=g1)) ?_|refine q_k 7 ?_)
 refine zap rfl (zh rfl) (R:=[zdW L (zb1 m 0) m.length]) q_h ⟨L,m,rfl,rfl,λu=>?_⟩;rw[F u];constructor
 ·rintro⟨z,h1,A⟩;have:z.2∈rs.filter (λx=>x.issuer.same p):=by rw[<-U];exact C4.2 ⟨z,h1,rfl⟩
  exact⟨z.2,(Bf.1 this).1,(Bf.1 this).2,A⟩
 ·rintro⟨x,h1,A,h3⟩;have:x∈zs.map (·.2):=by rw[U];exact Bf.2 ⟨h1,A⟩
  obtain⟨z,h4,rfl⟩:=C4.1 this;exact⟨z,h4,h3⟩
end Go.Proofs.YtdnlngbjpdbffaaGreatDoor
