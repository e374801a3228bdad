/- Lemmas. -/
import Derived.Test.YtdnlngbjpdbffaaGreatDoorZJ37
set_option maxHeartbeats 1000000
set_option maxRecDepth 10000
set_option linter.all false
namespace Go.Proofs.YtdnlngbjpdbffaaGreatDoor
open Sy Ct RowKit
attribute [local irreducible] Sy SyL SyX SyC SyF SyG SyH Sy.Fn Sy.FnP callFunc
theorem zAy(v:Int)(j:IntKind):Op.shift .shl .i64 v j 8=pure (.int .i64 (IntKind.i64.wrap (v*256))):=by
 simp[Op.shift,IntKind.bits]
theorem zmA{n:Nat}(h:n<9223372036854775808):w64 n=(n:Int):=by
 unfold w64;rw[A9 q_o,if_pos h]
theorem zw2{v:Nat}(h:v<72057594037927936):∃u:Int,-36028797018963968<=u/\u<36028797018963968/\IntKind.i64.wrap ((v:Int)*256)=u*256/\∀c<256,w64 (v*256+c)=u*256+(c:Int):=by
 by_cases hv:v<36028797018963968
 ·refine⟨v,by omega,by omega,IntWalk.i64_in _ q_o,λc j=>?_⟩;rw[zmA q_o];omega
 ·refine⟨(v:Int)-72057594037927936,by omega,by omega,?_,λc j=>?_⟩
  ·simp only[IntKind.wrap,IntKind.bits,IntKind.signed];simp;omega
  ·unfold w64;rw[A9 q_o,if_neg q_o];omega
theorem zgU(l:List UInt8)(i:Nat):zaw (l.take i)<256^i:=by
 have j:=zfP (l.take i);have m:(l.take i).length<=i:=by rw[AS];omega
 exact AK j (AB q_e m)
theorem zfQ(s:Bs)(w:World)(P:s.ok w)(hb:s.n<1000000):q_G 97 [s.val] w (.int .i64 (zcr s.l)):=by
 refine zt Tryz.func97 Tryz.ntmps97 ?_;have hv:s.val= .slice s.a s.n s.c:=rfl;have hc:=λQ (W:Keep No w Q)=>zds s Q (P.keep W) q_o;rw[hv] at hc ⊢;unfold zdS at hc;repeat' first|refine s_0 ?_|refine q_k 0 ?_|refine q_k 1 ?_;(refine q_s (zi (hc:=zr hc)) ?_;rintro _ _ ⟨R,rfl,s1,rfl,K,q,X,rfl⟩);refine zb ?_
 have B:=q w P;have O:=B.len;have M:s1.val= .slice s1.a s1.n s1.c:=rfl;unfold zcr;rw[<-K,M];have Y:∀i,i<=7->zaw (s1.l.take i)<72057594037927936:=λi E=>by
  have I:=zgU s1.l i;have S:=AB (show 0<256 by decide) E;have T:256^7=72057594037927936:=by decide
  omega
 have J:∀i,i<=6->zaw (s1.l.take i)<281474976710656:=λi E=>by
  have I:=zgU s1.l i;have S:=AB (show 0<256 by decide) E;have T:256^6=281474976710656:=by decide
  omega
 repeat' first|refine s_t ?_|refine zA [2,3] ?_;refine zb ?_
 refine zL (γ:=Nat) (λi=>[(3,.slice s1.a s1.n s1.c),(4,.int .i64 ((zaw (s1.l.take i):Nat):Int)),(5,.int .i64 (i:Int))]) (λ_=>[]) (λi=>i<=7/\i<=s1.n) (λi=>7-i) 0 ⟨by decide,AA _⟩ ?_ ?_ ?_
 ·exact q_h
 ·exact q_h
 rintro i ⟨V,E⟩;by_cases hlt:i<s1.n/\i<7
 ·have g1:decide ((i:Int)<(s1.n:Int))=true:=q_d;have g2:decide ((i:Int)<7)=true:=q_d;obtain⟨b,o,N,m⟩:=zca B.sla (i:=i) (by rw[A0];omega);have r:w.cell? ⟨b,o+i,none⟩=some (.int .u8 ((s1.l[i]'q_o).toNat:Int)):=m i _ (zcX v8 q_o);rw[N];have I:=J i q_o;have L:=zgj s1.l i q_o;have U:=(s1.l[i]'q_o).toNat_lt;generalize (s1.l[i]'q_o).toNat=x at*;have g9:IntKind.i64.wrap (256*((zaw (s1.l.take i):Nat):Int))=256*((zaw (s1.l.take i):Nat):Int):=IntWalk.i64_in _ q_o;have F:IntKind.i64.wrap (x:Int)=(x:Int):=IntWalk.i64_in _ q_o;have G:IntKind.i64.wrap (256*((zaw (s1.l.take i):Nat):Int)+(x:Int))=((zaw (s1.l.take (i+1)):Nat):Int):=by rw[IntWalk.i64_in _ q_o,L];omega
  have H:IntKind.i64.wrap ((i:Int)+1)=((i+1:Nat):Int):=q_w;repeat' first|refine s_t ?_|refine q_k 4 ?_;refine q_x (zn (hr:=g1)) ?_;refine q_x (zn (hr:=g2)) ?_|refine q_k 6 ?_;refine q_x (zaM (hr:=g9)) ?_;refine q_v (zq (j:=i)) ?_;refine q_v (zo (hv:=r)) ?_;refine q_v (zam (hr:=F)) ?_;refine q_x (zD (hr:=G)) ?_|refine q_k 5 ?_;refine q_x (zD (hr:=H)) ?_
  refine zC (i+1) ⟨by omega,by omega⟩ ?_ ?_ ?_
  ·show 7-(i+1)<7-i;omega
  ·rw[<-N];exact q_h
  ·exact q_h
 have A:s1.l.take i=s1.l.take 7:=by
  rcases(show i=s1.n\/i=7 by omega) with h|h
  ·rw[A6 q_o,A6 q_o]
  ·rw[h]
 rw[A];by_cases I:i<s1.n
 ·have g1:decide ((i:Int)<(s1.n:Int))=true:=q_d;have g2:decide ((i:Int)<7)=false:=q_f;repeat' first|refine s_0 ?_|refine q_k 4 ?_;refine q_x (zn (hr:=g1)) ?_;refine q_x (zn (hr:=g2)) ?_|refine q_k 7 ?_
  exact q_r
 ·have g1:decide ((i:Int)<(s1.n:Int))=false:=q_f;repeat' first|refine s_0 ?_|refine q_k 4 ?_;refine q_x (zn (hr:=g1)) ?_|refine q_k 7 ?_
  exact q_r
theorem zm4(s:Bs)(w:World)(S:s.ok w)(hb:s.n<1000000):q_G 95 [s.val] w (.int .i64 (zfs s.l)):=by
 refine zt Tryz.func95 Tryz.ntmps95 ?_;have hv:s.val= .slice s.a s.n s.c:=rfl;have hc:=λT (X:Keep No w T)=>zds s T (S.keep X) q_o;rw[hv] at hc ⊢;unfold zdS at hc;repeat' first|refine s_0 ?_|refine q_k 0 ?_|refine q_k 1 ?_;(refine q_s (zi (hc:=zr hc)) ?_;rintro _ _ ⟨R,rfl,s1,rfl,J,q,Y,rfl⟩);refine zb ?_
 have E:=q w S;have Q:=E.len;have N:s1.val= .slice s1.a s1.n s1.c:=rfl;unfold zfs;rw[<-J,N];have U:∀i,i<=7->zaw (s1.l.take i)<72057594037927936:=λi P=>by
  have I:=zgU s1.l i;have h2:=AB (show 0<256 by decide) P;have h3:256^7=72057594037927936:=by decide
  omega
 repeat' first|refine s_t ?_|refine zA [2,3] ?_;refine zb ?_
 refine zL (γ:=Nat) (λi=>[(3,.slice s1.a s1.n s1.c),(4,.int .i64 (w64 (zaw (s1.l.take i)))),(5,.int .i64 (i:Int))]) (λ_=>[]) (λi=>i<=8/\i<=s1.n) (λi=>8-i) 0 ⟨by decide,AA _⟩ ?_ ?_ ?_
 ·exact q_h
 ·exact q_h
 rintro i ⟨W,P⟩;by_cases hlt:i<s1.n/\i<8
 ·have g1:decide ((i:Int)<(s1.n:Int))=true:=q_d;have g2:decide ((i:Int)<8)=true:=q_d;obtain⟨b,o,O,m⟩:=zca E.sla (i:=i) (by rw[A0];omega);have A:w.cell? ⟨b,o+i,none⟩=some (.int .u8 ((s1.l[i]'q_o).toNat:Int)):=m i _ (zcX v8 q_o);rw[O];have I:=U i q_o;have K:=zgj s1.l i q_o;have V:=(s1.l[i]'q_o).toNat_lt;generalize (s1.l[i]'q_o).toNat=x at*;obtain⟨u,Z,a6,L,M⟩:=zw2 I;have F:=M x q_o;rw[<-K] at F;rw[zmA (show zaw (s1.l.take i)<9223372036854775808 by omega)];have g9:=zAy ((zaw (s1.l.take i):Nat):Int) .u64;rw[L] at g9;have G:IntKind.i64.wrap (x:Int)=(x:Int):=IntWalk.i64_in _ q_o;have r:=zk6 u x q_o q_o q_o;rw[<-F] at r;have H:IntKind.i64.wrap ((i:Int)+1)=((i+1:Nat):Int):=q_w;repeat' first|refine s_t ?_|refine q_k 4 ?_;refine q_x (zn (hr:=g1)) ?_;refine q_x (zn (hr:=g2)) ?_|refine q_k 6 ?_;refine q_x (zeD (hr:=g9)) ?_;refine q_v (zq (j:=i)) ?_;refine q_v (zo (hv:=A)) ?_;refine q_v (zam (hr:=G)) ?_;refine q_x (zj3 (hr:=r)) ?_|refine q_k 5 ?_;refine q_x (zD (hr:=H)) ?_
  refine zC (i+1) ⟨by omega,by omega⟩ ?_ ?_ ?_
  ·show 8-(i+1)<8-i;omega
  ·rw[<-O];exact q_h
  ·exact q_h
 have B:s1.l.take i=s1.l.take 8:=by
  rcases(show i=s1.n\/i=8 by omega) with h|h
  ·rw[A6 q_o,A6 q_o]
  ·rw[h]
 rw[B];by_cases I:i<s1.n
 ·have g1:decide ((i:Int)<(s1.n:Int))=true:=q_d;have g2:decide ((i:Int)<8)=false:=q_f;repeat' first|refine s_0 ?_|refine q_k 4 ?_;refine q_x (zn (hr:=g1)) ?_;refine q_x (zn (hr:=g2)) ?_|refine q_k 7 ?_
  exact q_r
 ·have g1:decide ((i:Int)<(s1.n:Int))=false:=q_f;repeat' first|refine s_0 ?_|refine q_k 4 ?_;refine q_x (zn (hr:=g1)) ?_|refine q_k 7 ?_
  exact q_r
theorem zim(s:Bs)(w:World)(E:s.ok w)(hb:s.n<1000000):Sy.Fn Tryz.prog 98 [s.val] w No (zbf (zaN s.l)):=by
 refine zt Tryz.func98 Tryz.ntmps98 ?_;have J:s.val= .slice s.a s.n s.c:=rfl;have hc:=λG (H:Keep No w G)=>zds s G (E.keep H) q_o;rw[J] at hc ⊢;unfold zdS at hc;repeat' first|refine s_0 ?_|refine q_k 0 ?_|refine zf 1 ?_;(refine q_s zfH ?_;rintro _ _ ⟨_,rfl,rfl⟩);refine zb ?_;(refine q_s (zi (hc:=zr hc)) ?_;rintro _ _ ⟨R,rfl,s1,rfl,r,q,I,rfl⟩)
 have m:=q w E;have j:=m.len;have F:=m.sla;have B:=m.nil;have A:s1.val= .slice s1.a s1.n s1.c:=rfl;rw[<-r,A];repeat' first|refine s_0 ?_|(refine zx ?_;first|refine zw ?_|refine q_s zb9 ?_;rintro _ _ ⟨rfl,_,_,rfl⟩|fail)|fail
 exact zar rfl (zh rfl) Ez ⟨_,_,by rw[j],by rw[j]⟩
def zh6(p:Prin)(v:Value)(R:List Res):Prop:=∃a k,v= .agg #[.slice a p.parts.length k,zT p.realm]/\R= [.row (.slice a p.parts.length k) 9 1 p.parts.length (p.parts.map zT)]
theorem zig(s:Bs)(w:World)(hs:s.ok w)(hb:s.n<1000000):Sy.Fn Tryz.prog 96 [s.val] w No (zh6 (zdE s.l)):=by
 refine zt Tryz.func96 Tryz.ntmps96 ?_;have hv:s.val= .slice s.a s.n s.c:=rfl;have L:=λq (A:Keep No w q)=>zg1 s 0 q (hs.keep A) hb q_e;have M:=λq (A:Keep No w q)=>zg1 s 1 q (hs.keep A) hb q_e;rw[hv] at L M ⊢;unfold zdS at L M;unfold zh6 zdE;repeat' first|refine s_0 ?_|refine zf 0 ?_;refine zk λ_=>?_|refine zf 1 ?_;refine zk λ_=>?_
 rename_i b2 b3;repeat' first|refine q_k 2 ?_;(refine q_s (zi (hc:=zr L)) ?_;rintro _ _ ⟨R,rfl,s1,rfl,a6,N,c8,rfl⟩)
 have U:=N w hs;have H:=λq (A:Keep No w q)=>zds s1 q (U.keep A) q_o;unfold zdS at H;have b7:s1.val= .slice s1.a s1.n s1.c:=rfl;rw[b7] at H ⊢;repeat' first|(refine zx ?_;first|refine q_s (zi (hc:=zr H)) ?_;rintro _ _ ⟨R,rfl,s2,rfl,a7,O,c9,rfl⟩|fail)|fail
 have V:=O w U;have he:=λq (A:Keep No w q)=>zjw s2 q (V.keep A) q_o;unfold zrO at he;have b8:s2.val= .slice s2.a s2.n s2.c:=rfl;rw[b8] at he ⊢;repeat' first|refine s_t ?_|refine q_k 3 ?_|(refine zx ?_;first|refine q_s (zi (hc:=zr he)) ?_;rintro _ _ ⟨R,rfl,aE,cE,xs,rfl,rfl,c4,e3,c7⟩|refine zw ?_|fail)|fail
 have b1:(zbW (zaN (item s.l 0))).map zaN=xs.map (λx=>zaN x.l):=by rw[<-a6,<-a7,<-c4,CY];rfl
 rw[b1];obtain⟨m,hm⟩:∃m,m=xs.length:=⟨_,rfl⟩;rw[<-hm];refine zgh (a:=aE) (cp:=cE) (E:=23) (s:=1) (n:=m) (xs:=xs.map Bs.val) (by exact Eu) λr hr=>?_;refine zbg (zaT 9 1) ?_;refine zL (γ:=Nat×Option Addr×Nat) (λg=>[(0,.slice s.a s.n s.c),(2,.pointer (some ⟨b2,0,none⟩)),(3,.pointer (some ⟨b3,0,none⟩)),(4,.slice aE m cE),(5,.int .i64 (g.1:Int))])
  (λg=>[.row (.slice g.2.1 g.1 g.2.2) 9 1 g.1 (((xs.map (λx=>zaN x.l)).take g.1).map zT),r,.blk b3 43 [.slice g.2.1 g.1 g.2.2,.string ByteArray.empty],.blk b2 43 [.slice none 0 0,.string ByteArray.empty]])
  (λg=>g.1<=m) (λg=>m-g.1) (0,none,0) (AA _) ?_ ?_ ?_
 ·exact q_h
 ·exact q_h
 rintro⟨i,aP,cP⟩ hi;dsimp only at hi ⊢;by_cases hlt:i<m
 ·have g1:decide ((i:Int)<(m:Int))=true:=q_d;have g5:IntKind.i64.wrap ((i:Int)+1)=((i+1:Nat):Int):=q_w;obtain⟨x,hx⟩:∃x,x=xs[i]'q_o:=⟨_,rfl⟩;have c5:x∈xs:=by rw[hx];exact AX _
  obtain⟨c6,e1,e2⟩:=c7 x c5;have G:=c6 w V;obtain⟨bE,J,rfl,rfl⟩:=hr q_o;have c3:(xs.map Bs.val++J)[0+i]?=some (.slice x.a x.n x.c):=by rw[Aa,BH (by rw[A0];omega),AW,A2 q_o,<-hx];rfl
  have K:=λq (A:Keep No w q)=>zds x q (G.keep A) q_o;unfold zdS at K;have c2:x.val= .slice x.a x.n x.c:=rfl;rw[c2] at K;have b6:(xs.map (λx=>zaN x.l)).take (i+1)=(xs.map (λx=>zaN x.l)).take i++[zaN x.l]:=by rw[zaE (by rw[A0];omega),Da,<-hx]
  repeat' first|refine s_t ?_|refine q_k 4 ?_;refine q_v (zn (hr:=g1)) ?_
  (refine zdm (id:=6) [0] true [] [0,1,2,3,4,5] [(6,[]),(7,[]),(8,[]),(9,[10]),(11,[])] mixed q_h ?_ ?_;kernel_rfl;refine ygv zN (k:=?_);refine ygv zM (k:=?_);refine ygv zV (k:=?_);refine ygv zV (k:=?_);refine ygv (zq (j:=i)) (k:=?_);refine ygv (zM (hv:=c3)) (k:=?_);refine yg0 ?_;try refine yg0 ?_;try refine yg0 ?_;try refine yg0 ?_;try refine yg0 ?_;try refine zg5 ?_)
  refine yhs (zi (hc:=zr K)) (k:=?_);rintro _ _ ⟨R,rfl,T,rfl,a8,P,d8,rfl⟩;refine yg0 ?_;have W:=P w G;have hys:((xs.map (λx=>zaN x.l)).take i).map zT++[.string (str T.l)]=((xs.map (λx=>zaN x.l)).take (i+1)).map zT:=by rw[b6,Ar,a8];rfl
  have b9:T.val= .slice T.a T.n T.c:=rfl;rw[b9];refine yhv (zcn (l:=T.l) (hr:=FQ W.sla (λ_ _ h=>h)) (hn:=W.len)) (k:=?_);refine yg0 ?_;refine yhs zz (k:=?_);rintro _ _ ⟨bL,rfl,rfl⟩;refine yg0 ?_;refine yhs (zaz (hys:=hys) (hkm:=rfl)) (k:=?_);rintro _ _ ⟨rfl,aN,cN,rfl⟩;refine ygv zN (k:=?_);refine yg0 ?_;refine yhn (zaO (v:=.slice aN (i+1) cN) (hC:=⟨A5 rfl,rfl⟩)) (k:=?_);refine zg5 ?_;repeat' first|refine s_0 ?_|refine q_k 5 ?_;refine q_x (zD (hr:=g5)) ?_
  refine zC (i+1,aN,cN) hlt ?_ ?_ ?_
  ·show m-(i+1)<m-i;omega
  ·exact q_h
  ·exact q_h
 obtain rfl:i=m:=q_o;rw[A6 (by rw[A0];omega)];have g1:decide ((i:Int)<(i:Int))=false:=q_f;repeat' first|refine s_0 ?_|refine q_k 4 ?_;refine q_v (zn (hr:=g1)) ?_|refine q_k 7 ?_;(refine q_s (zi (hc:=zr M)) ?_;rintro _ _ ⟨R,rfl,Z,rfl,a9,Q,d9,rfl⟩)
 have X:=Q w hs;have I:=λq (A:Keep No w q)=>zds Z q (X.keep A) q_o;unfold zdS at I;have c0:Z.val= .slice Z.a Z.n Z.c:=rfl;rw[c0] at I ⊢;repeat' first|(refine zx ?_;first|refine q_s (zi (hc:=zr I)) ?_;rintro _ _ ⟨R,rfl,F,rfl,b0,S,e0,rfl⟩|fail)|fail
 have Y:=S w X;have c1:F.val= .slice F.a F.n F.c:=rfl;rw[c1];have b5:zaN (item s.l 1)=F.l:=by rw[b0,a9]
 rw[b5];unfold zT;repeat' first|refine s_0 ?_|refine zf 8 ?_;refine q_v (ze (B:=[.slice aP i cP,.string (str F.l)]) (hv:=Ex)) ?_;refine q_n (zG (B:=[.slice aP i cP,.string (str F.l)]) (h1:=rfl)) ?_|(refine zx ?_;first|refine q_v (zcn (l:=F.l) (hr:=FQ Y.sla (λ_ _ h=>h)) (hn:=Y.len)) ?_|refine q_n (zaO (v:=.string (str F.l)) (hC:=⟨A5 rfl,rfl⟩)) ?_|refine za7 ?_|fail)|fail
 have b4:(xs.map (λx=>zaN x.l)).length=i:=by rw[A0,hm]
 rw[b4];exact zar rfl (zE (B:=[.slice aP i cP,.string (str F.l)]) rfl (ty rfl) rfl Ey Ex rfl) q_h ⟨aP,cP,rfl,rfl⟩
end Go.Proofs.YtdnlngbjpdbffaaGreatDoor
namespace Go.Ct
open Sy
theorem LstAt.at{α β:Type}{cell:β->α->List Value}{q:World->β->α->Prop}{w:World}{a:Option Addr}{c k:Nat}{ps:List β}{l:List α}(h:LstAt cell q w a c ps l)(h0:0<k)(hk:∀p x,(cell p x).length=k){i:Nat}(r:i<l.length):∃j m p,a=some ⟨j,m,none⟩/\ps[i]?=some p/\q w p l[i]/\w.rangeAt j (m+i*k) (cell p l[i]):=by
 have F:(List.zipWith cell ps l).length=l.length:=by rw[Dp,h.len,Du]
 obtain⟨j,m,rfl,E⟩:=zpl (k:=k) h.mem (λC B=>by
  obtain⟨p,x,rfl⟩:=mem_zipWith B;exact hk p x) h0 (i:=i) q_o
 have A:i<ps.length:=by rw[h.len];exact r
 refine⟨j,m,ps[i],rfl,A2 A,h.each i _ _ (A2 A) (A2 r),?_⟩;have:=E i q_o;rwa[List.getElem_zipWith] at this
where
 mem_zipWith:∀ {ps:List β}{l:List α}{C:List Value},C∈List.zipWith cell ps l->∃p x,C=cell p x
  |p::ps,x::l,C,h=>by
   rcases AV.1 h with rfl|h
   ·exact⟨p,x,rfl⟩
   ·exact mem_zipWith h
end Go.Ct
namespace Go.Proofs.YtdnlngbjpdbffaaGreatDoor
open Sy Ct RowKit
attribute [local irreducible] Sy SyL SyX SyC SyF SyG SyH Sy.Fn Sy.FnP callFunc
theorem zjo{α β:Type}{cell:β->α->List Value} :∀ {j:List β}{l:List α}{z:List Value×α},z∈List.zip (List.zipWith cell j l) l->∃p,z.1=cell p z.2/\∃i:Nat,j[i]?=some p/\l[i]?=some z.2
 |p::j,x::l,z,h=>by
  rcases AV.1 h with rfl|h
  ·exact⟨p,rfl,0,rfl,rfl⟩
  ·obtain⟨w,m,i,q,r⟩:=zjo h;exact⟨w,m,i+1,q,r⟩
theorem zlR{α β:Type}{cell:β->α->List Value} :∀ {ps:List β}{l:List α},ps.length=l.length->(List.zip (List.zipWith cell ps l) l).map (·.2)=l
 | [],[],_=>rfl
 |p::ps,x::l,h=>by
  have:=zlR (cell:=cell) (ps:=ps) (l:=l) (by simpa using h);rw[EN,DG,Au,this]
theorem zo6{α γ:Type}(q:α->Bool):∀j:List (γ×α),(j.filter (λp=>q p.2)).map (·.2)=(j.map (·.2)).filter q
 | []=>rfl
 |z::j=>by
  have m:=zo6 q j;cases h:q z.2
  ·rw[DM (by simp[h]),Au,DM (by simp[h]),m]
  ·rw[DN (by simp[h]),Au,Au,DN (by simp[h]),m]
theorem zvT{γ:Type}{k:Nat}{zs:List (List Value×γ)}(hk:∀z∈zs,z.1.length=k){i:Nat}(r:i<zs.length)(J:List Value):Seg ((zs.map (·.1)).flatten++J) (i*k) zs[i].1:=λj v w=>by
 have A:j<k:=by have:=(AR.1 w).1;rw[hk zs[i] (AX r)] at this;exact this
 have q:=zgL (f:=λ(z:List Value×γ)=>z.1) (k:=k) zs hk i j A;rw[A2 r,EE] at q;have m:(zs.map (·.1)).flatten[i*k+j]?=some v:=by rw[q];exact w
 rw[BH (AR.1 m).1];exact m
open Nt
theorem zwr:Tryz.prog.underlying 103=some (.map 3 4):=by kernel_rfl
theorem zwx:Tryz.prog.underlying 3=some (.int .i64):=by kernel_rfl
theorem zv1(w:World):(zeroValue 4).run Tryz.prog w= .ok (.bool false) w:=by
 have h:Tryz.prog.underlying 4=some .bool:=by kernel_rfl
 simp[zeroValue,h,go_sem];rfl
abbrev zbH:=LstAt zF CertAt
abbrev zh4:=LstAt zcG AnchAt
abbrev zh5:=LstAt zes RevoAt
theorem zhr(a:Option Addr)(n c:Nat)(ps:List Pl)(l:List Cert)(w:World)(N:GT w)(hn:l.length=n)(h:zbH w a c ps l)(O:∀x∈l,x.fine)(hb:n<1000000):q_G 39 [.slice a n c] w (.bool (zay svK l)):=by
 refine zt Tryz.func39 Tryz.ntmps39 ?_;have q:n<1\/5<n\/(1<=n/\n<=5):=q_o;have F:n<1\/5<n->zay svK l=false:=λh=>by
  have:(decide (1<=l.length)&&decide (l.length<=5))=false:=by rw[hn];rcases h with h|h <;> simp <;> omega
  unfold zay;rw[this];rfl
 rcases q with h1|h1|⟨h1,M⟩
 ·rw[F (.inl h1)];repeat' first|refine s_0 ?_|refine zA [0,2] ?_;refine zb ?_|refine q_k 1 ?_;refine zaf ?_;refine zb ?_
  exact q_r
 ·rw[F (.inr h1)];repeat' first|refine s_0 ?_|refine zA [0,2] ?_;refine zb ?_|refine q_k 1 ?_;refine zaf ?_;refine zb ?_;refine q_x zH ?_
  exact q_r
 have H:zay svK l=l.all (Cert.ok svK):=by unfold zay;rw[hn,decide_eq_true h1,decide_eq_true M];rfl
 rw[H];repeat' first|refine s_t ?_|refine zA [0,3] ?_;refine zb ?_|refine q_k 1 ?_;refine zaf ?_;refine zb ?_;refine q_x zH ?_
 refine zL (γ:=Nat) (λi=>[(13,.slice a n c),(14,.int .i64 (n:Int)),(15,.int .i64 (i:Int))]) (λ_=>[]) (λi=>i<=n/\(l.take i).all (Cert.ok svK)=true) (λi=>n-i) 0 ⟨AA _,rfl⟩ ?_ ?_ ?_
 ·exact q_h
 ·exact q_h
 rintro i ⟨Q,m⟩;by_cases hlt:i<n
 ·obtain⟨P,S,p,rfl,R,G,hc⟩:=h.at (k:=11) q_e (λ_ _=>rfl) (i:=i) q_o;have E:l[i]∈l:=AX q_o;have J:l.take (i+1)=l.take i++[l[i]]:=zaE q_o;have I:=O l[i] E;have hv:=λL (K:Keep No w L)=>zg6 p l[i] L (N.to K) (G.keep K) I;have hC:(zF p l[i]).length=11:=rfl;have r:(zF p l[i]).all (·.oneCell')=true:=rfl;generalize l[i]=x at*;generalize zF p x=C at*;have g1:decide ((i:Int)<(n:Int))=true:=q_d;have g5:IntKind.i64.wrap ((i:Int)+1)=((i+1:Nat):Int):=q_w;by_cases hx:x.ok svK=true
  ·rw[hx] at hv;repeat' first|refine s_t ?_|refine zf 4 ?_;refine q_v (zn (hr:=g1)) ?_|refine zf 5 ?_;refine q_v (zal (j:=i)) ?_;refine q_v (zW (hv:=hc) (hz:=hC.symm)) ?_;refine zk λ_=>?_;refine q_n (zG (B:=C) (hv:=r) (h1:=hC.symm) (hC:=by exact hC.symm)) ?_|refine zf 6 ?_;refine q_v (ze (B:=C) (hz:=hC.symm)) ?_;refine q_v (za (hc:=zr hv)) ?_;refine zI ?_|refine zf 8 ?_;refine q_x (zD (hr:=g5)) ?_
   refine zC (i+1) ⟨hlt,by rw[J,BQ,m];simp[hx]⟩ ?_ ?_ ?_
   ·show n-(i+1)<n-i;omega
   ·exact q_h
   ·exact q_h
  ·rw[Br] at hx;rw[hx] at hv;have A:l.all (Cert.ok svK)=false:=by rw[BW];exact⟨x,E,by rw[hx];decide⟩
   rw[A];repeat' first|refine s_t ?_|refine zf 4 ?_;refine q_v (zn (hr:=g1)) ?_|refine zf 5 ?_;refine q_v (zal (j:=i)) ?_;refine q_v (zW (hv:=hc) (hz:=hC.symm)) ?_;refine zk λ_=>?_;refine q_n (zG (B:=C) (hv:=r) (h1:=hC.symm) (hC:=by exact hC.symm)) ?_|refine zf 6 ?_;refine q_v (ze (B:=C) (hz:=hC.symm)) ?_;refine q_v (za (hc:=zr hv)) ?_;refine zI ?_|refine q_k 7 ?_
   exact q_r
 obtain rfl:i=n:=q_o;rw[A6 q_o] at m;rw[m];have g1:decide ((i:Int)<(i:Int))=false:=q_f;repeat' first|refine s_0 ?_|refine zf 4 ?_;refine q_v (zn (hr:=g1)) ?_|refine q_k 9 ?_
 exact q_r
theorem zvL(a:Option Addr)(n c:Nat)(ps:List Pa)(l:List Anch)(w:World)(P:GT w)(hn:l.length=n)(h:zh4 w a c ps l)(Q:∀x∈l,x.name.fine)(hb:n<1000000):q_G 57 [.slice a n c] w (.bool (decide (l.length<=64)&&l.all (Anch.ok svK))):=by
 refine zt Tryz.func57 Tryz.ntmps57 ?_;rw[hn];rcases(show 64<n\/n<=64 by omega) with h1|h1
 ·rw[decide_eq_false (show ¬n<=64 by omega),BX];repeat' first|refine s_0 ?_|refine zA [0,2] ?_;refine zb ?_|refine q_k 1 ?_;refine q_v zH ?_
  exact q_r
 rw[decide_eq_true h1,B2];repeat' first|refine s_t ?_|refine zA [0,3] ?_;refine zb ?_|refine q_k 1 ?_;refine q_v zH ?_
 refine zL (γ:=Nat) (λi=>[(8,.slice a n c),(9,.int .i64 (n:Int)),(10,.int .i64 (i:Int))]) (λ_=>[]) (λi=>i<=n/\(l.take i).all (Anch.ok svK)=true) (λi=>n-i) 0 ⟨AA _,rfl⟩ ?_ ?_ ?_
 ·exact q_h
 ·exact q_h
 rintro i ⟨T,r⟩;by_cases hlt:i<n
 ·obtain⟨S,V,p,rfl,U,A,hc⟩:=h.at (k:=4) q_e (λ_ _=>rfl) (i:=i) q_o;have F:l[i]∈l:=AX q_o;have N:l.take (i+1)=l.take i++[l[i]]:=zaE q_o;have E:=Q l[i] F;have hv:=λI (J:Keep No w I)=>zgm _ _ I (A.name.keep J) E.1 E.2.1 E.2.2;have K:=λI (J:Keep No w I)=>zkM l[i].group p.a2 l[i].pub.length p.k2 l[i].pub I (P.to J) rfl A.pub.cap (A.pub.keep J).sla;rw[show decide ((gel l[i].group l[i].pub).2=0)=svK l[i].group l[i].pub from rfl] at K;have m:Anch.ok svK l[i]=(l[i].name.ok&&svK l[i].group l[i].pub):=rfl;generalize l[i]=x at*;unfold zbe at hv;unfold zcG at hc;have g1:decide ((i:Int)<(n:Int))=true:=q_d;have g5:IntKind.i64.wrap ((i:Int)+1)=((i+1:Nat):Int):=q_w;obtain⟨L,G⟩:∃u,u=x.name.ok:=⟨_,rfl⟩;obtain⟨O,H⟩:∃u,u=svK x.group x.pub:=⟨_,rfl⟩;rw[<-G] at hv m;rw[<-H] at K m;have M:L=false\/(L=true/\O=false)\/(L=true/\O=true):=by cases L <;> cases O <;> simp
  have q:Anch.ok svK x=false->l.all (Anch.ok svK)=false:=λR=>by rw[BW];exact⟨x,F,by rw[R];decide⟩
  clear G H;rcases M with rfl|⟨rfl,rfl⟩|⟨rfl,rfl⟩
  ·rw[q m];repeat' first|refine s_t ?_|refine zf 4 ?_;refine q_v (zn (hr:=g1)) ?_|refine zf 5 ?_;refine q_v (zal (j:=i)) ?_;refine q_v (zW (hv:=hc)) ?_;refine zk λ_=>?_;refine q_n (zG (h1:=rfl)) ?_|refine q_k 6 ?_;refine q_v (ze (B:=[.slice p.a1 x.name.parts.length p.k1,zT x.name.realm]) (hv:=FK rfl)) ?_;refine q_v (za (hc:=zr hv)) ?_;refine zI ?_;refine zb ?_|refine q_k 7 ?_
   exact q_r
  ·rw[q m];repeat' first|refine s_t ?_|refine zf 4 ?_;refine q_v (zn (hr:=g1)) ?_|refine zf 5 ?_;refine q_v (zal (j:=i)) ?_;refine q_v (zW (hv:=hc)) ?_;refine zk λ_=>?_;refine q_n (zG (h1:=rfl)) ?_|refine q_k 6 ?_;refine q_v (ze (B:=[.slice p.a1 x.name.parts.length p.k1,zT x.name.realm]) (hv:=FK rfl)) ?_;refine q_v (za (hc:=zr hv)) ?_;refine zI ?_;refine zb ?_;refine zm ?_;refine zb ?_;refine zm ?_;refine q_v (za (hc:=zr K)) ?_;refine zI ?_;refine zb ?_|refine q_k 7 ?_
   exact q_r
  ·repeat' first|refine s_t ?_|refine zf 4 ?_;refine q_v (zn (hr:=g1)) ?_|refine zf 5 ?_;refine q_v (zal (j:=i)) ?_;refine q_v (zW (hv:=hc)) ?_;refine zk λ_=>?_;refine q_n (zG (h1:=rfl)) ?_|refine q_k 6 ?_;refine q_v (ze (B:=[.slice p.a1 x.name.parts.length p.k1,zT x.name.realm]) (hv:=FK rfl)) ?_;refine q_v (za (hc:=zr hv)) ?_;refine zI ?_;refine zb ?_;refine zm ?_;refine zb ?_;refine zm ?_;refine q_v (za (hc:=zr K)) ?_;refine zI ?_;refine zb ?_|refine zf 8 ?_;refine q_x (zD (hr:=g5)) ?_
   refine zC (i+1) ⟨hlt,by rw[N,BQ,r];simp[m]⟩ ?_ ?_ ?_
   ·show n-(i+1)<n-i;omega
   ·exact q_h
   ·exact q_h
 obtain rfl:i=n:=q_o;rw[A6 q_o] at r;rw[r];have g1:decide ((i:Int)<(i:Int))=false:=q_f;repeat' first|refine s_0 ?_|refine zf 4 ?_;refine q_v (zn (hr:=g1)) ?_|refine q_k 9 ?_
 exact q_r
def zr1(ks:List Int)(u:Int):List Int:=if u∈ks then ks else ks++[u]
theorem zvO{j:List Int}{u x:Int} :x∈zr1 j u↔x∈j\/x=u:=by
 unfold zr1;split
 ·rename_i h;exact⟨.inl,λm=>m.elim id (λe=>e ▸ h)⟩
 ·simp
theorem zxQ(b:Nat)(D:List Value)(p:Prin)(pr:Option Addr×Nat)(x:Revo)(w:World)(r:w.rangeAt b 0 D)(hp:PrinIn w D p)(hx:RevoAt w pr x)(A:x.issuer.fine):
  q_G 144 [.agg (zes pr x).toArray,.pointer (some ⟨b,0,none⟩)] w (.bool (x.issuer.same p)):=by
 refine zt Tryz.func144 Tryz.ntmps144 ?_;have h:=λm (j:Keep No w m)=>ziX _ _ _ _ m (hx.name.keep j) (hp.keep j) A.1;have q:=hp.two;unfold zes zbe at*;repeat' first|refine s_0 ?_|refine zf 0 ?_;refine z9 λ_=>?_|refine q_k 1 ?_;refine q_v (ze (B:=[.slice pr.1 x.issuer.parts.length pr.2,zT x.issuer.realm]) (hv:=FK rfl)) ?_;refine q_v (zW (hv:=r) (hz:=q.symm)) ?_;refine q_v (za (hc:=zr h)) ?_;refine zb ?_
 exact q_r
theorem zx0(b:Nat)(p:Pl)(c:Cert)(m:Pa)(x:Anch)(w:World)(F:w.rangeAt b 0 (zF p c))(hc:CertAt w p c)(hx:AnchAt w m x)(G:x.name.fine):
  q_G 142 [.agg (zcG m x).toArray,.pointer (some ⟨b,0,none⟩)] w (.bool (x.name.same c.issuer)):=by
 refine zt Tryz.func142 Tryz.ntmps142 ?_;have h:=λA (r:Keep No w A)=>ziX _ _ _ _ A (hx.name.keep r) (hc.iss.keep r) G.1;have E:w.rangeAt b 1 (zbe p.a1 p.k1 c.issuer):=λj v q=>F (1+j) v (by
  have:(zF p c).drop 1=zbe p.a1 p.k1 c.issuer++(zF p c).drop 3:=rfl;rw[<-Bp,this,BH (AR.1 q).1];exact q) |> λh=>by rwa[show 0+(1+j)=1+j by omega] at h
 unfold zcG zbe at*;repeat' first|refine s_0 ?_|refine zf 0 ?_;refine z9 λ_=>?_|refine q_k 1 ?_;refine q_x (ze (B:=[.slice m.a1 x.name.parts.length m.k1,zT x.name.realm]) (hv:=FK rfl)) ?_;refine q_v (zW (hv:=E)) ?_;refine q_v (za (hc:=zr h)) ?_;refine zb ?_
 exact q_r
theorem zug(D:List Value)(p:Prin)(a:Option Addr)(n c:Nat)(ps:List (Option Addr×Nat))(rs:List Revo)(w:World)(hp:PrinIn w D p)(h:zh5 w a c ps rs)(hn:rs.length=n)(hf:∀x∈rs,x.issuer.fine)(hb:n<1000):
  Sy.Fn Tryz.prog 66 [.agg D.toArray,.slice a n c] w No (λv R=>∃b m,v= .map (some b)/\R= [zd5 b (zb7 m 0) m.length]/\∀u,u∈m↔ ∃r∈rs,r.issuer.same p=true/\r.serial=u):=by
 refine zt Tryz.func66 Tryz.ntmps66 ?_;have N:(List.zipWith zes ps rs).length=n:=by rw[Dp,h.len,hn,Du]
 have A:=hp.two;have G:=λV (O:Keep No w V) K (hD:V.rangeAt K 0 D)=>zuR a n c 144 [.pointer (some ⟨K,0,none⟩)] rs (List.zipWith zes ps rs) (λx=>x.issuer.same p) V (en rfl) hn N (λC hC=>by
  obtain⟨q,x,rfl⟩:=LstAt.at.mem_zipWith hC;exact⟨rfl,rfl⟩) ((Fi h.mem).to (Mi:=No) O (λ_ h=> .inr h)).sla hb (λi C x M W a6 I=>by
  rw[CW,W] at M;cases Q:ps[i]? with
  |none=>rw[Q] at M;cases M
  |some q=>
   rw[Q] at M;cases M;have Y:=h.each i q x Q W;exact zxQ K D p q x a6 (za0 hD I (λh=>h)) ((hp.keep O).keep I) ((Y.keep O).keep I) (hf x (BB W)))
 unfold zj8 at G;have T:∀z∈(List.zip (List.zipWith zes ps rs) rs).filter (λz=>z.2.issuer.same p),∃q,z.1=zes q z.2:=λz hz=>by
  obtain⟨q,h1,_⟩:=zjo (Bh.1 hz).1;exact⟨q,h1⟩
 have U:((List.zip (List.zipWith zes ps rs) rs).filter (λz=>z.2.issuer.same p)).map (·.2)=rs.filter (λx=>x.issuer.same p):=by rw[zo6 (q:=λ(x:Revo)=>x.issuer.same p),zlR h.len]
 have a7:((List.zip (List.zipWith zes ps rs) rs).filter (λz=>z.2.issuer.same p)).length<=n:=by
  refine BE (Cn _ _) ?_;rw[List.length_zip,N,hn,Du];exact A7 _
 generalize (List.zip (List.zipWith zes ps rs) rs).filter (λz=>z.2.issuer.same p)=zs at*;repeat' first|refine s_0 ?_|refine zf 0 ?_;refine z9 λ_=>?_|refine zf 1 ?_|refine q_s zrh ?_;rintro _ _ ⟨L,rfl,rfl⟩|(refine zx ?_;first|refine zw ?_|fail)|fail
 rename_i K;repeat' first|refine s_t ?_|refine q_k 2 ?_;refine q_v zab ?_;(refine q_s (zi (hc:=λV X O hh=>G V O K (zp (hh.has (r:=.blk K 43 D) q_h) Ex))) ?_;rintro _ _ ⟨R,rfl,aF,cF,rfl,rfl⟩);refine zb ?_
 refine zgh (a:=aF) (cp:=cF) (E:=67) (s:=3) (n:=zs.length) (xs:=(zs.map (λ(z:List Value×Revo)=>z.1)).flatten) (by exact Eu) λr hr=>?_;refine zL (γ:=Nat×List Int) (λg=>[(5,.map (some L)),(11,.slice aF zs.length cF),(12,.int .i64 (zs.length:Int)),(13,.int .i64 (g.1:Int))]) (λg=>[r,zd5 L (zb7 g.2 0) g.2.length]) (λg=>g.1<=zs.length/\∀u,u∈g.2↔ ∃z∈zs.take g.1,z.2.serial=u) (λg=>zs.length-g.1) (0,[]) ⟨AA _,λu=>by simp⟩ ?_ ?_ ?_
 ·exact q_h
 ·exact q_h
 rintro⟨i,m⟩ ⟨hi,F⟩;dsimp only at hi F ⊢;by_cases hlt:i<zs.length
 ·obtain⟨bF,J,rfl,rfl⟩:=hr q_o;have Z:zs.take (i+1)=zs.take i++[zs[i]]:=zaE hlt;have S:=zvT (k:=3) (zs:=zs) (λz hz=>by obtain⟨q,e⟩:=T z hz;rw[e];rfl) hlt J;obtain⟨q,Q⟩:=T zs[i] (AX hlt);rw[Q] at S;have P:∀u,u∈zr1 m zs[i].2.serial↔ ∃z∈zs.take (i+1),z.2.serial=u:=λu=>by
   rw[zvO,F u,Z];constructor
   ·rintro(⟨z,h1,A⟩|rfl)
    ·exact⟨z,AH _ h1,A⟩
    ·exact⟨zs[i],AY _ A3,rfl⟩
   ·rintro⟨z,h1,A⟩;rcases Ap.1 h1 with h1|h1
    ·exact .inl ⟨z,h1,A⟩
    ·rw[AD.1 h1] at A;exact .inr A.symm
  generalize zs[i].2=x at*;have g1:decide ((i:Int)<(zs.length:Int))=true:=q_d;have g5:IntKind.i64.wrap ((i:Int)+1)=((i+1:Nat):Int):=q_w;have H:Seg ((zs.map (·.1)).flatten++J) (0+i*3) (zes q x):=by rw[Aa];exact S
  unfold zes at H;repeat' first|refine s_t ?_|refine zf 3 ?_;refine q_v (zn (hr:=g1)) ?_|refine zf 4 ?_;refine q_v (zal (j:=i)) ?_;refine q_v (ze (B:=[.slice q.1 x.issuer.parts.length q.2,zT x.issuer.realm,.int .i64 x.serial]) (hv:=H)) ?_;refine zk λ_=>?_;refine q_n (zG (h1:=rfl)) ?_|refine q_k 5 ?_;refine zm ?_;(refine q_n (ztH (l:=m) (u:=x.serial) zwr zwx) ?_)|refine zf 6 ?_;refine q_x (zD (hr:=g5)) ?_
  refine zC (i+1,zr1 m x.serial) ⟨hlt,P⟩ ?_ ?_ ?_
  ·show zs.length-(i+1)<zs.length-i;omega
  ·exact q_h
  ·show SubR [_,zd5 L (zb7 (if x.serial∈m then m else m++[x.serial]) 0) (if x.serial∈m then m else m++[x.serial]).length] _;exact q_h
 obtain rfl:i=zs.length:=q_o;rw[A6 (A7 _)] at F;have g1:decide ((zs.length:Int)<(zs.length:Int))=false:=q_f;repeat' first|refine s_0 ?_|refine zf 3 ?_;refine q_v (zn (hr:=g1)) ?_|refine q_k 7 ?_
 refine zar rfl (zh rfl) (R:=[zd5 L (zb7 m 0) m.length]) q_h ⟨L,m,rfl,rfl,λu=>?_⟩;rw[F u];constructor
 ·rintro⟨z,h1,A⟩;have:z.2∈rs.filter (λx=>x.issuer.same p):=by rw[<-U];exact Bv.2 ⟨z,h1,rfl⟩
  exact⟨z.2,(Bh.1 this).1,(Bh.1 this).2,A⟩
 ·rintro⟨x,h1,A,h3⟩;have:x∈zs.map (·.2):=by rw[U];exact Bh.2 ⟨h1,A⟩
  obtain⟨z,h4,rfl⟩:=Bv.1 this;exact⟨z,h4,h3⟩
end Go.Proofs.YtdnlngbjpdbffaaGreatDoor
