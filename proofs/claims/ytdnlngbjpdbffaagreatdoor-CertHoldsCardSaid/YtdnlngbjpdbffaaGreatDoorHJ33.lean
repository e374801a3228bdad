/- Lemmas of this proof. -/
import Derived.Test.YtdnlngbjpdbffaaGreatDoorHJ32
set_option maxHeartbeats 1000000
set_option maxRecDepth 10000
set_option linter.all false
namespace Go.Ct
open Go Go.Sy
structure LstAt{α β:Type}(cell:β->α->List Value)(At:World->β->α->Prop)(w:World)(a:Option Addr)(c:Nat)(ps:List β)(l:List α):Prop where
 len:ps.length=l.length
 cap:l.length<=c
 nil:a=none->c=0
 mem:SlA w a (List.zipWith cell ps l).flatten
 each:∀(i:Nat) (p:β) (x:α),ps[i]?=some p->l[i]?=some x->At w p x
theorem LstAt.keep{α β:Type}{cell:β->α->List Value}{j:World->β->α->Prop}{w w':World}{a:Option Addr}{c:Nat}{ps:List β}{l:List α}(h:LstAt cell j w a c ps l)(hk:Keep No w w')(r:∀p x,j w p x->j w' p x):LstAt cell j w' a c ps l:=
 ⟨h.len,h.cap,h.nil,h.mem.keep hk (λ_ _ h=>h),λi p x m q=>r p x (h.each i p x m q)⟩
theorem zl8{α β γ:Type}{R:γ->α->β->Prop} :∀(j:List γ) (l:List α),j.length=l.length->(∀(i:Nat) (C:γ) (x:α),j[i]?=some C->l[i]?=some x->∃p,R C x p)->∃ps:List β,ps.length=l.length/\∀(i:Nat) (C:γ) (x:α) (p:β),j[i]?=some C->l[i]?=some x->ps[i]?=some p->R C x p
 | [],[],_,_=>⟨[],rfl,λi C x p h=>by simp at h⟩
 |C::j,x::l,hl,h=>by
  obtain⟨p,E⟩:=h 0 C x rfl rfl;obtain⟨ps,A,B⟩:=zl8 j l (by simpa using hl) (λi C x m q=>h (i+1) C x m q);refine⟨p::ps,by simp[A],λi w G F m q r=>?_⟩;cases i with
  |zero=>cases m;cases q;cases r;exact E
  |succ i=>exact B i w G F m q r
theorem LstAt.of{α β:Type}{cell:β->α->List Value}{A:World->β->α->Prop}{w:World}{k:Nat}{Ψ:World->List Value->α->Prop}{v:Value}{l:List α}(h:zsy k Ψ w v l)(hp:∀C x,Ψ w C x->∃p,C=cell p x/\A w p x):∃a c ps,v= .slice a l.length c/\LstAt cell A w a c ps l:=by
 obtain⟨a,c,q,rfl,G,N,I,J,K,L⟩:=h;obtain⟨ps,M,r⟩:=zl8 (R:=λC x p=>C=cell p x/\A w p x) q l K (λi C x m j=>hp C x (L i C x m j).2);have B:q=List.zipWith cell ps l:=by
  apply Cl;intro i;rw[CL];by_cases F:i<l.length
  ·have m:q[i]?=some q[i]:=A2 q_o;have j:l[i]?=some l[i]:=A2 F;have E:ps[i]?=some ps[i]:=A2 q_o;rw[m,j,E,(r i _ _ _ m j E).1]
  ·rw[BJ q_o,BJ (by omega:ps.length<=i)]
 refine⟨a,c,ps,rfl,M,G,J,by rw[<-B];exact I,λi p x m j=>?_⟩;have F:i<l.length:=(AL.1 j).1;exact(r i q[i] x p (A2 q_o) j m).2
structure Pa where
 a1:Option Addr
 k1:Nat
 a2:Option Addr
 k2:Nat
def zb0(p:Pa)(x:Anch):List Value:=[.slice p.a1 x.name.parts.length p.k1,zW x.name.realm,.int .i64 x.group,.slice p.a2 x.pub.length p.k2]
structure AnchAt(w:World)(p:Pa)(x:Anch):Prop where
 name:PrinIn w (za1 p.a1 p.k1 x.name) x.name
 pub:(⟨p.a2,x.pub.length,p.k2,x.pub⟩:Bs).ok w
 rng:(Lit.int .i64 x.group).wf=true
theorem AnchAt.keep{w w':World}{p:Pa}{x:Anch}(h:AnchAt w p x)(hk:Keep No w w'):AnchAt w' p x:=⟨h.name.keep hk,h.pub.keep hk,h.rng⟩
theorem AnchIn.at{w:World}{C:List Value}{x:Anch}(h:AnchIn w C x):∃p,C=zb0 p x/\AnchAt w p x:=by
 obtain⟨⟨N,E,rfl,m,A⟩,B⟩:=h;obtain⟨⟨a1,q,rfl,_⟩,_⟩:=id m;obtain⟨a3,r,rfl,j⟩:=A.bs;exact⟨⟨a1,q,a3,r⟩,rfl,m,j,B⟩
def zbu(p:Option Addr×Nat)(x:Revo):List Value:=[.slice p.1 x.issuer.parts.length p.2,zW x.issuer.realm,.int .i64 x.serial]
structure RevoAt(w:World)(p:Option Addr×Nat)(x:Revo):Prop where
 name:PrinIn w (za1 p.1 p.2 x.issuer) x.issuer
 rng:(Lit.int .i64 x.serial).wf=true
theorem RevoAt.keep{w w':World}{p:Option Addr×Nat}{x:Revo}(h:RevoAt w p x)(hk:Keep No w w'):RevoAt w' p x:=⟨h.name.keep hk,h.rng⟩
theorem RevoIn.at{w:World}{C:List Value}{x:Revo}(h:RevoIn w C x):∃p,C=zbu p x/\RevoAt w p x:=by
 obtain⟨⟨N,rfl,j⟩,q⟩:=h;obtain⟨⟨a1,m,rfl,_⟩,_⟩:=id j;exact⟨(a1,m),rfl,j,q⟩
def Prin.fine(p:Prin):Prop:=p.parts.length<1000000/\p.realm.length<1000000000/\∀x∈p.parts,x.length<1000000000
theorem Prin.same_comm(a b:Prin):a.same b=b.same a:=by
 rw[CO,F7,F7];exact⟨Da,Da⟩
def Fj:=@Prin.same_comm
def zhL(sv:Int->List UInt8->Bool)(sf:Int->List UInt8->List UInt8->List UInt8->Bool)(c:Cert)(z:Int)(pub:List UInt8):Int:=if (c.ok sv&&sv z pub)=true then (if sf z pub c.body c.sig=true then 0 else 221) else 2
end Go.Ct
namespace Go.Proofs.YtdnlngbjpdbffaaGreatDoor
section
open Go Go.Sy Go.Ct Go.Nt Go.RowKit
attribute [local irreducible] Sy SyL SyX SyC SyF Sy.Fn callFunc
def sfK(z:Int)(pub m s:List UInt8):Bool:=decide (ze0 z pub m s=0)
theorem zo0{z:Int}{l:List UInt8}(h:svK z l=true):l.length<=96:=by
 have j:=zj2 (of_decide_eq_true h);rw[j.2.1];have:=zf2 z;unfold zbd at this;rwa[if_pos j.1] at this
theorem zk4{c:Cert}(h:c.ok svK=true):c.pub.length<=96/\c.sig.length<=192/\c.body.length<=701/\c.der.length<=1000:=by
 have m:=F1 svK_law h;have j:=h;simp only[Cert.ok,A5,decide_eq_true_eq] at j;have q:=zo0 j.2;have w:c.body.length<=605+c.pub.length:=by rw[FM];have:=(zae 0x30 c.flat).2;have:=FU m;omega
 have A:=Fg m;have r:c.sig.length<=192:=j.1.2;exact⟨q,r,by omega,by omega⟩
theorem zku(p:Pl)(c:Cert)(z:Int)(s:Bs)(w:World)(I:GT w)(P:Tab w No)(O:ST w)(h:CertAt w p c)(S:c.fine)(E:s.ok w):q_G 24 [.agg (zE p c).toArray,.int .i64 z,s.val] w (.int .i64 (zhL svK sfK c z s.l)):=by
 refine zz Tryz.func24 Tryz.ntmps24 ?_;have hv:=λm (j:Keep No w m)=>zez p c m (I.to j) (h.keep j) S;have q:=λm (j:Keep No w m)=>zjS z s.a s.n s.c s.l m (I.to j) E.len E.cap (E.keep j).sla;rw[show decide ((gel z s.l).2=0)=svK z s.l from rfl] at q;have F:s.val= .slice s.a s.n s.c:=rfl;rw[F];unfold zhL;have G:(zE p c).length=11:=rfl;by_cases hok:c.ok svK=true
 ·rw[hok] at hv ⊢;by_cases hz:svK z s.l=true
  ·rw[hz] at q ⊢;rw[if_pos (show(true&&true)=true from rfl)];obtain⟨Y,Z,m3,m4⟩:=zk4 hok;have U:=zo0 hz;have Q:=λm (j:Keep No w m)=>ziY p c m (h.keep j) (F1 svK_law hok);have J:=λm (j:Keep No w m) a k (N:(⟨a,c.body.length,k,c.body⟩:Bs).ok m)=>zsj z s.a a p.a4 s.n s.c c.body.length k c.sig.length p.k4 s.l c.body c.sig m (I.to j) (P.no j) (O.to j) (E.keep j) N (h.sig.keep j) (by have:=E.len;omega) q_o q_o;have M:Seg (zE p c) 10 [.slice p.a4 c.sig.length p.k4]:=FB rfl;have A:(zE p c)[0+10]?=some (.slice p.a4 c.sig.length p.k4):=rfl;have r:(if sfK z s.l c.body c.sig=true then (0:Int) else 221)=if ze0 z s.l c.body c.sig=0 then 0 else 221:=by unfold sfK;simp
   rw[r];generalize ze0 z s.l c.body c.sig=e at*;clear r h;generalize c.body=V,zE p c=C at*;repeat' (first|refine s_0 ?_|refine ze 0 ?_;refine z9 ?_;intro _|refine ze 1 ?_;refine q_v (zd (B:=C) (hz:=G.symm)) ?_;refine q_v (za (hc:=zr hv)) ?_;refine zI ?_;refine zf ?_;refine q_v (za (hc:=zr q)) ?_;refine zI ?_;refine zf ?_)
   (refine zdq (id:=3) [0,1,2,4,5] [3,6,7] mixed ?_ ?_;kernel_rfl;refine yfv zar (k:=?_);refine yfv zar (k:=?_);refine yfv (zd (B:=C) (hz:=G.symm)) (k:=?_);refine yfv zP (k:=?_);refine yfv (zM (hv:=A)) (k:=?_);refine yf0 ?_;try refine yc0 (k:=?_))
   refine ycs (zn (hc:=zr Q)) (k:=?_);rintro _ _ ⟨R,rfl,K,L,rfl,rfl⟩;refine ycv (za (hc:=λm X j T=>J m j K L (zau T rfl q_h))) (k:=?_);by_cases he:e=0
   ·refine ycv (zV (hr:=decide_eq_false (λh=>h he))) (k:=?_);refine yc0 (k:=?_);rw[if_pos he];repeat' (first|refine s_0 ?_|refine q_k 5 ?_)
    exact q_r
   ·refine ycv (zV (hr:=decide_eq_true he)) (k:=?_);refine yc0 (k:=?_);rw[if_neg he];repeat' (first|refine s_0 ?_|refine q_k 4 ?_)
    exact q_r
  ·rw[Bo] at hz;rw[hz] at q ⊢;generalize zE p c=C at*;repeat' (first|refine s_0 ?_|refine ze 0 ?_;refine z9 ?_;intro _|refine ze 1 ?_;refine q_v (zd (B:=C) (hz:=G.symm)) ?_;refine q_v (za (hc:=zr hv)) ?_;refine zI ?_;refine zf ?_;refine q_v (za (hc:=zr q)) ?_;refine zI ?_;refine zf ?_|refine q_k 2 ?_)
   exact q_r
 ·rw[Bo] at hok;rw[hok] at hv ⊢;generalize zE p c=C at*;repeat' (first|refine s_0 ?_|refine ze 0 ?_;refine z9 ?_;intro _|refine ze 1 ?_;refine q_v (zd (B:=C) (hz:=G.symm)) ?_;refine q_v (za (hc:=zr hv)) ?_;refine zI ?_;refine zf ?_|refine q_k 2 ?_)
  exact q_r
def zgm:Cert:=⟨0,⟨[],[]⟩,⟨[],[]⟩,0,0,false,0,[],[]⟩
def zjV:Pl:=⟨none,0,none,0,none,0,none,0⟩
theorem zr3(p:Pl)(c:Cert)(z:Int)(pr no:Bs)(w:World)(L:GT w)(P:Tab w No)(h:CertAt w p c)(S:c.fine)(hp:pr.ok w)(hn:no.ok w)(F:no.n<=1000)(G:c.ok svK=false\/(c.ok svK=true/\zfK z pr.l no.l c.body=none)):
  q_G 20 [.agg (zE p c).toArray,.int .i64 z,pr.val,no.val] w (.tuple #[.agg (zE zjV zgm).toArray,.int .i64 2]):=by
 refine zz Tryz.func20 Tryz.ntmps20 ?_;have A:=λq (j:Keep No w q)=>zez p c q (L.to j) (h.keep j) S;have J:pr.val= .slice pr.a pr.n pr.c:=rfl;have I:no.val= .slice no.a no.n no.c:=rfl;have E:(zE p c).length=11:=rfl;rw[J,I];rcases G with m|⟨m,K⟩
 ·rw[m] at A;generalize zE p c=C at*;repeat' (first|refine s_0 ?_|refine ze 0 ?_;refine zi ?_;intro _;refine z9 ?_;intro _|refine ze 1 ?_;refine q_v (zd (B:=C) (hz:=E.symm)) ?_;refine q_v (za (hc:=zr A)) ?_;refine zI ?_|refine ze 2 ?_;refine za4 ?_;refine q_y (zA (h1:=rfl)) ?_)
  exact zT rfl (zB (B:=zE zjV zgm) rfl (ty rfl) rfl En Em rfl) (zj rfl) El ⟨rfl,rfl⟩
 ·rw[m] at A;obtain⟨m1,m2,m3,m4⟩:=zk4 m;have Q:=λq (j:Keep No w q)=>ziY p c q (h.keep j) (F1 svK_law m);have r:=λq (j:Keep No w q) a k (O:(⟨a,c.body.length,k,c.body⟩:Bs).ok q)=>zoO z pr.a no.a a pr.n pr.c no.n no.c c.body.length k pr.l no.l c.body q (L.to j) (P.no j) (hp.keep j) (hn.keep j) O F q_o;rw[K] at r;unfold BR at r;generalize c.body=V,zE p c=C at*;repeat' (first|refine s_0 ?_|refine ze 0 ?_;refine zi ?_;intro _;refine z9 ?_;intro _|refine ze 1 ?_;refine q_v (zd (B:=C) (hz:=E.symm)) ?_;refine q_v (za (hc:=zr A)) ?_;refine zI ?_|refine q_k 3 ?_;refine q_v (zd (B:=C) (hz:=E.symm)) ?_;(refine q_s (zn (hc:=zr Q)) ?_;rintro _ _ ⟨R,rfl,M,N,rfl,rfl⟩))
  refine q_s (zn (hc:=λq X j T=>r q j M N (zau T rfl q_h))) ?_;rintro _ _ ⟨R,rfl,Y,nS,Z,rfl,U,rfl⟩;repeat' (first|refine s_0 ?_|refine q_k 4 ?_;refine zat ?_|refine ze 5 ?_;refine za4 ?_;refine q_y (zA (h1:=rfl)) ?_|(refine zx ?_;first|refine zo ?_|refine zC ?_|refine zw ?_|fail)|fail)
  exact zT rfl (zB (B:=zE zjV zgm) rfl (ty rfl) rfl En Em rfl) (zj rfl) El ⟨rfl,rfl⟩
def zi8(c:Cert)(v:Value)(R:List Res):Prop:=∃p,v= .tuple #[.agg (zE p c).toArray,.int .i64 0]/\R=zac p c
theorem zh9(p:Pl)(c:Cert)(z:Int)(pr no:Bs)(s:List UInt8)(w:World)(N:GT w)(U:Tab w No)(h:CertAt w p c)(O:c.fine)(hp:pr.ok w)(hn:no.ok w)(G:no.n<=1000)(r:c.ok svK=true)(K:zfK z pr.l no.l c.body=some s):
  Sy.Fn Tryz.prog 20 [.agg (zE p c).toArray,.int .i64 z,pr.val,no.val] w No (zi8 { c with sig:=s }):=by
 refine zz Tryz.func20 Tryz.ntmps20 ?_;have hv:=λj (m:Keep No w j)=>zez p c j (N.to m) (h.keep m) O;have J:pr.val= .slice pr.a pr.n pr.c:=rfl;have I:no.val= .slice no.a no.n no.c:=rfl;have hC:(zE p c).length=11:=rfl;rw[J,I];rw[r] at hv;obtain⟨m1,m2,m3,m4⟩:=zk4 r;have V:=λj (m:Keep No w j)=>ziY p c j (h.keep m) (F1 svK_law r);have A:=λj (m:Keep No w j) a k (S:(⟨a,c.body.length,k,c.body⟩:Bs).ok j)=>zoO z pr.a no.a a pr.n pr.c no.n no.c c.body.length k pr.l no.l c.body j (N.to m) (U.no m) (hp.keep m) (hn.keep m) S G q_o;rw[K] at A;unfold BR at A;have E:=λj (m:Keep No w j)=>zs0 p c j (h.keep m) O q_o q_o;unfold zkK zac at E;unfold zi8 zac;generalize c.body=BD,T:zE p c=C at*;repeat' (first|refine s_0 ?_|refine ze 0 ?_;refine zi ?_;intro _;refine z9 ?_;intro _|refine ze 1 ?_;refine q_v (zd (B:=C) (hz:=hC.symm)) ?_;refine q_v (za (hc:=zr hv)) ?_;refine zI ?_|refine q_k 3 ?_;refine q_v (zd (B:=C) (hz:=hC.symm)) ?_;(refine q_s (zn (hc:=zr V)) ?_;rintro _ _ ⟨R,rfl,P,Q,rfl,rfl⟩))
 refine q_s (zn (hc:=λj X m Y=>A j m P Q (zau Y rfl q_h))) ?_;rintro _ _ ⟨R,rfl,L,Z,M,rfl,F,rfl⟩;obtain rfl:Z=s.length:=F;repeat' (first|refine s_0 ?_|refine q_k 4 ?_;refine zat ?_|refine ze 6 ?_;refine q_v (zd (B:=C) (hz:=hC.symm)) ?_;(refine q_s (zn (hc:=zr E)) ?_;rintro _ _ ⟨R,rfl,q,rfl,rfl⟩);refine q_n (zA (hv:=rfl) (h1:=rfl) (hC:=by exact hC)) ?_|(refine zx ?_;first|refine zo ?_|refine zC ?_|refine zw ?_|fail)|fail)
 unfold zE;repeat' (first|refine s_0 ?_|refine q_k 7 ?_;refine q_n (zaK (hC:=⟨A6 rfl,rfl⟩)) ?_|refine ze 8 ?_;refine zl ?_;refine q_y (zA (h1:=rfl)) ?_)
 exact zT rfl (zB (B:=zE ⟨q.a1,q.k1,q.a2,q.k2,q.a3,q.k3,L,M⟩ { c with sig:=s }) rfl (ty rfl) rfl En Em rfl) (zj rfl) q_h ⟨⟨q.a1,q.k1,q.a2,q.k2,q.a3,q.k3,L,M⟩,rfl,rfl⟩
end
section
open Go Go.Sy Go.Ct Go.Wd Go.Sh Go.RowKit
noncomputable def zxr(t:TypeId):Array Field:=match Tryz.prog.underlying t with
 |some (.struct fs)=>fs
 |_=> #[]
noncomputable def fld(t:TypeId)(i:Nat):Field:=(zxr t).toList.getD i default
theorem zxB:PrinTy Tryz.prog 43:=⟨41,9,9,fld 43 0,fld 43 1,by kernel_rfl,by kernel_rfl,by kernel_rfl,by kernel_rfl,by kernel_rfl,by kernel_rfl,by kernel_rfl,by kernel_rfl,by kernel_rfl,by kernel_rfl,by kernel_rfl,by kernel_rfl⟩
theorem certTy:CertTy Tryz.prog 45 43 3 4 23 5:=
 ⟨⟨fld 45,by kernel_rfl,by kernel_rfl,by kernel_rfl,by kernel_rfl,by kernel_rfl,by kernel_rfl,by kernel_rfl,by kernel_rfl,by kernel_rfl,by kernel_rfl,by kernel_rfl,by kernel_rfl,by kernel_rfl,by kernel_rfl,by kernel_rfl,by kernel_rfl,by kernel_rfl,by kernel_rfl,by kernel_rfl⟩,by kernel_rfl,zxB,by kernel_rfl,by kernel_rfl,by kernel_rfl,by kernel_rfl,by kernel_rfl,by kernel_rfl,by kernel_rfl,by kernel_rfl,by kernel_rfl⟩
theorem anchTy:AnchTy Tryz.prog 65 43 3 23 5:=⟨⟨fld 65,by kernel_rfl,by kernel_rfl,by kernel_rfl,by kernel_rfl,by kernel_rfl,by kernel_rfl,by kernel_rfl⟩,by kernel_rfl⟩
theorem revoTy:RevoTy Tryz.prog 67 43 3:=⟨⟨fld 67,by kernel_rfl,by kernel_rfl,by kernel_rfl,by kernel_rfl,by kernel_rfl⟩,by kernel_rfl⟩
theorem zod:Tryz.prog.underlying 22=some (.slice 45):=by kernel_rfl
theorem zof:Tryz.prog.underlying 37=some (.slice 65):=by kernel_rfl
theorem zjW:Tryz.prog.underlying 38=some (.slice 67):=by kernel_rfl
variable {H:Type}{enc:TypeId×Value->H}{W:World}{v:Value}{d:DataW H}{ps:List MemPlace}
theorem zkV{α β:Type}{cell:β->α->List Value}{m:World->β->α->Prop}{k:Nat}{Ψ:World->List Value->α->Prop}{t e:TypeId}(L:Tryz.prog.underlying t=some (.slice e))(hc:Tryz.prog.cellsOf e=k)(hk:0<k)(M:∀B,Rdb enc Tryz.prog W e B->∃y,Ψ W B y)(hp:∀C x,Ψ W C x->∃p,C=cell p x/\m W p x)
  {a:Option Addr}{n c:Nat}(h:DataW.Trod enc Tryz.prog W 0 (λ_=>true) true t (.slice a n c) d ps):∃ps l,l.length=n/\n<=maxLen/\LstAt cell m W a c ps l:=by
 obtain⟨j,h⟩:=h;obtain⟨v,r,E,q⟩:=zv0 (Ψ:=Ψ) (W:=W) (t:=t) ⟨j,_,h⟩ L hc hk M;obtain⟨w,A,ps,rfl,I⟩:=LstAt.of q hp;have F:(Value.slice a n c)= .slice w r.length A:=by simpa [Value.cells] using E
 cases F;obtain⟨_,_,_,G,J,K,_⟩:=q;cases G;exact⟨ps,r,rfl,BM J K,I⟩
theorem ztA{a:Option Addr}{n c:Nat}(h:DataW.Trod enc Tryz.prog W 0 (λ_=>true) true 22 (.slice a n c) d ps):∃ps l,l.length=n/\n<=maxLen/\LstAt zE CertAt W a c ps l:=
 zkV zod certTy.cells (by decide) (λ_ j=>zvz j certTy) (λ_ _ h=>CertIn.at h) h
theorem zsC{a:Option Addr}{n c:Nat}(h:DataW.Trod enc Tryz.prog W 0 (λ_=>true) true 37 (.slice a n c) d ps):∃ps l,l.length=n/\n<=maxLen/\LstAt zb0 AnchAt W a c ps l:=
 zkV zof anchTy.cells (by decide) (λ_ j=>zvP j certTy anchTy) (λ_ _ h=>AnchIn.at h) h
theorem znQ{a:Option Addr}{n c:Nat}(h:DataW.Trod enc Tryz.prog W 0 (λ_=>true) true 38 (.slice a n c) d ps):∃ps l,l.length=n/\n<=maxLen/\LstAt zbu RevoAt W a c ps l:=
 zkV zjW revoTy.cells (by decide) (λ_ j=>zwq j certTy revoTy) (λ_ _ h=>RevoIn.at h) h
theorem Rdb.arr{P:Program}{t e:TypeId}{n:Nat}{C:List Value}(h:Rdb enc P W t C)(w:P.underlying t=some (.array n e)):C.length=P.cellsOf t/\∀i,i<n->Rdb enc P W e ((C.drop (i*P.cellsOf e)).take (P.cellsOf e)):=by
 obtain⟨j,x,h⟩:=h;obtain⟨E,m,_,_,r,B,A⟩:=DataW.trod_array w h;refine⟨r,λi q=>?_⟩;have:=A i q;rw[A2 (by omega)] at this;exact⟨m,_,this⟩
theorem ztu{v:Value}{d:DataW H}{ps:List MemPlace}(h:DataW.Trod enc Tryz.prog W 0 (λ_=>true) true 39 v d ps):∃t0 t1 t2,v= .agg #[.int .i64 t0,.int .i64 t1,.int .i64 t2]:=by
 obtain⟨j,h⟩:=h;obtain⟨w,A⟩:=Rdb.arr (n:=3) (e:=3) (t:=39) ⟨j,_,h⟩ (by kernel_rfl);have E:Tryz.prog.cellsOf 3=1:=by kernel_rfl
 have B:Tryz.prog.cellsOf 39=3:=by kernel_rfl
 have hu:Tryz.prog.underlying 3=some (.int .i64):=by kernel_rfl
 rw[B] at w;simp only[E] at A;obtain⟨t0,m,_⟩:=(A 0 (by omega)).int hu;obtain⟨t1,q,_⟩:=(A 1 (by omega)).int hu;obtain⟨t2,r,_⟩:=(A 2 (by omega)).int hu;refine⟨t0,t1,t2,?_⟩;have F:=zq3 (C:=v.cells.toList) rfl (by rw[w];decide);rw[F];generalize v.cells.toList=C at w m q r
 match C,w,m,q,r with
 | [x,y,z],_,m,q,r=>
  obtain rfl:x=_:=by simpa using m
  obtain rfl:y=_:=by simpa using q
  obtain rfl:z=_:=by simpa using r
  rfl
end
open Go Go.Sy Go.Ct Go.RowKit
attribute [local irreducible] Sy SyL SyX Sy.Fn Sy.FnP callFunc
def zbr:Value:=.iface 117 (.agg #[.int .i64 6])
theorem zgk:∃d,Tryz.prog.underlying 117=some d/\∀j,d≠ .interface j:=zl7 (by kernel_rfl)
theorem zd0(b:Bool)(w:World):FnP Tryz.prog 89 [.bool b] w No (λv R=>b=true/\v= .tuple #[]/\R= []) (λv R=>b=false/\v=zbr/\R= []):=by
 refine zay Tryz.func89 rfl Tryz.ntmps89 q_p FF ?_;obtain⟨d,j,m⟩:=zgk;cases b
 ·repeat' (first|refine s_0 ?_|refine q_k 0 ?_;refine zI ?_|refine ze 1 ?_;refine za4 ?_|refine q_v (zbi j m) ?_|refine zbS ?_|fail)
  exact zao El ⟨rfl,rfl,rfl⟩
 ·repeat' (first|refine s_0 ?_|refine q_k 0 ?_;refine zI ?_)
  exact zef rfl El ⟨rfl,rfl,rfl⟩
theorem zmw(v:Value)(e:Int)(w:World):FnP Tryz.prog 198 [v,.int .i64 e] w No (λu R=>e=0/\u=v/\R= []) (λu R=>e≠0/\u=zbr/\R= []):=by
 refine zay Tryz.func198 rfl Tryz.ntmps198 q_p FF ?_;repeat' (first|refine s_0 ?_|refine zL [0,2] ?_;refine zf ?_|refine q_k 1 ?_;refine q_v (zY (hr:=rfl)) ?_;(refine zdf (M':=No) (f:=89) Er (λ_ h=>False.elim h) (λm _ _ _=>zd0 _ m) ?_ ?_)|(rintro _ _ ⟨j,rfl,rfl⟩)|refine zH ?_|fail)
 ·exact zdL rfl (zj rfl) El ⟨of_decide_eq_true j,rfl,rfl⟩
 ·exact zao El ⟨of_decide_eq_false j,rfl,rfl⟩
theorem znc(v:Value)(e:Int)(w:World):FnP Tryz.prog 125 [v,.int .i64 e] w No (λu R=>e=0/\u=v/\R= []) (λu R=>e≠0/\u=zbr/\R= []):=by
 refine zay Tryz.func125 rfl Tryz.ntmps125 q_p FF ?_;repeat' (first|refine s_0 ?_|refine zL [0,2] ?_;refine zf ?_|refine q_k 1 ?_;refine q_v (zY (hr:=rfl)) ?_;(refine zdf (M':=No) (f:=89) Er (λ_ h=>False.elim h) (λm _ _ _=>zd0 _ m) ?_ ?_)|(rintro _ _ ⟨j,rfl,rfl⟩)|refine zH ?_|fail)
 ·exact zdL rfl (zj rfl) El ⟨of_decide_eq_true j,rfl,rfl⟩
 ·exact zao El ⟨of_decide_eq_false j,rfl,rfl⟩
theorem zn4(v:Value)(e:Int)(w:World):FnP Tryz.prog 176 [v,.int .i64 e] w No (λu R=>e=0/\u=v/\R= []) (λu R=>e≠0/\u=zbr/\R= []):=by
 refine zay Tryz.func176 rfl Tryz.ntmps176 q_p FF ?_;repeat' (first|refine s_0 ?_|refine zL [0,2] ?_;refine zf ?_|refine q_k 1 ?_;refine q_v (zY (hr:=rfl)) ?_;(refine zdf (M':=No) (f:=89) Er (λ_ h=>False.elim h) (λm _ _ _=>zd0 _ m) ?_ ?_)|(rintro _ _ ⟨j,rfl,rfl⟩)|refine zH ?_|fail)
 ·exact zdL rfl (zj rfl) El ⟨of_decide_eq_true j,rfl,rfl⟩
 ·exact zao El ⟨of_decide_eq_false j,rfl,rfl⟩
theorem zn0(v:Value)(e:Int)(w:World):FnP Tryz.prog 208 [v,.int .i64 e] w No (λu R=>e=0/\u=v/\R= []) (λu R=>e≠0/\u=zbr/\R= []):=by
 refine zay Tryz.func208 rfl Tryz.ntmps208 q_p FF ?_;repeat' (first|refine s_0 ?_|refine zL [0,2] ?_;refine zf ?_|refine q_k 1 ?_;refine q_v (zY (hr:=rfl)) ?_;(refine zdf (M':=No) (f:=89) Er (λ_ h=>False.elim h) (λm _ _ _=>zd0 _ m) ?_ ?_)|(rintro _ _ ⟨j,rfl,rfl⟩)|refine zH ?_|fail)
 ·exact zdL rfl (zj rfl) El ⟨of_decide_eq_true j,rfl,rfl⟩
 ·exact zao El ⟨of_decide_eq_false j,rfl,rfl⟩
end Go.Proofs.YtdnlngbjpdbffaaGreatDoor
namespace Go.Ct
open Go Go.Sy Go.RowKit
theorem znz(v:Int)(c:Nat)(hc:c<256)(h1: -9223372036854775808<=v*256+c)(h2:v*256+c<9223372036854775808):bits .or .i64 (v*256) (c:Int)=v*256+c:=by
 have j:(BitVec.ofInt 64 (v*256)).toNat=(v%72057594037927936).toNat*2^8:=by
  rw[BitVec.toNat_ofInt];omega
 have m:(BitVec.ofInt 64 (c:Int)).toNat=c:=by
  rw[Cn,Du];exact AA q_o
 show IntKind.i64.wrap ((BitVec.ofInt 64 (v*256) ||| BitVec.ofInt 64 (c:Int)).toNat:Int)=_;rw[BitVec.toNat_or,j,m,Nt.or_add _ _ _ (by omega:c<2^8)];simp only[IntKind.wrap,IntKind.bits,IntKind.signed];have q:(v%72057594037927936).toNat*2^8+c<18446744073709551616:=q_o;simp;omega
theorem zux(v:Int)(j:IntKind)(h1: -9223372036854775808<=v*256)(h2:v*256<9223372036854775808):Op.shift .shl .i64 v j 8=pure (.int .i64 (v*256)):=by
 simp[Op.shift,IntKind.bits];rw[IntWalk.i64_in (v*256) q_o]
def _root_.Go.Sy.Bs.cut(s:Bs)(b e:Nat):Bs:=⟨zbB s.a b e 1,e-b,e-b,(s.l.take e).drop b⟩
structure BsF(w:World)(M:Nat->Prop)(s:Bs):Prop where
 len:s.l.length=s.n
 cap:s.n<=s.c
 slf:SlF w M s.a (s.l.map v8)
 nil:s.a=none->s.c=0
theorem BsF.ok{w:World}{M:Nat->Prop}{s:Bs}(h:BsF w M s):s.ok w:=⟨h.len,h.cap,h.slf.sla,h.nil⟩
theorem BsF.to{w0 w:World}{M Mi:Nat->Prop}{s:Bs}(h:BsF w0 M s)(hk:Keep M w0 w)(hm:∀b,Mi b->w0.heap.size<=b\/M b):BsF w Mi s:=⟨h.len,h.cap,h.slf.to hk hm,h.nil⟩
theorem BsF.no{w0 w:World}{M:Nat->Prop}{s:Bs}(h:BsF w0 M s)(hk:Keep M w0 w):s.ok w:=(h.to (Mi:=No) hk (λ_ h=>h.elim)).ok
theorem BsF.cut{w:World}{M:Nat->Prop}{s:Bs}(h:BsF w M s){b e:Nat}(hb:b<=e)(he:e<=s.n):BsF w M (s.cut b e):=by
 have r:((s.l.take e).map v8).length<=e:=by rw[A1,Ad];omega
 refine⟨?_,A8 _,?_,λA=>?_⟩
 ·show((s.l.take e).drop b).length=e-b;rw[Az,Ad,h.len,BX he]
 ·have j:=(h.slf.take e);rw[<-CS] at j;have q:=j.mov (l:=b) (m:=e) r;rw[<-Cf] at q;exact q
 ·have j:=zrd.1 (show zbB s.a b e 1=none from A);have q:=h.nil j;have:=h.cap;show e-b=0;omega
theorem _root_.Go.Sy.Bs.cut_l(s:Bs)(b e:Nat):(s.cut b e).l=(s.l.take e).drop b:=rfl
theorem _root_.Go.Sy.Bs.cut_n(s:Bs)(b e:Nat):(s.cut b e).n=e-b:=rfl
def Bsub(s s':Bs):Prop:=∀(w:World) (M:Nat->Prop),BsF w M s->BsF w M s'
theorem Bsub.trans{s j s2:Bs}(h:Bsub s j)(m:Bsub j s2):Bsub s s2:=λw M q=>m w M (h w M q)
theorem Bsub.cut(s:Bs){b e:Nat}(hb:b<=e)(he:e<=s.n):Bsub s (s.cut b e):=λ_ _ h=>h.cut hb he
end Go.Ct
namespace Go.Proofs.YtdnlngbjpdbffaaGreatDoor
open Go Go.Sy Go.Ct Go.RowKit
attribute [local irreducible] Sy SyL SyX SyC SyF Sy.Fn Sy.FnP callFunc
def rdC(s:Bs)(i:Nat):List Value:=[s.val,.int .i64 (i:Int),.bool true]
theorem zp2(s:Bs)(w:World)(M:s.ok w)(hb:s.n<1000000000):Sy.Fn Tryz.prog 303 [s.val] w No (λv R=>R= []/\((∃x y:Nat,zeX s.l=some (x,y)/\v= .tuple #[.int .i64 (x:Int),.int .i64 (y:Int),.int .i64 0])\/(zeX s.l=none/\∃e:Int,e≠0/\v= .tuple #[.int .i64 0,.int .i64 0,.int .i64 e]))):=by
 refine zz Tryz.func303 Tryz.ntmps303 ?_;obtain⟨a,n,c,l⟩:=s;have G:l.length=n:=M.len;have a6:n<=c:=M.cap;have L:SlA w a (l.map v8):=M.sla;show Sy _ _ _ _ _ _ _ _ (zd8 0 [.slice a n c]) _;dsimp only at hb ⊢;rcases AK n 2 with P|P
 ·have e:zeX l=none:=by
   match l,G with
   | [],_=>rfl
   | [_],_=>rfl
   |_::_::_,G=>simp at G;omega
  have g:decide ((n:Int)<2)=true:=q_d;repeat' (first|refine s_0 ?_|refine zL [0,2] ?_;refine zf ?_|refine q_k 1 ?_;refine q_v (zm (hr:=g)) ?_)
  exact zeZ rfl (zj rfl) (zj rfl) (zj rfl) El ⟨rfl,.inr ⟨e,4,by decide,rfl⟩⟩
 obtain⟨t,z,r,rfl⟩:∃t z r,l=t::z::r:=by
  match l,G with
  | [],G=>simp at G;omega
  | [_],G=>simp at G;omega
  |t::z::r,_=>exact⟨t,z,r,rfl⟩
 have a7:r.length=n-2:=by simp only[AO] at G;omega
 obtain⟨b,o,rfl,q⟩:=zdb L (i:=1) q_p;have A:w.cell? ⟨b,o+1,none⟩=some (.int .u8 (z.toNat:Int)):=q 1 _ rfl;have a8:=z.toNat_lt;have Q:∀i (I:i<r.length),w.cell? ⟨b,o+2+i,none⟩=some (.int .u8 (r[i].toNat:Int)):=λi I=>by
  have:=q (2+i) (v8 r[i]) (by
   rw[Ak,show 2+i=i+1+1 by omega,BS,BS,A2 I];rfl)
  rwa[show o+(2+i)=o+2+i by omega] at this
 have g1:decide ((n:Int)<2)=false:=q_f;have F:zeX (t::z::r)=if z.toNat<128 then (if z.toNat<=r.length then some (2,2+z.toNat) else none)
  else if z.toNat-128<1\/3<z.toNat-128 then none
  else if r.length<z.toNat-128 then none
  else if zaZ (r.take (z.toNat-128))<zgo (z.toNat-128) then none
  else if r.length-(z.toNat-128)<zaZ (r.take (z.toNat-128)) then none
  else some (2+(z.toNat-128),2+(z.toNat-128)+zaZ (r.take (z.toNat-128))):=rfl
 rw[F];generalize z.toNat=Z at*;clear F q L M;rcases AK Z 128 with X|X
 ·rw[if_pos X];have g2:decide ((Z:Int)>=128)=false:=q_f;by_cases hf:Z<=r.length
  ·rw[if_pos hf];have g3:decide (((n:Int)-2)<(Z:Int))=false:=q_f;repeat' (first|refine s_0 ?_|refine q_k 0 ?_|refine q_k 1 ?_;refine q_v (zm (hr:=g1)) ?_|refine q_k 3 ?_;refine q_v (zG (j:=1)) ?_;refine q_v (zp (hv:=A)) ?_;refine zbf ?_;refine zf ?_|refine q_k 4 ?_;refine q_v (zai (hr:=g2)) ?_|refine q_k 19 ?_;refine q_x zab ?_;refine q_v (zm (hr:=g3)) ?_|refine q_k 21 ?_;refine za9 ?_;refine zf ?_)
   exact zeZ rfl (zj rfl) (zj rfl) (zj rfl) El ⟨rfl,.inl ⟨2,2+Z,rfl,by simp⟩⟩
  ·rw[if_neg hf];have g3:decide (((n:Int)-2)<(Z:Int))=true:=q_d;repeat' (first|refine s_0 ?_|refine zL [0,20] ?_;refine zf ?_|refine q_k 1 ?_;refine q_v (zm (hr:=g1)) ?_|refine q_k 3 ?_;refine q_v (zG (j:=1)) ?_;refine q_v (zp (hv:=A)) ?_;refine zbf ?_;refine zf ?_|refine q_k 4 ?_;refine q_v (zai (hr:=g2)) ?_|refine q_k 19 ?_;refine q_x zab ?_;refine q_v (zm (hr:=g3)) ?_)
   exact zeZ rfl (zj rfl) (zj rfl) (zj rfl) El ⟨rfl,.inr ⟨rfl,4,by decide,rfl⟩⟩
 rw[if_neg q_o];have g2:decide ((Z:Int)>=128)=true:=q_d;obtain⟨k,hk⟩:∃k,k=Z-128:=⟨_,rfl⟩;rw[<-hk];have g3:IntKind.i64.wrap ((Z:Int)-128)=(k:Int):=q_w;by_cases hk1:k<1\/3<k
 ·rw[if_pos hk1];rcases(show k<1\/(1<=k/\3<k) by omega) with h|⟨h,h'⟩
  ·have g4:decide ((k:Int)<1)=true:=q_d;repeat' (first|refine s_0 ?_|refine zL [0,7] ?_;refine zf ?_|refine q_k 1 ?_;refine q_v (zm (hr:=g1)) ?_|refine q_k 3 ?_;refine q_v (zG (j:=1)) ?_;refine q_v (zp (hv:=A)) ?_;refine zbf ?_;refine zf ?_|refine q_k 4 ?_;refine q_v (zai (hr:=g2)) ?_|refine q_k 5 ?_;refine q_x (zab (hr:=g3)) ?_|refine q_k 6 ?_;refine q_x (zm (hr:=g4)) ?_)
   exact zeZ rfl (zj rfl) (zj rfl) (zj rfl) El ⟨rfl,.inr ⟨rfl,6,by decide,rfl⟩⟩
  ·have g4:decide ((k:Int)<1)=false:=q_f;have g5:decide ((k:Int)>3)=true:=q_d;repeat' (first|refine s_0 ?_|refine zL [0,7] ?_;refine zf ?_|refine q_k 1 ?_;refine q_v (zm (hr:=g1)) ?_|refine q_k 3 ?_;refine q_v (zG (j:=1)) ?_;refine q_v (zp (hv:=A)) ?_;refine zbf ?_;refine zf ?_|refine q_k 4 ?_;refine q_v (zai (hr:=g2)) ?_|refine q_k 5 ?_;refine q_x (zab (hr:=g3)) ?_|refine q_k 6 ?_;refine q_x (zm (hr:=g4)) ?_;refine q_x (zF (hr:=g5)) ?_)
   exact zeZ rfl (zj rfl) (zj rfl) (zj rfl) El ⟨rfl,.inr ⟨rfl,6,by decide,rfl⟩⟩
 rw[if_neg hk1];have g4:decide ((k:Int)<1)=false:=q_f;have g5:decide ((k:Int)>3)=false:=q_f;have g6:IntKind.i64.wrap (2+(k:Int))=((2+k:Nat):Int):=q_w;by_cases hk2:r.length<k
 ·rw[if_pos hk2];have g7:decide ((n:Int)<((2+k:Nat):Int))=true:=q_d;repeat' (first|refine s_0 ?_|refine zL [0,9] ?_;refine zf ?_|refine q_k 1 ?_;refine q_v (zm (hr:=g1)) ?_|refine q_k 3 ?_;refine q_v (zG (j:=1)) ?_;refine q_v (zp (hv:=A)) ?_;refine zbf ?_;refine zf ?_|refine q_k 4 ?_;refine q_v (zai (hr:=g2)) ?_|refine q_k 5 ?_;refine q_x (zab (hr:=g3)) ?_|refine q_k 6 ?_;refine q_x (zm (hr:=g4)) ?_;refine q_x (zF (hr:=g5)) ?_|refine q_k 8 ?_;refine q_v (zN (hr:=g6)) ?_;refine q_v (zm (hr:=g7)) ?_)
  exact zeZ rfl (zj rfl) (zj rfl) (zj rfl) El ⟨rfl,.inr ⟨rfl,4,by decide,rfl⟩⟩
 rw[if_neg hk2];have g7:decide ((n:Int)<((2+k:Nat):Int))=false:=q_f;repeat' (first|refine s_t ?_|refine q_k 0 ?_|refine q_k 1 ?_;refine q_v (zm (hr:=g1)) ?_|refine q_k 3 ?_;refine q_v (zG (j:=1)) ?_;refine q_v (zp (hv:=A)) ?_;refine zbf ?_;refine zf ?_|refine q_k 4 ?_;refine q_v (zai (hr:=g2)) ?_|refine q_k 5 ?_;refine q_x (zab (hr:=g3)) ?_|refine q_k 6 ?_;refine q_x (zm (hr:=g4)) ?_;refine q_x (zF (hr:=g5)) ?_|refine q_k 8 ?_;refine q_v (zN (hr:=g6)) ?_;refine q_v (zm (hr:=g7)) ?_|refine q_k 10 ?_;refine q_x (zN (hr:=g6)) ?_|refine q_k 11 ?_;refine zbR ?_;refine zf ?_)
 have U:∀i,i<=3->zaZ (r.take i)<16777216:=λi I=>by
  have T:=ziU (r.take i);have P:(r.take i).length<=3:=by rw[Ad];omega
  have h3:=AR (show 0<256 by decide) P;omega
 have J:∀i (I:i<r.length),zaZ (r.take (i+1))=zaZ (r.take i)*256+r[i].toNat:=λi I=>by
  rw[zaI I];unfold zaZ;rw[Dy];rfl
 refine zX (γ:=Nat) (λi=>[(39,.int .i64 (i:Int)),(38,.int .i64 (k:Int)),(37,.slice (some ⟨b,o+2,none⟩) k k),(0,.slice (some ⟨b,o,none⟩) n c),(2,.int .i64 ((2+k:Nat):Int)),(5,.int .i64 ((zaZ (r.take i):Nat):Int)),(6,.int .i64 (k:Int))]) (λ_=>[]) (λi=>i<=k) (λi=>k-i) 0 (AE _) ?_ ?_ ?_
 ·have e:zbB (some ⟨b,o,none⟩) 2 (2+k) 1=some ⟨b,o+2,none⟩:=zfd q_o;rw[e];exact q_h
 ·exact q_h
 intro i I;by_cases hlt:i<k
 ·have g8:decide ((i:Int)<(k:Int))=true:=q_d;have K:=Q i q_o;have T:=U i q_o;have S:=J i q_o;have Y:=(r[i]'q_o).toNat_lt;generalize (r[i]'q_o).toNat=x at*;have g9:=zux ((zaZ (r.take i):Nat):Int) .u64 q_o q_o;have B:=znz ((zaZ (r.take i):Nat):Int) x q_o q_o q_o;have E:IntKind.i64.wrap ((i:Int)+1)=((i+1:Nat):Int):=q_w;rw[show((zaZ (r.take i):Nat):Int)*256+(x:Int)=((zaZ (r.take (i+1)):Nat):Int) by rw[S];omega] at B;repeat' (first|refine s_t ?_|refine ze 12 ?_;refine q_v (zm (hr:=g8)) ?_|refine ze 13 ?_;refine q_v (zG (j:=i)) ?_;refine q_x (zp (hv:=K)) ?_|refine q_k 14 ?_;refine q_x (zfz (hr:=g9)) ?_;refine zbf ?_;refine q_x (zkx (hr:=B)) ?_|refine ze 15 ?_;refine q_x (zN (hr:=E)) ?_)
  refine zQ (i+1) hlt ?_ ?_ ?_
  ·show k-(i+1)<k-i;omega
  ·exact q_h
  ·exact q_h
 obtain rfl:i=k:=q_o;have g8:decide ((i:Int)<(i:Int))=false:=q_f;have T:=U i q_o;generalize zaZ (r.take i)=V at*;have m: [Value.int .i64 0,.int .i64 128,.int .i64 256,.int .i64 65536][i]?=some (.int .i64 ((zgo i:Nat):Int)):=by
  rcases(show i=1\/i=2\/i=3 by omega) with rfl|rfl|rfl <;> rfl
 generalize zgo i=N at*;by_cases hf:V<N
 ·rw[if_pos hf];have g9:decide ((V:Int)<(N:Int))=true:=q_d;repeat' (first|refine s_0 ?_|refine ze 12 ?_;refine q_v (zm (hr:=g8)) ?_|refine ze 16 ?_;refine za4 ?_;refine zi ?_;intro _;refine zJ ?_|refine q_k 17 ?_;refine zR ?_;refine q_v (zM (hv:=m)) ?_;refine q_v (zm (hr:=g9)) ?_|refine q_k 18 ?_)
  exact zeZ rfl (zj rfl) (zj rfl) (zj rfl) El ⟨rfl,.inr ⟨rfl,6,by decide,rfl⟩⟩
 rw[if_neg hf];have g9:decide ((V:Int)<(N:Int))=false:=q_f;have B:IntKind.i64.wrap ((n:Int)-((2+i:Nat):Int))=((r.length-i:Nat):Int):=q_w;by_cases hf2:r.length-i<V
 ·rw[if_pos hf2];have E:decide (((r.length-i:Nat):Int)<(V:Int))=true:=q_d;repeat' (first|refine s_0 ?_|refine ze 12 ?_;refine q_v (zm (hr:=g8)) ?_|refine ze 16 ?_;refine za4 ?_;refine zi ?_;intro _;refine zJ ?_|refine q_k 17 ?_;refine zR ?_;refine q_v (zM (hv:=m)) ?_;refine q_v (zm (hr:=g9)) ?_|refine q_k 19 ?_;refine q_x (zab (hr:=B)) ?_;refine q_v (zm (hr:=E)) ?_|refine q_k 20 ?_)
  exact zeZ rfl (zj rfl) (zj rfl) (zj rfl) El ⟨rfl,.inr ⟨rfl,4,by decide,rfl⟩⟩
 rw[if_neg hf2];have E:decide (((r.length-i:Nat):Int)<(V:Int))=false:=q_f;have O:IntKind.i64.wrap (((2+i:Nat):Int)+(V:Int))=((2+i+V:Nat):Int):=q_w;repeat' (first|refine s_0 ?_|refine ze 12 ?_;refine q_v (zm (hr:=g8)) ?_|refine ze 16 ?_;refine za4 ?_;refine zi ?_;intro _;refine zJ ?_|refine q_k 17 ?_;refine zR ?_;refine q_v (zM (hv:=m)) ?_;refine q_v (zm (hr:=g9)) ?_|refine q_k 19 ?_;refine q_x (zab (hr:=B)) ?_;refine q_v (zm (hr:=E)) ?_|refine q_k 21 ?_;refine q_x (zN (hr:=O)) ?_)
 exact zeZ rfl (zj rfl) (zj rfl) (zj rfl) El ⟨rfl,.inl ⟨2+i,2+i+V,rfl,rfl⟩⟩
end Go.Proofs.YtdnlngbjpdbffaaGreatDoor
