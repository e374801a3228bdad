/- Lemmas. -/
import Derived.Test.YtdnlngbjpdbffaaGreatDoorZJ33
set_option maxHeartbeats 1000000
set_option maxRecDepth 10000
set_option linter.all false
namespace Go.Ct
open Go Go.Sy
theorem zpl{w:World}{a:Option Addr}{k:Nat}{m:List (List Value)}(h:SlA w a m.flatten)(hk:∀C∈m,C.length=k)(h0:0<k){i:Nat}(B:i<m.length):∃b o,a=some ⟨b,o,none⟩/\∀(j:Nat) (q:j<m.length),w.rangeAt b (o+j*k) m[j]:=by
 rcases h with h|⟨b,o,rfl,G⟩
 ·have r:=hk m[i] (AX B);have F:m[i]= []:=List.flatten_eq_nil_iff.1 h _ (AX B);rw[F] at r;simp at r;omega
 ·refine⟨b,o,rfl,λj q t v E=>?_⟩;have I:t<k:=by have:=(AR.1 E).1;rw[hk m[j] (AX q)] at this;exact this
  have A:=zgL (f:=λ(z:List Value)=>z) (k:=k) m hk j t I;rw[List.flatMap_id',A2 q] at A;have:=G (j*k+t) v (by rw[A];exact E);rw[BK];exact this
def zj8{α:Type}(E k:Nat)(zs:List (List Value×α))(v:Value)(R:List Res):Prop:=∃a c,v= .slice a zs.length c/\R= [.row (.slice a zs.length c) E k zs.length (zs.map (·.1)).flatten]
def zhI(es:List Int):Int:=(es.find? λe=>!decide (e=0)).getD 0
end Go.Ct
namespace Go.Proofs.YtdnlngbjpdbffaaGreatDoor
open Go Go.Sy Go.Ct Go.Nt Go.RowKit
attribute [local irreducible] Sy SyL SyX SyC SyF Sy.Fn callFunc
theorem zu2(a:Option Addr)(n c f:Nat)(cap:List Value)(xs:List Anch)(r:List (List Value))(q:Anch->Bool)(w:World)(J:∀args w,(callFunc f args).run Tryz.prog w= .ok (.enter f args) w)(hn:xs.length=n)(hC:r.length=n)(hk:∀C∈r,C.length=4/\C.all (·.oneCell')=true)(hs:SlA w a r.flatten)(hb:n<1000)
  (Y:∀(i:Nat) (C:List Value) (x:Anch),r[i]?=some C->xs[i]?=some x->∀P,Keep No w P->q_G f (.agg C.toArray::cap) P (.bool (q x))):
  Sy.Fn Tryz.prog 141 [.slice a n c,.func (.func f) #[] cap.toArray] w No (zj8 65 4 ((List.zip r xs).filter (λp=>q p.2))):=by
 refine zt Tryz.func141 Tryz.ntmps141 ?_;unfold zj8;repeat' first|refine s_t ?_|refine zA [0,1,2] ?_;refine zb ?_
 refine zbg (zaT 65 4) ?_;refine zL (γ:=Nat×Option Addr×Nat) (λg=>[(1,.func (.func f) #[] cap.toArray),(8,.slice a n c),(9,.int .i64 (n:Int)),(10,.int .i64 (g.1:Int)),(5,.slice g.2.1 (((List.zip r xs).take g.1).filter (λp=>q p.2)).length g.2.2)])
  (λg=>[.row (.slice g.2.1 (((List.zip r xs).take g.1).filter (λp=>q p.2)).length g.2.2) 65 4 (((List.zip r xs).take g.1).filter (λp=>q p.2)).length ((((List.zip r xs).take g.1).filter (λp=>q p.2)).map (·.1)).flatten]) (λg=>g.1<=n) (λg=>n-g.1) (0,none,0) (AA _) ?_ ?_ ?_
 ·exact q_h
 ·exact q_h
 rintro⟨i,S,U⟩ hi;dsimp only at hi ⊢;have a6:(List.zip r xs).length=n:=by simp[hn,hC]
 by_cases hlt:i<n
 ·obtain⟨bl,ol,rfl,I⟩:=zpl (k:=4) hs (λC h=>(hk C h).1) q_e (i:=i) q_o;have hc:=I i q_o;have K:=hk r[i] (AX q_o);have O:=Y i r[i] xs[i] (A2 q_o) (A2 q_o);have M:(List.zip r xs).take (i+1)=(List.zip r xs).take i++[(r[i],xs[i])]:=by rw[zaE q_o,List.getElem_zip]
  generalize xs[i]=x,r[i]=C at*;have A:=K.1;have G:=K.2;have g1:decide ((i:Int)<(n:Int))=true:=q_d;have g5:IntKind.i64.wrap ((i:Int)+1)=((i+1:Nat):Int):=q_w;have Z:((((List.zip r xs).take i).filter (λp=>q p.2))).length<=n:=by
   refine BE (Cn _ _) ?_;rw[AS];omega
  have L:q x=false->((List.zip r xs).take (i+1)).filter (λp=>q p.2)=((List.zip r xs).take i).filter (λp=>q p.2):=λh=>by rw[M,DJ];simp[h]
  have F:q x=true->((List.zip r xs).take (i+1)).filter (λp=>q p.2)=((List.zip r xs).take i).filter (λp=>q p.2)++[(C,x)]:=λh=>by rw[M,DJ];simp[h]
  obtain⟨N,E⟩:∃z,z=((List.zip r xs).take (i+1)).filter (λp=>q p.2):=⟨_,rfl⟩;rw[<-E] at L F;generalize ((List.zip r xs).take i).filter (λp=>q p.2)=Q at*;cases hqx:q x
  ·have hz:=L hqx;rw[hqx] at O;repeat' first|refine s_t ?_|refine zf 3 ?_;refine q_v (zn (hr:=g1)) ?_|refine zf 4 ?_;refine q_v (zal (j:=i)) ?_;refine q_v (zW (hv:=hc) (hz:=A.symm)) ?_;refine zk λ_=>?_;refine q_n (zG (B:=C) (hv:=G) (h1:=A.symm) (hC:=by exact A.symm)) ?_|refine q_k 5 ?_;refine q_v (ze (B:=C) (hz:=A.symm)) ?_;(refine q_v (za (f:=f) (cap:=cap) (vs:=[.agg C.toArray]) (he:=J) (hc:=zr O)) ?_)|refine zf 7 ?_;refine q_x (zD (hr:=g5)) ?_
   refine zC (i+1,S,U) hlt ?_ ?_ ?_
   ·show n-(i+1)<n-i;omega
   ·dsimp only;rw[<-E,hz];exact q_h
   ·dsimp only;rw[<-E,hz];exact q_h
  ·have hz:=F hqx;rw[hqx] at O;have V:(Q.map (·.1)).flatten++C=(N.map (·.1)).flatten:=by rw[hz,Ar,DC];simp
   have X:Q.length+1=N.length:=by rw[hz];simp
   repeat' first|refine s_t ?_|refine zf 3 ?_;refine q_v (zn (hr:=g1)) ?_|refine zf 4 ?_;refine q_v (zal (j:=i)) ?_;refine q_v (zW (hv:=hc) (hz:=A.symm)) ?_;refine zk λ_=>?_;refine q_n (zG (B:=C) (hv:=G) (h1:=A.symm) (hC:=by exact A.symm)) ?_|refine q_k 5 ?_;refine q_v (ze (B:=C) (hz:=A.symm)) ?_;(refine q_v (za (f:=f) (cap:=cap) (vs:=[.agg C.toArray]) (he:=J) (hc:=zr O)) ?_)|refine q_k 6 ?_;refine q_v (ze (B:=C) (hz:=A.symm)) ?_;(refine q_s (zb3 (vs:=[.agg C.toArray]) (zeL A rfl)) ?_;rintro _ _ ⟨bL,rfl,rfl⟩);(refine q_s (zaz (size:=4) (news:=C) (m:=1) (hn:=A) (h1:=G) (hys:=V) (hkm:=X)) ?_;rintro _ _ ⟨rfl,R,T,rfl⟩);refine zb ?_|refine zf 7 ?_;refine q_x (zD (hr:=g5)) ?_
   refine zC (i+1,R,T) hlt ?_ ?_ ?_
   ·show n-(i+1)<n-i;omega
   ·dsimp only;rw[<-E];exact q_h
   ·dsimp only;rw[<-E];exact q_h
 obtain rfl:i=n:=q_o;rw[A6 q_o];have g1:decide ((i:Int)<(i:Int))=false:=q_f;repeat' first|refine s_0 ?_|refine zf 3 ?_;refine q_v (zn (hr:=g1)) ?_|refine q_k 8 ?_
 exact q_r
theorem zuR(a:Option Addr)(n c f:Nat)(cap:List Value)(xs:List Revo)(r:List (List Value))(q:Revo->Bool)(w:World)(J:∀args w,(callFunc f args).run Tryz.prog w= .ok (.enter f args) w)(hn:xs.length=n)(hC:r.length=n)(hk:∀C∈r,C.length=3/\C.all (·.oneCell')=true)(hs:SlA w a r.flatten)(hb:n<1000)
  (Y:∀(i:Nat) (C:List Value) (x:Revo),r[i]?=some C->xs[i]?=some x->∀P,Keep No w P->q_G f (.agg C.toArray::cap) P (.bool (q x))):
  Sy.Fn Tryz.prog 143 [.slice a n c,.func (.func f) #[] cap.toArray] w No (zj8 67 3 ((List.zip r xs).filter (λp=>q p.2))):=by
 refine zt Tryz.func143 Tryz.ntmps143 ?_;unfold zj8;repeat' first|refine s_t ?_|refine zA [0,1,2] ?_;refine zb ?_
 refine zbg (zaT 67 3) ?_;refine zL (γ:=Nat×Option Addr×Nat) (λg=>[(1,.func (.func f) #[] cap.toArray),(8,.slice a n c),(9,.int .i64 (n:Int)),(10,.int .i64 (g.1:Int)),(5,.slice g.2.1 (((List.zip r xs).take g.1).filter (λp=>q p.2)).length g.2.2)])
  (λg=>[.row (.slice g.2.1 (((List.zip r xs).take g.1).filter (λp=>q p.2)).length g.2.2) 67 3 (((List.zip r xs).take g.1).filter (λp=>q p.2)).length ((((List.zip r xs).take g.1).filter (λp=>q p.2)).map (·.1)).flatten]) (λg=>g.1<=n) (λg=>n-g.1) (0,none,0) (AA _) ?_ ?_ ?_
 ·exact q_h
 ·exact q_h
 rintro⟨i,S,U⟩ hi;dsimp only at hi ⊢;have a6:(List.zip r xs).length=n:=by simp[hn,hC]
 by_cases hlt:i<n
 ·obtain⟨bl,ol,rfl,I⟩:=zpl (k:=3) hs (λC h=>(hk C h).1) q_e (i:=i) q_o;have hc:=I i q_o;have K:=hk r[i] (AX q_o);have O:=Y i r[i] xs[i] (A2 q_o) (A2 q_o);have M:(List.zip r xs).take (i+1)=(List.zip r xs).take i++[(r[i],xs[i])]:=by rw[zaE q_o,List.getElem_zip]
  generalize xs[i]=x,r[i]=C at*;have A:=K.1;have G:=K.2;have g1:decide ((i:Int)<(n:Int))=true:=q_d;have g5:IntKind.i64.wrap ((i:Int)+1)=((i+1:Nat):Int):=q_w;have Z:((((List.zip r xs).take i).filter (λp=>q p.2))).length<=n:=by
   refine BE (Cn _ _) ?_;rw[AS];omega
  have L:q x=false->((List.zip r xs).take (i+1)).filter (λp=>q p.2)=((List.zip r xs).take i).filter (λp=>q p.2):=λh=>by rw[M,DJ];simp[h]
  have F:q x=true->((List.zip r xs).take (i+1)).filter (λp=>q p.2)=((List.zip r xs).take i).filter (λp=>q p.2)++[(C,x)]:=λh=>by rw[M,DJ];simp[h]
  obtain⟨N,E⟩:∃z,z=((List.zip r xs).take (i+1)).filter (λp=>q p.2):=⟨_,rfl⟩;rw[<-E] at L F;generalize ((List.zip r xs).take i).filter (λp=>q p.2)=Q at*;cases hqx:q x
  ·have hz:=L hqx;rw[hqx] at O;repeat' first|refine s_t ?_|refine zf 3 ?_;refine q_v (zn (hr:=g1)) ?_|refine zf 4 ?_;refine q_v (zal (j:=i)) ?_;refine q_v (zW (hv:=hc) (hz:=A.symm)) ?_;refine zk λ_=>?_;refine q_n (zG (B:=C) (hv:=G) (h1:=A.symm) (hC:=by exact A.symm)) ?_|refine q_k 5 ?_;refine q_v (ze (B:=C) (hz:=A.symm)) ?_;(refine q_v (za (f:=f) (cap:=cap) (vs:=[.agg C.toArray]) (he:=J) (hc:=zr O)) ?_)|refine zf 7 ?_;refine q_x (zD (hr:=g5)) ?_
   refine zC (i+1,S,U) hlt ?_ ?_ ?_
   ·show n-(i+1)<n-i;omega
   ·dsimp only;rw[<-E,hz];exact q_h
   ·dsimp only;rw[<-E,hz];exact q_h
  ·have hz:=F hqx;rw[hqx] at O;have V:(Q.map (·.1)).flatten++C=(N.map (·.1)).flatten:=by rw[hz,Ar,DC];simp
   have X:Q.length+1=N.length:=by rw[hz];simp
   repeat' first|refine s_t ?_|refine zf 3 ?_;refine q_v (zn (hr:=g1)) ?_|refine zf 4 ?_;refine q_v (zal (j:=i)) ?_;refine q_v (zW (hv:=hc) (hz:=A.symm)) ?_;refine zk λ_=>?_;refine q_n (zG (B:=C) (hv:=G) (h1:=A.symm) (hC:=by exact A.symm)) ?_|refine q_k 5 ?_;refine q_v (ze (B:=C) (hz:=A.symm)) ?_;(refine q_v (za (f:=f) (cap:=cap) (vs:=[.agg C.toArray]) (he:=J) (hc:=zr O)) ?_)|refine q_k 6 ?_;refine q_v (ze (B:=C) (hz:=A.symm)) ?_;(refine q_s (zb3 (vs:=[.agg C.toArray]) (zeL A rfl)) ?_;rintro _ _ ⟨bL,rfl,rfl⟩);(refine q_s (zaz (size:=3) (news:=C) (m:=1) (hn:=A) (h1:=G) (hys:=V) (hkm:=X)) ?_;rintro _ _ ⟨rfl,R,T,rfl⟩);refine zb ?_|refine zf 7 ?_;refine q_x (zD (hr:=g5)) ?_
   refine zC (i+1,R,T) hlt ?_ ?_ ?_
   ·show n-(i+1)<n-i;omega
   ·dsimp only;rw[<-E];exact q_h
   ·dsimp only;rw[<-E];exact q_h
 obtain rfl:i=n:=q_o;rw[A6 q_o];have g1:decide ((i:Int)<(i:Int))=false:=q_f;repeat' first|refine s_0 ?_|refine zf 3 ?_;refine q_v (zn (hr:=g1)) ?_|refine q_k 8 ?_
 exact q_r
theorem zx9(b n c:Nat)(E:List Value)(es:List Int)(w:World)(hn:E.length=n)(hb:es.length=n)(M:n<=1000)(N:w.rangeAt b 0 E)
  (L:∀(k:Nat) (e:Int),es[k]?=some e->(∀K∈es.take k,K=0)->∃(f:Nat) (cap:List Value),E[k]?=some (.func (.func f) #[] cap.toArray)/\(∀args w,(callFunc f args).run Tryz.prog w= .ok (.enter f args) w)/\∀J,Keep No w J->q_G f cap J (.int .i64 e)):
  q_G 60 [.slice (some ⟨b,0,none⟩) n c] w (.int .i64 (zhI es)):=by
 refine zt Tryz.func60 Tryz.ntmps60 ?_;repeat' first|refine s_t ?_|refine zA [0,1] ?_;refine zb ?_
 refine zL (γ:=Nat) (λk=>[(6,.slice (some ⟨b,0,none⟩) n c),(7,.int .i64 n),(8,.int .i64 k)]) (λ_=>[]) (λk=>k<=n/\∀e∈es.take k,e=0) (λk=>n-k) 0 ⟨AA _,λe h=>by cases h⟩ ?_ ?_ ?_
 ·exact q_h
 ·exact q_h
 rintro k ⟨O,m⟩;rcases AG k n with h|h
 ·obtain⟨v,hv⟩:∃v,es[k]?=some v:=⟨_,A2 q_o⟩;obtain⟨f,cap,F,B,hc⟩:=L k v hv m;have q:w.cell? ⟨b,0+k,none⟩=some (.func (.func f) #[] cap.toArray):=N k _ F;have r:decide ((k:Int)<(n:Int))=true:=q_d;have A:IntKind.i64.wrap ((k:Int)+1)=((k+1:Nat):Int):=q_w;have G:es.take (k+1)=es.take k++[v]:=by rw[CE,hv];rfl
  by_cases hz:v=0
  ·have g:decide (v≠0)=false:=decide_eq_false (λh=>h hz);repeat' first|refine s_t ?_|refine zf 2 ?_;refine q_v (zn (hr:=r)) ?_|refine zf 3 ?_;refine q_v (zq (j:=k)) ?_;refine q_x (zo (hv:=q)) ?_|refine q_k 4 ?_;(refine q_v (za (f:=f) (cap:=cap) (vs:=[]) (he:=B) (hc:=zr hc)) ?_);refine zb ?_|refine q_k 5 ?_;refine q_v (zad (hr:=g)) ?_|refine zf 7 ?_;refine q_x (zD (hr:=A)) ?_
   refine zC (k+1) ⟨h,λe he=>?_⟩ ?_ ?_ ?_
   ·rw[G] at he;rcases Ap.1 he with he|he
    ·exact m e he
    ·rw[AD.1 he,hz]
   ·show n-(k+1)<n-k;omega
   ·exact q_h
   ·exact q_h
  ·have g:decide (v≠0)=true:=decide_eq_true hz;have hex:zhI es=v:=by
    have e:es=es.take k++(v::es.drop (k+1)):=by
     have F:es.drop k=v::es.drop (k+1):=by
      rw[BS q_o];rw[A2 q_o] at hv;rw[Am hv]
     rw[<-F,Bc]
    have h0:(es.take k).find? (λe=>!decide (e=0))=none:=List.find?_eq_none.2 (λx I=>by simp[m x I]);unfold zhI;rw[e,List.find?_append,h0];simp[hz]
   rw[hex];repeat' first|refine s_t ?_|refine zf 2 ?_;refine q_v (zn (hr:=r)) ?_|refine zf 3 ?_;refine q_v (zq (j:=k)) ?_;refine q_x (zo (hv:=q)) ?_|refine q_k 4 ?_;(refine q_v (za (f:=f) (cap:=cap) (vs:=[]) (he:=B) (hc:=zr hc)) ?_);refine zb ?_|refine q_k 5 ?_;refine q_v (zad (hr:=g)) ?_|refine q_k 6 ?_
   exact q_r
 ·obtain rfl:k=n:=q_o;rw[A6 q_o] at m;have r:decide ((k:Int)<(k:Int))=false:=q_f;have hex:zhI es=0:=by
   unfold zhI;rw[List.find?_eq_none.2 (λx I=>by simp[m x I])];rfl
  rw[hex];repeat' first|refine s_0 ?_|refine zf 2 ?_;refine q_v (zn (hr:=r)) ?_|refine q_k 8 ?_
  exact q_r
end Go.Proofs.YtdnlngbjpdbffaaGreatDoor
namespace Go.Ct
open Go Go.Sy
structure LstAt{α β:Type}(cell:β->α->List Value)(At:World->β->α->Prop)(w:World)(a:Option Addr)(c:Nat)(ps:List β)(l:List α):Prop where
 len:ps.length=l.length
 cap:l.length<=c
 nil:a=none->c=0
 mem:SlA w a (List.zipWith cell ps l).flatten
 each:∀(i:Nat) (p:β) (x:α),ps[i]?=some p->l[i]?=some x->At w p x
theorem LstAt.keep{α β:Type}{cell:β->α->List Value}{j:World->β->α->Prop}{w w':World}{a:Option Addr}{c:Nat}{ps:List β}{l:List α}(h:LstAt cell j w a c ps l)(hk:Keep No w w')(r:∀p x,j w p x->j w' p x):LstAt cell j w' a c ps l:=
 ⟨h.len,h.cap,h.nil,h.mem.keep hk (λ_ _ h=>h),λi p x m q=>r p x (h.each i p x m q)⟩
theorem zm5{α β γ:Type}{R:γ->α->β->Prop} :∀(j:List γ) (l:List α),j.length=l.length->(∀(i:Nat) (C:γ) (x:α),j[i]?=some C->l[i]?=some x->∃p,R C x p)->∃ps:List β,ps.length=l.length/\∀(i:Nat) (C:γ) (x:α) (p:β),j[i]?=some C->l[i]?=some x->ps[i]?=some p->R C x p
 | [],[],_,_=>⟨[],rfl,λi C x p h=>by simp at h⟩
 |C::j,x::l,hl,h=>by
  obtain⟨p,E⟩:=h 0 C x rfl rfl;obtain⟨ps,A,B⟩:=zm5 j l (by simpa using hl) (λi C x m q=>h (i+1) C x m q);refine⟨p::ps,by simp[A],λi w G F m q r=>?_⟩;cases i with
  |zero=>cases m;cases q;cases r;exact E
  |succ i=>exact B i w G F m q r
theorem LstAt.of{α β:Type}{cell:β->α->List Value}{A:World->β->α->Prop}{w:World}{k:Nat}{Ψ:World->List Value->α->Prop}{v:Value}{l:List α}(h:zua k Ψ w v l)(hp:∀C x,Ψ w C x->∃p,C=cell p x/\A w p x):∃a c ps,v= .slice a l.length c/\LstAt cell A w a c ps l:=by
 obtain⟨a,c,q,rfl,G,N,I,J,K,L⟩:=h;obtain⟨ps,M,r⟩:=zm5 (R:=λC x p=>C=cell p x/\A w p x) q l K (λi C x m j=>hp C x (L i C x m j).2);have B:q=List.zipWith cell ps l:=by
  apply Ca;intro i;rw[CW];by_cases F:i<l.length
  ·have m:q[i]?=some q[i]:=A2 q_o;have j:l[i]?=some l[i]:=A2 F;have E:ps[i]?=some ps[i]:=A2 q_o;rw[m,j,E,(r i _ _ _ m j E).1]
  ·rw[BI q_o,BI (by omega:ps.length<=i)]
 refine⟨a,c,ps,rfl,M,G,J,by rw[<-B];exact I,λi p x m j=>?_⟩;have F:i<l.length:=(AR.1 j).1;exact(r i q[i] x p (A2 q_o) j m).2
structure Pa where
 a1:Option Addr
 k1:Nat
 a2:Option Addr
 k2:Nat
def zcG(p:Pa)(x:Anch):List Value:=[.slice p.a1 x.name.parts.length p.k1,zT x.name.realm,.int .i64 x.group,.slice p.a2 x.pub.length p.k2]
structure AnchAt(w:World)(p:Pa)(x:Anch):Prop where
 name:PrinIn w (zbe p.a1 p.k1 x.name) x.name
 pub:(⟨p.a2,x.pub.length,p.k2,x.pub⟩:Bs).ok w
 rng:(Lit.int .i64 x.group).wf=true
theorem AnchAt.keep{w w':World}{p:Pa}{x:Anch}(h:AnchAt w p x)(hk:Keep No w w'):AnchAt w' p x:=⟨h.name.keep hk,h.pub.keep hk,h.rng⟩
def zes(p:Option Addr×Nat)(x:Revo):List Value:=[.slice p.1 x.issuer.parts.length p.2,zT x.issuer.realm,.int .i64 x.serial]
structure RevoAt(w:World)(p:Option Addr×Nat)(x:Revo):Prop where
 name:PrinIn w (zbe p.1 p.2 x.issuer) x.issuer
 rng:(Lit.int .i64 x.serial).wf=true
theorem RevoAt.keep{w w':World}{p:Option Addr×Nat}{x:Revo}(h:RevoAt w p x)(hk:Keep No w w'):RevoAt w' p x:=⟨h.name.keep hk,h.rng⟩
def Prin.fine(p:Prin):Prop:=p.parts.length<1000000/\p.realm.length<1000000000/\∀x∈p.parts,x.length<1000000000
theorem Prin.same_comm(a b:Prin):a.same b=b.same a:=by
 rw[CN,FI,FI];exact⟨Dd,Dd⟩
def Fy:=@Prin.same_comm
def zlQ(sv:Int->List UInt8->Bool)(sf:Int->List UInt8->List UInt8->List UInt8->Bool)(c:Cert)(z:Int)(pub:List UInt8):Int:=if (c.ok sv&&sv z pub)=true then (if sf z pub c.body c.sig=true then 0 else 221) else 2
end Go.Ct
namespace Go.Proofs.YtdnlngbjpdbffaaGreatDoor
section
open Go Go.Sy Go.Ct Go.Nt Go.RowKit
attribute [local irreducible] Sy SyL SyX SyC SyF Sy.Fn callFunc
def sfK(z:Int)(pub m s:List UInt8):Bool:=decide (zfV z pub m s=0)
theorem zqq{z:Int}{l:List UInt8}(h:svK z l=true):l.length<=96:=by
 have j:=zk3 (of_decide_eq_true h);rw[j.2.1];have:=zgJ z;unfold zbm at this;rwa[if_pos j.1] at this
theorem zqG{c:Cert}(h:c.ok svK=true):c.pub.length<=96/\c.sig.length<=192/\c.body.length<=701/\c.der.length<=1000:=by
 have m:=FA zcC h;have j:=h;simp only[Cert.ok,A8,decide_eq_true_eq] at j;have q:=zqq j.2;have w:c.body.length<=605+c.pub.length:=by rw[FR];have:=(zY 0x30 c.flat).2;have:=FP m;omega
 have A:=Cert.der_len m;have r:c.sig.length<=192:=j.1.2;exact⟨q,r,by omega,by omega⟩
theorem zrv(p:Pl)(c:Cert)(z:Int)(s:Bs)(w:World)(I:GT w)(P:Tab w No)(O:ST w)(h:CertAt w p c)(S:c.fine)(E:s.ok w):q_G 24 [.agg (zF p c).toArray,.int .i64 z,s.val] w (.int .i64 (zlQ svK sfK c z s.l)):=by
 refine zt Tryz.func24 Tryz.ntmps24 ?_;have hv:=λm (j:Keep No w m)=>zg6 p c m (I.to j) (h.keep j) S;have q:=λm (j:Keep No w m)=>zkM z s.a s.n s.c s.l m (I.to j) E.len E.cap (E.keep j).sla;rw[show decide ((gel z s.l).2=0)=svK z s.l from rfl] at q;have F:s.val= .slice s.a s.n s.c:=rfl;rw[F];unfold zlQ;have G:(zF p c).length=11:=rfl;by_cases hok:c.ok svK=true
 ·rw[hok] at hv ⊢;by_cases hz:svK z s.l=true
  ·rw[hz] at q ⊢;rw[if_pos (show(true&&true)=true from rfl)];obtain⟨Y,Z,m3,m4⟩:=zqG hok;have U:=zqq hz;have Q:=λm (j:Keep No w m)=>zlZ p c m (h.keep j) (FA zcC hok);have J:=λm (j:Keep No w m) a k (N:(⟨a,c.body.length,k,c.body⟩:Bs).ok m)=>zti z s.a a p.a4 s.n s.c c.body.length k c.sig.length p.k4 s.l c.body c.sig m (I.to j) (P.no j) (O.to j) (E.keep j) N (h.sig.keep j) (by have:=E.len;omega) q_o q_o;have M:Seg (zF p c) 10 [.slice p.a4 c.sig.length p.k4]:=FK rfl;have A:(zF p c)[0+10]?=some (.slice p.a4 c.sig.length p.k4):=rfl;have r:(if sfK z s.l c.body c.sig=true then (0:Int) else 221)=if zfV z s.l c.body c.sig=0 then 0 else 221:=by unfold sfK;simp
   rw[r];generalize zfV z s.l c.body c.sig=e at*;clear r h;generalize c.body=V,zF p c=C at*;repeat' first|refine s_0 ?_|refine zf 0 ?_;refine z9 λ_=>?_|refine zf 1 ?_;refine q_v (ze (B:=C) (hz:=G.symm)) ?_;refine q_v (za (hc:=zr hv)) ?_;refine zI ?_;refine zb ?_;refine q_v (za (hc:=zr q)) ?_;refine zI ?_;refine zb ?_
   (refine zdp (id:=3) [0,1,2,4,5] [3,6,7] mixed ?_ ?_;kernel_rfl;refine yfv zV (k:=?_);refine yfv zV (k:=?_);refine yfv (ze (B:=C) (hz:=G.symm)) (k:=?_);refine yfv zN (k:=?_);refine yfv (zM (hv:=A)) (k:=?_);refine yf0 ?_;try refine yc0 (k:=?_))
   refine ycs (zi (hc:=zr Q)) (k:=?_);rintro _ _ ⟨R,rfl,K,L,rfl,rfl⟩;refine ycv (za (hc:=λm X j T=>J m j K L (zaC T rfl q_h))) (k:=?_);by_cases he:e=0
   ·refine ycv (zad (hr:=decide_eq_false (λh=>h he))) (k:=?_);refine yc0 (k:=?_);rw[if_pos he];repeat' first|refine s_0 ?_|refine q_k 5 ?_
    exact q_r
   ·refine ycv (zad (hr:=decide_eq_true he)) (k:=?_);refine yc0 (k:=?_);rw[if_neg he];repeat' first|refine s_0 ?_|refine q_k 4 ?_
    exact q_r
  ·rw[Br] at hz;rw[hz] at q ⊢;generalize zF p c=C at*;repeat' first|refine s_0 ?_|refine zf 0 ?_;refine z9 λ_=>?_|refine zf 1 ?_;refine q_v (ze (B:=C) (hz:=G.symm)) ?_;refine q_v (za (hc:=zr hv)) ?_;refine zI ?_;refine zb ?_;refine q_v (za (hc:=zr q)) ?_;refine zI ?_;refine zb ?_|refine q_k 2 ?_
   exact q_r
 ·rw[Br] at hok;rw[hok] at hv ⊢;generalize zF p c=C at*;repeat' first|refine s_0 ?_|refine zf 0 ?_;refine z9 λ_=>?_|refine zf 1 ?_;refine q_v (ze (B:=C) (hz:=G.symm)) ?_;refine q_v (za (hc:=zr hv)) ?_;refine zI ?_;refine zb ?_|refine q_k 2 ?_
  exact q_r
def zlP(c:Cert)(v:Value)(R:List Res):Prop:=∃p,v= .tuple #[.agg (zF p c).toArray,.int .i64 0]/\R=zaD p c
theorem zmw(p:Pl)(c:Cert)(z:Int)(pr no:Bs)(s:List UInt8)(w:World)(N:GT w)(U:Tab w No)(h:CertAt w p c)(O:c.fine)(hp:pr.ok w)(hn:no.ok w)(G:no.n<=1000)(r:c.ok svK=true)(K:zhK z pr.l no.l c.body=some s):
  Sy.Fn Tryz.prog 20 [.agg (zF p c).toArray,.int .i64 z,pr.val,no.val] w No (zlP { c with sig:=s }):=by
 refine zt Tryz.func20 Tryz.ntmps20 ?_;have hv:=λj (m:Keep No w j)=>zg6 p c j (N.to m) (h.keep m) O;have J:pr.val= .slice pr.a pr.n pr.c:=rfl;have I:no.val= .slice no.a no.n no.c:=rfl;have hC:(zF p c).length=11:=rfl;rw[J,I];rw[r] at hv;obtain⟨m1,m2,m3,m4⟩:=zqG r;have V:=λj (m:Keep No w j)=>zlZ p c j (h.keep m) (FA zcC r);have A:=λj (m:Keep No w j) a k (S:(⟨a,c.body.length,k,c.body⟩:Bs).ok j)=>zyk z pr.a no.a a pr.n pr.c no.n no.c c.body.length k pr.l no.l c.body j (N.to m) (U.no m) (hp.keep m) (hn.keep m) S G q_o;rw[K] at A;unfold BR at A;have E:=λj (m:Keep No w j)=>zus p c j (h.keep m) O q_o q_o;unfold zhw zaD at E;unfold zlP zaD;generalize c.body=BD,T:zF p c=C at*;repeat' first|refine s_0 ?_|refine zf 0 ?_;refine zk λ_=>?_;refine z9 λ_=>?_|refine zf 1 ?_;refine q_v (ze (B:=C) (hz:=hC.symm)) ?_;refine q_v (za (hc:=zr hv)) ?_;refine zI ?_|refine q_k 3 ?_;refine q_v (ze (B:=C) (hz:=hC.symm)) ?_;(refine q_s (zi (hc:=zr V)) ?_;rintro _ _ ⟨R,rfl,P,Q,rfl,rfl⟩)
 refine q_s (zi (hc:=λj X m Y=>A j m P Q (zaC Y rfl q_h))) ?_;rintro _ _ ⟨R,rfl,L,Z,M,rfl,F,rfl⟩;obtain rfl:Z=s.length:=F;repeat' first|refine s_0 ?_|refine q_k 4 ?_;refine zaJ ?_|refine zf 6 ?_;refine q_v (ze (B:=C) (hz:=hC.symm)) ?_;(refine q_s (zi (hc:=zr E)) ?_;rintro _ _ ⟨R,rfl,q,rfl,rfl⟩);refine q_n (zG (hv:=rfl) (h1:=rfl) (hC:=by exact hC)) ?_|(refine zx ?_;first|refine zw ?_|refine zZ ?_|refine zaU ?_|fail)|fail
 unfold zF;repeat' first|refine s_0 ?_|refine q_k 7 ?_;refine q_n (zaO (hC:=⟨A5 rfl,rfl⟩)) ?_|refine zf 8 ?_;refine zm ?_;refine q_y (zG (h1:=rfl)) ?_
 exact zU rfl (zE (B:=zF ⟨q.a1,q.k1,q.a2,q.k2,q.a3,q.k3,L,M⟩ { c with sig:=s }) rfl (ty rfl) rfl Ey Ex rfl) (zh rfl) q_h ⟨⟨q.a1,q.k1,q.a2,q.k2,q.a3,q.k3,L,M⟩,rfl,rfl⟩
end
section
open Go Go.Sy Go.Ct Go.Wd Go.Sh Go.RowKit
noncomputable def zzJ(t:TypeId):Array Field:=match Tryz.prog.underlying t with
 |some (.struct fs)=>fs
 |_=> #[]
noncomputable def fld(t:TypeId)(i:Nat):Field:=(zzJ t).toList.getD i default
theorem zzz:PrinTy Tryz.prog 43:=⟨41,9,9,fld 43 0,fld 43 1,by kernel_rfl,by kernel_rfl,by kernel_rfl,by kernel_rfl,by kernel_rfl,by kernel_rfl,by kernel_rfl,by kernel_rfl,by kernel_rfl,by kernel_rfl,by kernel_rfl,by kernel_rfl⟩
theorem certTy:CertTy Tryz.prog 45 43 3 4 23 5:=
 ⟨⟨fld 45,by kernel_rfl,by kernel_rfl,by kernel_rfl,by kernel_rfl,by kernel_rfl,by kernel_rfl,by kernel_rfl,by kernel_rfl,by kernel_rfl,by kernel_rfl,by kernel_rfl,by kernel_rfl,by kernel_rfl,by kernel_rfl,by kernel_rfl,by kernel_rfl,by kernel_rfl,by kernel_rfl,by kernel_rfl⟩,by kernel_rfl,zzz,by kernel_rfl,by kernel_rfl,by kernel_rfl,by kernel_rfl,by kernel_rfl,by kernel_rfl,by kernel_rfl,by kernel_rfl,by kernel_rfl⟩
theorem zpo:Tryz.prog.underlying 22=some (.slice 45):=by kernel_rfl
variable {H:Type}{enc:TypeId×Value->H}{W:World}{v:Value}{d:DataW H}{ps:List MemPlace}
theorem zxr{α β:Type}{cell:β->α->List Value}{m:World->β->α->Prop}{k:Nat}{Ψ:World->List Value->α->Prop}{t e:TypeId}(L:Tryz.prog.underlying t=some (.slice e))(hc:Tryz.prog.cellsOf e=k)(hk:0<k)(M:∀B,Rdb enc Tryz.prog W e B->∃y,Ψ W B y)(hp:∀C x,Ψ W C x->∃p,C=cell p x/\m W p x)
  {a:Option Addr}{n c:Nat}(h:DataW.Trod enc Tryz.prog W 0 (λ_=>true) true t (.slice a n c) d ps):∃ps l,l.length=n/\n<=maxLen/\LstAt cell m W a c ps l:=by
 obtain⟨j,h⟩:=h;obtain⟨v,r,E,q⟩:=zyq (Ψ:=Ψ) (W:=W) (t:=t) ⟨j,_,h⟩ L hc hk M;obtain⟨w,A,ps,rfl,I⟩:=LstAt.of q hp;have F:(Value.slice a n c)= .slice w r.length A:=by simpa [Value.cells] using E
 cases F;obtain⟨_,_,_,G,J,K,_⟩:=q;cases G;exact⟨ps,r,rfl,BE J K,I⟩
theorem zuf{a:Option Addr}{n c:Nat}(h:DataW.Trod enc Tryz.prog W 0 (λ_=>true) true 22 (.slice a n c) d ps):∃ps l,l.length=n/\n<=maxLen/\LstAt zF CertAt W a c ps l:=
 zxr zpo certTy.cells (by decide) (λ_ j=>zxH j certTy) (λ_ _ h=>CertIn.at h) h
end
open Go Go.Sy Go.Ct Go.RowKit
attribute [local irreducible] Sy SyL SyX Sy.Fn Sy.FnP callFunc
def zcc:Value:=.iface 117 (.agg #[.int .i64 6])
theorem zkH:∃d,Tryz.prog.underlying 117=some d/\∀j,d≠ .interface j:=zmF (by kernel_rfl)
theorem zem(b:Bool)(w:World):FnP Tryz.prog 89 [.bool b] w No (λv R=>b=true/\v= .tuple #[]/\R= []) (λv R=>b=false/\v=zcc/\R= []):=by
 refine zaI Tryz.func89 rfl Tryz.ntmps89 q_p FU ?_;obtain⟨d,j,m⟩:=zkH;cases b
 ·repeat' first|refine s_0 ?_|refine q_k 0 ?_;refine zI ?_|refine zf 1 ?_;refine zbt ?_|refine q_v (zbr j m) ?_|refine zb5 ?_|fail
  exact zau Ev ⟨rfl,rfl,rfl⟩
 ·repeat' first|refine s_0 ?_|refine q_k 0 ?_;refine zI ?_
  exact zeG rfl Ev ⟨rfl,rfl,rfl⟩
theorem zo2(v:Value)(e:Int)(w:World):FnP Tryz.prog 198 [v,.int .i64 e] w No (λu R=>e=0/\u=v/\R= []) (λu R=>e≠0/\u=zcc/\R= []):=by
 refine zaI Tryz.func198 rfl Tryz.ntmps198 q_p FU ?_;repeat' first|refine s_0 ?_|refine zA [0,2] ?_;refine zb ?_|refine q_k 1 ?_;refine q_v (zS (hr:=rfl)) ?_;(refine zef (M':=No) (f:=89) F2 (λ_ h=>False.elim h) (λm _ _ _=>zem _ m) ?_ ?_)|(rintro _ _ ⟨j,rfl,rfl⟩)|refine zJ ?_|fail
 ·exact zd8 rfl (zh rfl) Ev ⟨of_decide_eq_true j,rfl,rfl⟩
 ·exact zau Ev ⟨of_decide_eq_false j,rfl,rfl⟩
theorem zot(v:Value)(e:Int)(w:World):FnP Tryz.prog 125 [v,.int .i64 e] w No (λu R=>e=0/\u=v/\R= []) (λu R=>e≠0/\u=zcc/\R= []):=by
 refine zaI Tryz.func125 rfl Tryz.ntmps125 q_p FU ?_;repeat' first|refine s_0 ?_|refine zA [0,2] ?_;refine zb ?_|refine q_k 1 ?_;refine q_v (zS (hr:=rfl)) ?_;(refine zef (M':=No) (f:=89) F2 (λ_ h=>False.elim h) (λm _ _ _=>zem _ m) ?_ ?_)|(rintro _ _ ⟨j,rfl,rfl⟩)|refine zJ ?_|fail
 ·exact zd8 rfl (zh rfl) Ev ⟨of_decide_eq_true j,rfl,rfl⟩
 ·exact zau Ev ⟨of_decide_eq_false j,rfl,rfl⟩
theorem znQ(v:Value)(e:Int)(w:World):FnP Tryz.prog 176 [v,.int .i64 e] w No (λu R=>e=0/\u=v/\R= []) (λu R=>e≠0/\u=zcc/\R= []):=by
 refine zaI Tryz.func176 rfl Tryz.ntmps176 q_p FU ?_;repeat' first|refine s_0 ?_|refine zA [0,2] ?_;refine zb ?_|refine q_k 1 ?_;refine q_v (zS (hr:=rfl)) ?_;(refine zef (M':=No) (f:=89) F2 (λ_ h=>False.elim h) (λm _ _ _=>zem _ m) ?_ ?_)|(rintro _ _ ⟨j,rfl,rfl⟩)|refine zJ ?_|fail
 ·exact zd8 rfl (zh rfl) Ev ⟨of_decide_eq_true j,rfl,rfl⟩
 ·exact zau Ev ⟨of_decide_eq_false j,rfl,rfl⟩
theorem zod(v:Value)(e:Int)(w:World):FnP Tryz.prog 208 [v,.int .i64 e] w No (λu R=>e=0/\u=v/\R= []) (λu R=>e≠0/\u=zcc/\R= []):=by
 refine zaI Tryz.func208 rfl Tryz.ntmps208 q_p FU ?_;repeat' first|refine s_0 ?_|refine zA [0,2] ?_;refine zb ?_|refine q_k 1 ?_;refine q_v (zS (hr:=rfl)) ?_;(refine zef (M':=No) (f:=89) F2 (λ_ h=>False.elim h) (λm _ _ _=>zem _ m) ?_ ?_)|(rintro _ _ ⟨j,rfl,rfl⟩)|refine zJ ?_|fail
 ·exact zd8 rfl (zh rfl) Ev ⟨of_decide_eq_true j,rfl,rfl⟩
 ·exact zau Ev ⟨of_decide_eq_false j,rfl,rfl⟩
end Go.Proofs.YtdnlngbjpdbffaaGreatDoor
