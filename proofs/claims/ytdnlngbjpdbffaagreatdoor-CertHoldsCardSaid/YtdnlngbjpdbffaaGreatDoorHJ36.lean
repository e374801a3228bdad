/- Lemmas of this proof. -/
import Derived.Test.YtdnlngbjpdbffaaGreatDoorHJ33
set_option maxHeartbeats 1000000
set_option maxRecDepth 10000
set_option linter.all false
namespace Go.Ct
open Go Go.Sy
theorem LstAt.at{α β:Type}{cell:β->α->List Value}{q:World->β->α->Prop}{w:World}{a:Option Addr}{c k:Nat}{ps:List β}{l:List α}(h:LstAt cell q w a c ps l)(h0:0<k)(hk:∀p x,(cell p x).length=k){i:Nat}(r:i<l.length):∃j m p,a=some ⟨j,m,none⟩/\ps[i]?=some p/\q w p l[i]/\w.rangeAt j (m+i*k) (cell p l[i]):=by
 have F:(List.zipWith cell ps l).length=l.length:=by rw[Dj,h.len,Dm]
 obtain⟨j,m,rfl,E⟩:=zm3 (k:=k) h.mem (λC B=>by
  obtain⟨p,x,rfl⟩:=mem_zipWith B;exact hk p x) h0 (i:=i) q_o
 have A:i<ps.length:=by rw[h.len];exact r
 refine⟨j,m,ps[i],rfl,A2 A,h.each i _ _ (A2 A) (A2 r),?_⟩;have:=E i q_o;rwa[List.getElem_zipWith] at this
where
 mem_zipWith:∀ {ps:List β}{l:List α}{C:List Value},C∈List.zipWith cell ps l->∃p x,C=cell p x
  |p::ps,x::l,C,h=>by
   rcases AQ.1 h with rfl|h
   ·exact⟨p,x,rfl⟩
   ·exact mem_zipWith h
theorem zij{α β:Type}{cell:β->α->List Value} :∀ {j:List β}{l:List α}{z:List Value×α},z∈List.zip (List.zipWith cell j l) l->∃p,z.1=cell p z.2/\∃i:Nat,j[i]?=some p/\l[i]?=some z.2
 |p::j,x::l,z,h=>by
  rcases AQ.1 h with rfl|h
  ·exact⟨p,rfl,0,rfl,rfl⟩
  ·obtain⟨w,m,i,q,r⟩:=zij h;exact⟨w,m,i+1,q,r⟩
theorem zkS{α β:Type}{cell:β->α->List Value} :∀ {ps:List β}{l:List α},ps.length=l.length->(List.zip (List.zipWith cell ps l) l).map (·.2)=l
 | [],[],_=>rfl
 |p::ps,x::l,h=>by
  have:=zkS (cell:=cell) (ps:=ps) (l:=l) (by simpa using h);rw[Cb,DA,As,this]
theorem znt{α γ:Type}(q:α->Bool):∀j:List (γ×α),(j.filter (λp=>q p.2)).map (·.2)=(j.map (·.2)).filter q
 | []=>rfl
 |z::j=>by
  have m:=znt q j;cases h:q z.2
  ·rw[DF (by simp[h]),As,DF (by simp[h]),m]
  ·rw[DG (by simp[h]),As,As,DG (by simp[h]),m]
theorem zs7{γ:Type}{k:Nat}{zs:List (List Value×γ)}(hk:∀z∈zs,z.1.length=k){i:Nat}(r:i<zs.length)(J:List Value):Seg ((zs.map (·.1)).flatten++J) (i*k) zs[i].1:=λj v w=>by
 have A:j<k:=by have:=(AL.1 w).1;rw[hk zs[i] (AX r)] at this;exact this
 have q:=zf7 (f:=λ(z:List Value×γ)=>z.1) (k:=k) zs hk i j A;rw[A2 r,E8] at q;have m:(zs.map (·.1)).flatten[i*k+j]?=some v:=by rw[q];exact w
 rw[B4 (AL.1 m).1];exact m
end Go.Ct
namespace Go.Proofs.YtdnlngbjpdbffaaGreatDoor
open Go Go.Sy Go.Ct Go.Nt Go.RowKit
attribute [local irreducible] Sy SyL SyX SyC SyF Sy.Fn callFunc
theorem zuJ:Tryz.prog.underlying 103=some (.map 3 4):=by kernel_rfl
theorem zuU:Tryz.prog.underlying 3=some (.int .i64):=by kernel_rfl
theorem zuz(w:World):(zeroValue 4).run Tryz.prog w= .ok (.bool false) w:=by
 have h:Tryz.prog.underlying 4=some .bool:=by kernel_rfl
 simp[zeroValue,h,go_sem];rfl
abbrev zck:=LstAt zE CertAt
abbrev zeI:=LstAt zb0 AnchAt
abbrev zcP:=LstAt zbu RevoAt
theorem zgH(a:Option Addr)(n c:Nat)(ps:List Pl)(l:List Cert)(w:World)(N:GT w)(hn:l.length=n)(h:zck w a c ps l)(O:∀x∈l,x.fine)(hb:n<1000000):q_G 39 [.slice a n c] w (.bool (zaF svK l)):=by
 refine zz Tryz.func39 Tryz.ntmps39 ?_;have q:n<1\/5<n\/(1<=n/\n<=5):=q_o;have F:n<1\/5<n->zaF svK l=false:=λh=>by
  have:(decide (1<=l.length)&&decide (l.length<=5))=false:=by rw[hn];rcases h with h|h <;> simp <;> omega
  unfold zaF;rw[this];rfl
 rcases q with h1|h1|⟨h1,M⟩
 ·rw[F (.inl h1)];repeat' (first|refine s_0 ?_|refine zL [0,2] ?_;refine zf ?_|refine q_k 1 ?_;refine q_x zm ?_)
  exact q_r
 ·rw[F (.inr h1)];repeat' (first|refine s_0 ?_|refine zL [0,2] ?_;refine zf ?_|refine q_k 1 ?_;refine q_x zm ?_;refine q_x zF ?_)
  exact q_r
 have H:zaF svK l=l.all (Cert.ok svK):=by unfold zaF;rw[hn,decide_eq_true h1,decide_eq_true M];rfl
 rw[H];repeat' (first|refine s_t ?_|refine zL [0,3] ?_;refine zf ?_|refine q_k 1 ?_;refine q_x zm ?_;refine q_x zF ?_)
 refine zX (γ:=Nat) (λi=>[(13,.slice a n c),(14,.int .i64 (n:Int)),(15,.int .i64 (i:Int))]) (λ_=>[]) (λi=>i<=n/\(l.take i).all (Cert.ok svK)=true) (λi=>n-i) 0 ⟨AE _,rfl⟩ ?_ ?_ ?_
 ·exact q_h
 ·exact q_h
 rintro i ⟨Q,m⟩;by_cases hlt:i<n
 ·obtain⟨P,S,p,rfl,R,G,hc⟩:=h.at (k:=11) q_e (λ_ _=>rfl) (i:=i) q_o;have E:l[i]∈l:=AX q_o;have J:l.take (i+1)=l.take i++[l[i]]:=zaI q_o;have I:=O l[i] E;have hv:=λL (K:Keep No w L)=>zez p l[i] L (N.to K) (G.keep K) I;have hC:(zE p l[i]).length=11:=rfl;have r:(zE p l[i]).all (·.oneCell')=true:=rfl;generalize l[i]=x at*;generalize zE p x=C at*;have g1:decide ((i:Int)<(n:Int))=true:=q_d;have g5:IntKind.i64.wrap ((i:Int)+1)=((i+1:Nat):Int):=q_w;by_cases hx:x.ok svK=true
  ·rw[hx] at hv;repeat' (first|refine s_t ?_|refine ze 4 ?_;refine q_v (zm (hr:=g1)) ?_|refine ze 5 ?_;refine q_v (zS (j:=i)) ?_;refine q_v (zK (hv:=hc) (hz:=hC.symm)) ?_;refine zi ?_;intro _;refine q_n (zA (B:=C) (hv:=r) (h1:=hC.symm) (hC:=by exact hC.symm)) ?_|refine ze 6 ?_;refine q_v (zd (B:=C) (hz:=hC.symm)) ?_;refine q_v (za (hc:=zr hv)) ?_;refine zI ?_|refine ze 8 ?_;refine q_x (zN (hr:=g5)) ?_)
   refine zQ (i+1) ⟨hlt,by rw[J,BK,m];simp[hx]⟩ ?_ ?_ ?_
   ·show n-(i+1)<n-i;omega
   ·exact q_h
   ·exact q_h
  ·rw[Bo] at hx;rw[hx] at hv;have A:l.all (Cert.ok svK)=false:=by rw[BT];exact⟨x,E,by rw[hx];decide⟩
   rw[A];repeat' (first|refine s_t ?_|refine ze 4 ?_;refine q_v (zm (hr:=g1)) ?_|refine ze 5 ?_;refine q_v (zS (j:=i)) ?_;refine q_v (zK (hv:=hc) (hz:=hC.symm)) ?_;refine zi ?_;intro _;refine q_n (zA (B:=C) (hv:=r) (h1:=hC.symm) (hC:=by exact hC.symm)) ?_|refine ze 6 ?_;refine q_v (zd (B:=C) (hz:=hC.symm)) ?_;refine q_v (za (hc:=zr hv)) ?_;refine zI ?_|refine q_k 7 ?_)
   exact q_r
 obtain rfl:i=n:=q_o;rw[A9 q_o] at m;rw[m];have g1:decide ((i:Int)<(i:Int))=false:=q_f;repeat' (first|refine s_0 ?_|refine ze 4 ?_;refine q_v (zm (hr:=g1)) ?_|refine q_k 9 ?_)
 exact q_r
theorem zt0(a:Option Addr)(n c:Nat)(ps:List Pa)(l:List Anch)(w:World)(P:GT w)(hn:l.length=n)(h:zeI w a c ps l)(Q:∀x∈l,x.name.fine)(hb:n<1000000):q_G 57 [.slice a n c] w (.bool (decide (l.length<=64)&&l.all (Anch.ok svK))):=by
 refine zz Tryz.func57 Tryz.ntmps57 ?_;rw[hn];rcases(show 64<n\/n<=64 by omega) with h1|h1
 ·rw[decide_eq_false (show ¬n<=64 by omega),BC];repeat' (first|refine s_0 ?_|refine zL [0,2] ?_;refine zf ?_|refine q_k 1 ?_;refine q_v zF ?_)
  exact q_r
 rw[decide_eq_true h1,B1];repeat' (first|refine s_t ?_|refine zL [0,3] ?_;refine zf ?_|refine q_k 1 ?_;refine q_v zF ?_)
 refine zX (γ:=Nat) (λi=>[(8,.slice a n c),(9,.int .i64 (n:Int)),(10,.int .i64 (i:Int))]) (λ_=>[]) (λi=>i<=n/\(l.take i).all (Anch.ok svK)=true) (λi=>n-i) 0 ⟨AE _,rfl⟩ ?_ ?_ ?_
 ·exact q_h
 ·exact q_h
 rintro i ⟨T,r⟩;by_cases hlt:i<n
 ·obtain⟨S,V,p,rfl,U,A,hc⟩:=h.at (k:=4) q_e (λ_ _=>rfl) (i:=i) q_o;have F:l[i]∈l:=AX q_o;have N:l.take (i+1)=l.take i++[l[i]]:=zaI q_o;have E:=Q l[i] F;have hv:=λI (J:Keep No w I)=>zfF _ _ I (A.name.keep J) E.1 E.2.1 E.2.2;have K:=λI (J:Keep No w I)=>zjS l[i].group p.a2 l[i].pub.length p.k2 l[i].pub I (P.to J) rfl A.pub.cap (A.pub.keep J).sla;rw[show decide ((gel l[i].group l[i].pub).2=0)=svK l[i].group l[i].pub from rfl] at K;have m:Anch.ok svK l[i]=(l[i].name.ok&&svK l[i].group l[i].pub):=rfl;generalize l[i]=x at*;unfold za1 at hv;unfold zb0 at hc;have g1:decide ((i:Int)<(n:Int))=true:=q_d;have g5:IntKind.i64.wrap ((i:Int)+1)=((i+1:Nat):Int):=q_w;obtain⟨L,G⟩:∃u,u=x.name.ok:=⟨_,rfl⟩;obtain⟨O,H⟩:∃u,u=svK x.group x.pub:=⟨_,rfl⟩;rw[<-G] at hv m;rw[<-H] at K m;have M:L=false\/(L=true/\O=false)\/(L=true/\O=true):=by cases L <;> cases O <;> simp
  have q:Anch.ok svK x=false->l.all (Anch.ok svK)=false:=λR=>by rw[BT];exact⟨x,F,by rw[R];decide⟩
  clear G H;rcases M with rfl|⟨rfl,rfl⟩|⟨rfl,rfl⟩
  ·rw[q m];repeat' (first|refine s_t ?_|refine ze 4 ?_;refine q_v (zm (hr:=g1)) ?_|refine ze 5 ?_;refine q_v (zS (j:=i)) ?_;refine q_v (zK (hv:=hc)) ?_;refine zi ?_;intro _;refine q_n (zA (h1:=rfl)) ?_|refine q_k 6 ?_;refine q_v (zd (B:=[.slice p.a1 x.name.parts.length p.k1,zW x.name.realm]) (hv:=FB rfl)) ?_;refine q_v (za (hc:=zr hv)) ?_;refine zI ?_;refine zf ?_|refine q_k 7 ?_)
   exact q_r
  ·rw[q m];repeat' (first|refine s_t ?_|refine ze 4 ?_;refine q_v (zm (hr:=g1)) ?_|refine ze 5 ?_;refine q_v (zS (j:=i)) ?_;refine q_v (zK (hv:=hc)) ?_;refine zi ?_;intro _;refine q_n (zA (h1:=rfl)) ?_|refine q_k 6 ?_;refine q_v (zd (B:=[.slice p.a1 x.name.parts.length p.k1,zW x.name.realm]) (hv:=FB rfl)) ?_;refine q_v (za (hc:=zr hv)) ?_;refine zI ?_;refine zf ?_;refine zl ?_;refine zf ?_;refine zl ?_;refine q_v (za (hc:=zr K)) ?_;refine zI ?_;refine zf ?_|refine q_k 7 ?_)
   exact q_r
  ·repeat' (first|refine s_t ?_|refine ze 4 ?_;refine q_v (zm (hr:=g1)) ?_|refine ze 5 ?_;refine q_v (zS (j:=i)) ?_;refine q_v (zK (hv:=hc)) ?_;refine zi ?_;intro _;refine q_n (zA (h1:=rfl)) ?_|refine q_k 6 ?_;refine q_v (zd (B:=[.slice p.a1 x.name.parts.length p.k1,zW x.name.realm]) (hv:=FB rfl)) ?_;refine q_v (za (hc:=zr hv)) ?_;refine zI ?_;refine zf ?_;refine zl ?_;refine zf ?_;refine zl ?_;refine q_v (za (hc:=zr K)) ?_;refine zI ?_;refine zf ?_|refine ze 8 ?_;refine q_x (zN (hr:=g5)) ?_)
   refine zQ (i+1) ⟨hlt,by rw[N,BK,r];simp[m]⟩ ?_ ?_ ?_
   ·show n-(i+1)<n-i;omega
   ·exact q_h
   ·exact q_h
 obtain rfl:i=n:=q_o;rw[A9 q_o] at r;rw[r];have g1:decide ((i:Int)<(i:Int))=false:=q_f;repeat' (first|refine s_0 ?_|refine ze 4 ?_;refine q_v (zm (hr:=g1)) ?_|refine q_k 9 ?_)
 exact q_r
end Go.Proofs.YtdnlngbjpdbffaaGreatDoor
namespace Go.Ct
open Go Go.Sy
def zqC(ks:List Int)(u:Int):List Int:=if u∈ks then ks else ks++[u]
theorem zsM{j:List Int}{u x:Int} :x∈zqC j u↔x∈j\/x=u:=by
 unfold zqC;split
 ·rename_i h;exact⟨.inl,λm=>m.elim id (λe=>e ▸ h)⟩
 ·simp
end Go.Ct
namespace Go.Proofs.YtdnlngbjpdbffaaGreatDoor
open Go Go.Sy Go.Ct Go.Nt Go.RowKit
attribute [local irreducible] Sy SyL SyX SyC SyF Sy.Fn callFunc
theorem zvH(b:Nat)(D:List Value)(p:Prin)(pr:Option Addr×Nat)(x:Revo)(w:World)(r:w.rangeAt b 0 D)(hp:PrinIn w D p)(hx:RevoAt w pr x)(A:x.issuer.fine):
  q_G 144 [.agg (zbu pr x).toArray,.pointer (some ⟨b,0,none⟩)] w (.bool (x.issuer.same p)):=by
 refine zz Tryz.func144 Tryz.ntmps144 ?_;have h:=λm (j:Keep No w m)=>zit _ _ _ _ m (hx.name.keep j) (hp.keep j) A.1;have q:=hp.two;unfold zbu za1 at*;repeat' (first|refine s_0 ?_|refine ze 0 ?_;refine z9 ?_;intro _|refine q_k 1 ?_;refine q_v (zd (B:=[.slice pr.1 x.issuer.parts.length pr.2,zW x.issuer.realm]) (hv:=FB rfl)) ?_;refine q_v (zK (hv:=r) (hz:=q.symm)) ?_;refine q_v (za (hc:=zr h)) ?_;refine zf ?_)
 exact q_r
theorem zvY(b:Nat)(p:Pl)(c:Cert)(m:Pa)(x:Anch)(w:World)(F:w.rangeAt b 0 (zE p c))(hc:CertAt w p c)(hx:AnchAt w m x)(G:x.name.fine):
  q_G 142 [.agg (zb0 m x).toArray,.pointer (some ⟨b,0,none⟩)] w (.bool (x.name.same c.issuer)):=by
 refine zz Tryz.func142 Tryz.ntmps142 ?_;have h:=λA (r:Keep No w A)=>zit _ _ _ _ A (hx.name.keep r) (hc.iss.keep r) G.1;have E:w.rangeAt b 1 (za1 p.a1 p.k1 c.issuer):=λj v q=>F (1+j) v (by
  have:(zE p c).drop 1=za1 p.a1 p.k1 c.issuer++(zE p c).drop 3:=rfl;rw[<-Bl,this,B4 (AL.1 q).1];exact q) |> λh=>by rwa[show 0+(1+j)=1+j by omega] at h
 unfold zb0 za1 at*;repeat' (first|refine s_0 ?_|refine ze 0 ?_;refine z9 ?_;intro _|refine q_k 1 ?_;refine q_x (zd (B:=[.slice m.a1 x.name.parts.length m.k1,zW x.name.realm]) (hv:=FB rfl)) ?_;refine q_v (zK (hv:=E)) ?_;refine q_v (za (hc:=zr h)) ?_;refine zf ?_)
 exact q_r
theorem zuj(D:List Value)(p:Prin)(a:Option Addr)(n c:Nat)(ps:List (Option Addr×Nat))(rs:List Revo)(w:World)(hp:PrinIn w D p)(h:zcP w a c ps rs)(hn:rs.length=n)(hf:∀x∈rs,x.issuer.fine)(hb:n<1000):
  Sy.Fn Tryz.prog 66 [.agg D.toArray,.slice a n c] w No (λv R=>∃b m,v= .map (some b)/\R= [zdG b (zbU m 0) m.length]/\∀u,u∈m↔ ∃r∈rs,r.issuer.same p=true/\r.serial=u):=by
 refine zz Tryz.func66 Tryz.ntmps66 ?_;have N:(List.zipWith zbu ps rs).length=n:=by rw[Dj,h.len,hn,Dm]
 have A:=hp.two;have G:=λV (O:Keep No w V) K (hD:V.rangeAt K 0 D)=>zt1 a n c 144 [.pointer (some ⟨K,0,none⟩)] rs (List.zipWith zbu ps rs) (λx=>x.issuer.same p) V (en rfl) hn N (λC hC=>by
  obtain⟨q,x,rfl⟩:=LstAt.at.mem_zipWith hC;exact⟨rfl,rfl⟩) ((FY h.mem).to (Mi:=No) O (λ_ h=> .inr h)).sla hb (λi C x M W a6 I=>by
  rw[CL,W] at M;cases Q:ps[i]? with
  |none=>rw[Q] at M;cases M
  |some q=>
   rw[Q] at M;cases M;have Y:=h.each i q x Q W;exact zvH K D p q x a6 (zaW hD I (λh=>h)) ((hp.keep O).keep I) ((Y.keep O).keep I) (hf x (BE W)))
 unfold zi7 at G;have T:∀z∈(List.zip (List.zipWith zbu ps rs) rs).filter (λz=>z.2.issuer.same p),∃q,z.1=zbu q z.2:=λz hz=>by
  obtain⟨q,h1,_⟩:=zij (BY.1 hz).1;exact⟨q,h1⟩
 have U:((List.zip (List.zipWith zbu ps rs) rs).filter (λz=>z.2.issuer.same p)).map (·.2)=rs.filter (λx=>x.issuer.same p):=by rw[znt (q:=λ(x:Revo)=>x.issuer.same p),zkS h.len]
 have a7:((List.zip (List.zipWith zbu ps rs) rs).filter (λz=>z.2.issuer.same p)).length<=n:=by
  refine BM (Ci _ _) ?_;rw[List.length_zip,N,hn,Dm];exact A8 _
 generalize (List.zip (List.zipWith zbu ps rs) rs).filter (λz=>z.2.issuer.same p)=zs at*;repeat' (first|refine s_0 ?_|refine ze 0 ?_;refine z9 ?_;intro _|refine ze 1 ?_|refine q_s zp6 ?_;rintro _ _ ⟨L,rfl,rfl⟩|(refine zx ?_;first|refine zo ?_|fail)|fail)
 rename_i K;repeat' (first|refine s_t ?_|refine q_k 2 ?_;refine q_v zZ ?_;(refine q_s (zn (hc:=λV X O hh=>G V O K (zq (hh.has (r:=.blk K 43 D) q_h) Em))) ?_;rintro _ _ ⟨R,rfl,aF,cF,rfl,rfl⟩);refine zf ?_)
 refine zlI (a:=aF) (cp:=cF) (E:=67) (s:=3) (n:=zs.length) (xs:=(zs.map (λ(z:List Value×Revo)=>z.1)).flatten) (by exact Ej) λr hr=>?_;refine zX (γ:=Nat×List Int) (λg=>[(5,.map (some L)),(11,.slice aF zs.length cF),(12,.int .i64 (zs.length:Int)),(13,.int .i64 (g.1:Int))]) (λg=>[r,zdG L (zbU g.2 0) g.2.length]) (λg=>g.1<=zs.length/\∀u,u∈g.2↔ ∃z∈zs.take g.1,z.2.serial=u) (λg=>zs.length-g.1) (0,[]) ⟨AE _,λu=>by simp⟩ ?_ ?_ ?_
 ·exact q_h
 ·exact q_h
 rintro⟨i,m⟩ ⟨hi,F⟩;dsimp only at hi F ⊢;by_cases hlt:i<zs.length
 ·obtain⟨bF,J,rfl,rfl⟩:=hr q_o;have Z:zs.take (i+1)=zs.take i++[zs[i]]:=zaI hlt;have S:=zs7 (k:=3) (zs:=zs) (λz hz=>by obtain⟨q,e⟩:=T z hz;rw[e];rfl) hlt J;obtain⟨q,Q⟩:=T zs[i] (AX hlt);rw[Q] at S;have P:∀u,u∈zqC m zs[i].2.serial↔ ∃z∈zs.take (i+1),z.2.serial=u:=λu=>by
   rw[zsM,F u,Z];constructor
   ·rintro(⟨z,h1,A⟩|rfl)
    ·exact⟨z,A7 _ h1,A⟩
    ·exact⟨zs[i],AB _ A4,rfl⟩
   ·rintro⟨z,h1,A⟩;rcases Am.1 h1 with h1|h1
    ·exact .inl ⟨z,h1,A⟩
    ·rw[AC.1 h1] at A;exact .inr A.symm
  generalize zs[i].2=x at*;have g1:decide ((i:Int)<(zs.length:Int))=true:=q_d;have g5:IntKind.i64.wrap ((i:Int)+1)=((i+1:Nat):Int):=q_w;have H:Seg ((zs.map (·.1)).flatten++J) (0+i*3) (zbu q x):=by rw[AU];exact S
  unfold zbu at H;repeat' (first|refine s_t ?_|refine ze 3 ?_;refine q_v (zm (hr:=g1)) ?_|refine ze 4 ?_;refine q_v (zS (j:=i)) ?_;refine q_v (zd (B:=[.slice q.1 x.issuer.parts.length q.2,zW x.issuer.realm,.int .i64 x.serial]) (hv:=H)) ?_;refine zi ?_;intro _;refine q_n (zA (h1:=rfl)) ?_|refine q_k 5 ?_;refine zl ?_;(refine q_n (zq7 (l:=m) (u:=x.serial) zuJ zuU) ?_)|refine ze 6 ?_;refine q_x (zN (hr:=g5)) ?_)
  refine zQ (i+1,zqC m x.serial) ⟨hlt,P⟩ ?_ ?_ ?_
  ·show zs.length-(i+1)<zs.length-i;omega
  ·exact q_h
  ·show SubR [_,zdG L (zbU (if x.serial∈m then m else m++[x.serial]) 0) (if x.serial∈m then m else m++[x.serial]).length] _;exact q_h
 obtain rfl:i=zs.length:=q_o;rw[A9 (A8 _)] at F;have g1:decide ((zs.length:Int)<(zs.length:Int))=false:=q_f;repeat' (first|refine s_0 ?_|refine ze 3 ?_;refine q_v (zm (hr:=g1)) ?_|refine q_k 7 ?_)
 refine zaq rfl (zj rfl) (R:=[zdG L (zbU m 0) m.length]) q_h ⟨L,m,rfl,rfl,λu=>?_⟩;rw[F u];constructor
 ·rintro⟨z,h1,A⟩;have:z.2∈rs.filter (λx=>x.issuer.same p):=by rw[<-U];exact C9.2 ⟨z,h1,rfl⟩
  exact⟨z.2,(BY.1 this).1,(BY.1 this).2,A⟩
 ·rintro⟨x,h1,A,h3⟩;have:x∈zs.map (·.2):=by rw[U];exact BY.2 ⟨h1,A⟩
  obtain⟨z,h4,rfl⟩:=C9.1 this;exact⟨z,h4,h3⟩
end Go.Proofs.YtdnlngbjpdbffaaGreatDoor
namespace Go.Ct
open Go Go.Sy
theorem zrU{w:World}{b o:Nat}{C B:List Value}(h:w.rangeAt b 0 C)(q:(C.drop o).take B.length=B):w.rangeAt b o B:=λj v m=>by
 have:=h (o+j) v (FB q j v m);rwa[AU] at this
end Go.Ct
namespace Go.Proofs.YtdnlngbjpdbffaaGreatDoor
open Go Go.Sy Go.Ct Go.Nt Go.RowKit
attribute [local irreducible] Sy SyL SyX SyC SyF Sy.Fn callFunc
theorem zsD(b:Nat)(u:Bool)(w:World)(h:w.cell? ⟨b,0,none⟩=some (.bool u)):q_G 61 [.pointer (some ⟨b,0,none⟩)] w (.int .i64 (if u then 0 else 220)):=by
 refine zz Tryz.func61 Tryz.ntmps61 ?_;have j:=λm=>zg7 (!u) 220 m;repeat' (first|refine s_0 ?_|refine q_k 0 ?_|refine ze 1 ?_;refine q_v (zp (hv:=h)) ?_;refine zI ?_;refine q_v (za (hc:=q_c j)) ?_;refine zf ?_)
 exact zaq rfl (zj rfl) El ⟨by cases u <;> rfl,rfl⟩
theorem ztd(b d:Nat)(p:Pl)(c:Cert)(z:Int)(s:Bs)(w:World)(B:GT w)(F:Tab w No)(E:ST w)(A:w.rangeAt b 0 (zE p c))(m:w.rangeAt d 0 [.int .i64 z,s.val])(h:CertAt w p c)(G:c.fine)(H:s.ok w):
  q_G 63 [.pointer (some ⟨b,0,none⟩),.pointer (some ⟨d,0,none⟩)] w (.int .i64 (zhL svK sfK c z s.l)):=by
 refine zz Tryz.func63 Tryz.ntmps63 ?_;have r:(zE p c).length=11:=rfl;have I:w.cell? ⟨d,0,none⟩=some (.int .i64 z):=m 0 _ rfl;have k1:w.cell? ⟨d,1,none⟩=some s.val:=m 1 _ rfl;have hc:=λq (j:Keep No w q)=>zku p c z s q (B.to j) (F.no j) (E.to j) (h.keep j) G (H.keep j);generalize zE p c=C at*;repeat' (first|refine s_0 ?_|refine q_k 0 ?_|refine ze 1 ?_;refine q_x (zK (hv:=A) (hz:=r.symm)) ?_;refine q_x (zp (hv:=I)) ?_;refine q_v (zp (hv:=k1)) ?_;refine q_v (za (hc:=zr hc)) ?_;refine zf ?_)
 exact q_r
theorem zt6(d b:Nat)(p:Pl)(c:Cert)(now:Int)(w:World)(j:w.cell? ⟨d,0,none⟩=some (.int .i64 now))(A:w.rangeAt b 0 (zE p c)):
  q_G 64 [.pointer (some ⟨d,0,none⟩),.pointer (some ⟨b,0,none⟩)] w (.int .i64 (if now<c.fr\/c.til<now then 222 else 0)):=by
 refine zz Tryz.func64 Tryz.ntmps64 ?_;have q:w.cell? ⟨b,0+5,none⟩=some (.int .i64 c.fr):=A 5 _ rfl;have E:w.cell? ⟨b,0+6,none⟩=some (.int .i64 c.til):=A 6 _ rfl;have B:=λr=>zg7 true 222 r;have F:=λr=>zg7 false 222 r;have hc:now<c.fr\/(¬now<c.fr/\c.til<now)\/(¬now<c.fr/\¬c.til<now):=q_o;rcases hc with h|⟨h,m⟩|⟨h,m⟩
 ·rw[if_pos (.inl h)];repeat' (first|refine s_0 ?_|refine q_k 0 ?_|refine ze 1 ?_;refine q_x (zp (hv:=j)) ?_;refine q_v (zp (hv:=q)) ?_;refine q_x (zm (hr:=decide_eq_true h)) ?_;refine q_v (za (hc:=q_c B)) ?_;refine zf ?_)
  exact q_r
 ·rw[if_pos (.inr m)];repeat' (first|refine s_0 ?_|refine q_k 0 ?_|refine ze 1 ?_;refine q_x (zp (hv:=j)) ?_;refine q_v (zp (hv:=q)) ?_;refine q_x (zm (hr:=decide_eq_false h)) ?_;refine q_x (zp (hv:=j)) ?_;refine q_v (zp (hv:=E)) ?_;refine q_x (zF (hr:=decide_eq_true m)) ?_;refine q_v (za (hc:=q_c B)) ?_;refine zf ?_)
  exact q_r
 ·rw[if_neg q_o];repeat' (first|refine s_0 ?_|refine q_k 0 ?_|refine ze 1 ?_;refine q_x (zp (hv:=j)) ?_;refine q_v (zp (hv:=q)) ?_;refine q_x (zm (hr:=decide_eq_false h)) ?_;refine q_x (zp (hv:=j)) ?_;refine q_v (zp (hv:=E)) ?_;refine q_x (zF (hr:=decide_eq_false m)) ?_;refine q_v (za (hc:=q_c F)) ?_;refine zf ?_)
  exact q_r
theorem zsK(b d:Nat)(p:Pl)(c:Cert)(a:Option Addr)(n k:Nat)(ps:List (Option Addr×Nat))(rs:List Revo)(w:World)(G:w.rangeAt b 0 (zE p c))(J:w.cell? ⟨d,0,none⟩=some (.slice a n k))(hc:CertAt w p c)(h:zcP w a k ps rs)(hn:rs.length=n)(K:∀x∈rs,x.issuer.fine)(hb:n<1000):
  q_G 65 [.pointer (some ⟨b,0,none⟩),.pointer (some ⟨d,0,none⟩)] w (.int .i64 (if zdI rs c then 223 else 0)):=by
 refine zz Tryz.func65 Tryz.ntmps65 ?_;have N:w.cell? ⟨b,0+0,none⟩=some (.int .i64 c.serial):=G 0 _ rfl;have k1:w.rangeAt b (0+1) (za1 p.a1 p.k1 c.issuer):=zrU G rfl;have L:=λj (q:Keep No w j)=>zuj (za1 p.a1 p.k1 c.issuer) c.issuer a n k ps rs j (hc.iss.keep q) (h.keep q (λp x M=>M.keep q)) hn K hb;have B:=λu j=>zg7 u 223 j;unfold za1 at*;repeat' (first|refine s_0 ?_|refine q_k 0 ?_)
 (refine zdq (id:=1) [0,1,2,4,5] [3,6,7,8] mixed ?_ ?_;kernel_rfl;refine yfv zP (k:=?_);refine yfv (zK (hv:=k1)) (k:=?_);refine yfv (zp (hv:=J)) (k:=?_);refine yfv zP (k:=?_);refine yfv (zp (hv:=N)) (k:=?_);refine yf0 ?_;try refine yc0 (k:=?_))
 refine ycs (zn (hc:=zr L)) (k:=?_);rintro _ _ ⟨R,rfl,O,H,rfl,rfl,E⟩;have F:decide (c.serial∈H)=zdI rs c:=by
  rw[CO,decide_eq_true_iff,E,zdI,DW];constructor
  ·rintro⟨r,A,m,I⟩;exact⟨r,A,by rw[m,decide_eq_true I];rfl⟩
  ·rintro⟨r,A,m⟩;rw[A5,decide_eq_true_eq] at m;exact⟨r,A,m.1,m.2⟩
 refine ycv (zrm (l:=H) (u:=c.serial) zuJ zuU zuz) (k:=?_);rw[F];refine ycv (za (hc:=λj X q P=>B (zdI rs c) j)) (k:=?_);refine ycv zbl (k:=?_);refine yc0 (k:=?_);repeat' (first|refine s_0 ?_|fail)
 exact q_r
theorem zs5(d b:Nat)(p:Pl)(c:Cert)(i:Int)(w:World)(q:w.cell? ⟨d,0,none⟩=some (.int .i64 i))(A:w.rangeAt b 0 (zE p c)):
  q_G 67 [.pointer (some ⟨d,0,none⟩),.pointer (some ⟨b,0,none⟩)] w (.int .i64 (if (!decide (i=0) && !c.auth)=true then 224 else 0)):=by
 refine zz Tryz.func67 Tryz.ntmps67 ?_;have B:w.cell? ⟨b,0+7,none⟩=some (.bool c.auth):=A 7 _ rfl;have j:=λu E=>zg7 u 224 E;by_cases h:i=0
 ·rw[decide_eq_true h];have m:=j false;repeat' (first|refine s_0 ?_|refine q_k 0 ?_|refine ze 1 ?_;refine q_v (zp (hv:=q)) ?_;refine q_x (zV (hr:=decide_eq_false (λr=>r h))) ?_;refine q_v (za (hc:=q_c m)) ?_;refine zf ?_)
  exact q_r
 ·rw[decide_eq_false h];have m:=j (!c.auth);repeat' (first|refine s_0 ?_|refine q_k 0 ?_|refine ze 1 ?_;refine q_v (zp (hv:=q)) ?_;refine q_x (zV (hr:=decide_eq_true h)) ?_;refine q_v (zp (hv:=B)) ?_;refine zI ?_;refine zf ?_;refine q_v (za (hc:=q_c m)) ?_;refine zf ?_)
  exact zaq rfl (zj rfl) El ⟨by cases c.auth <;> rfl,rfl⟩
def KeyR(w:World)(x:Anch)(u:Bool)(v:Value)(R:List Res):Prop:=∃s:Bs,v= .tuple #[.agg #[.int .i64 x.group,s.val],.bool u]/\s.l=x.pub/\s.ok w/\R= []
theorem KeyR.done{w:World}{x:Anch}{u:Bool}{s:Bs}(h1:s.l=x.pub)(h2:s.ok w):KeyR w x u (.tuple #[.agg #[.int .i64 x.group,s.val],.bool u]) []:=⟨s,rfl,h1,h2,rfl⟩
def Fp:=@KeyR.done
theorem zoo(a:Option Addr)(n c i:Nat)(ps:List Pl)(l:List Cert)(M:Value)(U:M.oneCell'=true)(J w:World)(E:Keep No J w)(hn:l.length=n)(K:zck J a c ps l)(R:∀x∈l,x.fine)(hb:n<1000000)(W:i+1<n):
  Sy.Fn Tryz.prog 59 [.slice a n c,.int .i64 (i:Int),M] w No (KeyR J ⟨l[i+1].subject,l[i+1].group,l[i+1].pub⟩ (l[i+1].subject.same l[i].issuer)):=by
 refine zz Tryz.func59 Tryz.ntmps59 ?_;have h:=K.keep E (λp x S=>S.keep E);obtain⟨V,Y,p,rfl,X,F,hc⟩:=h.at (k:=11) q_e (λ_ _=>rfl) (i:=i) q_o;obtain⟨O,T,q,P,H,r,G⟩:=h.at (k:=11) q_e (λ_ _=>rfl) (i:=i+1) q_o;cases P;have A:=R l[i+1] (AX q_o);have Q:=λN (L:Keep No w N)=>zit _ _ _ _ N (r.sub.keep L) (F.iss.keep L) A.s.1;have I:=(K.each (i+1) q l[i+1] H (A2 q_o)).pub;generalize l[i+1]=m,l[i]=x at*;unfold zE za1 at*;have g1:IntKind.i64.wrap ((n:Int)-1)=((n-1:Nat):Int):=q_w;have g2:decide ((i:Int)<((n-1:Nat):Int))=true:=q_d;have g3:IntKind.i64.wrap ((i:Int)+1)=((i+1:Nat):Int):=q_w;repeat' (first|refine s_0 ?_|refine ze 0 ?_;refine z9 ?_;intro _|refine q_k 1 ?_;refine q_v (zS (j:=i)) ?_;refine q_v (zK (hv:=hc)) ?_;refine zi ?_;intro _;refine q_n (zA (h1:=rfl)) ?_|refine q_k 2 ?_;refine q_v (zab (hr:=g1)) ?_;refine q_v (zm (hr:=g2)) ?_|refine q_k 3 ?_;refine q_v (zN (hr:=g3)) ?_;refine q_v (zS (j:=i+1)) ?_;refine q_v (zK (hv:=G)) ?_;refine zi ?_;intro _;refine q_n (zA (h1:=rfl)) ?_)
 (refine zlX (id:=4) [2] [0,1,2,3,4,5,6,7,8] [9,10,11] mixed ?_ ?_;kernel_rfl;refine yfv zP (k:=?_);refine yfv zM (k:=?_);refine yfv zP (k:=?_);refine yfv zM (k:=?_);refine yfv zgr (k:=?_);refine yfv zP (k:=?_);refine yfv (zd (B:=[.slice q.a2 m.subject.parts.length q.k2,zW m.subject.realm]) (hv:=FB rfl)) (k:=?_);refine yfv zP (k:=?_);refine yfv (zd (B:=[.slice p.a1 x.issuer.parts.length p.k1,zW x.issuer.realm]) (hv:=FB rfl)) (k:=?_);refine yf0 ?_;try refine yc0 (k:=?_))
 refine ycv (za (hc:=zr Q)) (k:=?_);refine ycn (zA (h1:=rfl)) (k:=?_);refine ycv zbl (k:=?_);refine yc0 (k:=?_);repeat' (first|refine s_0 ?_|fail)
 exact zT rfl (zB (B:=[.int .i64 m.group,.slice q.a3 m.pub.length q.k3]) rfl (ty rfl) rfl En Em rfl) (zj rfl) El (Fp (x:=⟨m.subject,m.group,m.pub⟩) (s:=⟨q.a3,m.pub.length,q.k3,m.pub⟩) rfl I)
theorem zsp{γ:Type}(q:Anch->Bool)(zs:List (γ×Anch)):((zs.filter (λp=>q p.2)).head?).map (·.2)=(zs.map (·.2)).find? q:=by
 induction zs with
 |nil=>rfl
 |cons z zs ih=>
  cases h:q z.2
  ·rw[DF (by simp[h]),ih,As,List.find?_cons_of_neg (by simp[h])]
  ·rw[DG (by simp[h]),As,DP (by simp[h])];rfl
theorem zow(a Y:Option Addr)(n c M Z i:Nat)(ps:List Pl)(l:List Cert)(m:List Pa)(A:List Anch)(W w:World)(S:Keep No W w)(hn:l.length=n)(h:zck w a c ps l)(hb:n<1000000)(hi:i+1=n)(K:A.length=M)(O:zeI W Y Z m A)(a9:∀x∈A,x.name.fine)(b0:M<1000):
  Sy.Fn Tryz.prog 59 [.slice a n c,.int .i64 (i:Int),.slice Y M Z] w No (KeyR W (zen A l[i].issuer) (A.find? (λx=>x.name.same l[i].issuer)).isSome):=by
 refine zz Tryz.func59 Tryz.ntmps59 ?_;obtain⟨bl,ol,p,rfl,hp,a7,hc⟩:=h.at (k:=11) q_e (λ_ _=>rfl) (i:=i) q_o;generalize l[i]=x at*;have V:=O.keep S (λp x hx=>hx.keep S);have P:(List.zipWith zb0 m A).length=M:=by rw[Dj,V.len,K,Dm]
 have G:=λU (Q:Keep No w U) L (hD:U.rangeAt L 0 (zE p x))=>zuc Y M Z 142 [.pointer (some ⟨L,0,none⟩)] A (List.zipWith zb0 m A) (λy=>y.name.same x.issuer) U (en rfl) K P (λC hC=>by
  obtain⟨q,y,rfl⟩:=LstAt.at.mem_zipWith hC;exact⟨rfl,rfl⟩) ((FY V.mem).to (Mi:=No) Q (λ_ h=> .inr h)).sla b0 (λi C y N e2 b4 I=>by
  rw[CL,e2] at N;cases T:m[i]? with
  |none=>rw[T] at N;cases N
  |some q=>
   rw[T] at N;cases N;have a8:=V.each i q y T e2;exact zvY L p x q y b4 (zaW hD I (λh=>h)) ((a7.keep Q).keep I) ((a8.keep Q).keep I) (a9 y (BE e2)))
 unfold zi7 at G;have b3:∀z∈(List.zip (List.zipWith zb0 m A) A).filter (λz=>z.2.name.same x.issuer),∃q,z.1=zb0 q z.2/\AnchAt W q z.2:=λz hz=>by
  obtain⟨q,h1,j,h2,h3⟩:=zij (BY.1 hz).1;exact⟨q,h1,O.each j q z.2 h2 h3⟩
 have H:=zsp (λy:Anch=>y.name.same x.issuer) (List.zip (List.zipWith zb0 m A) A);rw[zkS V.len] at H;have b9:((List.zip (List.zipWith zb0 m A) A).filter (λz=>z.2.name.same x.issuer)).length<=M:=by
  refine BM (Ci _ _) ?_;rw[List.length_zip,P,K,Dm];exact A8 _
 unfold zen;generalize (List.zip (List.zipWith zb0 m A) A).filter (λz=>z.2.name.same x.issuer)=F at*;rw[<-H];clear H;have hC:(zE p x).length=11:=rfl;have a6:(zE p x).all (·.oneCell')=true:=rfl;generalize zE p x=C at*;have g1:IntKind.i64.wrap ((n:Int)-1)=((n-1:Nat):Int):=q_w;have g2:decide ((i:Int)<((n-1:Nat):Int))=false:=q_f;repeat' (first|refine s_0 ?_|refine ze 0 ?_;refine z9 ?_;intro _|refine q_k 1 ?_;refine q_v (zS (j:=i)) ?_;refine q_v (zK (hv:=hc) (hz:=hC.symm)) ?_;refine zi ?_;intro _;refine q_n (zA (B:=C) (hv:=a6) (h1:=hC.symm) (hC:=by exact hC.symm)) ?_)
 rename_i b6 L;repeat' (first|refine s_0 ?_|refine q_k 2 ?_;refine q_v (zab (hr:=g1)) ?_;refine q_v (zm (hr:=g2)) ?_|refine q_k 5 ?_;refine q_v zZ ?_;(refine q_s (zn (hc:=λU X Q hh=>G U Q L (zq (hh.has (r:=.blk L 45 C) q_h) Em))) ?_;rintro _ _ ⟨R,rfl,aF,cF,rfl,rfl⟩);refine zf ?_)
 cases F with
 |nil=>
  repeat' (first|refine s_0 ?_|refine q_k 6 ?_;refine zaH ?_|refine ze 7 ?_;refine za4 ?_;refine q_y (zA (h1:=rfl)) ?_)
  exact zT rfl (zB (B:=[.int .i64 0,.slice none 0 0]) rfl (ty rfl) rfl En Em rfl) (zj rfl) El (Fp (x:=noAnch) (s:=⟨none,0,0,[]⟩) rfl ⟨rfl,A8 _,.inl rfl,λ_=>rfl⟩)
 |cons z F=>
  obtain⟨q,T,b2⟩:=b3 z A4;have b1:=b2.pub;obtain⟨zc,y⟩:=z;dsimp only at*;subst T;refine zlI (a:=aF) (cp:=cF) (E:=65) (s:=4) (n:=((zb0 q y,y)::F).length) (xs:=(((zb0 q y,y)::F).map (λ(z:List Value×Anch)=>z.1)).flatten) (by exact Ej) λr hr=>?_;obtain⟨bF,J,rfl,rfl⟩:=hr (by rw[AO];omega);have e0:(((zb0 q y,y)::F).map (λ(z:List Value×Anch)=>z.1)).flatten++J=zb0 q y++((F.map (·.1)).flatten++J):=by simp
  rw[e0];have b7:(((zb0 q y,y)::F).length:Int)=(F.length:Int)+1:=by simp
  have g3:decide ((((zb0 q y,y)::F).length:Int)=0)=false:=q_f;have b5:0<((zb0 q y,y)::F).length:=by rw[AO];omega
  unfold zb0;repeat' (first|refine s_0 ?_|refine q_k 6 ?_;refine q_v (zY (hr:=g3)) ?_)
  (refine zlX (id:=8) [2] [0,1,2,3,4,5,6,7,8] [9,10] mixed ?_ ?_;kernel_rfl;refine yfv zar (k:=?_);refine yfv zS (k:=?_);refine yfv zP (k:=?_);refine yfv zM (k:=?_);refine yfv zar (k:=?_);refine yfv zS (k:=?_);refine yfv zP (k:=?_);refine yfv zM (k:=?_);refine yfv zgr (k:=?_);refine yf0 ?_;refine ycn zA (k:=?_);refine ycv zbl (k:=?_);try refine yc0 (k:=?_))
  repeat' (first|refine s_0 ?_|fail)
  exact zT rfl (zB (B:=[.int .i64 y.group,.slice q.a2 y.pub.length q.k2]) rfl (ty rfl) rfl En Em rfl) (zj rfl) El (Fp (x:=y) (s:=⟨q.a2,y.pub.length,q.k2,y.pub⟩) rfl b1)
end Go.Proofs.YtdnlngbjpdbffaaGreatDoor
