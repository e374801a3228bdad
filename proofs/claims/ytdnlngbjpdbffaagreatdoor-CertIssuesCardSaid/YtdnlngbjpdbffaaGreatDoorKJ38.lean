/- Lemmas of this proof. -/
import Derived.Test.YtdnlngbjpdbffaaGreatDoorKJ37
set_option maxHeartbeats 1000000
set_option maxRecDepth 10000
set_option linter.all false
namespace Go.Ct
open Go Go.Sy
structure LstAt{α β:Type}(cell:β->α->List Value)(At:World->β->α->Prop)(w:World)(a:Option Addr)(c:Nat)(ps:List β)(l:List α):Prop where
 len:ps.length=l.length
 cap:l.length<=c
 nil:a=none->c=0
 mem:SlA w a (List.zipWith cell ps l).flatten
 each:∀(i:Nat) (p:β) (x:α),ps[i]?=some p->l[i]?=some x->At w p x
theorem LstAt.keep{α β:Type}{cell:β->α->List Value}{j:World->β->α->Prop}{w w':World}{a:Option Addr}{c:Nat}{ps:List β}{l:List α}(h:LstAt cell j w a c ps l)(hk:Keep No w w')(r:∀p x,j w p x->j w' p x):LstAt cell j w' a c ps l:=
 ⟨h.len,h.cap,h.nil,h.mem.keep hk (λ_ _ h=>h),λi p x m q=>r p x (h.each i p x m q)⟩
structure Pa where
 a1:Option Addr
 k1:Nat
 a2:Option Addr
 k2:Nat
def zb5(p:Pa)(x:Anch):List Value:=[.slice p.a1 x.name.parts.length p.k1,zX x.name.realm,.int .i64 x.group,.slice p.a2 x.pub.length p.k2]
structure AnchAt(w:World)(p:Pa)(x:Anch):Prop where
 name:PrinIn w (za7 p.a1 p.k1 x.name) x.name
 pub:(⟨p.a2,x.pub.length,p.k2,x.pub⟩:Bs).ok w
 rng:(Lit.int .i64 x.group).wf=true
theorem AnchAt.keep{w w':World}{p:Pa}{x:Anch}(h:AnchAt w p x)(hk:Keep No w w'):AnchAt w' p x:=⟨h.name.keep hk,h.pub.keep hk,h.rng⟩
def zdq(p:Option Addr×Nat)(x:Revo):List Value:=[.slice p.1 x.issuer.parts.length p.2,zX x.issuer.realm,.int .i64 x.serial]
structure RevoAt(w:World)(p:Option Addr×Nat)(x:Revo):Prop where
 name:PrinIn w (za7 p.1 p.2 x.issuer) x.issuer
 rng:(Lit.int .i64 x.serial).wf=true
theorem RevoAt.keep{w w':World}{p:Option Addr×Nat}{x:Revo}(h:RevoAt w p x)(hk:Keep No w w'):RevoAt w' p x:=⟨h.name.keep hk,h.rng⟩
def Prin.fine(p:Prin):Prop:=p.parts.length<1000000/\p.realm.length<1000000000/\∀x∈p.parts,x.length<1000000000
theorem Prin.same_comm(a b:Prin):a.same b=b.same a:=by
 rw[CR,FL,FL];exact⟨E7,E7⟩
def Fy:=@Prin.same_comm
def zgN(sv:Int->List UInt8->Bool)(sf:Int->List UInt8->List UInt8->List UInt8->Bool)(c:Cert)(z:Int)(pub:List UInt8):Int:=if (c.ok sv&&sv z pub)=true then (if sf z pub c.body c.sig=true then 0 else 221) else 2
end Go.Ct
namespace Go.Proofs.YtdnlngbjpdbffaaGreatDoor
open Go Go.Sy Go.Ct Go.Nt Go.RowKit
attribute [local irreducible] Sy SyL SyX SyC SyF Sy.Fn callFunc
def sfK(z:Int)(pub m s:List UInt8):Bool:=decide (zdM z pub m s=0)
theorem zkO{z:Int}{l:List UInt8}(h:svK z l=true):l.length<=96:=by
 have j:=zg1 (of_decide_eq_true h);rw[j.2.1];have:=zfW z;unfold zaY at this;rwa[if_pos j.1] at this
theorem zfS{c:Cert}(h:c.ok svK=true):c.pub.length<=96/\c.sig.length<=192/\c.body.length<=701/\c.der.length<=1000:=by
 have m:=FM zdE h;have j:=h;simp only[Cert.ok,AB,decide_eq_true_eq] at j;have q:=zkO j.2;have t:c.body.length<=605+c.pub.length:=by rw[Ct.Fd];have:=(zae 0x30 c.flat).2;have:=Fm m;omega
 have w:=Cert.der_len m;have r:c.sig.length<=192:=j.1.2;exact⟨q,r,by omega,by omega⟩
theorem zj3(p:Pl)(c:Cert)(z:Int)(s:Bs)(w:World)(G:GT w)(N:Tab w No)(M:ST w)(h:CertAt w p c)(P:c.fine)(A:s.ok w):q_G 24 [.agg (zx p c).toArray,.int .i64 z,s.val] w (.int .i64 (zgN svK sfK c z s.l)):=by
 refine zo Tryz.func24 Tryz.ntmps24 ?_;have hv:=λm (j:Keep No w m)=>zfy p c m (G.to j) (h.keep j) P;have q:=λm (j:Keep No w m)=>zjv z s.a s.n s.c s.l m (G.to j) A.len A.cap (A.keep j).sla;rw[show decide ((gel z s.l).2=0)=svK z s.l from rfl] at q;have E:s.val= .slice s.a s.n s.c:=rfl;rw[E];unfold zgN;have F:(zx p c).length=11:=rfl;by_cases hok:c.ok svK=true
 ·rw[hok] at hv ⊢;by_cases hz:svK z s.l=true
  ·rw[hz] at q ⊢;rw[if_pos (show(true&&true)=true from rfl)];obtain⟨U,V,W,Y⟩:=zfS hok;have S:=zkO hz;have O:=λm (j:Keep No w m)=>ziT p c m (h.keep j) (FM zdE hok);have H:=λm (j:Keep No w m) a k (L:(⟨a,c.body.length,k,c.body⟩:Bs).ok m)=>zrz z s.a a p.a4 s.n s.c c.body.length k c.sig.length p.k4 s.l c.body c.sig m (G.to j) (N.no j) (M.to j) (A.keep j) L (h.sig.keep j) (by have:=A.len;omega) q_o q_o;have K:Seg (zx p c) 10 [.slice p.a4 c.sig.length p.k4]:=FG rfl;have t:(zx p c)[0+10]?=some (.slice p.a4 c.sig.length p.k4):=rfl;have r:(if sfK z s.l c.body c.sig=true then (0:Int) else 221)=if zdM z s.l c.body c.sig=0 then 0 else 221:=by unfold sfK;simp
   rw[r];generalize zdM z s.l c.body c.sig=e at*;clear r h;generalize c.body=T,zx p c=C at*;repeat' (first|refine s_0 ?_|refine zg 0 ?_;refine zV ?_;intro _|refine zg 1 ?_;refine q_v (ze (B:=C) (hz:=F.symm)) ?_;refine q_v (za (hc:=zq hv)) ?_;refine zJ ?_;refine zb ?_;refine q_v (za (hc:=zq q)) ?_;refine zJ ?_;refine zb ?_)
   (refine zdc (id:=3) [0,1,2,4,5] [3,6,7] mixed ?_ ?_;kernel_rfl;refine yfv zao (k:=?_);refine yfv zao (k:=?_);refine yfv (ze (B:=C) (hz:=F.symm)) (k:=?_);refine yfv zO (k:=?_);refine yfv (zM (hv:=t)) (k:=?_);refine yf0 ?_;try refine yc0 (k:=?_))
   refine ycs (zh (hc:=zq O)) (k:=?_);rintro _ _ ⟨R,rfl,I,J,rfl,rfl⟩;refine ycv (za (hc:=λm X j Q=>H m j I J (zaq Q rfl q_h))) (k:=?_);by_cases he:e=0
   ·refine ycv (zaC (hr:=decide_eq_false (λh=>h he))) (k:=?_);refine yc0 (k:=?_);rw[if_pos he];repeat' (first|refine s_0 ?_|refine q_k 5 ?_)
    exact q_r
   ·refine ycv (zaC (hr:=decide_eq_true he)) (k:=?_);refine yc0 (k:=?_);rw[if_neg he];repeat' (first|refine s_0 ?_|refine q_k 4 ?_)
    exact q_r
  ·rw[CI] at hz;rw[hz] at q ⊢;generalize zx p c=C at*;repeat' (first|refine s_0 ?_|refine zg 0 ?_;refine zV ?_;intro _|refine zg 1 ?_;refine q_v (ze (B:=C) (hz:=F.symm)) ?_;refine q_v (za (hc:=zq hv)) ?_;refine zJ ?_;refine zb ?_;refine q_v (za (hc:=zq q)) ?_;refine zJ ?_;refine zb ?_|refine q_k 2 ?_)
   exact q_r
 ·rw[CI] at hok;rw[hok] at hv ⊢;generalize zx p c=C at*;repeat' (first|refine s_0 ?_|refine zg 0 ?_;refine zV ?_;intro _|refine zg 1 ?_;refine q_v (ze (B:=C) (hz:=F.symm)) ?_;refine q_v (za (hc:=zq hv)) ?_;refine zJ ?_;refine zb ?_|refine q_k 2 ?_)
  exact q_r
def noCert:Cert:=⟨0,⟨[],[]⟩,⟨[],[]⟩,0,0,false,0,[],[]⟩
def zd6:Pl:=⟨none,0,none,0,none,0,none,0⟩
theorem zqM(p:Pl)(c:Cert)(z:Int)(q no:Bs)(w:World)(K:GT w)(O:Tab w No)(h:CertAt w p c)(Q:c.fine)(U:q.ok w)(hn:no.ok w)(F:no.n<=1000)(G:c.ok svK=false\/(c.ok svK=true/\zc4 z q.l no.l c.body=none)):
  q_G 20 [.agg (zx p c).toArray,.int .i64 z,q.val,no.val] w (.tuple #[.agg (zx zd6 noCert).toArray,.int .i64 2]):=by
 refine zo Tryz.func20 Tryz.ntmps20 ?_;have A:=λr (j:Keep No w r)=>zfy p c r (K.to j) (h.keep j) Q;have I:q.val= .slice q.a q.n q.c:=rfl;have H:no.val= .slice no.a no.n no.c:=rfl;have E:(zx p c).length=11:=rfl;rw[I,H];rcases G with m|⟨m,J⟩
 ·rw[m] at A;generalize zx p c=C at*;repeat' (first|refine s_0 ?_|refine zg 0 ?_;refine zi ?_;intro _;refine zV ?_;intro _|refine zg 1 ?_;refine q_v (ze (B:=C) (hz:=E.symm)) ?_;refine q_v (za (hc:=zq A)) ?_;refine zJ ?_|refine zg 2 ?_;refine zbj ?_;refine q_y (zC (h1:=rfl)) ?_)
  exact zad rfl (zz (B:=zx zd6 noCert) rfl (ty rfl) rfl F4 F0 rfl) (zr rfl) F2 ⟨rfl,rfl⟩
 ·rw[m] at A;obtain⟨Z,m2,m3,m4⟩:=zfS m;have P:=λr (j:Keep No w r)=>ziT p c r (h.keep j) (FM zdE m);have t:=λr (j:Keep No w r) a k (N:(⟨a,c.body.length,k,c.body⟩:Bs).ok r)=>zo3 z q.a no.a a q.n q.c no.n no.c c.body.length k q.l no.l c.body r (K.to j) (O.no j) (U.keep j) (hn.keep j) N F q_o;rw[J] at t;unfold BR at t;generalize c.body=V,zx p c=C at*;repeat' (first|refine s_0 ?_|refine zg 0 ?_;refine zi ?_;intro _;refine zV ?_;intro _|refine zg 1 ?_;refine q_v (ze (B:=C) (hz:=E.symm)) ?_;refine q_v (za (hc:=zq A)) ?_;refine zJ ?_|refine q_k 3 ?_;refine q_v (ze (B:=C) (hz:=E.symm)) ?_;(refine q_s (zh (hc:=zq P)) ?_;rintro _ _ ⟨R,rfl,L,M,rfl,rfl⟩))
  refine q_s (zh (hc:=λr X j S=>t r j L M (zaq S rfl q_h))) ?_;rintro _ _ ⟨R,rfl,W,nS,Y,rfl,T,rfl⟩;repeat' (first|refine s_0 ?_|refine q_k 4 ?_;refine zat ?_|refine zg 5 ?_;refine zbj ?_;refine q_y (zC (h1:=rfl)) ?_|(refine zW ?_;first|refine zB ?_|refine zaX ?_|refine zaS ?_|fail)|fail)
  exact zad rfl (zz (B:=zx zd6 noCert) rfl (ty rfl) rfl F4 F0 rfl) (zr rfl) F2 ⟨rfl,rfl⟩
def zi8(c:Cert)(v:Value)(R:List Res):Prop:=∃p,v= .tuple #[.agg (zx p c).toArray,.int .i64 0]/\R=zaB p c
theorem ziw(p:Pl)(c:Cert)(z:Int)(r no:Bs)(s:List UInt8)(w:World)(M:GT w)(T:Tab w No)(h:CertAt w p c)(N:c.fine)(W:r.ok w)(hn:no.ok w)(G:no.n<=1000)(t:c.ok svK=true)(J:zc4 z r.l no.l c.body=some s):
  Sy.Fn Tryz.prog 20 [.agg (zx p c).toArray,.int .i64 z,r.val,no.val] w No (zi8 { c with sig:=s }):=by
 refine zo Tryz.func20 Tryz.ntmps20 ?_;have hv:=λj (m:Keep No w j)=>zfy p c j (M.to m) (h.keep m) N;have I:r.val= .slice r.a r.n r.c:=rfl;have H:no.val= .slice no.a no.n no.c:=rfl;have hC:(zx p c).length=11:=rfl;rw[I,H];rw[t] at hv;obtain⟨m1,m2,m3,m4⟩:=zfS t;have U:=λj (m:Keep No w j)=>ziT p c j (h.keep m) (FM zdE t);have A:=λj (m:Keep No w j) a k (Q:(⟨a,c.body.length,k,c.body⟩:Bs).ok j)=>zo3 z r.a no.a a r.n r.c no.n no.c c.body.length k r.l no.l c.body j (M.to m) (T.no m) (W.keep m) (hn.keep m) Q G q_o;rw[J] at A;unfold BR at A;have E:=λj (m:Keep No w j)=>zni p c j (h.keep m) N q_o q_o;unfold zku zaB at E;unfold zi8 zaB;generalize c.body=Z,S:zx p c=C at*;repeat' (first|refine s_0 ?_|refine zg 0 ?_;refine zi ?_;intro _;refine zV ?_;intro _|refine zg 1 ?_;refine q_v (ze (B:=C) (hz:=hC.symm)) ?_;refine q_v (za (hc:=zq hv)) ?_;refine zJ ?_|refine q_k 3 ?_;refine q_v (ze (B:=C) (hz:=hC.symm)) ?_;(refine q_s (zh (hc:=zq U)) ?_;rintro _ _ ⟨R,rfl,O,P,rfl,rfl⟩))
 refine q_s (zh (hc:=λj X m V=>A j m O P (zaq V rfl q_h))) ?_;rintro _ _ ⟨R,rfl,K,Y,L,rfl,F,rfl⟩;obtain rfl:Y=s.length:=F;repeat' (first|refine s_0 ?_|refine q_k 4 ?_;refine zat ?_|refine zg 6 ?_;refine q_v (ze (B:=C) (hz:=hC.symm)) ?_;(refine q_s (zh (hc:=zq E)) ?_;rintro _ _ ⟨R,rfl,q,rfl,rfl⟩);refine q_n (zC (hv:=rfl) (h1:=rfl) (hC:=by exact hC)) ?_|(refine zW ?_;first|refine zB ?_|refine zaX ?_|refine zaS ?_|fail)|fail)
 unfold zx;repeat' (first|refine s_0 ?_|refine q_k 7 ?_;refine q_n (zcn (hC:=⟨AO rfl,rfl⟩)) ?_|refine zg 8 ?_;refine zk ?_;refine q_y (zC (h1:=rfl)) ?_)
 exact zad rfl (zz (B:=zx ⟨q.a1,q.k1,q.a2,q.k2,q.a3,q.k3,K,L⟩ { c with sig:=s }) rfl (ty rfl) rfl F4 F0 rfl) (zr rfl) q_h ⟨⟨q.a1,q.k1,q.a2,q.k2,q.a3,q.k3,K,L⟩,rfl,rfl⟩
end Go.Proofs.YtdnlngbjpdbffaaGreatDoor
namespace Go.Ct
open Go Go.Sy
theorem LstAt.at{α β:Type}{cell:β->α->List Value}{q:World->β->α->Prop}{w:World}{a:Option Addr}{c k:Nat}{ps:List β}{l:List α}(h:LstAt cell q w a c ps l)(h0:0<k)(hk:∀p x,(cell p x).length=k){i:Nat}(r:i<l.length):∃j m p,a=some ⟨j,m,none⟩/\ps[i]?=some p/\q w p l[i]/\w.rangeAt j (m+i*k) (cell p l[i]):=by
 have E:(List.zipWith cell ps l).length=l.length:=by rw[DO,h.len,EA]
 obtain⟨j,m,rfl,B⟩:=znh (k:=k) h.mem (λC A=>by
  obtain⟨p,x,rfl⟩:=mem_zipWith A;exact hk p x) h0 (i:=i) q_o
 have t:i<ps.length:=by rw[h.len];exact r
 refine⟨j,m,ps[i],rfl,A1 t,h.each i _ _ (A1 t) (A1 r),?_⟩;have:=B i q_o;rwa[List.getElem_zipWith] at this
where
 mem_zipWith:∀ {ps:List β}{l:List α}{C:List Value},C∈List.zipWith cell ps l->∃p x,C=cell p x
  |p::ps,x::l,C,h=>by
   rcases Ag.1 h with rfl|h
   ·exact⟨p,x,rfl⟩
   ·exact mem_zipWith h
theorem zig{α β:Type}{cell:β->α->List Value} :∀ {j:List β}{l:List α}{z:List Value×α},z∈List.zip (List.zipWith cell j l) l->∃p,z.1=cell p z.2/\∃i:Nat,j[i]?=some p/\l[i]?=some z.2
 |p::j,x::l,z,h=>by
  rcases Ag.1 h with rfl|h
  ·exact⟨p,rfl,0,rfl,rfl⟩
  ·obtain⟨t,m,i,q,r⟩:=zig h;exact⟨t,m,i+1,q,r⟩
theorem zkY{α β:Type}{cell:β->α->List Value} :∀ {ps:List β}{l:List α},ps.length=l.length->(List.zip (List.zipWith cell ps l) l).map (·.2)=l
 | [],[],_=>rfl
 |p::ps,x::l,h=>by
  have:=zkY (cell:=cell) (ps:=ps) (l:=l) (by simpa using h);rw[List.zipWith_cons_cons,DV,Ay,this]
theorem zmj{α γ:Type}(q:α->Bool):∀j:List (γ×α),(j.filter (λp=>q p.2)).map (·.2)=(j.map (·.2)).filter q
 | []=>rfl
 |z::j=>by
  have m:=zmj q j;cases h:q z.2
  ·rw[Db (by simp[h]),Ay,Db (by simp[h]),m]
  ·rw[Dc (by simp[h]),Ay,Ay,Dc (by simp[h]),m]
theorem zsD{γ:Type}{k:Nat}{zs:List (List Value×γ)}(hk:∀z∈zs,z.1.length=k){i:Nat}(r:i<zs.length)(J:List Value):Seg ((zs.map (·.1)).flatten++J) (i*k) zs[i].1:=λj v t=>by
 have w:j<k:=by have:=(AQ.1 t).1;rw[hk zs[i] (Ah r)] at this;exact this
 have q:=zf4 (f:=λ(z:List Value×γ)=>z.1) (k:=k) zs hk i j w;rw[A1 r,List.flatMap_def] at q;have m:(zs.map (·.1)).flatten[i*k+j]?=some v:=by rw[q];exact t
 rw[Aq (AQ.1 m).1];exact m
end Go.Ct
namespace Go.Proofs.YtdnlngbjpdbffaaGreatDoor
open Go Go.Sy Go.Ct Go.Nt Go.RowKit
attribute [local irreducible] Sy SyL SyX SyC SyF Sy.Fn callFunc
theorem zub:Tryz.prog.underlying 103=some (.map 3 4):=by kernel_rfl
theorem zuf:Tryz.prog.underlying 3=some (.int .i64):=by kernel_rfl
theorem ztS (w:World):(zeroValue 4).run Tryz.prog w= .ok (.bool false) w:=by
 have h:Tryz.prog.underlying 4=some .bool:=by kernel_rfl
 simp [zeroValue,h,go_sem];rfl
abbrev ze5:=LstAt zx CertAt
abbrev ze6:=LstAt zb5 AnchAt
abbrev ze8:=LstAt zdq RevoAt
theorem zqz(a:Option Addr)(n c:Nat)(ps:List Pl)(l:List Cert)(w:World)(M:GT w)(hn:l.length=n)(h:ze5 w a c ps l)(N:∀x∈l,x.fine)(hb:n<1000000):q_G 39 [.slice a n c] w (.bool (zbo svK l)):=by
 refine zo Tryz.func39 Tryz.ntmps39 ?_;have q:n<1\/5<n\/(1<=n/\n<=5):=q_o;have E:n<1\/5<n->zbo svK l=false:=λh=>by
  have:(decide (1<=l.length)&&decide (l.length<=5))=false:=by rw[hn];rcases h with h|h <;> simp <;> omega
  unfold zbo;rw[this];rfl
 rcases q with h1|h1|⟨h1,L⟩
 ·rw[E (.inl h1)];repeat' (first|refine s_0 ?_|refine zK [0,2] ?_;refine zb ?_|refine q_k 1 ?_;refine zR ?_;refine zb ?_)
  exact q_r
 ·rw[E (.inr h1)];repeat' (first|refine s_0 ?_|refine zK [0,2] ?_;refine zb ?_|refine q_k 1 ?_;refine zR ?_;refine zb ?_;refine q_x zF ?_)
  exact q_r
 have G:zbo svK l=l.all (Cert.ok svK):=by unfold zbo;rw[hn,decide_eq_true h1,decide_eq_true L];rfl
 rw[G];repeat' (first|refine s_t ?_|refine zK [0,3] ?_;refine zb ?_|refine q_k 1 ?_;refine zR ?_;refine zb ?_;refine q_x zF ?_)
 refine zE (γ:=Nat) (λi=>[(13,.slice a n c),(14,.int .i64 (n:Int)),(15,.int .i64 (i:Int))]) (λ_=>[]) (λi=>i<=n/\(l.take i).all (Cert.ok svK)=true) (λi=>n-i) 0 ⟨AE _,rfl⟩ ?_ ?_ ?_
 ·exact q_h
 ·exact q_h
 rintro i ⟨P,m⟩;by_cases hlt:i<n
 ·obtain⟨O,R,p,rfl,Q,F,hc⟩:=h.at (k:=11) q_e (λ_ _=>rfl) (i:=i) q_o;have A:l[i]∈l:=Ah q_o;have I:l.take (i+1)=l.take i++[l[i]]:=zaP q_o;have H:=N l[i] A;have hv:=λK (J:Keep No w K)=>zfy p l[i] K (M.to J) (F.keep J) H;have hC:(zx p l[i]).length=11:=rfl;have r:(zx p l[i]).all (·.oneCell')=true:=rfl;generalize l[i]=x at*;generalize zx p x=C at*;have g1:decide ((i:Int)<(n:Int))=true:=q_d;have g5:IntKind.i64.wrap ((i:Int)+1)=((i+1:Nat):Int):=q_w;by_cases hx:x.ok svK=true
  ·rw[hx] at hv;repeat' (first|refine s_t ?_|refine zg 4 ?_;refine q_v (zl (hr:=g1)) ?_|refine zg 5 ?_;refine q_v (zay (j:=i)) ?_;refine q_v (z9 (hv:=hc) (hz:=hC.symm)) ?_;refine zi ?_;intro _;refine q_n (zC (B:=C) (hv:=r) (h1:=hC.symm) (hC:=by exact hC.symm)) ?_|refine zg 6 ?_;refine q_v (ze (B:=C) (hz:=hC.symm)) ?_;refine q_v (za (hc:=zq hv)) ?_;refine zJ ?_|refine zg 8 ?_;refine q_x (zA (hr:=g5)) ?_)
   refine zy (i+1) ⟨hlt,by rw[I,Bc,m];simp[hx]⟩ ?_ ?_ ?_
   ·show n-(i+1)<n-i;omega
   ·exact q_h
   ·exact q_h
  ·rw[CI] at hx;rw[hx] at hv;have t:l.all (Cert.ok svK)=false:=by rw[Bi];exact⟨x,A,by rw[hx];decide⟩
   rw[t];repeat' (first|refine s_t ?_|refine zg 4 ?_;refine q_v (zl (hr:=g1)) ?_|refine zg 5 ?_;refine q_v (zay (j:=i)) ?_;refine q_v (z9 (hv:=hc) (hz:=hC.symm)) ?_;refine zi ?_;intro _;refine q_n (zC (B:=C) (hv:=r) (h1:=hC.symm) (hC:=by exact hC.symm)) ?_|refine zg 6 ?_;refine q_v (ze (B:=C) (hz:=hC.symm)) ?_;refine q_v (za (hc:=zq hv)) ?_;refine zJ ?_|refine q_k 7 ?_)
   exact q_r
 obtain rfl:i=n:=q_o;rw[A6 q_o] at m;rw[m];have g1:decide ((i:Int)<(i:Int))=false:=q_f;repeat' (first|refine s_0 ?_|refine zg 4 ?_;refine q_v (zl (hr:=g1)) ?_|refine q_k 9 ?_)
 exact q_r
theorem zty(a:Option Addr)(n c:Nat)(ps:List Pa)(l:List Anch)(w:World)(N:GT w)(hn:l.length=n)(h:ze6 w a c ps l)(O:∀x∈l,x.name.fine)(hb:n<1000000):q_G 57 [.slice a n c] w (.bool (decide (l.length<=64)&&l.all (Anch.ok svK))):=by
 refine zo Tryz.func57 Tryz.ntmps57 ?_;rw[hn];rcases(show 64<n\/n<=64 by omega) with h1|h1
 ·rw[decide_eq_false (show ¬n<=64 by omega),BX];repeat' (first|refine s_0 ?_|refine zK [0,2] ?_;refine zb ?_|refine q_k 1 ?_;refine q_v zF ?_)
  exact q_r
 rw[decide_eq_true h1,Ax];repeat' (first|refine s_t ?_|refine zK [0,3] ?_;refine zb ?_|refine q_k 1 ?_;refine q_v zF ?_)
 refine zE (γ:=Nat) (λi=>[(8,.slice a n c),(9,.int .i64 (n:Int)),(10,.int .i64 (i:Int))]) (λ_=>[]) (λi=>i<=n/\(l.take i).all (Anch.ok svK)=true) (λi=>n-i) 0 ⟨AE _,rfl⟩ ?_ ?_ ?_
 ·exact q_h
 ·exact q_h
 rintro i ⟨R,r⟩;by_cases hlt:i<n
 ·obtain⟨Q,T,p,rfl,S,t,hc⟩:=h.at (k:=4) q_e (λ_ _=>rfl) (i:=i) q_o;have C:l[i]∈l:=Ah q_o;have L:l.take (i+1)=l.take i++[l[i]]:=zaP q_o;have A:=O l[i] C;have hv:=λG (H:Keep No w G)=>zgq _ _ G (t.name.keep H) A.1 A.2.1 A.2.2;have I:=λG (H:Keep No w G)=>zjv l[i].group p.a2 l[i].pub.length p.k2 l[i].pub G (N.to H) rfl t.pub.cap (t.pub.keep H).sla;rw[show decide ((gel l[i].group l[i].pub).2=0)=svK l[i].group l[i].pub from rfl] at I;have m:Anch.ok svK l[i]=(l[i].name.ok&&svK l[i].group l[i].pub):=rfl;generalize l[i]=x at*;unfold za7 at hv;unfold zb5 at hc;have g1:decide ((i:Int)<(n:Int))=true:=q_d;have g5:IntKind.i64.wrap ((i:Int)+1)=((i+1:Nat):Int):=q_w;obtain⟨J,E⟩:∃u,u=x.name.ok:=⟨_,rfl⟩;obtain⟨M,F⟩:∃u,u=svK x.group x.pub:=⟨_,rfl⟩;rw[<-E] at hv m;rw[<-F] at I m;have K:J=false\/(J=true/\M=false)\/(J=true/\M=true):=by cases J <;> cases M <;> simp
  have q:Anch.ok svK x=false->l.all (Anch.ok svK)=false:=λP=>by rw[Bi];exact⟨x,C,by rw[P];decide⟩
  clear E F;rcases K with rfl|⟨rfl,rfl⟩|⟨rfl,rfl⟩
  ·rw[q m];repeat' (first|refine s_t ?_|refine zg 4 ?_;refine q_v (zl (hr:=g1)) ?_|refine zg 5 ?_;refine q_v (zay (j:=i)) ?_;refine q_v (z9 (hv:=hc)) ?_;refine zi ?_;intro _;refine q_n (zC (h1:=rfl)) ?_|refine q_k 6 ?_;refine q_v (ze (B:=[.slice p.a1 x.name.parts.length p.k1,zX x.name.realm]) (hv:=FG rfl)) ?_;refine q_v (za (hc:=zq hv)) ?_;refine zJ ?_;refine zb ?_|refine q_k 7 ?_)
   exact q_r
  ·rw[q m];repeat' (first|refine s_t ?_|refine zg 4 ?_;refine q_v (zl (hr:=g1)) ?_|refine zg 5 ?_;refine q_v (zay (j:=i)) ?_;refine q_v (z9 (hv:=hc)) ?_;refine zi ?_;intro _;refine q_n (zC (h1:=rfl)) ?_|refine q_k 6 ?_;refine q_v (ze (B:=[.slice p.a1 x.name.parts.length p.k1,zX x.name.realm]) (hv:=FG rfl)) ?_;refine q_v (za (hc:=zq hv)) ?_;refine zJ ?_;refine zb ?_;refine zk ?_;refine zb ?_;refine zk ?_;refine q_v (za (hc:=zq I)) ?_;refine zJ ?_;refine zb ?_|refine q_k 7 ?_)
   exact q_r
  ·repeat' (first|refine s_t ?_|refine zg 4 ?_;refine q_v (zl (hr:=g1)) ?_|refine zg 5 ?_;refine q_v (zay (j:=i)) ?_;refine q_v (z9 (hv:=hc)) ?_;refine zi ?_;intro _;refine q_n (zC (h1:=rfl)) ?_|refine q_k 6 ?_;refine q_v (ze (B:=[.slice p.a1 x.name.parts.length p.k1,zX x.name.realm]) (hv:=FG rfl)) ?_;refine q_v (za (hc:=zq hv)) ?_;refine zJ ?_;refine zb ?_;refine zk ?_;refine zb ?_;refine zk ?_;refine q_v (za (hc:=zq I)) ?_;refine zJ ?_;refine zb ?_|refine zg 8 ?_;refine q_x (zA (hr:=g5)) ?_)
   refine zy (i+1) ⟨hlt,by rw[L,Bc,r];simp[m]⟩ ?_ ?_ ?_
   ·show n-(i+1)<n-i;omega
   ·exact q_h
   ·exact q_h
 obtain rfl:i=n:=q_o;rw[A6 q_o] at r;rw[r];have g1:decide ((i:Int)<(i:Int))=false:=q_f;repeat' (first|refine s_0 ?_|refine zg 4 ?_;refine q_v (zl (hr:=g1)) ?_|refine q_k 9 ?_)
 exact q_r
end Go.Proofs.YtdnlngbjpdbffaaGreatDoor
namespace Go.Ct
open Go Go.Sy
def zqg(ks:List Int)(u:Int):List Int:=if u∈ks then ks else ks++[u]
theorem zsq{j:List Int}{u x:Int} :x∈zqg j u↔x∈j\/x=u:=by
 unfold zqg;split
 ·rename_i h;exact⟨.inl,λm=>m.elim id (λe=>e ▸ h)⟩
 ·simp
end Go.Ct
namespace Go.Proofs.YtdnlngbjpdbffaaGreatDoor
open Go Go.Sy Go.Ct Go.Nt Go.RowKit
attribute [local irreducible] Sy SyL SyX SyC SyF Sy.Fn callFunc
theorem zvf(b:Nat)(D:List Value)(p:Prin)(j:Option Addr×Nat)(x:Revo)(w:World)(A:w.rangeAt b 0 D)(q:PrinIn w D p)(hx:RevoAt w j x)(C:x.issuer.fine):
  q_G 144 [.agg (zdq j x).toArray,.pointer (some ⟨b,0,none⟩)] w (.bool (x.issuer.same p)):=by
 refine zo Tryz.func144 Tryz.ntmps144 ?_;have h:=λr (m:Keep No w r)=>zfu _ _ _ _ r (hx.name.keep m) (q.keep m) C.1;have t:=q.two;unfold zdq za7 at*;repeat' (first|refine s_0 ?_|refine zg 0 ?_;refine zV ?_;intro _|refine q_k 1 ?_;refine q_v (ze (B:=[.slice j.1 x.issuer.parts.length j.2,zX x.issuer.realm]) (hv:=FG rfl)) ?_;refine q_v (z9 (hv:=A) (hz:=t.symm)) ?_;refine q_v (za (hc:=zq h)) ?_;refine zb ?_)
 exact q_r
theorem zuu(b:Nat)(p:Pl)(c:Cert)(m:Pa)(x:Anch)(w:World)(C:w.rangeAt b 0 (zx p c))(hc:CertAt w p c)(hx:AnchAt w m x)(E:x.name.fine):
  q_G 142 [.agg (zb5 m x).toArray,.pointer (some ⟨b,0,none⟩)] w (.bool (x.name.same c.issuer)):=by
 refine zo Tryz.func142 Tryz.ntmps142 ?_;have h:=λt (r:Keep No w t)=>zfu _ _ _ _ t (hx.name.keep r) (hc.iss.keep r) E.1;have A:w.rangeAt b 1 (za7 p.a1 p.k1 c.issuer):=λj v q=>C (1+j) v (by
  have:(zx p c).drop 1=za7 p.a1 p.k1 c.issuer++(zx p c).drop 3:=rfl;rw[<-Be,this,Aq (AQ.1 q).1];exact q) |> λh=>by rwa[show 0+(1+j)=1+j by omega] at h
 unfold zb5 za7 at*;repeat' (first|refine s_0 ?_|refine zg 0 ?_;refine zV ?_;intro _|refine q_k 1 ?_;refine q_x (ze (B:=[.slice m.a1 x.name.parts.length m.k1,zX x.name.realm]) (hv:=FG rfl)) ?_;refine q_v (z9 (hv:=A)) ?_;refine q_v (za (hc:=zq h)) ?_;refine zb ?_)
 exact q_r
theorem ztj(D:List Value)(p:Prin)(a:Option Addr)(n c:Nat)(ps:List (Option Addr×Nat))(rs:List Revo)(w:World)(hp:PrinIn w D p)(h:ze8 w a c ps rs)(hn:rs.length=n)(hf:∀x∈rs,x.issuer.fine)(hb:n<1000):
  Sy.Fn Tryz.prog 66 [.agg D.toArray,.slice a n c] w No (λv R=>∃b m,v= .map (some b)/\R= [zdo b (zbP m 0) m.length]/\∀u,u∈m↔ ∃r∈rs,r.issuer.same p=true/\r.serial=u):=by
 refine zo Tryz.func66 Tryz.ntmps66 ?_;have M:(List.zipWith zdq ps rs).length=n:=by rw[DO,h.len,hn,EA]
 have t:=hp.two;have F:=λU (N:Keep No w U) I (hD:U.rangeAt I 0 D)=>zss a n c 144 [.pointer (some ⟨I,0,none⟩)] rs (List.zipWith zdq ps rs) (λx=>x.issuer.same p) U (en rfl) hn M (λC hC=>by
  obtain⟨q,x,rfl⟩:=LstAt.at.mem_zipWith hC;exact⟨rfl,rfl⟩) ((Fk h.mem).to (Mi:=No) N (λ_ h=> .inr h)).sla hb (λi C x L V a6 H=>by
  rw[Cx,V] at L;cases P:ps[i]? with
  |none=>rw[P] at L;cases L
  |some q=>
   rw[P] at L;cases L;have W:=h.each i q x P V;exact zvf I D p q x a6 (za5 hD H (λh=>h)) ((hp.keep N).keep H) ((W.keep N).keep H) (hf x (Bk V)))
 unfold zi2 at F;have S:∀z∈(List.zip (List.zipWith zdq ps rs) rs).filter (λz=>z.2.issuer.same p),∃q,z.1=zdq q z.2:=λz Z=>by
  obtain⟨q,h1,_⟩:=zig (Bb.1 Z).1;exact⟨q,h1⟩
 have T:((List.zip (List.zipWith zdq ps rs) rs).filter (λz=>z.2.issuer.same p)).map (·.2)=rs.filter (λx=>x.issuer.same p):=by rw[zmj (q:=λ(x:Revo)=>x.issuer.same p),zkY h.len]
 have a7:((List.zip (List.zipWith zdq ps rs) rs).filter (λz=>z.2.issuer.same p)).length<=n:=by
  refine BG (Cy _ _) ?_;rw[List.length_zip,M,hn,EA];exact A4 _
 generalize (List.zip (List.zipWith zdq ps rs) rs).filter (λz=>z.2.issuer.same p)=zs at*;repeat' (first|refine s_0 ?_|refine zg 0 ?_;refine zV ?_;intro _|refine zg 1 ?_|refine q_s zpG ?_;rintro _ _ ⟨K,rfl,rfl⟩|(refine zW ?_;first|refine zB ?_|fail)|fail)
 rename_i I;repeat' (first|refine s_t ?_|refine q_k 2 ?_;refine q_v zaj ?_;(refine q_s (zh (hc:=λU X N hh=>F U N I (zp (hh.has (r:=.blk I 43 D) q_h) F0))) ?_;rintro _ _ ⟨R,rfl,aF,cF,rfl,rfl⟩);refine zb ?_)
 refine zec (a:=aF) (cp:=cF) (E:=67) (s:=3) (n:=zs.length) (xs:=(zs.map (λ(z:List Value×Revo)=>z.1)).flatten) (by exact F1) λr hr=>?_;refine zE (γ:=Nat×List Int) (λg=>[(5,.map (some K)),(11,.slice aF zs.length cF),(12,.int .i64 (zs.length:Int)),(13,.int .i64 (g.1:Int))]) (λg=>[r,zdo K (zbP g.2 0) g.2.length]) (λg=>g.1<=zs.length/\∀u,u∈g.2↔ ∃z∈zs.take g.1,z.2.serial=u) (λg=>zs.length-g.1) (0,[]) ⟨AE _,λu=>by simp⟩ ?_ ?_ ?_
 ·exact q_h
 ·exact q_h
 rintro⟨i,m⟩ ⟨hi,A⟩;dsimp only at hi A ⊢;by_cases hlt:i<zs.length
 ·obtain⟨bF,J,rfl,rfl⟩:=hr q_o;have Y:zs.take (i+1)=zs.take i++[zs[i]]:=zaP hlt;have Q:=zsD (k:=3) (zs:=zs) (λz Z=>by obtain⟨q,e⟩:=S z Z;rw[e];rfl) hlt J;obtain⟨q,P⟩:=S zs[i] (Ah hlt);rw[P] at Q;have O:∀u,u∈zqg m zs[i].2.serial↔ ∃z∈zs.take (i+1),z.2.serial=u:=λu=>by
   rw[zsq,A u,Y];constructor
   ·rintro(⟨z,h1,t⟩|rfl)
    ·exact⟨z,AX _ h1,t⟩
    ·exact⟨zs[i],Ar _ A5,rfl⟩
   ·rintro⟨z,h1,t⟩;rcases BE.1 h1 with h1|h1
    ·exact .inl ⟨z,h1,t⟩
    ·rw[AF.1 h1] at t;exact .inr t.symm
  generalize zs[i].2=x at*;have g1:decide ((i:Int)<(zs.length:Int))=true:=q_d;have g5:IntKind.i64.wrap ((i:Int)+1)=((i+1:Nat):Int):=q_w;have G:Seg ((zs.map (·.1)).flatten++J) (0+i*3) (zdq q x):=by rw[AR];exact Q
  unfold zdq at G;repeat' (first|refine s_t ?_|refine zg 3 ?_;refine q_v (zl (hr:=g1)) ?_|refine zg 4 ?_;refine q_v (zay (j:=i)) ?_;refine q_v (ze (B:=[.slice q.1 x.issuer.parts.length q.2,zX x.issuer.realm,.int .i64 x.serial]) (hv:=G)) ?_;refine zi ?_;intro _;refine q_n (zC (h1:=rfl)) ?_|refine q_k 5 ?_;refine zk ?_;(refine q_n (zrM (l:=m) (u:=x.serial) zub zuf) ?_)|refine zg 6 ?_;refine q_x (zA (hr:=g5)) ?_)
  refine zy (i+1,zqg m x.serial) ⟨hlt,O⟩ ?_ ?_ ?_
  ·show zs.length-(i+1)<zs.length-i;omega
  ·exact q_h
  ·show SubR [_,zdo K (zbP (if x.serial∈m then m else m++[x.serial]) 0) (if x.serial∈m then m else m++[x.serial]).length] _;exact q_h
 obtain rfl:i=zs.length:=q_o;rw[A6 (A4 _)] at A;have g1:decide ((zs.length:Int)<(zs.length:Int))=false:=q_f;repeat' (first|refine s_0 ?_|refine zg 3 ?_;refine q_v (zl (hr:=g1)) ?_|refine q_k 7 ?_)
 refine zaw rfl (zr rfl) (R:=[zdo K (zbP m 0) m.length]) q_h ⟨K,m,rfl,rfl,λu=>?_⟩;rw[A u];constructor
 ·rintro⟨z,h1,t⟩;have:z.2∈rs.filter (λx=>x.issuer.same p):=by rw[<-T];exact C0.2 ⟨z,h1,rfl⟩
  exact⟨z.2,(Bb.1 this).1,(Bb.1 this).2,t⟩
 ·rintro⟨x,h1,t,h3⟩;have:x∈zs.map (·.2):=by rw[T];exact Bb.2 ⟨h1,t⟩
  obtain⟨z,h4,rfl⟩:=C0.1 this;exact⟨z,h4,h3⟩
end Go.Proofs.YtdnlngbjpdbffaaGreatDoor
