/- Lemmas of this proof. -/
import Derived.Test.YtdnlngbjpdbffaaGreatDoorHJ43
set_option maxHeartbeats 2000000
set_option maxRecDepth 10000
set_option linter.all false
namespace Go.Ct
open Go Go.Sy
theorem zpB{l:List UInt8}{t:Int}(h:rdI l=some t): -zbQ<=t/\t<=zbQ:=by
 unfold rdI at h;split at h
 ·rename_i j;cases h;exact⟨j.2.2.1,j.2.2.2.1⟩
 ·cases h
theorem zpf{l:List UInt8}{t:Int}(h:rdT l=some t):0<=t/\t<=1099511627776:=by
 unfold rdT at h;split at h
 ·rename_i j;cases h;exact⟨by omega,by omega⟩
 ·cases h
theorem zfZ{α:Type}{t:Nat}{f:List UInt8->Option α}{b:List UInt8}{x:α}{r:List UInt8}(h:rdV t f b=some (x,r)):∃c,c.length<=b.length/\f c=some x:=by
 unfold rdV at h;cases h1:zaU t b with
 |none=>rw[h1] at h;cases h
 |some p=>
  rw[h1] at h;dsimp only[Option.bind_some] at h;cases h2:f p.1 with
  |none=>rw[h2] at h;cases h
  |some y=>
   rw[h2] at h;cases h;exact⟨p.1,by have:=zfi h1;omega,h2⟩
theorem zcf{α:Type}{t:Nat}{f:List UInt8->Option (α×List UInt8)}{b:List UInt8}{x:α}{r:List UInt8}(h:rdW t f b=some (x,r)):r.length<=b.length/\∃c q,c.length<=b.length/\f c=some (x,q):=by
 unfold rdW at h;cases h1:zaU t b with
 |none=>rw[h1] at h;cases h
 |some p=>
  rw[h1] at h;dsimp only[Option.bind_some] at h;cases h2:f p.1 with
  |none=>rw[h2] at h;cases h
  |some y=>
   rw[h2] at h;dsimp only[Option.bind_some] at h;split at h
   ·cases h;have:=zfi h1;exact⟨by omega,p.1,y.2,by omega,h2⟩
   ·cases h
theorem zch{α β:Type}{o:Option α}{f:α->Option β}{y:β}(h:o.bind f=some y):∃x,o=some x/\f x=some y:=by
 cases o with
 |none=>cases h
 |some x=>exact⟨x,rfl,h⟩
theorem zph{b:List UInt8}{p:Prin}{r:List UInt8}(h:rdP b=some (p,r)):p.ok=true:=by
 unfold rdP at h;obtain⟨s,-,h⟩:=zch h;obtain⟨m,-,h⟩:=zch h;obtain⟨parts,-,h⟩:=zch h;obtain⟨q,-,h⟩:=zch h;split at h
 ·rename_i j;cases h;exact j.2
 ·cases h
structure Cert.rd(n:Nat)(c:Cert):Prop where
 ser: -zbQ<=c.serial/\c.serial<=zbQ
 iss:c.issuer.ok=true
 sub:c.subject.ok=true
 fr:0<=c.fr/\c.fr<=1099511627776
 til:0<=c.til/\c.til<=1099511627776
 grp: -zbQ<=c.group/\c.group<=zbQ
 pub:c.pub.length<=n
 sig:c.sig.length<=n
theorem zrn{b:List UInt8}{c:Cert}{r:List UInt8}(h:zbE b=some (c,r)):c.rd b.length/\r.length<=b.length:=by
 unfold zbE at h;obtain⟨j,G,h⟩:=zch h;obtain⟨m,H,h⟩:=zch h;obtain⟨q,I,h⟩:=zch h;obtain⟨w,J,h⟩:=zch h;obtain⟨A,K,h⟩:=zch h;obtain⟨B,L,h⟩:=zch h;obtain⟨E,M,h⟩:=zch h;obtain⟨F,N,h⟩:=zch h;cases h;obtain⟨W,O,q0,m0,f0⟩:=zcf (x:=j.1) (r:=j.2) G;obtain⟨X,P,q1,m1,f1⟩:=zcf (x:=m.1) (r:=m.2) H;obtain⟨Y,Q,q2,m2,f2⟩:=zcf (x:=q.1) (r:=q.2) I;obtain⟨Z,R,q3,m3,f3⟩:=zcf (x:=w.1) (r:=w.2) J;obtain⟨l4,S,q4,m4,f4⟩:=zcf (x:=A.1) (r:=A.2) K;obtain⟨l5,-⟩:=zcf (x:=B.1) (r:=B.2) L;obtain⟨l6,T,q6,m6,f6⟩:=zcf (x:=E.1) (r:=E.2) M;obtain⟨l7,U,q7,m7,f7⟩:=zcf (x:=F.1) (r:=F.2) N;obtain⟨d0,-,g0⟩:=zfZ f0;obtain⟨d3,-,g3⟩:=zfZ f3;obtain⟨d4,-,g4⟩:=zfZ f4;obtain⟨d6,-,g6⟩:=zfZ f6;obtain⟨d7,V,g7⟩:=zfZ f7;cases g7;exact⟨⟨zpB g0,zph f1,zph f2,zpf g3,zpf g4,zpB g6,by dsimp only;omega,AE _⟩,by omega⟩
theorem ziv{b:List UInt8}{c:Cert}{r:List UInt8}(h:zcH b=some (c,r)):c.rd b.length:=by
 obtain⟨-,B,N,J,f0⟩:=zcf h;unfold zeH at f0;obtain⟨m,w,f0⟩:=zch f0;obtain⟨q,A,f0⟩:=zch f0;cases f0;obtain⟨H,E,O,K,f1⟩:=zcf (x:=m.1) (r:=m.2) w;obtain⟨-,F,P,L,f2⟩:=zcf f1;obtain⟨I,G,Q,M,f3⟩:=zcf (x:=q.1) (r:=q.2) A;obtain⟨d3,k3,g3⟩:=zfZ f3;cases g3;have j:=(zrn f2).1;exact⟨j.ser,j.iss,j.sub,j.fr,j.til,j.grp,by have:=j.pub;dsimp only;omega,by dsimp only;omega⟩
theorem zky:∀(n:Nat) {b:List UInt8}{l:List Cert},za5 b n=some l->∀c∈l,c.rd b.length
 |n,b,l,h=>by
  intro c j;by_cases hb:b= []
  ·subst hb;rw[zgX] at h;cases h;cases j
  ·cases n with
   |zero=>rw[zgi hb] at h;cases h
   |succ n=>
    cases h1:zcH b with
    |none=>rw[zhp hb h1] at h;cases h
    |some p=>
     rw[zgf hb (c:=p.1) (r:=p.2) h1] at h;obtain⟨w,m,e⟩:=AV.1 h;subst e;have q:=zlP (c:=p.1) (r:=p.2) h1;rcases AQ.1 j with rfl|j
     ·exact ziv (r:=p.2) h1
     ·have:=zky n m c j;exact⟨this.ser,this.iss,this.sub,this.fr,this.til,this.grp,by have:=this.pub;omega,by have:=this.sig;omega⟩
theorem zkm{b:List UInt8}{l:List Cert}{r:List UInt8}(h:zd7 b=some (l,r)):∀c∈l,c.rd b.length:=by
 obtain⟨-,q,B,A,f0⟩:=zcf h;obtain⟨w,j,e⟩:=AV.1 f0;cases e;intro c m;have:=zky 5 j c m;exact⟨this.ser,this.iss,this.sub,this.fr,this.til,this.grp,by have:=this.pub;omega,by have:=this.sig;omega⟩
theorem zje:∀(n:Nat) {b:List UInt8}{l:List Cert},za5 b n=some l->l.length<=n
 |n,b,l,h=>by
  by_cases hb:b= []
  ·subst hb;rw[zgX] at h;cases h;exact AE _
  ·cases n with
   |zero=>rw[zgi hb] at h;cases h
   |succ n=>
    cases h1:zcH b with
    |none=>rw[zhp hb h1] at h;cases h
    |some p=>
     rw[zgf hb (c:=p.1) (r:=p.2) h1] at h;obtain⟨m,j,e⟩:=AV.1 h;subst e;have:=zje n j;rw[AO];omega
theorem zoF{b:List UInt8}{l:List Cert}{r:List UInt8}(h:zd7 b=some (l,r)):l.length<=5:=by
 obtain⟨-,m,A,w,f0⟩:=zcf h;obtain⟨q,j,e⟩:=AV.1 f0;cases e;exact zje 5 j
theorem zqD{z:Int}(h1: -9223372036854775808<=z)(h2:z<=9223372036854775807):(Lit.int .i64 z).wf=true:=by
 show(decide (IntKind.i64.min<=z)&&decide (z<=IntKind.i64.max))=true;rw[show IntKind.i64.min= -9223372036854775808 from rfl,show IntKind.i64.max=9223372036854775807 from rfl,decide_eq_true h1,decide_eq_true h2];rfl
theorem Cert.rd_wf{n:Nat}{c:Cert}(h:c.rd n):(Lit.int .i64 c.serial).wf=true/\(Lit.int .i64 c.fr).wf=true/\(Lit.int .i64 c.til).wf=true/\(Lit.int .i64 c.group).wf=true:=by
 have j:=h.ser;have m:=h.fr;have q:=h.til;have r:=h.grp;unfold zbQ at*;exact⟨zqD q_o q_o,zqD q_o q_o,zqD q_o q_o,zqD q_o q_o⟩
theorem Cert.rd_fine{n:Nat}{c:Cert}(h:c.rd n):c.fine:=by
 obtain⟨a1,a2,a3⟩:=F0 h.iss;obtain⟨q,m,r⟩:=F0 h.sub;exact⟨⟨by omega,by omega,λx j=>by have:=a2 x j;omega⟩,⟨by omega,by omega,λx j=>by have:=m x j;omega⟩⟩
theorem zrj{sv:Int->List UInt8->Bool}{b:List UInt8}(h:zcH b=none):zdX sv b=none:=by unfold zdX;rw[h]
theorem zrY{sv:Int->List UInt8->Bool}{b r:List UInt8}{c:Cert}(h:zcH b=some (c,r))(hr:r≠[]):zdX sv b=none:=by
 unfold zdX;rw[h];cases r with
 |nil=>exact absurd rfl hr
 |cons x r=>rfl
theorem zwk{sv:Int->List UInt8->Bool}{b:List UInt8}{c:Cert}(h:zcH b=some (c,[])):zdX sv b=if c.ok sv=true/\c.der=b then some c else none:=by unfold zdX;rw[h]
theorem zpR{sv:Int->List UInt8->Bool}{b:List UInt8}(h:zd7 b=none):zcW sv b=none:=by unfold zcW;rw[h]
theorem zpV{sv:Int->List UInt8->Bool}{b r:List UInt8}{c:List Cert}(h:zd7 b=some (c,r))(hr:r≠[]):zcW sv b=none:=by
 unfold zcW;rw[h];cases r with
 |nil=>exact absurd rfl hr
 |cons x r=>rfl
theorem zt4{sv:Int->List UInt8->Bool}{b:List UInt8}{c:List Cert}(h:zd7 b=some (c,[])):zcW sv b=if zaF sv c=true/\zbx c=b then some c else none:=by unfold zcW;rw[h]
end Go.Ct
namespace Go.Proofs.YtdnlngbjpdbffaaGreatDoor
section
open Go Go.Sy Go.Ct Go.Nt Go.RowKit
attribute [local irreducible] Sy SyL SyX SyC SyF SyG SyH Sy.Fn Sy.FnP callFunc
theorem zoP(s:Bs)(w:World)(A:s.ok w)(hb:s.n<1000000000):Sy.Fn Tryz.prog 87 [s.val] w No (λv R=>∃b a c,v= .pointer (some ⟨b,0,none⟩)/\R= [zh b ⟨a,s.l.length,c,s.l⟩ 0,.row (.slice a s.l.length c) 5 1 s.l.length (s.l.map v8)]):=by
 refine zz Tryz.func87 Tryz.ntmps87 ?_;have hc:=λj (r:Keep No w j)=>zlE s j (A.keep r) hb;unfold zbA zbT at hc;have B:s.val= .slice s.a s.n s.c:=rfl;rw[B] at hc ⊢;repeat' (first|refine s_0 ?_|refine q_k 0 ?_|refine q_k 1 ?_;(refine q_s (zn (hc:=zr hc)) ?_;rintro _ _ ⟨R,rfl,m,q,rfl,rfl⟩);(refine q_s (zn (hc:=λj X r E=>zmA ⟨m,s.l.length,q,s.l⟩ j)) ?_;rintro _ _ ⟨R,rfl,b,rfl,rfl⟩);refine zf ?_)
 exact zaq rfl (zj rfl) Ep ⟨b,m,q,rfl,rfl⟩
theorem zoZ{j E n c b k:Nat}{w:World}{M:Nat->Prop}{L X:List Res}{a:Option Addr}{l:List UInt8}{s0:Bs}(hh:Holds j M (L++X) w)(hr:Has L (zh b s0 k))(hL:Has L (.row (.slice a n c) E 1 n (l.map v8)))(hn:l.length=n):BsF w (OwnOf [zh b s0 k]) ⟨a,n,c,l⟩:=by
 refine⟨hn,FD hh (Et hL),(SlF.rowB hh hr hL).imp id λ⟨m,o,q,A,B⟩=>⟨m,o,q,A,λF=>B ?_⟩,λh=>(FV hh (Et hL) h).1⟩;obtain⟨r,hr,G⟩:=F;cases AC.1 hr;exact Da G
theorem zwE(j:Nat)(w:World)(hL:Holds w.heap.size (OwnOf [.blk j 26 [.int .i64 6]]) [.blk j 26 [.int .i64 6]] w):FnD Tryz.prog 116 [.pointer (some ⟨j,0,none⟩)] (.panicking (pch zbr)) w (OwnOf [.blk j 26 [.int .i64 6]]) (λA R=>A= .panicking [{ v:=zbr,recovered:=true }]/\R= [.blk j 26 [.int .i64 6]]):=by
 obtain⟨d,q,r⟩:=zgk;refine zet (d:=4) (v0:=zbr) (u1:=.panicking [{ v:=zbr,recovered:=true }]) Tryz.func116 rfl rfl Tryz.ntmps116 q_p (λ_ _=>rfl) rfl rfl rfl (.inl ⟨rfl,rfl⟩) hL ?_;intro Q m;unfold zbr;repeat' (first|refine s_0 ?_|refine q_k 1 ?_|refine q_k 2 ?_;refine zl ?_;refine zJ ?_|refine q_v (zgl q r) ?_|refine m _ _ ?_|(refine zx ?_;first|refine q_n (zA (B:=[.int .i64 6]) (h1:=rfl)) ?_|refine zo ?_|refine zC ?_|refine zw ?_|refine zi ?_;intro _|fail)|fail)
 exact zhe q_h ⟨rfl,rfl⟩
theorem zw3(j:Nat)(e:Int)(w:World)(hL:Holds w.heap.size (OwnOf [.blk j 26 [.int .i64 e]]) [.blk j 26 [.int .i64 e]] w):FnD Tryz.prog 116 [.pointer (some ⟨j,0,none⟩)] .returning w (OwnOf [.blk j 26 [.int .i64 e]]) (λA R=>A= .returning/\R= [.blk j 26 [.int .i64 e]]):=by
 obtain⟨d,q,r⟩:=zgk;refine zet (d:=4) (v0:=.nilIface) (u1:=.returning) Tryz.func116 rfl rfl Tryz.ntmps116 q_p (λ_ _=>rfl) rfl rfl rfl (.inr ⟨rfl,rfl,rfl⟩) hL ?_;intro Q m;repeat' (first|refine s_0 ?_|refine q_k 1 ?_|refine q_v (zge (zv:=.agg #[.int .i64 0]) q r (λ_=>rfl)) ?_|refine m _ _ ?_|(refine zx ?_;first|refine q_n (zA (B:=[.int .i64 0]) (h1:=rfl)) ?_|refine zo ?_|refine zC ?_|refine zw ?_|refine zi ?_;intro _|fail)|fail)
 exact zhe q_h ⟨rfl,rfl⟩
theorem zvg(j:Nat)(w:World)(hL:Holds w.heap.size (OwnOf [.blk j 26 [.int .i64 6]]) [.blk j 26 [.int .i64 6]] w):FnD Tryz.prog 86 [.pointer (some ⟨j,0,none⟩)] (.panicking (pch zbr)) w (OwnOf [.blk j 26 [.int .i64 6]]) (λA R=>A= .panicking [{ v:=zbr,recovered:=true }]/\R= [.blk j 26 [.int .i64 6]]):=by
 obtain⟨d,q,r⟩:=zgk;refine zet (d:=4) (v0:=zbr) (u1:=.panicking [{ v:=zbr,recovered:=true }]) Tryz.func86 rfl rfl Tryz.ntmps86 q_p (λ_ _=>rfl) rfl rfl rfl (.inl ⟨rfl,rfl⟩) hL ?_;intro Q m;unfold zbr;repeat' (first|refine s_0 ?_|refine q_k 1 ?_|refine q_k 2 ?_;refine zl ?_;refine zJ ?_|refine q_v (zgl q r) ?_|refine m _ _ ?_|(refine zx ?_;first|refine q_n (zA (B:=[.int .i64 6]) (h1:=rfl)) ?_|refine zo ?_|refine zC ?_|refine zw ?_|refine zi ?_;intro _|fail)|fail)
 exact zhe q_h ⟨rfl,rfl⟩
theorem zv3(j:Nat)(e:Int)(w:World)(hL:Holds w.heap.size (OwnOf [.blk j 26 [.int .i64 e]]) [.blk j 26 [.int .i64 e]] w):FnD Tryz.prog 86 [.pointer (some ⟨j,0,none⟩)] .returning w (OwnOf [.blk j 26 [.int .i64 e]]) (λA R=>A= .returning/\R= [.blk j 26 [.int .i64 e]]):=by
 obtain⟨d,q,r⟩:=zgk;refine zet (d:=4) (v0:=.nilIface) (u1:=.returning) Tryz.func86 rfl rfl Tryz.ntmps86 q_p (λ_ _=>rfl) rfl rfl rfl (.inr ⟨rfl,rfl,rfl⟩) hL ?_;intro Q m;repeat' (first|refine s_0 ?_|refine q_k 1 ?_|refine q_v (zge (zv:=.agg #[.int .i64 0]) q r (λ_=>rfl)) ?_|refine m _ _ ?_|(refine zx ?_;first|refine q_n (zA (B:=[.int .i64 0]) (h1:=rfl)) ?_|refine zo ?_|refine zC ?_|refine zw ?_|refine zi ?_;intro _|fail)|fail)
 exact zhe q_h ⟨rfl,rfl⟩
def DecR(l:List UInt8)(v:Value)(R:List Res):Prop:=(∃c p,zdX svK l=some c/\v= .tuple #[.agg (zE p c).toArray,.int .i64 0]/\R=zac p c)\/(zdX svK l=none/\v= .tuple #[.agg (zE zjV zgm).toArray,.int .i64 6]/\R= [])
theorem zgE{N:Nat}(l:List UInt8)(w:World)(q m:Nat)(j:List Nat)(h:zdX svK l=none):SyX N w No (dfn 116 [.pointer (some ⟨m,0,none⟩)]::(j.map col++[])) (bodyPostM Fence.wide 0 Tryz.prog Tryz.f52 (FnR w No (DecR l)) (.panic (pch zbr))) [(8,.pointer (some ⟨q,0,none⟩)),(9,.pointer (some ⟨m,0,none⟩))] ([.blk m 26 [.int .i64 6],.blk q 45 zcJ]++j.map dob):=by
 refine zex (.inr ⟨_,rfl,rfl⟩) (C:=[.blk m 26 [.int .i64 6]]) (L1:=[.blk q 45 zcJ]) (Aq _) (λA _ _ r=>zwE m A r) ?_;rintro _ _ ⟨rfl,rfl⟩;exact⟨rfl,_,_,results2 rfl (zB (B:=zcJ) rfl (ty rfl) rfl En Em rfl) (zcA rfl (ty rfl) rfl En rfl),El,.inr ⟨h,rfl,rfl⟩⟩
theorem zsT{N:Nat}(l:List UInt8)(w:World)(q m:Nat)(j:List Nat)(p:Pl)(c:Cert)(h:zdX svK l=some c):SyX N w No (dfn 116 [.pointer (some ⟨m,0,none⟩)]::(j.map col++[])) (bodyPostM Fence.wide 0 Tryz.prog Tryz.f52 (FnR w No (DecR l)) .ret) [(8,.pointer (some ⟨q,0,none⟩)),(9,.pointer (some ⟨m,0,none⟩))] ((.blk m 26 [.int .i64 0]:: .blk q 45 (zE p c)::zac p c)++j.map dob):=by
 refine zex (.inl ⟨rfl,rfl⟩) (C:=[.blk m 26 [.int .i64 0]]) (L1:=.blk q 45 (zE p c)::zac p c) (Aq _) (λA _ _ r=>zw3 m 0 A r) ?_;rintro _ _ ⟨rfl,rfl⟩;exact⟨rfl,_,_,results2 rfl (zB (B:=zE p c) rfl (ty rfl) rfl En Em rfl) (zcA rfl (ty rfl) rfl En rfl),(Ex (Ex Ep)),.inl ⟨c,p,h,rfl,rfl⟩⟩
theorem zql(s:Bs)(w:World)(hG:GT w)(hs:s.ok w)(hb:s.n<1000000):Sy.Fn Tryz.prog 52 [s.val,.func (.func 53) #[] #[],.func (.func 34) #[] #[],.func (.func 51) #[] #[]] w No (DecR s.l):=by
 refine zz Tryz.func52 Tryz.ntmps52 ?_;have a9:=λj (A:Keep No w j)=>zoP s j (hs.keep A) q_o;have b2:=hs.len;have hv:s.val= .slice s.a s.n s.c:=rfl;rw[hv] at a9 ⊢;repeat' (first|refine s_0 ?_|refine ze 0 ?_;refine zi ?_;intro _;refine zi ?_;intro _)
 rename_i Z b9;repeat' (first|refine s_0 ?_|refine ze 1 ?_;refine zJ ?_|refine ze 2 ?_;refine q_v zZ ?_|refine ziy (f:=116) (λJ=>?_)|fail)
 simp only[Aa,AY];repeat' (first|refine s_0 ?_|refine q_k 3 ?_;(refine q_s (zn (hc:=zr a9)) ?_;rintro _ _ ⟨R,rfl,G,aR,cR,rfl,rfl⟩);refine za4 ?_;refine zi ?_;intro _;refine zJ ?_)
 obtain⟨sR,Q⟩:∃x:Bs,x=⟨aR,s.l.length,cR,s.l⟩:=⟨_,rfl⟩;have b1:sR.n=s.l.length:=by rw[Q]
 have V:sR.l=s.l:=by rw[Q]
 have a7:sR.l.length=sR.n:=by rw[b1,V]
 have O:∀ {L X:List Res}{j:World}{k:Nat},Holds w.heap.size No (L++X) j->Has L (zh G sR k)->Has L (.row (.slice aR s.l.length cR) 5 1 s.l.length (s.l.map v8))->BsF j (OwnOf [zh G sR k]) sR:=λm h1 T=>by
  have:=zoZ m h1 T rfl;rw[<-Q] at this;exact this
 rw[<-Q];repeat' (first|refine q_k 4 ?_;refine zl ?_;(refine zdf (f:=53) (M':=OwnOf [zh G sR 0]) (C:=[zh G sR 0]) (Eo (r':=zh G sR 0) (by repeat (first|exact Ej|apply Ek)) rfl Er) (λ_ h=>h) (hc:=λj X A m=>zmW G sR 0 j (zfV (Eo (r':=zh G sR 0) (by repeat (first|exact Ej|apply Ek)) rfl Er) m) (O m En En) (AE _) q_o) ?_ ?_))
 rotate_left
 ·rintro _ _ ⟨h1,rfl,rfl⟩;rw[B9,V] at h1;repeat' (first|refine zH ?_|fail)
  refine(zgE s.l w Z b9 J (zrj h1)).weaken q_h ?_
  (repeat' (first|exact El|apply Es;with_reducible (focus ((repeat (first|exact Ej|apply Ek));done))|apply Ez;(focus ((repeat (first|exact Ej|apply Ek));done))|apply Es;(focus ((repeat (first|exact Ej|apply Ek));done))|apply Ew;(focus ((repeat (first|exact Ej|apply Ek));done))|rfl))
  all_goals (repeat (first|exact Ep|apply Ex))
 rintro _ _ ⟨c,b3,k,_,h1,T,h3,⟨p,rfl,rfl⟩,rfl⟩;rw[B9,V] at h1;have N:=ziv h1;have hC:(zE p c).length=11:=rfl;have M:(zE p c).all (·.oneCell')=true:=rfl;have a8:∀ {L X:List Res}{j:World},Holds w.heap.size No (L++X) j->(∀r∈zac p c,r∈L)->CertAt j p c:=λm hL=>zk1 m hL (by have:=(F0 N.iss).1;unfold maxLen;omega) (Cert.rd_wf N)
  (by obtain⟨-,q1,q2⟩:=F0 N.iss;exact⟨by unfold maxLen;omega,λx hx=>by have:=q1 x hx;unfold maxLen;omega⟩) (by obtain⟨-,q1,q2⟩:=F0 N.sub;exact⟨by unfold maxLen;omega,λx hx=>by have:=q1 x hx;unfold maxLen;omega⟩)
 have I:=λj (A:Keep No w j) h=>zez p c j (hG.to A) h (Cert.rd_fine N);have W:=λj h (F:c.ok svK=true)=>zjT p c j h (F1 svK_law F);unfold zbA zbT at W;have U:=λj Y cW (h1:SlA j Y (c.der.map v8)) (T:SlA j s.a (s.l.map v8))=>zgC Y s.a c.der.length cW s.n s.c c.der s.l j rfl b2 h1 T;have q:∀ {L X:List Res}{j:World},Holds w.heap.size No (L++X) j->(∀r∈zac p c,r∈L)->CertAt j p c:=a8;dsimp only[zac];simp only[Aa,AY];obtain⟨P,a6⟩:∃P,P=zE p c:=⟨_,rfl⟩;rw[<-a6] at hC M I W ⊢;repeat' (first|refine s_0 ?_|(refine zx ?_;first|refine q_n (zA (B:=P) (hv:=M) (h1:=hC.symm) (hC:=by exact hC.symm)) ?_|refine zi ?_;intro _|fail)|fail)
 have he:=λj E (hc:sR.n<=sR.c)=>zc5 G sR k j E T hc;by_cases hd:sR.n-k=0
 ·have K:=λj E hc=>zj5 G sR k j E T hc q_o hd;have b0:b3= []:=by rw[<-h3];exact(zaM a7).2 hd
  subst b0;have H:=zwk (sv:=svK) h1;by_cases F:c.ok svK=true
  ·have S:=λj h=>W j h F;rw[F] at I;obtain⟨y,hy⟩:∃y,(c.der==s.l)=y:=⟨_,rfl⟩;rw[hy] at U;cases y with
   |true=>
    rw[if_pos ⟨F,beq_iff_eq.1 hy⟩] at H;repeat' (first|refine s_0 ?_|refine ze 5 ?_;refine zl ?_;refine q_v (za (hc:=λj X A m=>K j (zq (m.has (r:=zh G sR k) q_h) Em) (O m En En).cap)) ?_|refine q_k 6 ?_;refine q_v (zd (B:=P) (hz:=hC.symm) (hv:=Em)) ?_;refine q_v (za (hc:=λj X A m=>I j A (q m (λr E=>by simp only[zac,AQ,BB,or_false] at E;rcases E with rfl|rfl|rfl|rfl <;> exact En)))) ?_;refine zf ?_;refine q_v (zd (B:=P) (hz:=hC.symm) (hv:=Em)) ?_;(refine q_s (zn (hc:=λj X A m=>S j (q m (λr E=>by simp only[zac,AQ,BB,or_false] at E;rcases E with rfl|rfl|rfl|rfl <;> exact En)))) ?_;rintro _ _ ⟨R,rfl,Y,cW,rfl,rfl⟩);refine zf ?_;refine q_v (za (hc:=λj X A m=>U j Y cW (zc9 m q_h) (hs.keep A).sla)) ?_;refine zf ?_;refine q_v (za (hc:=q_c zdh)) ?_|refine ze 7 ?_;refine q_v (zd (B:=P) (hz:=hC.symm) (hv:=Em)) ?_;refine q_n (zA (B:=P) (hv:=M) (h1:=hC.symm) (hC:=by exact hC.symm)) ?_;refine zJ ?_)
    refine(zsT s.l w Z b9 J p c H).weaken q_h ?_;rw[<-a6];dsimp only[zac]
    (repeat' (first|exact El|apply Es;with_reducible (focus ((repeat (first|exact Ej|apply Ek));done))|apply Ez;(focus ((repeat (first|exact Ej|apply Ek));done))|apply Es;(focus ((repeat (first|exact Ej|apply Ek));done))|apply Ew;(focus ((repeat (first|exact Ej|apply Ek));done))|rfl))
    all_goals (repeat (first|exact Ep|apply Ex))
   |false=>
    rw[if_neg (λh=>by rw[h.2] at hy;simp at hy)] at H;repeat' (first|refine s_0 ?_|refine ze 5 ?_;refine zl ?_;refine q_v (za (hc:=λj X A m=>K j (zq (m.has (r:=zh G sR k) q_h) Em) (O m En En).cap)) ?_|refine q_k 6 ?_;refine q_v (zd (B:=P) (hz:=hC.symm) (hv:=Em)) ?_;refine q_v (za (hc:=λj X A m=>I j A (q m (λr E=>by simp only[zac,AQ,BB,or_false] at E;rcases E with rfl|rfl|rfl|rfl <;> exact En)))) ?_;refine zf ?_;refine q_v (zd (B:=P) (hz:=hC.symm) (hv:=Em)) ?_;(refine q_s (zn (hc:=λj X A m=>S j (q m (λr E=>by simp only[zac,AQ,BB,or_false] at E;rcases E with rfl|rfl|rfl|rfl <;> exact En)))) ?_;rintro _ _ ⟨R,rfl,Y,cW,rfl,rfl⟩);refine zf ?_;refine q_v (za (hc:=λj X A m=>U j Y cW (zc9 m q_h) (hs.keep A).sla)) ?_;refine zf ?_;(refine za0 (hc:=λj _ _ _=>zcS j) ?_)|refine zH ?_|fail)
    refine(zgE s.l w Z b9 J H).weaken q_h ?_
    (repeat' (first|exact El|apply Es;with_reducible (focus ((repeat (first|exact Ej|apply Ek));done))|apply Ez;(focus ((repeat (first|exact Ej|apply Ek));done))|apply Es;(focus ((repeat (first|exact Ej|apply Ek));done))|apply Ew;(focus ((repeat (first|exact Ej|apply Ek));done))|rfl))
    all_goals (repeat (first|exact Ep|apply Ex))
  ·rw[if_neg (λh=>F h.1)] at H;rw[Bo] at F;rw[F] at I;repeat' (first|refine s_0 ?_|refine ze 5 ?_;refine zl ?_;refine q_v (za (hc:=λj X A m=>K j (zq (m.has (r:=zh G sR k) q_h) Em) (O m En En).cap)) ?_|refine q_k 6 ?_;refine q_v (zd (B:=P) (hz:=hC.symm) (hv:=Em)) ?_;refine q_v (za (hc:=λj X A m=>I j A (q m (λr E=>by simp only[zac,AQ,BB,or_false] at E;rcases E with rfl|rfl|rfl|rfl <;> exact En)))) ?_;refine zf ?_;(refine za0 (hc:=λj _ _ _=>zcS j) ?_)|refine zH ?_|fail)
   refine(zgE s.l w Z b9 J H).weaken q_h ?_
   (repeat' (first|exact El|apply Es;with_reducible (focus ((repeat (first|exact Ej|apply Ek));done))|apply Ez;(focus ((repeat (first|exact Ej|apply Ek));done))|apply Es;(focus ((repeat (first|exact Ej|apply Ek));done))|apply Ew;(focus ((repeat (first|exact Ej|apply Ek));done))|rfl))
   all_goals (repeat (first|exact Ep|apply Ex))
 ·have K:=λj E hc=>zkf G sR k j E T hc q_o hd;repeat' (first|refine ze 5 ?_;refine zl ?_;(refine za0 (hc:=λj X A m=>K j (zq (m.has (r:=zh G sR k) q_h) Em) (O m En En).cap) ?_)|refine zH ?_|fail)
  refine(zgE s.l w Z b9 J (zrY h1 (λh=>hd ((zaM a7).1 (by rw[h3];exact h))))).weaken q_h ?_
  (repeat' (first|exact El|apply Es;with_reducible (focus ((repeat (first|exact Ej|apply Ek));done))|apply Ez;(focus ((repeat (first|exact Ej|apply Ek));done))|apply Es;(focus ((repeat (first|exact Ej|apply Ek));done))|apply Ew;(focus ((repeat (first|exact Ej|apply Ek));done))|rfl))
  all_goals (repeat (first|exact Ep|apply Ex))
end
open Go Go.Sy Go.Ct Go.Nt Go.RowKit
attribute [local irreducible] Sy SyL SyX SyC SyF Sy.Fn callFunc
theorem zlx(a:Option Addr)(n c:Nat)(ps:List Pl)(l:List Cert)(w:World)(hn:l.length=n)(h:zck w a c ps l)(A:∀x∈l,x.small)(hb:n<=5)(V:(l.map Cert.der).flatten.length<16777216):Sy.Fn Tryz.prog 40 [.slice a n c] w No (zbA (zbx l)):=by
 refine zz Tryz.func40 Tryz.ntmps40 ?_;repeat' (first|refine s_t ?_|refine zL [0,1,2] ?_;refine zf ?_)
 refine zcN (zbZ 23 1) ?_;refine zX (γ:=Nat×List Bs×Option Addr×Nat) (λg=>[(6,.slice a n c),(7,.int .i64 (n:Int)),(8,.int .i64 (g.1:Int)),(3,.slice g.2.2.1 g.2.1.length g.2.2.2)])
  (λg=> .row (.slice g.2.2.1 g.2.1.length g.2.2.2) 23 1 g.2.1.length (g.2.1.reverse.map Bs.val)::zdD 5 g.2.1)
  (λg=>g.1<=n/\g.2.1.reverse.map (·.l)=(l.take g.1).map Cert.der/\∀s∈g.2.1,s.l.length=s.n) (λg=>n-g.1) (0,[],none,0) ⟨AE _,rfl,λs A=>by cases A⟩ ?_ ?_ ?_
 ·exact q_h
 ·exact q_h
 rintro⟨i,m,Y,cP⟩ ⟨hi,q,G⟩;dsimp only at hi q G ⊢;have K:m.length=i:=by have:=congrArg List.length q;simp at this;omega
 by_cases hlt:i<n
 ·obtain⟨Z,ol,p,rfl,hp,P,hc⟩:=h.at (k:=11) q_e (λ_ _=>rfl) (i:=i) q_o;have S:l[i]∈l:=AX q_o;have U:l.take (i+1)=l.take i++[l[i]]:=zaI q_o;have T:=A l[i] S;have hw:=λL (W:Keep No w L)=>zjT p l[i] L (P.keep W) T;have hC:(zE p l[i]).length=11:=rfl;have O:(zE p l[i]).all (·.oneCell')=true:=rfl;generalize l[i]=x at*;generalize zE p x=C at*;have g1:decide ((i:Int)<(n:Int))=true:=q_d;have g5:IntKind.i64.wrap ((i:Int)+1)=((i+1:Nat):Int):=q_w;repeat' (first|refine s_t ?_|refine ze 3 ?_;refine q_v (zm (hr:=g1)) ?_|refine ze 4 ?_;refine q_v (zS (j:=i)) ?_;refine q_v (zK (hv:=hc) (hz:=hC.symm)) ?_;refine zi ?_;intro _;refine q_n (zA (B:=C) (hv:=O) (h1:=hC.symm) (hC:=by exact hC.symm)) ?_|refine q_k 5 ?_;refine q_v (zd (B:=C) (hz:=hC.symm)) ?_;(refine q_s (zn (hc:=zr hw)) ?_;rintro _ _ ⟨R,rfl,H,I,rfl,rfl⟩);(refine q_s zD ?_;rintro _ _ ⟨_,rfl,rfl⟩);(refine q_s (zaB (hys:=zk7 m ⟨H,x.der.length,I,x.der⟩) (hkm:=rfl)) ?_;rintro _ _ ⟨rfl,M,N,rfl⟩);refine zf ?_)
  refine F8 (fr':=[(6,.slice (some ⟨Z,ol,none⟩) n c),(7,.int .i64 (n:Int)),(8,.int .i64 (i:Int)),(3,.slice M (m.length+1) N)]) (L':=.row (.slice M (m.length+1) N) 23 1 (m.length+1) ((⟨H,x.der.length,I,x.der⟩::m).reverse.map Bs.val)::zdD 5 (⟨H,x.der.length,I,x.der⟩::m)) ?_ q_h ?_;rotate_left
  ·show SubR (_::zkE 5 ⟨H,x.der.length,I,x.der⟩::zdD 5 m) _
   (repeat' (first|exact El|apply Es;with_reducible (focus ((repeat (first|exact Ej|apply Ek));done))|apply Ez;(focus ((repeat (first|exact Ej|apply Ek));done))|apply Es;(focus ((repeat (first|exact Ej|apply Ek));done))|apply Ew;(focus ((repeat (first|exact Ej|apply Ek));done))|rfl))
   all_goals (repeat (first|exact Ep|apply Ex))
  repeat' (first|refine zaC ?_|refine zaD ?_|refine ze 6 ?_;refine q_x (zN (hr:=g5)) ?_)
  refine zQ (i+1,⟨H,x.der.length,I,x.der⟩::m,M,N) ⟨hlt,?_,?_⟩ ?_ ?_ ?_
  ·show((⟨H,x.der.length,I,x.der⟩::m).reverse).map (·.l)=_;rw[zp8,q,U,B2];rfl
  ·intro s A;rcases AQ.1 A with rfl|A
   ·rfl
   ·exact G s A
  ·show n-(i+1)<n-i;omega
  ·exact q_h
  ·exact Ep
 obtain rfl:i=n:=q_o;rw[A9 q_o] at q;have F:Bs.cat m.reverse=(l.map Cert.der).flatten:=by rw[zkU,q]
 have g1:decide ((i:Int)<(i:Int))=false:=q_f;have J:zbx l=tlv 0x30 (Bs.cat m.reverse):=by rw[F];rfl
 rw[<-F] at V;rw[J,K];repeat' (first|refine s_0 ?_|refine ze 3 ?_;refine q_v (zm (hr:=g1)) ?_|refine q_k 7 ?_;(refine q_s (zn (hc:=λL X W Q=>zkO Y i cP m.reverse L (by rw[CE];exact K) q_o (FD Q q_h) ((GZ (Mi:=No) Q q_h (λ_ h=>h.elim)).sla) (λs A=>zk6 (E:=5) Q G (λr hr=>A7 _ (A0 _ hr)) s (Cv.1 A)) V)) ?_;rintro _ _ ⟨R,rfl,aS,cS,rfl,rfl⟩);refine zf ?_)
 exact zaq rfl (zj rfl) (Ew Ej rfl El) ⟨_,_,rfl,rfl⟩
theorem zvy(a:Option Addr)(n c:Nat)(ps:List Pl)(l:List Cert)(w:World)(B:GT w)(hn:l.length=n)(h:zck w a c ps l)(F:∀x∈l,x.fine)(hb:n<1000000)(m:zaF svK l=true):Sy.Fn Tryz.prog 12 [.slice a n c] w No (λv R=>∃a k,v= .tuple #[.slice a (zbx l).length k,.int .i64 0]/\R= [.row (.slice a (zbx l).length k) 5 1 (zbx l).length ((zbx l).map v8)]):=by
 refine zz Tryz.func12 Tryz.ntmps12 ?_;have A:=λr (q:Keep No w r)=>zgH a n c ps l r (B.to q) hn (h.keep q (λp x h=>h.keep q)) F hb;rw[m] at A;have E:=zgO svK_law m;have j:=m;simp only[zaF,A5,decide_eq_true_eq,AD] at j;have G:=λr (q:Keep No w r)=>zlx a n c ps l r hn (h.keep q (λp x h=>h.keep q)) (λx H=>F1 svK_law (j.2 x H)) q_o q_o;repeat' (first|refine s_0 ?_|refine q_k 0 ?_|refine q_k 1 ?_;refine q_v (za (hc:=zr A)) ?_;refine zI ?_|refine q_k 3 ?_;(refine q_s (zn (hc:=zr G)) ?_;rintro _ _ ⟨R,rfl,I,J,rfl,rfl⟩);refine zf ?_)
 exact zT rfl (zj rfl) (zj rfl) q_h ⟨_,_,rfl,rfl⟩
theorem zva(a:Option Addr)(n c:Nat)(ps:List Pl)(l:List Cert)(w:World)(A:GT w)(hn:l.length=n)(h:zck w a c ps l)(B:∀x∈l,x.fine)(hb:n<1000000)(m:zaF svK l=false):q_G 12 [.slice a n c] w (.tuple #[.slice none 0 0,.int .i64 2]):=by
 refine zz Tryz.func12 Tryz.ntmps12 ?_;have q:=λr (j:Keep No w r)=>zgH a n c ps l r (A.to j) hn (h.keep j (λp x h=>h.keep j)) B hb;rw[m] at q;repeat' (first|refine s_0 ?_|refine zL [0,2] ?_;refine zf ?_|refine q_k 1 ?_;refine q_v (za (hc:=zr q)) ?_;refine zI ?_)
 exact q_r
end Go.Proofs.YtdnlngbjpdbffaaGreatDoor
