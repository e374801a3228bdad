/- Lemmas of this proof. -/
import Derived.Test.YtdnlngbjpdbffaaGreatDoorWJ45
import Derived.Test.YtdnlngbjpdbffaaGreatDoorWJ41
set_option maxHeartbeats 4000000
set_option maxRecDepth 10000
set_option linter.all false
namespace Go.Ct
open Go Go.Sy
theorem zsP{sv:Int->List UInt8->Bool}{b:List UInt8}(h:zfj b=none):zc6 sv b=none:=by unfold zc6;rw[h]
theorem ztl{sv:Int->List UInt8->Bool}{b r:List UInt8}{c:Cert}(h:zfj b=some (c,r))(hr:r≠[]):zc6 sv b=none:=by
 unfold zc6;rw[h];cases r with
 |nil=>exact absurd rfl hr
 |cons x r=>rfl
theorem zxo{sv:Int->List UInt8->Bool}{b:List UInt8}{c:Cert}(h:zfj b=some (c,[])):zc6 sv b=if c.ok sv=true/\c.der=b then some c else none:=by unfold zc6;rw[h]
end Go.Ct
namespace Go.Proofs.YtdnlngbjpdbffaaGreatDoor
open Go Go.Sy Go.Ct Go.Nt Go.RowKit
attribute [local irreducible] Sy SyL SyX SyC SyF SyG SyH Sy.Fn Sy.FnP callFunc
theorem zw7(s:Bs)(w:World)(A:s.ok w)(hb:s.n<1000000000):Sy.Fn Tryz.prog 87 [s.val] w No (λv R=>∃b a c,v= .pointer (some ⟨b,0,none⟩)/\R= [zk b ⟨a,s.l.length,c,s.l⟩ 0,.row (.slice a s.l.length c) 5 1 s.l.length (s.l.map v8)]):=by
 refine zt Tryz.func87 Tryz.ntmps87 ?_;have hc:=λj (r:Keep No w j)=>zmL s j (A.keep r) hb;unfold zbi zbG at hc;have B:s.val= .slice s.a s.n s.c:=rfl;rw[B] at hc ⊢;repeat' (first|refine s_0 ?_|refine q_k 0 ?_|refine q_k 1 ?_;(refine q_s (zi (hc:=zu hc)) ?_;rintro _ _ ⟨R,rfl,m,q,rfl,rfl⟩);(refine q_s (zi (hc:=λj X r C=>zoG ⟨m,s.l.length,q,s.l⟩ j)) ?_;rintro _ _ ⟨R,rfl,b,rfl,rfl⟩);refine zb ?_)
 exact zap rfl (zh rfl) Ex ⟨b,m,q,rfl,rfl⟩
theorem zwo{j E n c b k:Nat}{w:World}{M:Nat->Prop}{L X:List Res}{a:Option Addr}{l:List UInt8}{s0:Bs}(hh:Holds j M (L++X) w)(hr:Has L (zk b s0 k))(hL:Has L (.row (.slice a n c) E 1 n (l.map v8)))(hn:l.length=n):BsF w (OwnOf [zk b s0 k]) ⟨a,n,c,l⟩:=by
 refine⟨hn,FJ hh (Ey hL),(SlF.rowB hh hr hL).imp id λ⟨m,o,q,A,B⟩=>⟨m,o,q,A,λC=>B ?_⟩,λh=>(Fl hh (Ey hL) h).1⟩;obtain⟨r,hr,F⟩:=C;cases AE.1 hr;exact De F
theorem zyD(j:Nat)(w:World)(hL:Holds w.heap.size (OwnOf [.blk j 26 [.int .i64 6]]) [.blk j 26 [.int .i64 6]] w):FnD Tryz.prog 116 [.pointer (some ⟨j,0,none⟩)] (.panicking (pch zb7)) w (OwnOf [.blk j 26 [.int .i64 6]]) (λA R=>A= .panicking [{ v:=zb7,recovered:=true }]/\R= [.blk j 26 [.int .i64 6]]):=by
 obtain⟨d,q,r⟩:=zkp;refine zgW (d:=4) (v0:=zb7) (u1:=.panicking [{ v:=zb7,recovered:=true }]) Tryz.func116 rfl rfl Tryz.ntmps116 q_p (λ_ _=>rfl) rfl rfl rfl (.inl ⟨rfl,rfl⟩) hL ?_;intro Q m;unfold zb7;repeat' (first|refine s_0 ?_|refine q_k 1 ?_|refine q_k 2 ?_;refine zm ?_;refine zO ?_|refine q_v (zi8 q r) ?_|refine m _ _ ?_|(refine zy ?_;first|refine q_n (zC (B:=[.int .i64 6]) (h1:=rfl)) ?_|refine zw ?_|refine zY ?_|refine zaR ?_|refine zj ?_;intro _|fail)|fail)
 exact zk2 q_h ⟨rfl,rfl⟩
theorem zyj(j:Nat)(e:Int)(w:World)(hL:Holds w.heap.size (OwnOf [.blk j 26 [.int .i64 e]]) [.blk j 26 [.int .i64 e]] w):FnD Tryz.prog 116 [.pointer (some ⟨j,0,none⟩)] .returning w (OwnOf [.blk j 26 [.int .i64 e]]) (λA R=>A= .returning/\R= [.blk j 26 [.int .i64 e]]):=by
 obtain⟨d,q,r⟩:=zkp;refine zgW (d:=4) (v0:=.nilIface) (u1:=.returning) Tryz.func116 rfl rfl Tryz.ntmps116 q_p (λ_ _=>rfl) rfl rfl rfl (.inr ⟨rfl,rfl,rfl⟩) hL ?_;intro Q m;repeat' (first|refine s_0 ?_|refine q_k 1 ?_|refine q_v (zjc (zv:=.agg #[.int .i64 0]) q r (λ_=>rfl)) ?_|refine m _ _ ?_|(refine zy ?_;first|refine q_n (zC (B:=[.int .i64 0]) (h1:=rfl)) ?_|refine zw ?_|refine zY ?_|refine zaR ?_|refine zj ?_;intro _|fail)|fail)
 exact zk2 q_h ⟨rfl,rfl⟩
def DecR(l:List UInt8)(v:Value)(R:List Res):Prop:=(∃c p,zc6 svK l=some c/\v= .tuple #[.agg (zG p c).toArray,.int .i64 0]/\R=zaa p c)\/(zc6 svK l=none/\v= .tuple #[.agg (zG zfm noCert).toArray,.int .i64 6]/\R= [])
theorem zg8{N:Nat}(l:List UInt8)(w:World)(q m:Nat)(j:List Nat)(h:zc6 svK l=none):SyX N w No (dfn 116 [.pointer (some ⟨m,0,none⟩)]::(j.map col++[])) (bodyPostM Fence.wide 0 Tryz.prog Tryz.f52 (FnR w No (DecR l)) (.panic (pch zb7))) [(8,.pointer (some ⟨q,0,none⟩)),(9,.pointer (some ⟨m,0,none⟩))] ([.blk m 26 [.int .i64 6],.blk q 45 zc2]++j.map dob):=by
 refine zg7 (.inr ⟨_,rfl,rfl⟩) (C:=[.blk m 26 [.int .i64 6]]) (L1:=[.blk q 45 zc2]) (B5 _) (λA _ _ r=>zyD m A r) ?_;rintro _ _ ⟨rfl,rfl⟩;exact⟨rfl,_,_,results2 rfl (zB (B:=zc2) rfl (ty rfl) rfl Ev Et rfl) (zdU rfl (ty rfl) rfl Ev rfl),Er,.inr ⟨h,rfl,rfl⟩⟩
theorem zu1{N:Nat}(l:List UInt8)(w:World)(q m:Nat)(j:List Nat)(p:Pl)(c:Cert)(h:zc6 svK l=some c):SyX N w No (dfn 116 [.pointer (some ⟨m,0,none⟩)]::(j.map col++[])) (bodyPostM Fence.wide 0 Tryz.prog Tryz.f52 (FnR w No (DecR l)) .ret) [(8,.pointer (some ⟨q,0,none⟩)),(9,.pointer (some ⟨m,0,none⟩))] ((.blk m 26 [.int .i64 0]:: .blk q 45 (zG p c)::zaa p c)++j.map dob):=by
 refine zg7 (.inl ⟨rfl,rfl⟩) (C:=[.blk m 26 [.int .i64 0]]) (L1:=.blk q 45 (zG p c)::zaa p c) (B5 _) (λA _ _ r=>zyj m 0 A r) ?_;rintro _ _ ⟨rfl,rfl⟩;exact⟨rfl,_,_,results2 rfl (zB (B:=zG p c) rfl (ty rfl) rfl Ev Et rfl) (zdU rfl (ty rfl) rfl Ev rfl),(F5 (F5 Ex)),.inl ⟨c,p,h,rfl,rfl⟩⟩
theorem zqY(s:Bs)(w:World)(hG:GT w)(hs:s.ok w)(hb:s.n<1000000):Sy.Fn Tryz.prog 52 [s.val,.func (.func 53) #[] #[],.func (.func 34) #[] #[],.func (.func 51) #[] #[]] w No (DecR s.l):=by
 refine zt Tryz.func52 Tryz.ntmps52 ?_;have a9:=λj (A:Keep No w j)=>zw7 s j (hs.keep A) q_o;have b2:=hs.len;have hv:s.val= .slice s.a s.n s.c:=rfl;rw[hv] at a9 ⊢;repeat' (first|refine s_0 ?_|refine zf 0 ?_;refine zj ?_;intro _;refine zj ?_;intro _)
 rename_i Z b9;repeat' (first|refine s_0 ?_|refine zf 1 ?_;refine zO ?_|refine zf 2 ?_;refine q_v zab ?_|refine zmh (f:=116) (λJ=>?_)|fail)
 simp only[Ab,Af];repeat' (first|refine s_0 ?_|refine q_k 3 ?_;(refine q_s (zi (hc:=zu a9)) ?_;rintro _ _ ⟨R,rfl,G,aR,cR,rfl,rfl⟩);refine zbb ?_;refine zj ?_;intro _;refine zO ?_)
 obtain⟨sR,Q⟩:∃x:Bs,x=⟨aR,s.l.length,cR,s.l⟩:=⟨_,rfl⟩;have b1:sR.n=s.l.length:=by rw[Q]
 have V:sR.l=s.l:=by rw[Q]
 have a7:sR.l.length=sR.n:=by rw[b1,V]
 have O:∀ {L X:List Res}{j:World}{k:Nat},Holds w.heap.size No (L++X) j->Has L (zk G sR k)->Has L (.row (.slice aR s.l.length cR) 5 1 s.l.length (s.l.map v8))->BsF j (OwnOf [zk G sR k]) sR:=λm h1 T=>by
  have:=zwo m h1 T rfl;rw[<-Q] at this;exact this
 rw[<-Q];repeat' (first|refine q_k 4 ?_;refine zm ?_;(refine zd6 (f:=53) (M':=OwnOf [zk G sR 0]) (C:=[zk G sR 0]) (Ew (r':=zk G sR 0) (by repeat (first|exact Es|apply Eu)) rfl Ez) (λ_ h=>h) (hc:=λj X A m=>zum G sR 0 j (zjH (Ew (r':=zk G sR 0) (by repeat (first|exact Es|apply Eu)) rfl Ez) m) (O m Ev Ev) (A9 _) q_o) ?_ ?_))
 rotate_left
 ·rintro _ _ ⟨h1,rfl,rfl⟩;rw[BJ,V] at h1;repeat' (first|refine zK ?_|fail)
  refine(zg8 s.l w Z b9 J (zsP h1)).weaken q_h ?_
  (repeat' (first|exact Er|apply F2;with_reducible (focus ((repeat (first|exact Es|apply Eu));done))|apply F7;(focus ((repeat (first|exact Es|apply Eu));done))|apply F2;(focus ((repeat (first|exact Es|apply Eu));done))|apply F3;(focus ((repeat (first|exact Es|apply Eu));done))|rfl))
  all_goals (repeat (first|exact Ex|apply F5))
 rintro _ _ ⟨c,b3,k,_,h1,T,h3,⟨p,rfl,rfl⟩,rfl⟩;rw[BJ,V] at h1;have N:=zmg h1;have hC:(zG p c).length=11:=rfl;have M:(zG p c).all (·.oneCell')=true:=rfl;have a8:∀ {L X:List Res}{j:World},Holds w.heap.size No (L++X) j->(∀r∈zaa p c,r∈L)->CertAt j p c:=λm hL=>zjw m hL (by have:=(F6 N.iss).1;unfold maxLen;omega) (Cert.rd_wf N)
  (by obtain⟨-,q1,q2⟩:=F6 N.iss;exact⟨by unfold maxLen;omega,λx hx=>by have:=q1 x hx;unfold maxLen;omega⟩) (by obtain⟨-,q1,q2⟩:=F6 N.sub;exact⟨by unfold maxLen;omega,λx hx=>by have:=q1 x hx;unfold maxLen;omega⟩)
 have I:=λj (A:Keep No w j) h=>zd9 p c j (hG.to A) h (Fo N);have W:=λj h (F:c.ok svK=true)=>zoH p c j h (F9 zef F);unfold zbi zbG at W;have U:=λj Y cW (h1:SlA j Y (c.der.map v8)) (T:SlA j s.a (s.l.map v8))=>ziU Y s.a c.der.length cW s.n s.c c.der s.l j rfl b2 h1 T;have q:∀ {L X:List Res}{j:World},Holds w.heap.size No (L++X) j->(∀r∈zaa p c,r∈L)->CertAt j p c:=a8;dsimp only[zaa];simp only[Ab,Af];obtain⟨P,a6⟩:∃P,P=zG p c:=⟨_,rfl⟩;rw[<-a6] at hC M I W ⊢;repeat' (first|refine s_0 ?_|(refine zy ?_;first|refine q_n (zC (B:=P) (hv:=M) (h1:=hC.symm) (hC:=by exact hC.symm)) ?_|refine zj ?_;intro _|fail)|fail)
 have he:=λj E (hc:sR.n<=sR.c)=>zdS G sR k j E T hc;by_cases hd:sR.n-k=0
 ·have K:=λj E hc=>zoM G sR k j E T hc q_o hd;have b0:b3= []:=by rw[<-h3];exact(zbe a7).2 hd
  subst b0;have H:=zxo (sv:=svK) h1;by_cases F:c.ok svK=true
  ·have S:=λj h=>W j h F;rw[F] at I;obtain⟨y,hy⟩:∃y,(c.der==s.l)=y:=⟨_,rfl⟩;rw[hy] at U;cases y with
   |true=>
    rw[if_pos ⟨F,beq_iff_eq.1 hy⟩] at H;repeat' (first|refine s_0 ?_|refine zf 5 ?_;refine zm ?_;refine q_v (za (hc:=λj X A m=>K j (zp (m.has (r:=zk G sR k) q_h) Et) (O m Ev Ev).cap)) ?_|refine q_k 6 ?_;refine q_v (ze (B:=P) (hz:=hC.symm) (hv:=Et)) ?_;refine q_v (za (hc:=λj X A m=>I j A (q m (λr E=>by simp only[zaa,AS,BC,or_false] at E;rcases E with rfl|rfl|rfl|rfl <;> exact Ev)))) ?_;refine zb ?_;refine q_v (ze (B:=P) (hz:=hC.symm) (hv:=Et)) ?_;(refine q_s (zi (hc:=λj X A m=>S j (q m (λr E=>by simp only[zaa,AS,BC,or_false] at E;rcases E with rfl|rfl|rfl|rfl <;> exact Ev)))) ?_;rintro _ _ ⟨R,rfl,Y,cW,rfl,rfl⟩);refine zb ?_;refine q_v (za (hc:=λj X A m=>U j Y cW (zas m q_h) (hs.keep A).sla)) ?_;refine zb ?_;refine q_v (za (hc:=q_c zeX)) ?_|refine zf 7 ?_;refine q_v (ze (B:=P) (hz:=hC.symm) (hv:=Et)) ?_;refine q_n (zC (B:=P) (hv:=M) (h1:=hC.symm) (hC:=by exact hC.symm)) ?_;refine zO ?_)
    refine(zu1 s.l w Z b9 J p c H).weaken q_h ?_;rw[<-a6];dsimp only[zaa]
    (repeat' (first|exact Er|apply F2;with_reducible (focus ((repeat (first|exact Es|apply Eu));done))|apply F7;(focus ((repeat (first|exact Es|apply Eu));done))|apply F2;(focus ((repeat (first|exact Es|apply Eu));done))|apply F3;(focus ((repeat (first|exact Es|apply Eu));done))|rfl))
    all_goals (repeat (first|exact Ex|apply F5))
   |false=>
    rw[if_neg (λh=>by rw[h.2] at hy;simp at hy)] at H;repeat' (first|refine s_0 ?_|refine zf 5 ?_;refine zm ?_;refine q_v (za (hc:=λj X A m=>K j (zp (m.has (r:=zk G sR k) q_h) Et) (O m Ev Ev).cap)) ?_|refine q_k 6 ?_;refine q_v (ze (B:=P) (hz:=hC.symm) (hv:=Et)) ?_;refine q_v (za (hc:=λj X A m=>I j A (q m (λr E=>by simp only[zaa,AS,BC,or_false] at E;rcases E with rfl|rfl|rfl|rfl <;> exact Ev)))) ?_;refine zb ?_;refine q_v (ze (B:=P) (hz:=hC.symm) (hv:=Et)) ?_;(refine q_s (zi (hc:=λj X A m=>S j (q m (λr E=>by simp only[zaa,AS,BC,or_false] at E;rcases E with rfl|rfl|rfl|rfl <;> exact Ev)))) ?_;rintro _ _ ⟨R,rfl,Y,cW,rfl,rfl⟩);refine zb ?_;refine q_v (za (hc:=λj X A m=>U j Y cW (zas m q_h) (hs.keep A).sla)) ?_;refine zb ?_;(refine zbl (hc:=λj _ _ _=>zeN j) ?_)|refine zK ?_|fail)
    refine(zg8 s.l w Z b9 J H).weaken q_h ?_
    (repeat' (first|exact Er|apply F2;with_reducible (focus ((repeat (first|exact Es|apply Eu));done))|apply F7;(focus ((repeat (first|exact Es|apply Eu));done))|apply F2;(focus ((repeat (first|exact Es|apply Eu));done))|apply F3;(focus ((repeat (first|exact Es|apply Eu));done))|rfl))
    all_goals (repeat (first|exact Ex|apply F5))
  ·rw[if_neg (λh=>F h.1)] at H;rw[C8] at F;rw[F] at I;repeat' (first|refine s_0 ?_|refine zf 5 ?_;refine zm ?_;refine q_v (za (hc:=λj X A m=>K j (zp (m.has (r:=zk G sR k) q_h) Et) (O m Ev Ev).cap)) ?_|refine q_k 6 ?_;refine q_v (ze (B:=P) (hz:=hC.symm) (hv:=Et)) ?_;refine q_v (za (hc:=λj X A m=>I j A (q m (λr E=>by simp only[zaa,AS,BC,or_false] at E;rcases E with rfl|rfl|rfl|rfl <;> exact Ev)))) ?_;refine zb ?_;(refine zbl (hc:=λj _ _ _=>zeN j) ?_)|refine zK ?_|fail)
   refine(zg8 s.l w Z b9 J H).weaken q_h ?_
   (repeat' (first|exact Er|apply F2;with_reducible (focus ((repeat (first|exact Es|apply Eu));done))|apply F7;(focus ((repeat (first|exact Es|apply Eu));done))|apply F2;(focus ((repeat (first|exact Es|apply Eu));done))|apply F3;(focus ((repeat (first|exact Es|apply Eu));done))|rfl))
   all_goals (repeat (first|exact Ex|apply F5))
 ·have K:=λj E hc=>znG G sR k j E T hc q_o hd;repeat' (first|refine zf 5 ?_;refine zm ?_;(refine zbl (hc:=λj X A m=>K j (zp (m.has (r:=zk G sR k) q_h) Et) (O m Ev Ev).cap) ?_)|refine zK ?_|fail)
  refine(zg8 s.l w Z b9 J (ztl h1 (λh=>hd ((zbe a7).1 (by rw[h3];exact h))))).weaken q_h ?_
  (repeat' (first|exact Er|apply F2;with_reducible (focus ((repeat (first|exact Es|apply Eu));done))|apply F7;(focus ((repeat (first|exact Es|apply Eu));done))|apply F2;(focus ((repeat (first|exact Es|apply Eu));done))|apply F3;(focus ((repeat (first|exact Es|apply Eu));done))|rfl))
  all_goals (repeat (first|exact Ex|apply F5))
theorem zna{w w0:World}{M:Nat->Prop}{L X:List Res}{p:Pl}{c:Cert}{n:Nat}(hh:Holds w0.heap.size M (L++X) w)(hL:∀r∈zaa p c,r∈L)(j:c.rd n):CertAt w p c:=
 zjw hh hL (by have:=(F6 j.iss).1;unfold maxLen;omega) (Cert.rd_wf j) (by obtain⟨-,q,A⟩:=F6 j.iss;exact⟨by unfold maxLen;omega,λx m=>by have:=q x m;unfold maxLen;omega⟩) (by obtain⟨-,q,A⟩:=F6 j.sub;exact⟨by unfold maxLen;omega,λx m=>by have:=q x m;unfold maxLen;omega⟩)
theorem zrN(s:Bs)(w:World)(F:GT w)(G:s.ok w)(hb:s.n<1000000):Sy.Fn Tryz.prog 22 [s.val] w No (DecR s.l):=by
 refine zt Tryz.func22 Tryz.ntmps22 ?_;have h:=λE (C:Keep No w E)=>zqY s E (F.to C) (G.keep C) hb;have H:s.val= .slice s.a s.n s.c:=rfl;rw[H] at h ⊢;unfold DecR at h;repeat' (first|refine s_0 ?_|refine zf 0 ?_;refine zW ?_;intro _|refine q_k 1 ?_;(refine q_s (zi (hc:=zu h)) ?_;rintro _ _ ⟨R,rfl,(⟨c,p,r,rfl,rfl⟩|⟨r,rfl,rfl⟩)⟩);refine zb ?_;refine zO ?_;refine zb ?_|(refine zy ?_;first|refine zw ?_|refine zY ?_|refine zO ?_|fail)|fail)
 ·have A:(zG p c).length=11:=rfl;have m:(zG p c).all (·.oneCell')=true:=rfl;obtain⟨q,j⟩:∃q,q=zG p c:=⟨_,rfl⟩;rw[<-j] at A m ⊢;repeat' (first|fail)
  exact zU rfl (zB (B:=q) rfl (ty rfl) rfl Ev Et A.symm) (zh rfl) (R:=zaa p c) (by unfold zaa;exact FL) (.inl ⟨c,p,r,by rw[j];rfl,rfl⟩)
 ·repeat' (first|fail)
  exact zU rfl (zB (B:=zG zfm noCert) rfl (ty rfl) rfl Ev Et rfl) (zh rfl) Er (.inr ⟨r,rfl,rfl⟩)
end Go.Proofs.YtdnlngbjpdbffaaGreatDoor
namespace Go.Ct
open Go Go.Sy
theorem zgI(b:List UInt8):(zaL b).length<=b.length:=by
 unfold zaL;split
 ·exact A9 _
 ·rw[Ar,AR];omega
theorem zki:∀(n:Nat) (b:List UInt8),b.length<=n->(zb5 b).length<=b.length/\∀x∈zb5 b,x.length<=b.length
 |0,b,h=>by
  have:b= []:=As.1 q_o;subst this;rw[ziL];exact⟨A6 _,λx j=>by cases j⟩
 |n+1,b,h=>by
  cases hf:zfl b with
  |none=>rw[zhQ hf];exact⟨A9 _,λx j=>by cases j⟩
  |some p=>
   have w:=zjA hf;have r:(b.drop p.2).length=b.length-p.2:=Ar;obtain⟨q,m⟩:=zki n (b.drop p.2) q_o;rw[zhU hf];refine⟨by rw[AQ];omega,λx j=>?_⟩;rcases AS.1 j with rfl|j
   ·rw[AR];omega
   ·have:=m x j;omega
theorem zpN{m:Nat}(t:Nat):∀l:List (List UInt8),(∀x∈l,x.length<=m)->(pick t l).length<=m
 | [],_=>A9 _
 |x::l,h=>by
  rw[pick];split
  ·have:=zgI x;have:=h x A3;omega
  ·exact zpN t l (λy j=>h y (A4 _ j))
theorem zhB(s:List UInt8)(n:Nat):(item s n).length<=s.length:=
 zpN _ _ (λx j=>by have:=(zki _ (zaL s) (A6 _)).2 x j;have:=zgI s;omega)
theorem zlA(b:List UInt8):0<=zcj b/\zcj b<72057594037927936:=by
 have h:=zfq ((zaL b).take 7);have j:((zaL b).take 7).length<=7:=by rw[AR];omega
 have m:256^((zaL b).take 7).length<=256^7:=AB q_e j;have q:256^7=72057594037927936:=by decide
 unfold zcj;omega
theorem zu2(b:List UInt8): -9223372036854775808<=zfn b/\zfn b<=9223372036854775807:=by
 unfold zfn w64;split <;> omega
theorem zp6(b:List UInt8):(zdu b).parts.length<=b.length/\(zdu b).realm.length<=b.length/\∀x∈(zdu b).parts,x.length<=b.length:=by
 have r:=zhB b 0;have w:=zgI (item b 0);have j:=zki _ (zaL (item b 0)) (A6 _);have A:=zhB b 1;have B:=zgI (item b 1);unfold zdu;dsimp only;refine⟨by rw[List.length_map];omega,by omega,λx m=>?_⟩;obtain⟨y,q,rfl⟩:=C4.1 m;have:=zgI y;have:=j.2 y q;omega
structure Cert.got(n:Nat)(c:Cert):Prop where
 rng:(Lit.int .i64 c.serial).wf=true/\(Lit.int .i64 c.fr).wf=true/\(Lit.int .i64 c.til).wf=true/\(Lit.int .i64 c.group).wf=true
 iss:c.issuer.parts.length<=n/\c.issuer.realm.length<=n/\∀x∈c.issuer.parts,x.length<=n
 sub:c.subject.parts.length<=n/\c.subject.realm.length<=n/\∀x∈c.subject.parts,x.length<=n
theorem zvi(b:List UInt8):(zfL b).got b.length:=by
 have h0:=zhB b 0;have E:=zhB (item b 0) 1;have F:=zhB (item b 0) 2;obtain⟨a1,a2,a3⟩:=zp6 (item (item b 0) 1);obtain⟨B,C,A⟩:=zp6 (item (item b 0) 2);have m:=zu2 (item (item b 0) 0);have q:=zlA (item (item b 0) 3);have r:=zlA (item (item b 0) 4);have w:=zlA (item (item b 0) 6);exact⟨⟨zjl m.1 m.2,zjl (by have:=q.1;show -9223372036854775808<=zcj (item (item b 0) 3);omega) (by have:=q.2;show zcj (item (item b 0) 3)<=_;omega),zjl (by have:=r.1;show -9223372036854775808<=zcj (item (item b 0) 4);omega) (by have:=r.2;show zcj (item (item b 0) 4)<=_;omega),zjl (by have:=w.1;show -9223372036854775808<=zcj (item (item b 0) 6);omega) (by have:=w.2;show zcj (item (item b 0) 6)<=_;omega)⟩,
  ⟨by show(zdu (item (item b 0) 1)).parts.length<=_;omega,by show(zdu (item (item b 0) 1)).realm.length<=_;omega,λx j=>by have:=a3 x j;omega⟩,
  ⟨by show(zdu (item (item b 0) 2)).parts.length<=_;omega,by show(zdu (item (item b 0) 2)).realm.length<=_;omega,λx j=>by have:=A x j;omega⟩⟩
theorem Cert.got_fine{n:Nat}{c:Cert}(h:c.got n)(hn:n<1000000):c.fine:=by
 obtain⟨a1,a2,a3⟩:=h.iss;obtain⟨q,r,m⟩:=h.sub;exact⟨⟨by omega,by omega,λx j=>by have:=a3 x j;omega⟩,⟨by omega,by omega,λx j=>by have:=m x j;omega⟩⟩
end Go.Ct
namespace Go.Proofs.YtdnlngbjpdbffaaGreatDoor
section
open Go Go.Sy Go.Ct Go.Nt Go.RowKit
attribute [local irreducible] Sy SyL SyX SyC SyF SyG SyH Sy.Fn Sy.FnP callFunc
theorem zov{w w0:World}{M:Nat->Prop}{L X:List Res}{p:Pl}{c:Cert}{n:Nat}(hh:Holds w0.heap.size M (L++X) w)(hL:∀r∈zaa p c,r∈L)(j:c.got n)(hn:n<1000000):CertAt w p c:=
 zjw hh hL (by have:=j.iss.1;unfold maxLen;omega) j.rng (by obtain⟨-,A,q⟩:=j.iss;exact⟨by unfold maxLen;omega,λx m=>by have:=q x m;unfold maxLen;omega⟩) (by obtain⟨-,A,q⟩:=j.sub;exact⟨by unfold maxLen;omega,λx m=>by have:=q x m;unfold maxLen;omega⟩)
theorem zk8(p:Pl)(c:Cert)(w:World)(h:CertAt w p c)(A:c.small):Sy.Fn Tryz.prog 35 [.agg (zG p c).toArray] w No (zbi c.der):=by
 refine zt Tryz.func35 Tryz.ntmps35 ?_;have L:=λj (B:Keep No w j)=>znB p c j (h.keep B) A;unfold zbi at L;have O:=A.sig;have N:=A.pub;have M:=λj (B:Keep No w j)=>zqk p.a4 c.sig.length p.k4 c.sig j (h.sig.keep B) q_o;unfold zbi at M;have U:0<c.body.length:=by rw[FN];exact zbC
 have V:0<(za8 c.sig).length:=zbC;have m0:c.body.length<=605+c.pub.length:=by rw[FN];have:=(zX 0x30 c.flat).2;have:=GZ A;omega
 have m1:(za8 c.sig).length<=c.sig.length+5:=zco (A6 _);obtain⟨m,E⟩:∃G,G=zaw 0 c.body:=⟨_,rfl⟩;obtain⟨q,F⟩:∃G,G=zaw 1 (za8 c.sig):=⟨_,rfl⟩;have Z:m.length<=c.body.length+5:=by rw[E];exact(zX (0xa0+0) _).2
 have l1:q.length<=(za8 c.sig).length+5:=by rw[F];exact(zX (0xa0+1) _).2
 have C:c.der=tlv 0x30 (m++q):=by rw[E,F];simp[Cert.der,zdv]
 generalize za8 c.sig=I,c.body=H,c.der=P at*;unfold zG at*;unfold zbi;repeat' (first|refine s_0 ?_|refine zf 0 ?_;refine zW ?_;intro _)
 (refine zdC (id:=1) [0,3,4] [1,2,5,6,7,8,9] mixed ?_ ?_;kernel_rfl;refine yfv ze (k:=?_);refine yfv zM (k:=?_);refine yfv zL (k:=?_);refine yf0 ?_;try refine yc0 (k:=?_))
 refine ycs (zi (hc:=zu L)) (k:=?_);rintro _ _ ⟨R,rfl,a0,S,rfl,rfl⟩;refine ycs (zi (hc:=λj X B r=>zda 0 a0 H.length S H m j q_e (zaz r rfl q_h) U q_o E)) (k:=?_);rintro _ _ ⟨R,rfl,J,d0,rfl,rfl⟩;refine ycs (zi (hc:=zu M)) (k:=?_);rintro _ _ ⟨R,rfl,a1,T,rfl,rfl⟩;refine ycs (zi (hc:=λj X B r=>zda 1 a1 I.length T I q j q_e (zaz r rfl q_h) V q_o F)) (k:=?_);rintro _ _ ⟨R,rfl,K,d1,rfl,rfl⟩;refine ycs zz (k:=?_);rintro _ _ ⟨Q,rfl,rfl⟩;refine ycs (zi (hc:=λj X B r=>zj8 Q 2 [⟨J,m.length,d0,m⟩,⟨K,q.length,d1,q⟩] j rfl q_e (zp (r.has q_h) Et) (λs A=>by
   simp only[AS,BC,or_false] at A;rcases A with rfl|rfl
   ·exact zaz r rfl q_h
   ·exact zaz r rfl q_h) (by rw[show Bs.cat [⟨J,m.length,d0,m⟩,⟨K,q.length,d1,q⟩]=m++q by simp[Bs.cat]];simp only[A2];omega) P (by rw[C];simp[Bs.cat]))) (k:=?_)
 rintro _ _ ⟨R,rfl,W,Y,rfl,rfl⟩;refine ycv za6 (k:=?_);refine yc0 (k:=?_);repeat' (first|refine s_0 ?_|fail)
 exact zap rfl (zh rfl) (F3 Es rfl Er) ⟨_,_,rfl,rfl⟩
theorem zrk(s:Bs)(w:World)(P:GT w)(O:s.ok w)(hb:s.n<1000000):Sy.Fn Tryz.prog 36 [s.val] w No (DecR s.l):=by
 refine zt Tryz.func36 Tryz.ntmps36 ?_;have q:=λj (F:Keep No w j)=>zxT s j (O.keep F) hb;have hv:s.val= .slice s.a s.n s.c:=rfl;rw[hv] at q ⊢;unfold zhj at q;have G:=O.len;have K:=O.sla;have m:(zfL s.l).got s.n:=by have:=zvi s.l;rwa[G] at this
 have H:=Cert.got_fine m hb;have Q:zc6 svK s.l=if (zfL s.l).ok svK=true/\(zfL s.l).der=s.l then some (zfL s.l) else none:=by rw[zyz zef];rfl
 unfold DecR;rw[Q];generalize zfL s.l=x at*;repeat' (first|refine s_0 ?_|refine zf 0 ?_;refine zW ?_;intro _)
 rename_i T;repeat' (first|refine s_0 ?_|refine q_k 1 ?_;(refine q_s (zi (hc:=zu q)) ?_;rintro _ _ ⟨R,rfl,p,rfl,rfl⟩);refine zj ?_;intro _;refine zO ?_)
 rename_i U;have hC:(zG p x).length=11:=rfl;have I:(zG p x).all (·.oneCell')=true:=rfl;have A:=λj (F:Keep No w j) (L:CertAt j p x)=>zkP p x j (P.to F) L H;have M:=λj (L:CertAt j p x) (N:x.small)=>zk8 p x j L N;unfold zbi at M;obtain⟨C,E⟩:∃C,C=zG p x:=⟨_,rfl⟩;rw[<-E] at hC I A M ⊢;by_cases hok:x.ok svK=true
 ·rw[hok] at A;have N:=F9 zef hok
  (refine zdy (id:=2) [] false [] [0] [(1,[2]),(3,[4,7,8]),(5,[]),(6,[9,10])] mixed q_h ?_ ?_;kernel_rfl;refine ygv (ze (B:=C) (hz:=hC.symm)) (k:=?_);refine yg0 ?_;refine yhv (za (hc:=λj X F J=>A j F (zov J (λr hr=>A4 _ (AM _ hr)) m hb))) (k:=?_);refine ygv ziH (k:=?_);try refine yg0 ?_;refine yhv zZ (k:=?_);refine ygv (ze (B:=C) (hz:=hC.symm)) (k:=?_);refine ygv zZ (k:=?_);refine ygv (zch (l:=s.l) (hr:=FM K (λ_ _ h=>h)) (hn:=G)) (k:=?_);try refine yg0 ?_;try refine yg0 ?_;try refine yg0 ?_;try refine yh0 (k:=?_))
  refine yhs (zi (hc:=λj X F J=>M j (zov J (λr hr=>A4 _ (AM _ hr)) m hb) N)) (k:=?_);rintro _ _ ⟨R,rfl,S,V,rfl,rfl⟩;refine yg0 ?_;refine yhv (zch (l:=x.der) (hr:=G8 (by exact Ev)) (hn:=rfl)) (k:=?_);by_cases hd:x.der=s.l
  ·have g:decide (x.der≠s.l)=false:=decide_eq_false (λh=>h hd);refine ygv (zcR (hr:=g)) (k:=?_);refine ygv zdc (k:=?_);refine yg0 ?_;refine yh0 (k:=?_);repeat' (first|refine s_0 ?_|refine zf 4 ?_;refine q_v (ze (B:=C) (hz:=hC.symm)) ?_;refine q_y (zC (B:=C) (hv:=I) (h1:=hC.symm) (hC:=by exact hC.symm)) ?_)
   subst E;exact zU rfl (zB (B:=zG p x) rfl (ty rfl) rfl Ev Et rfl) (zh rfl) (by simp only[zaa,Ab,Af];exact FL) (.inl ⟨x,p,by rw[if_pos ⟨hok,hd⟩],rfl,rfl⟩)
  ·have g:decide (x.der≠s.l)=true:=decide_eq_true hd;refine ygv (zcR (hr:=g)) (k:=?_);refine ygv zdc (k:=?_);refine yg0 ?_;refine yh0 (k:=?_);repeat' (first|refine s_0 ?_|refine zf 3 ?_;refine zbb ?_;refine zO ?_;refine zb ?_)
   subst E;exact zU rfl (zB (B:=zG zfm noCert) rfl (ty rfl) rfl Ev Et rfl) (zh rfl) Er (.inr ⟨by rw[if_neg (λh=>hd h.2)],rfl,rfl⟩)
 ·rw[C8] at hok;rw[hok] at A
  (refine zdy (id:=2) [] false [] [0] [(1,[2]),(3,[4,5,6,7,8,9,10])] mixed q_h ?_ ?_;kernel_rfl;refine ygv (ze (B:=C) (hz:=hC.symm)) (k:=?_);refine yg0 ?_;refine yhv (za (hc:=λj X F J=>A j F (zov J (λr hr=>A4 _ (AM _ hr)) m hb))) (k:=?_);refine ygv ziH (k:=?_);try refine yg0 ?_;refine yhv zZ (k:=?_);refine ygn (k:=?_);refine ygn (k:=?_);refine ygn (k:=?_);refine ygn (k:=?_);refine ygn (k:=?_);refine ygn (k:=?_);refine ygv zdc (k:=?_);try refine yg0 ?_;try refine yh0 (k:=?_))
  repeat' (first|refine s_0 ?_|refine zf 3 ?_;refine zbb ?_;refine zO ?_;refine zb ?_)
  subst E;exact zU rfl (zB (B:=zG zfm noCert) rfl (ty rfl) rfl Ev Et rfl) (zh rfl) Er (.inr ⟨by rw[if_neg (λh=>(by rw[h.1] at hok;cases hok))],rfl,rfl⟩)
end
open Go Go.Sy Go.Ct Go.Nt Go.RowKit
attribute [local irreducible] Sy SyL SyX SyC SyF Sy.Fn callFunc
theorem eight{j m q r w A B C:Bool} :j=false\/(j=true/\m=false)\/(j=true/\m=true/\q=false)\/(j=true/\m=true/\q=true/\r=false)\/(j=true/\m=true/\q=true/\r=true/\w=false)\/(j=true/\m=true/\q=true/\r=true/\w=true/\A=false)\/(j=true/\m=true/\q=true/\r=true/\w=true/\A=true/\B=false)\/(j=true/\m=true/\q=true/\r=true/\w=true/\A=true/\B=true/\C=false)\/(j=true/\m=true/\q=true/\r=true/\w=true/\A=true/\B=true/\C=true):=by
 cases j <;> cases m <;> cases q <;> cases r <;> cases w <;> cases A <;> cases B <;> cases C <;> simp
theorem zka(p q:Pl)(c d:Cert)(w:World)(h:CertAt w p c)(I:CertAt w q d)(T:c.fine):q_G 23 [.agg (zG p c).toArray,.agg (zG q d).toArray] w (.bool (c.same d)):=by
 refine zt Tryz.func23 Tryz.ntmps23 ?_;have q2:=λR (J:Keep No w R)=>zmw _ _ _ _ c.issuer d.issuer R (h.iss.keep J) (I.iss.keep J) T.i.1;have q3:=λR (J:Keep No w R)=>zmw _ _ _ _ c.subject d.subject R (h.sub.keep J) (I.sub.keep J) T.s.1;have Z:=h.pub.sla;have M:=I.pub.sla;have s4:=h.sig.sla;have N:=I.sig.sla;dsimp only at Z M s4 N;have g8:decide (c.pub=d.pub)=(c.pub==d.pub):=by by_cases h:c.pub=d.pub <;> simp[h]
 have g9:decide (c.sig=d.sig)=(c.sig==d.sig):=by by_cases h:c.sig=d.sig <;> simp[h]
 unfold Cert.same;unfold zG zba at*;clear h I T;obtain⟨serial,⟨K,L⟩,⟨O,P⟩,fr,til,auth,group,pub,sig⟩:=c;obtain⟨j,⟨r,A⟩,⟨F,G⟩,S,Q,H,m,C,E⟩:=d;dsimp only at*;generalize (sig==E)=x9,(pub==C)=x8,Y:decide (group=m)=x7,X:(auth==H)=x6,W:decide (til=Q)=x5,V:decide (fr=S)=x4,Prin.same ⟨O,P⟩ ⟨F,G⟩=x3,Prin.same ⟨K,L⟩ ⟨r,A⟩=x2,U:decide (serial=j)=x1 at*;rcases @eight x1 x2 x3 x4 x5 x6 x7 x8 with rfl|⟨rfl,rfl⟩|⟨rfl,rfl,rfl⟩|⟨rfl,rfl,rfl,rfl⟩|⟨rfl,rfl,rfl,rfl,rfl⟩|⟨rfl,rfl,rfl,rfl,rfl,rfl⟩|⟨rfl,rfl,rfl,rfl,rfl,rfl,rfl⟩|⟨rfl,rfl,rfl,rfl,rfl,rfl,rfl,rfl⟩|⟨rfl,rfl,rfl,rfl,rfl,rfl,rfl,rfl⟩
 all_goals repeat' (first|refine s_0 ?_|refine zf 0 ?_;refine zj ?_;intro _;refine zW ?_;intro _|refine q_k 1 ?_;refine zm ?_;refine zb ?_;refine zm ?_;refine q_x (zS (hr:=U)) ?_;(first|refine q_v (ze (B:=[.slice p.a1 K.length p.k1,zT L]) (hv:=FF rfl)) ?_|skip|fail);(try refine zb ?_);(first|refine q_v (ze (B:=[.slice q.a1 r.length q.k1,zT A]) (hv:=FF rfl)) ?_|skip|fail);(first|refine q_v (za (hc:=zu q2)) ?_|refine zaC rfl rfl rfl ?_|skip);(try refine zb ?_);(first|refine q_v (ze (B:=[.slice p.a2 O.length p.k2,zT P]) (hv:=FF rfl)) ?_|skip|fail);(try refine zb ?_);(first|refine q_v (ze (B:=[.slice q.a2 F.length q.k2,zT G]) (hv:=FF rfl)) ?_|skip|fail);(first|refine q_v (za (hc:=zu q3)) ?_|refine zaC rfl rfl rfl ?_|skip);(try refine zb ?_);(first|refine zm ?_|skip|fail);(try refine zb ?_);(first|refine zm ?_|skip|fail);(first|refine q_v (zS (hr:=V)) ?_|refine zaC rfl rfl rfl ?_|skip);(try refine zb ?_);(first|refine zm ?_|skip|fail);(try refine zb ?_);(first|refine zm ?_|skip|fail);(first|refine q_v (zS (hr:=W)) ?_|refine zaC rfl rfl rfl ?_|skip);(try refine zb ?_);(first|refine zm ?_|skip|fail);(try refine zb ?_);(first|refine zm ?_|skip|fail);(first|refine q_v (ziI (hr:=X)) ?_|refine zaC rfl rfl rfl ?_|skip);(try refine zb ?_);(first|refine zm ?_|skip|fail);(try refine zb ?_);(first|refine zm ?_|skip|fail);(first|refine q_v (zS (hr:=Y)) ?_|refine zaC rfl rfl rfl ?_|skip);(try refine zb ?_);(first|refine zm ?_|skip|fail);(first|refine q_v (zch (l:=pub) (hr:=FM Z (λ_ _ h=>h))) ?_|refine zaC rfl rfl rfl ?_|skip);(try refine zb ?_);(first|refine zm ?_|skip|fail);(first|refine q_v (zch (l:=C) (hr:=FM M (λ_ _ h=>h))) ?_|refine zaC rfl rfl rfl ?_|skip);(first|refine q_v (zbD (hr:=g8)) ?_|refine zaC rfl rfl rfl ?_|skip);(try refine zb ?_);(first|refine zm ?_|skip|fail);(first|refine q_v (zch (l:=sig) (hr:=FM s4 (λ_ _ h=>h))) ?_|refine zaC rfl rfl rfl ?_|skip);(try refine zb ?_);(first|refine zm ?_|skip|fail);(first|refine q_v (zch (l:=E) (hr:=FM N (λ_ _ h=>h))) ?_|refine zaC rfl rfl rfl ?_|skip);(first|refine q_v (zbD (hr:=g9)) ?_|refine zaC rfl rfl rfl ?_|skip);(try refine zb ?_))
 all_goals exact q_r
theorem zl8{w:World} :CertAt w zfm noCert:=
 ⟨⟨⟨none,0,rfl,A6 _,A9 _,.inl rfl,λ_=>rfl⟩,A9 _,λx j=>by cases j⟩,⟨⟨none,0,rfl,A6 _,A9 _,.inl rfl,λ_=>rfl⟩,A9 _,λx j=>by cases j⟩,⟨rfl,A6 _,.inl rfl,λ_=>rfl⟩,⟨rfl,A6 _,.inl rfl,λ_=>rfl⟩,(by show(Lit.int .i64 0).wf=true;decide),(by show(Lit.int .i64 0).wf=true;decide),(by show(Lit.int .i64 0).wf=true;decide),(by show(Lit.int .i64 0).wf=true;decide)⟩
theorem zpm:noCert.fine:=⟨⟨by show 0<1000000;decide,by show 0<1000000000;decide,λx j=>by cases j⟩,⟨by show 0<1000000;decide,by show 0<1000000000;decide,λx j=>by cases j⟩⟩
theorem zmu(w:World):q_G 23 [.agg (zG zfm noCert).toArray,.agg (zG zfm noCert).toArray] w (.bool true):=by
 have:=zka zfm zfm noCert noCert w zl8 zl8 zpm;rwa[Fg.2 rfl] at this
end Go.Proofs.YtdnlngbjpdbffaaGreatDoor
