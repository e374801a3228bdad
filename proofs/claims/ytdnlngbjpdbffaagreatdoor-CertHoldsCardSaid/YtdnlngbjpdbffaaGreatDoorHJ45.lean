/- Lemmas of this proof. -/
import Derived.Test.YtdnlngbjpdbffaaGreatDoorHJ44
set_option maxHeartbeats 4000000
set_option maxRecDepth 10000
set_option linter.all false
namespace Go.Ct
open Go Go.Sy
theorem znX{A:Nat}{w:World}{M:Nat->Prop}{E n m c s:Nat}{a:Option Addr}{xs:List Value}{L:List Res}(hh:Holds A M L w)(hL:Has L (.row (.slice a m c) E s n xs)):SlA w a xs:=by
 have q:w.ownsRow 0 E s (.slice a m c) n xs:=hh.has hL;obtain⟨F,⟨_,G⟩|⟨b,K,B,J,_,H,N,O,P,I⟩⟩:=q
 ·exact .inl (Av.1 (by rw[F,G,BA]))
 ·cases J;refine .inr ⟨b,0,rfl,λj v r=>?_⟩;rw[<-I,C7] at r;split at r
  ·simp only[World.cell?,H,AU];simpa using r
  ·cases r
end Go.Ct
namespace Go.Proofs.YtdnlngbjpdbffaaGreatDoor
section
open Go Go.Sy Go.Ct Go.Nt Go.RowKit
attribute [local irreducible] Sy SyL SyX SyC SyF SyG SyH Sy.Fn Sy.FnP callFunc
theorem zss{A B D:List Res} :(A++(B++D)).Perm (B++(A++D)):=by
 rw[<-AF,<-AF];exact Ac.append_right D
theorem zix:∀(m:List Pl) (j:List Cert),allRows m j=(List.zipWith zac m j).flatten
 | [],_=>by simp[allRows]
 |_::_,[]=>by simp[allRows]
 |p::m,x::j=>by rw[allRows,zix m j,Cb,BP]
theorem zor{ps:List Pl}{cs:List Cert}(j:ps.length=cs.length){i:Nat}{p:Pl}{x:Cert}(h1:ps[i]?=some p)(h2:cs[i]?=some x):∀r∈zac p x,r∈allRows ps.reverse cs.reverse:=λr m=>by
 rw[zix,<-List.reverse_zipWith j,List.mem_flatten];refine⟨zac p x,Cv.2 (BE (i:=i) ?_),m⟩;rw[CL,h1,h2]
theorem zkC{w w0:World}{M:Nat->Prop}{L X:List Res}{p:Pl}{c:Cert}{n:Nat}(hh:Holds w0.heap.size M (L++X) w)(hL:∀r∈zac p c,r∈L)(j:c.rd n):CertAt w p c:=
 zk1 hh hL (by have:=(F0 j.iss).1;unfold maxLen;omega) (Cert.rd_wf j) (by obtain⟨-,q,A⟩:=F0 j.iss;exact⟨by unfold maxLen;omega,λx m=>by have:=q x m;unfold maxLen;omega⟩) (by obtain⟨-,q,A⟩:=F0 j.sub;exact⟨by unfold maxLen;omega,λx m=>by have:=q x m;unfold maxLen;omega⟩)
theorem zkc{w w0:World}{M:Nat->Prop}{L X:List Res}{a:Option Addr}{k n:Nat}{ps:List Pl}{cs:List Cert}(hh:Holds w0.heap.size M (L++X) w)(hr:Has L (.row (.slice a cs.length k) 45 11 cs.length (List.zipWith zE ps cs).flatten))(q:ps.length=cs.length)(hL:∀r∈allRows ps.reverse cs.reverse,r∈L)(j:∀c∈cs,c.rd n):zck w a k ps cs:=
 ⟨q,FD hh (Et hr),λh=>(FV hh (Et hr) h).1,znX hh (Et hr),λ_ _ _ A m=>zkC hh (λr hr=>hL r (zor q A m r hr)) (j _ (BE m))⟩
def DecCR(l:List UInt8)(v:Value)(R:List Res):Prop:=(∃cs a k ps,zcW svK l=some cs/\(∀c∈cs,c.rd l.length)/\ps.length=cs.length/\v= .tuple #[.slice a cs.length k,.int .i64 0]/\R= .row (.slice a cs.length k) 45 11 cs.length (List.zipWith zE ps cs).flatten::allRows ps.reverse cs.reverse)\/(zcW svK l=none/\v= .tuple #[.slice none 0 0,.int .i64 6]/\R= [])
theorem zfP{N:Nat}(l:List UInt8)(w:World)(m:Nat)(j:List Nat)(h:zcW svK l=none):SyX N w No (dfn 86 [.pointer (some ⟨m,0,none⟩)]::(j.map col++[])) (bodyPostM Fence.wide 0 Tryz.prog Tryz.f43 (FnR w No (DecCR l)) (.panic (pch zbr))) [(8,.slice none 0 0),(9,.pointer (some ⟨m,0,none⟩))] ([.blk m 26 [.int .i64 6]]++j.map dob):=by
 refine zex (.inr ⟨_,rfl,rfl⟩) (C:=[.blk m 26 [.int .i64 6]]) (L1:=[]) (Aq _) (λr _ _ q=>zvg m r q) ?_;rintro _ _ ⟨rfl,rfl⟩;exact⟨rfl,_,_,results2 rfl (zj rfl) (zcA rfl (ty rfl) rfl En rfl),El,.inr ⟨h,rfl,rfl⟩⟩
theorem zr4{N:Nat}(l:List UInt8)(w:World)(m:Nat)(j:List Nat)(ps:List Pl)(cs:List Cert)(a:Option Addr)(k:Nat)(h:zcW svK l=some cs)(q:∀c∈cs,c.rd l.length)(A:ps.length=cs.length):SyX N w No (dfn 86 [.pointer (some ⟨m,0,none⟩)]::(j.map col++[])) (bodyPostM Fence.wide 0 Tryz.prog Tryz.f43 (FnR w No (DecCR l)) .ret) [(8,.slice a cs.length k),(9,.pointer (some ⟨m,0,none⟩))] ((.blk m 26 [.int .i64 0]:: .row (.slice a cs.length k) 45 11 cs.length (List.zipWith zE ps cs).flatten::allRows ps.reverse cs.reverse)++j.map dob):=by
 refine zex (.inl ⟨rfl,rfl⟩) (C:=[.blk m 26 [.int .i64 0]]) (L1:=.row (.slice a cs.length k) 45 11 cs.length (List.zipWith zE ps cs).flatten::allRows ps.reverse cs.reverse) (Aq _) (λB _ _ r=>zv3 m 0 B r) ?_;rintro _ _ ⟨rfl,rfl⟩;exact⟨rfl,_,_,results2 rfl (zj rfl) (zcA rfl (ty rfl) rfl En rfl),(Ex Ep),.inl ⟨cs,a,k,ps,h,q,A,rfl,rfl⟩⟩
theorem zon(s:Bs)(w:World)(hG:GT w)(hs:s.ok w)(hb:s.n<1000000):Sy.Fn Tryz.prog 43 [s.val,.func (.func 44) #[] #[],.func (.func 39) #[] #[],.func (.func 40) #[] #[]] w No (DecCR s.l):=by
 refine zz Tryz.func43 Tryz.ntmps43 ?_;have a8:=λj (E:Keep No w j)=>zoP s j (hs.keep E) q_o;have b5:=hs.len;have hv:s.val= .slice s.a s.n s.c:=rfl;rw[hv] at a8 ⊢;repeat' (first|refine s_0 ?_|refine q_k 0 ?_;refine zi ?_;intro _)
 rename_i b9;repeat' (first|refine s_0 ?_|refine ze 1 ?_;refine zJ ?_|refine ze 2 ?_;refine q_v zZ ?_|refine ziy (f:=86) (λJ=>?_)|fail)
 simp only[Aa,AY];repeat' (first|refine s_0 ?_|refine q_k 3 ?_;(refine q_s (zn (hc:=zr a8)) ?_;rintro _ _ ⟨R,rfl,H,aR,cR,rfl,rfl⟩);refine za4 ?_;refine zi ?_;intro _;refine zJ ?_)
 rename_i b2;obtain⟨sR,Q⟩:∃x:Bs,x=⟨aR,s.l.length,cR,s.l⟩:=⟨_,rfl⟩;have b4:sR.n=s.l.length:=by rw[Q]
 have W:sR.l=s.l:=by rw[Q]
 have a6:sR.l.length=sR.n:=by rw[b4,W]
 have O:∀ {L X:List Res}{j:World}{k:Nat},Holds w.heap.size No (L++X) j->Has L (zh H sR k)->Has L (.row (.slice aR s.l.length cR) 5 1 s.l.length (s.l.map v8))->BsF j (OwnOf [zh H sR k]) sR:=λm M h2=>by
  have:=zoZ m M h2 rfl;rw[<-Q] at this;exact this
 rw[<-Q];repeat' (first|refine q_k 4 ?_;refine zl ?_;(refine zdf (f:=44) (M':=OwnOf [zh H sR 0]) (C:=[zh H sR 0]) (Eo (r':=zh H sR 0) (by repeat (first|exact Ej|apply Ek)) rfl Er) (λ_ h=>h) (hc:=λj X E m=>zq2 H sR 0 j (zfV (Eo (r':=zh H sR 0) (by repeat (first|exact Ej|apply Ek)) rfl Er) m) (O m En En) (AE _) q_o) ?_ ?_))
 rotate_left
 ·rintro _ _ ⟨M,rfl,rfl⟩;rw[B9,W] at M;repeat' (first|refine zH ?_|fail)
  refine(zfP s.l w b9 J (zpR M)).weaken q_h ?_
  (repeat' (first|exact El|apply Es;with_reducible (focus ((repeat (first|exact Ej|apply Ek));done))|apply Ez;(focus ((repeat (first|exact Ej|apply Ek));done))|apply Es;(focus ((repeat (first|exact Ej|apply Ek));done))|apply Ew;(focus ((repeat (first|exact Ej|apply Ek));done))|rfl))
  all_goals (repeat (first|exact Ep|exact⟨_,Ac⟩|apply Ex))
 rintro _ _ ⟨q,b6,k,_,M,h2,h3,⟨a,kc,S,a9,rfl,rfl⟩,rfl⟩;rw[B9,W] at M;have Y:∀c∈q,c.rd s.l.length:=zkm M;refine F9 (L':=zh H sR k:: .row (.slice a q.length kc) 45 11 q.length (List.zipWith zE S q).flatten:: .blk b2 82 [.pointer (some ⟨H,0,none⟩)]:: .row (.slice aR s.l.length cR) 5 1 s.l.length (s.l.map v8):: .blk b9 26 [.int .i64 6]::(allRows S.reverse q.reverse++J.map dob)) ?_ (λ_ _ h=>h) ?_;rotate_left
 ·exact⟨[],by rw[AH];exact List.Perm.cons _ (List.Perm.cons _ (zss (B:=[_,_,_])))⟩
 have b3:∀c∈q,c.fine:=λc hc=>Cert.rd_fine (Y c hc);have a7:q.length<1000000:=by have:=zoF M;omega
 have G:∀ {L X:List Res}{j:World},Holds w.heap.size No (L++X) j->Has L (.row (.slice a q.length kc) 45 11 q.length (List.zipWith zE S q).flatten)->(∀r∈allRows S.reverse q.reverse,r∈L)->zck j a kc S q:=λm I hL=>zkc m I a9 hL Y;have P:=λj (E:Keep No w j) h=>zgH a q.length kc S q j (hG.to E) rfl h b3 a7;have b1:=λj h (F:zaF svK q=true)=>by
  have b7:=zgO svK_law F;have T:=F;simp only[zaF,A5,decide_eq_true_eq,AD] at T;exact zlx a q.length kc S q j rfl h (λx hx=>F1 svK_law (T.2 x hx)) q_o q_o
 unfold zbA zbT at b1;have V:=λj Z cW (M:SlA j Z ((zbx q).map v8)) (h2:SlA j s.a (s.l.map v8))=>zgC Z s.a (zbx q).length cW s.n s.c (zbx q) s.l j rfl b5 M h2;generalize hA:allRows S.reverse q.reverse=A at*;by_cases hd:sR.n-k=0
 ·have N:=λj I hc=>zj5 H sR k j I h2 hc q_o hd;have b0:b6= []:=by rw[<-h3];exact(zaM a6).2 hd
  subst b0;have K:=zt4 (sv:=svK) M;by_cases F:zaF svK q=true
  ·have U:=λj h=>b1 j h F;rw[F] at P;obtain⟨y,hy⟩:∃y,(zbx q==s.l)=y:=⟨_,rfl⟩;rw[hy] at V;cases y with
   |true=>
    rw[if_pos ⟨F,beq_iff_eq.1 hy⟩] at K;repeat' (first|refine s_0 ?_|refine ze 5 ?_;refine zl ?_;refine q_v (za (hc:=λj X E m=>N j (zq (m.has (r:=zh H sR k) q_h) Em) (O m En En).cap)) ?_|refine q_k 6 ?_;refine q_v (za (hc:=λj X E m=>P j E (G m En (λr I=>A0 _ (A0 _ (A0 _ (A0 _ (A0 _ (A7 _ I))))))))) ?_;refine zf ?_;(refine q_s (zn (hc:=λj X E m=>U j (G m En (λr I=>A0 _ (A0 _ (A0 _ (A0 _ (A0 _ (A7 _ I))))))))) ?_;rintro _ _ ⟨R,rfl,Z,cW,rfl,rfl⟩);refine zf ?_;refine q_v (za (hc:=λj X E m=>V j Z cW (zc9 m q_h) (hs.keep E).sla)) ?_;refine zf ?_;refine q_v (za (hc:=q_c zdh)) ?_|refine q_k 7 ?_;refine zJ ?_|(refine zx ?_;first|refine zo ?_|fail)|fail)
    refine(zr4 s.l w b9 J S q a kc K Y a9).weaken q_h ?_;rw[hA]
    (repeat' (first|exact El|apply Es;with_reducible (focus ((repeat (first|exact Ej|apply Ek));done))|apply Ez;(focus ((repeat (first|exact Ej|apply Ek));done))|apply Es;(focus ((repeat (first|exact Ej|apply Ek));done))|apply Ew;(focus ((repeat (first|exact Ej|apply Ek));done))|rfl))
    all_goals (repeat (first|exact Ep|exact⟨_,Ac⟩|apply Ex))
   |false=>
    rw[if_neg (λh=>by rw[h.2] at hy;simp at hy)] at K;repeat' (first|refine s_0 ?_|refine ze 5 ?_;refine zl ?_;refine q_v (za (hc:=λj X E m=>N j (zq (m.has (r:=zh H sR k) q_h) Em) (O m En En).cap)) ?_|refine q_k 6 ?_;refine q_v (za (hc:=λj X E m=>P j E (G m En (λr I=>A0 _ (A0 _ (A0 _ (A0 _ (A0 _ (A7 _ I))))))))) ?_;refine zf ?_;(refine q_s (zn (hc:=λj X E m=>U j (G m En (λr I=>A0 _ (A0 _ (A0 _ (A0 _ (A0 _ (A7 _ I))))))))) ?_;rintro _ _ ⟨R,rfl,Z,cW,rfl,rfl⟩);refine zf ?_;refine q_v (za (hc:=λj X E m=>V j Z cW (zc9 m q_h) (hs.keep E).sla)) ?_;refine zf ?_;(refine za0 (hc:=λj _ _ _=>zcS j) ?_)|refine zH ?_|(refine zx ?_;first|refine zo ?_|fail)|fail)
    refine(zfP s.l w b9 J K).weaken q_h ?_
    (repeat' (first|exact El|apply Es;with_reducible (focus ((repeat (first|exact Ej|apply Ek));done))|apply Ez;(focus ((repeat (first|exact Ej|apply Ek));done))|apply Es;(focus ((repeat (first|exact Ej|apply Ek));done))|apply Ew;(focus ((repeat (first|exact Ej|apply Ek));done))|rfl))
    all_goals (repeat (first|exact Ep|exact⟨_,Ac⟩|apply Ex))
  ·rw[if_neg (λh=>F h.1)] at K;rw[Bo] at F;rw[F] at P;repeat' (first|refine s_0 ?_|refine ze 5 ?_;refine zl ?_;refine q_v (za (hc:=λj X E m=>N j (zq (m.has (r:=zh H sR k) q_h) Em) (O m En En).cap)) ?_|refine q_k 6 ?_;refine q_v (za (hc:=λj X E m=>P j E (G m En (λr I=>A0 _ (A0 _ (A0 _ (A0 _ (A0 _ (A7 _ I))))))))) ?_;refine zf ?_;(refine za0 (hc:=λj _ _ _=>zcS j) ?_)|refine zH ?_|(refine zx ?_;first|refine zo ?_|fail)|fail)
   refine(zfP s.l w b9 J K).weaken q_h ?_
   (repeat' (first|exact El|apply Es;with_reducible (focus ((repeat (first|exact Ej|apply Ek));done))|apply Ez;(focus ((repeat (first|exact Ej|apply Ek));done))|apply Es;(focus ((repeat (first|exact Ej|apply Ek));done))|apply Ew;(focus ((repeat (first|exact Ej|apply Ek));done))|rfl))
   all_goals (repeat (first|exact Ep|exact⟨_,Ac⟩|apply Ex))
 ·have N:=λj I hc=>zkf H sR k j I h2 hc q_o hd;repeat' (first|refine s_0 ?_|refine ze 5 ?_;refine zl ?_;(refine za0 (hc:=λj X E m=>N j (zq (m.has (r:=zh H sR k) q_h) Em) (O m En En).cap) ?_)|refine zH ?_|(refine zx ?_;first|refine zo ?_|fail)|fail)
  refine(zfP s.l w b9 J (zpV M (λh=>hd ((zaM a6).1 (by rw[h3];exact h))))).weaken q_h ?_
  (repeat' (first|exact El|apply Es;with_reducible (focus ((repeat (first|exact Ej|apply Ek));done))|apply Ez;(focus ((repeat (first|exact Ej|apply Ek));done))|apply Es;(focus ((repeat (first|exact Ej|apply Ek));done))|apply Ew;(focus ((repeat (first|exact Ej|apply Ek));done))|rfl))
  all_goals (repeat (first|exact Ep|exact⟨_,Ac⟩|apply Ex))
theorem zr9(s:Bs)(w:World)(G:GT w)(H:s.ok w)(hb:s.n<1000000):Sy.Fn Tryz.prog 22 [s.val] w No (DecR s.l):=by
 refine zz Tryz.func22 Tryz.ntmps22 ?_;have h:=λF (E:Keep No w F)=>zql s F (G.to E) (H.keep E) hb;have I:s.val= .slice s.a s.n s.c:=rfl;rw[I] at h ⊢;unfold DecR at h;repeat' (first|refine s_0 ?_|refine ze 0 ?_;refine z9 ?_;intro _|refine q_k 1 ?_;(refine q_s (zn (hc:=zr h)) ?_;rintro _ _ ⟨R,rfl,(⟨c,p,r,rfl,rfl⟩|⟨r,rfl,rfl⟩)⟩);refine zf ?_;refine zJ ?_;refine zf ?_|(refine zx ?_;first|refine zo ?_|refine zC ?_|refine zJ ?_|fail)|fail)
 ·have A:(zE p c).length=11:=rfl;have m:(zE p c).all (·.oneCell')=true:=rfl;obtain⟨q,j⟩:∃q,q=zE p c:=⟨_,rfl⟩;rw[<-j] at A m ⊢;repeat' (first|fail)
  exact zT rfl (zB (B:=q) rfl (ty rfl) rfl En Em A.symm) (zj rfl) (R:=zac p c) (by unfold zac;exact FE) (.inl ⟨c,p,r,by rw[j];rfl,rfl⟩)
 ·repeat' (first|fail)
  exact zT rfl (zB (B:=zE zjV zgm) rfl (ty rfl) rfl En Em rfl) (zj rfl) El (.inr ⟨r,rfl,rfl⟩)
theorem zpQ(s:Bs)(w:World)(E:GT w)(F:s.ok w)(hb:s.n<1000000):Sy.Fn Tryz.prog 16 [s.val] w No (DecCR s.l):=by
 refine zz Tryz.func16 Tryz.ntmps16 ?_;have h:=λq (m:Keep No w q)=>zon s q (E.to m) (F.keep m) hb;have G:s.val= .slice s.a s.n s.c:=rfl;rw[G] at h ⊢;unfold DecCR at h;repeat' (first|refine s_0 ?_|refine q_k 0 ?_|refine q_k 1 ?_;(refine q_s (zn (hc:=zr h)) ?_;rintro _ _ ⟨R,rfl,(⟨r,a,k,H,j,A,B,rfl,rfl⟩|⟨j,rfl,rfl⟩)⟩);refine zf ?_|(refine zx ?_;first|refine zo ?_|refine zC ?_|fail)|fail)
 ·exact zT rfl (zj rfl) (zj rfl) ⟨[],by simp⟩ (.inl ⟨r,a,k,H,j,A,B,rfl,rfl⟩)
 ·exact zT rfl (zj rfl) (zj rfl) El (.inr ⟨j,rfl,rfl⟩)
end
open Go Go.Sy Go.Ct Go.Nt Go.RowKit
attribute [local irreducible] Sy SyL SyX SyC SyF Sy.Fn callFunc
theorem eight{j m q r w A B E:Bool} :j=false\/(j=true/\m=false)\/(j=true/\m=true/\q=false)\/(j=true/\m=true/\q=true/\r=false)\/(j=true/\m=true/\q=true/\r=true/\w=false)\/(j=true/\m=true/\q=true/\r=true/\w=true/\A=false)\/(j=true/\m=true/\q=true/\r=true/\w=true/\A=true/\B=false)\/(j=true/\m=true/\q=true/\r=true/\w=true/\A=true/\B=true/\E=false)\/(j=true/\m=true/\q=true/\r=true/\w=true/\A=true/\B=true/\E=true):=by
 cases j <;> cases m <;> cases q <;> cases r <;> cases w <;> cases A <;> cases B <;> cases E <;> simp
theorem znf(p q:Pl)(c d:Cert)(w:World)(h:CertAt w p c)(J:CertAt w q d)(U:c.fine):q_G 23 [.agg (zE p c).toArray,.agg (zE q d).toArray] w (.bool (c.same d)):=by
 refine zz Tryz.func23 Tryz.ntmps23 ?_;have q2:=λS (K:Keep No w S)=>zlt _ _ _ _ c.issuer d.issuer S (h.iss.keep K) (J.iss.keep K) U.i.1;have q3:=λS (K:Keep No w S)=>zlt _ _ _ _ c.subject d.subject S (h.sub.keep K) (J.sub.keep K) U.s.1;have s3:=h.pub.sla;have N:=J.pub.sla;have s4:=h.sig.sla;have O:=J.sig.sla;dsimp only at s3 N s4 O;have g8:decide (c.pub=d.pub)=(c.pub==d.pub):=by by_cases h:c.pub=d.pub <;> simp[h]
 have g9:decide (c.sig=d.sig)=(c.sig==d.sig):=by by_cases h:c.sig=d.sig <;> simp[h]
 unfold Cert.same;unfold zE za1 at*;clear h J U;obtain⟨serial,⟨L,M⟩,⟨P,Q⟩,fr,til,auth,group,pub,sig⟩:=c;obtain⟨j,⟨r,A⟩,⟨G,H⟩,T,R,I,m,E,F⟩:=d;dsimp only at*;generalize (sig==F)=x9,(pub==E)=x8,Z:decide (group=m)=x7,Y:(auth==I)=x6,X:decide (til=R)=x5,W:decide (fr=T)=x4,Prin.same ⟨P,Q⟩ ⟨G,H⟩=x3,Prin.same ⟨L,M⟩ ⟨r,A⟩=x2,V:decide (serial=j)=x1 at*;rcases @eight x1 x2 x3 x4 x5 x6 x7 x8 with rfl|⟨rfl,rfl⟩|⟨rfl,rfl,rfl⟩|⟨rfl,rfl,rfl,rfl⟩|⟨rfl,rfl,rfl,rfl,rfl⟩|⟨rfl,rfl,rfl,rfl,rfl,rfl⟩|⟨rfl,rfl,rfl,rfl,rfl,rfl,rfl⟩|⟨rfl,rfl,rfl,rfl,rfl,rfl,rfl,rfl⟩|⟨rfl,rfl,rfl,rfl,rfl,rfl,rfl,rfl⟩
 all_goals repeat' (first|refine s_0 ?_|refine ze 0 ?_;refine zi ?_;intro _;refine z9 ?_;intro _|refine q_k 1 ?_;refine zl ?_;refine zf ?_;refine zl ?_;refine q_x (zY (hr:=V)) ?_;(first|refine q_v (zd (B:=[.slice p.a1 L.length p.k1,zW M]) (hv:=FB rfl)) ?_|skip|fail);(try refine zf ?_);(first|refine q_v (zd (B:=[.slice q.a1 r.length q.k1,zW A]) (hv:=FB rfl)) ?_|skip|fail);(first|refine q_v (za (hc:=zr q2)) ?_|refine zt rfl rfl rfl ?_|skip);(try refine zf ?_);(first|refine q_v (zd (B:=[.slice p.a2 P.length p.k2,zW Q]) (hv:=FB rfl)) ?_|skip|fail);(try refine zf ?_);(first|refine q_v (zd (B:=[.slice q.a2 G.length q.k2,zW H]) (hv:=FB rfl)) ?_|skip|fail);(first|refine q_v (za (hc:=zr q3)) ?_|refine zt rfl rfl rfl ?_|skip);(try refine zf ?_);(first|refine zl ?_|skip|fail);(try refine zf ?_);(first|refine zl ?_|skip|fail);(first|refine q_v (zY (hr:=W)) ?_|refine zt rfl rfl rfl ?_|skip);(try refine zf ?_);(first|refine zl ?_|skip|fail);(try refine zf ?_);(first|refine zl ?_|skip|fail);(first|refine q_v (zY (hr:=X)) ?_|refine zt rfl rfl rfl ?_|skip);(try refine zf ?_);(first|refine zl ?_|skip|fail);(try refine zf ?_);(first|refine zl ?_|skip|fail);(first|refine q_v (zik (hr:=Y)) ?_|refine zt rfl rfl rfl ?_|skip);(try refine zf ?_);(first|refine zl ?_|skip|fail);(try refine zf ?_);(first|refine zl ?_|skip|fail);(first|refine q_v (zY (hr:=Z)) ?_|refine zt rfl rfl rfl ?_|skip);(try refine zf ?_);(first|refine zl ?_|skip|fail);(first|refine q_v (zcE (l:=pub) (hr:=F4 s3 (λ_ _ h=>h))) ?_|refine zt rfl rfl rfl ?_|skip);(try refine zf ?_);(first|refine zl ?_|skip|fail);(first|refine q_v (zcE (l:=E) (hr:=F4 N (λ_ _ h=>h))) ?_|refine zt rfl rfl rfl ?_|skip);(first|refine q_v (zbb (hr:=g8)) ?_|refine zt rfl rfl rfl ?_|skip);(try refine zf ?_);(first|refine zl ?_|skip|fail);(first|refine q_v (zcE (l:=sig) (hr:=F4 s4 (λ_ _ h=>h))) ?_|refine zt rfl rfl rfl ?_|skip);(try refine zf ?_);(first|refine zl ?_|skip|fail);(first|refine q_v (zcE (l:=F) (hr:=F4 O (λ_ _ h=>h))) ?_|refine zt rfl rfl rfl ?_|skip);(first|refine q_v (zbb (hr:=g9)) ?_|refine zt rfl rfl rfl ?_|skip);(try refine zf ?_))
 all_goals exact q_r
end Go.Proofs.YtdnlngbjpdbffaaGreatDoor
namespace Go.Ct
open Go Go.Sy
theorem zty{sv:Int->List UInt8->Bool}{b:List UInt8}{l:List Cert}(h:zcW sv b=some l):∀c∈l,c.rd b.length:=by
 unfold zcW at h;split at h
 ·rename_i d j;split at h
  ·cases h;exact zkm j
  ·cases h
 ·cases h
def chained(l:List Cert):Bool:=l.all Cert.tiny&&decide (l.length<=7)
def zhQ(an:List Anch):Bool:=an.all (λx=>x.name.short&&decide (x.pub.length<=300))
def zhW(rs:List Revo):Bool:=rs.all (λr=>r.issuer.short)
theorem zmB{l:List Cert}(h:chained l=true):l.length<=7/\∀x∈l,x.fine:=by
 simp only[chained,A5,decide_eq_true_eq,AD] at h;exact⟨h.2,λx j=>(Cert.tiny_fine (h.1 x j)).1⟩
end Go.Ct
namespace Go.Proofs.YtdnlngbjpdbffaaGreatDoor
open Go Go.Sy Go.Ct Go.Nt Go.RowKit
attribute [local irreducible] Sy SyL SyX SyC SyF Sy.Fn callFunc
theorem zpN(a:Option Addr)(n c:Nat)(ps:List Pl)(l:List Cert)(w:World)(hn:l.length=n)(h:zck w a c ps l)(hb:n<=maxLen):q_G 10 [.slice a n c] w (.bool (chained l)):=by
 refine zz Tryz.func10 Tryz.ntmps10 ?_;unfold maxLen at hb;unfold chained;repeat' (first|refine s_t ?_|refine zL [0,1] ?_;refine zf ?_)
 refine zX (γ:=Nat) (λi=>[(0,.slice a n c),(2,.bool false),(3,.int .i64 (i:Int))]) (λ_=>[]) (λi=>i<=n/\(l.take i).all Cert.tiny=true) (λi=>n-i) 0 ⟨AE _,rfl⟩ ?_ ?_ ?_
 ·exact q_h
 ·exact q_h
 rintro i ⟨I,m⟩;by_cases hlt:i<n
 ·obtain⟨H,K,p,rfl,J,r,hc⟩:=h.at (k:=11) q_e (λ_ _=>rfl) (i:=i) q_o;have A:l[i]∈l:=AX q_o;have B:l.take (i+1)=l.take i++[l[i]]:=zaI q_o;have hv:=λF (G:Keep No w F)=>zsz p l[i] F (r.keep G);have E:(zE p l[i]).length=11:=rfl;generalize l[i]=x at*;generalize zE p x=C at*;have g1:decide ((i:Int)<(n:Int))=true:=q_d;have g5:IntKind.i64.wrap ((i:Int)+1)=((i+1:Nat):Int):=q_w;by_cases hx:x.tiny=true
  ·rw[hx] at hv;repeat' (first|refine s_t ?_|refine q_k 2 ?_;refine q_v (zm (hr:=g1)) ?_|refine q_k 4 ?_;refine q_v (zS (j:=i)) ?_;refine q_v (zK (hv:=hc) (hz:=E.symm)) ?_;refine q_v (za (hc:=zr hv)) ?_;refine zI ?_|refine q_k 3 ?_;refine q_x (zN (hr:=g5)) ?_)
   refine zQ (i+1) ⟨hlt,by rw[B,BK,m];simp[hx]⟩ ?_ ?_ ?_
   ·show n-(i+1)<n-i;omega
   ·exact q_h
   ·exact q_h
  ·rw[Bo] at hx;rw[hx] at hv;have q:l.all Cert.tiny=false:=by rw[BT];exact⟨x,A,by rw[hx];decide⟩
   rw[q,BC];repeat' (first|refine s_t ?_|refine q_k 2 ?_;refine q_v (zm (hr:=g1)) ?_|refine q_k 4 ?_;refine q_v (zS (j:=i)) ?_;refine q_v (zK (hv:=hc) (hz:=E.symm)) ?_;refine q_v (za (hc:=zr hv)) ?_;refine zI ?_|refine q_k 5 ?_)
   exact q_r
 obtain rfl:i=n:=q_o;rw[A9 q_o] at m;rw[m,B1,hn];have g1:decide ((i:Int)<(i:Int))=false:=q_f;have g2:decide ((i:Int)<=7)=decide (i<=7):=decide_eq_decide.2 q_o;repeat' (first|refine s_0 ?_|refine q_k 2 ?_;refine q_v (zm (hr:=g1)) ?_|refine q_k 6 ?_;refine q_x (zaP (hr:=g2)) ?_)
 exact q_r
theorem zq6(L M:Option Addr)(B O nr cr:Nat)(V:List Pa)(q:List Anch)(W:List (Option Addr×Nat))(rs:List Revo)(w:World)(a6:q.length=B)(a7:rs.length=nr)(Z:zeI w L O V q)(hR:zcP w M cr W rs)(hb:B<=maxLen)(Q:nr<=maxLen):q_G 19 [.slice L B O,.slice M nr cr] w (.bool (zhQ q&&zhW rs&&(decide (B<=5)&&decide (nr<=5)))):=by
 refine zz Tryz.func19 Tryz.ntmps19 ?_;unfold maxLen at hb Q;repeat' (first|refine s_t ?_|refine zL [0,1] ?_;refine zf ?_)
 refine zX (γ:=Nat) (λi=>[(0,.slice L B O),(1,.slice M nr cr),(4,.bool false),(5,.int .i64 (i:Int))]) (λ_=>[]) (λi=>i<=B/\zhQ (q.take i)=true) (λi=>B-i) 0 ⟨AE _,rfl⟩ ?_ ?_ ?_
 ·exact q_h
 ·exact q_h
 rintro i ⟨S,m⟩;by_cases hlt:i<B
 ·obtain⟨N,P,p,rfl,hp,E,hc⟩:=Z.at (k:=4) q_e (λ_ _=>rfl) (i:=i) q_o;have G:q[i]∈q:=AX q_o;have H:q.take (i+1)=q.take i++[q[i]]:=zaI q_o;have hv:=λK (U:Keep No w K)=>zhz _ _ q[i].name K (E.name.keep U);have A:w.rangeAt N (P+i*4) (za1 p.a1 p.k1 q[i].name):=λj v T=>hc j v (by
   have:zb0 p q[i]=za1 p.a1 p.k1 q[i].name++[.int .i64 q[i].group,.slice p.a2 q[i].pub.length p.k2]:=rfl;rw[this,B4 (AL.1 T).1];exact T)
  have J:w.cell? ⟨N,P+i*4+3,none⟩=some (.slice p.a2 q[i].pub.length p.k2):=hc 3 _ rfl;have I:(za1 p.a1 p.k1 q[i].name).length=2:=rfl;generalize q[i]=x at*;generalize za1 p.a1 p.k1 x.name=Y at*;have g1:decide ((i:Int)<(B:Int))=true:=q_d;have g5:IntKind.i64.wrap ((i:Int)+1)=((i+1:Nat):Int):=q_w;have r:(x.name.short&&decide (x.pub.length<=300))=false->zhQ q=false:=λh=>by
   unfold zhQ;rw[BT];exact⟨x,G,by rw[h];decide⟩
  have F:(x.name.short&&decide (x.pub.length<=300))=true->zhQ (q.take (i+1))=true:=λh=>by
   unfold zhQ at m ⊢;rw[H,BK,m,BI,DN,h];rfl
  generalize x.name.short=u at*;rcases(show u=false\/(u=true/\300<x.pub.length)\/(u=true/\x.pub.length<=300) by cases u <;> simp <;> omega) with rfl|⟨rfl,X⟩|⟨rfl,X⟩
  ·rw[r rfl,BC,BC];repeat' (first|refine s_t ?_|refine q_k 2 ?_;refine q_v (zm (hr:=g1)) ?_|refine q_k 4 ?_;refine q_x (zS (j:=i)) ?_;refine q_v (zK (hv:=A) (hz:=I.symm)) ?_;refine q_v (za (hc:=zr hv)) ?_;refine zI ?_;refine zf ?_|refine q_k 5 ?_)
   exact q_r
  ·rw[r (by rw[decide_eq_false q_o];rfl),BC,BC];have g2:decide ((x.pub.length:Int)>300)=true:=q_d;repeat' (first|refine s_t ?_|refine q_k 2 ?_;refine q_v (zm (hr:=g1)) ?_|refine q_k 4 ?_;refine q_x (zS (j:=i)) ?_;refine q_v (zK (hv:=A) (hz:=I.symm)) ?_;refine q_v (za (hc:=zr hv)) ?_;refine zI ?_;refine zf ?_;refine q_x (zS (j:=i)) ?_;refine q_x (zp (hv:=J)) ?_;refine q_x (zF (hr:=g2)) ?_|refine q_k 5 ?_)
   exact q_r
  ·have R:=F (by rw[decide_eq_true X];rfl);have g2:decide ((x.pub.length:Int)>300)=false:=q_f;repeat' (first|refine s_t ?_|refine q_k 2 ?_;refine q_v (zm (hr:=g1)) ?_|refine q_k 4 ?_;refine q_x (zS (j:=i)) ?_;refine q_v (zK (hv:=A) (hz:=I.symm)) ?_;refine q_v (za (hc:=zr hv)) ?_;refine zI ?_;refine zf ?_;refine q_x (zS (j:=i)) ?_;refine q_x (zp (hv:=J)) ?_;refine q_x (zF (hr:=g2)) ?_|refine q_k 3 ?_;refine q_x (zN (hr:=g5)) ?_)
   refine zQ (i+1) ⟨hlt,R⟩ ?_ ?_ ?_
   ·show B-(i+1)<B-i;omega
   ·exact q_h
   ·exact q_h
 obtain rfl:i=B:=q_o;rw[A9 q_o] at m;rw[m,B1];have g1:decide ((i:Int)<(i:Int))=false:=q_f;repeat' (first|refine s_t ?_|refine q_k 2 ?_;refine q_v (zm (hr:=g1)) ?_|refine q_k 6 ?_)
 refine zX (γ:=Nat) (λj=>[(0,.slice L i O),(1,.slice M nr cr),(4,.bool false),(6,.int .i64 (j:Int))]) (λ_=>[]) (λj=>j<=nr/\zhW (rs.take j)=true) (λj=>nr-j) 0 ⟨AE _,rfl⟩ ?_ ?_ ?_
 ·exact q_h
 ·exact q_h
 clear m;rintro j ⟨T,m⟩;by_cases hlt:j<nr
 ·obtain⟨N,P,p,rfl,hp,E,hc⟩:=hR.at (k:=3) q_e (λ_ _=>rfl) (i:=j) q_o;have G:rs[j]∈rs:=AX q_o;have H:rs.take (j+1)=rs.take j++[rs[j]]:=zaI q_o;have hv:=λK (U:Keep No w K)=>zhz _ _ rs[j].issuer K (E.name.keep U);have A:w.rangeAt N (P+j*3) (za1 p.1 p.2 rs[j].issuer):=λi v S=>hc i v (by
   have:zbu p rs[j]=za1 p.1 p.2 rs[j].issuer++[.int .i64 rs[j].serial]:=rfl;rw[this,B4 (AL.1 S).1];exact S)
  have I:(za1 p.1 p.2 rs[j].issuer).length=2:=rfl;generalize rs[j]=x at*;generalize za1 p.1 p.2 x.issuer=Y at*;have g1:decide ((j:Int)<(nr:Int))=true:=q_d;have g5:IntKind.i64.wrap ((j:Int)+1)=((j+1:Nat):Int):=q_w;have r:x.issuer.short=false->zhW rs=false:=λh=>by
   unfold zhW;rw[BT];exact⟨x,G,by rw[h];decide⟩
  have F:x.issuer.short=true->zhW (rs.take (j+1))=true:=λh=>by
   unfold zhW at m ⊢;rw[H,BK,m,BI,DN,h];rfl
  generalize x.issuer.short=u at*;cases u
  ·rw[r rfl,BC];repeat' (first|refine s_t ?_|refine q_k 7 ?_;refine q_v (zm (hr:=g1)) ?_|refine q_k 9 ?_;refine q_x (zS (j:=j)) ?_;refine q_v (zK (hv:=A) (hz:=I.symm)) ?_;refine q_v (za (hc:=zr hv)) ?_;refine zI ?_|refine q_k 10 ?_)
   exact q_r
  ·have R:=F rfl;repeat' (first|refine s_t ?_|refine q_k 7 ?_;refine q_v (zm (hr:=g1)) ?_|refine q_k 9 ?_;refine q_x (zS (j:=j)) ?_;refine q_v (zK (hv:=A) (hz:=I.symm)) ?_;refine q_v (za (hc:=zr hv)) ?_;refine zI ?_|refine q_k 8 ?_;refine q_x (zN (hr:=g5)) ?_)
   refine zQ (j+1) ⟨hlt,R⟩ ?_ ?_ ?_
   ·show nr-(j+1)<nr-j;omega
   ·exact q_h
   ·exact q_h
 obtain rfl:j=nr:=q_o;rw[A9 q_o] at m;rw[m,B1];have g1:decide ((j:Int)<(j:Int))=false:=q_f;have g2:decide ((i:Int)<=5)=decide (i<=5):=decide_eq_decide.2 q_o;have g3:decide ((j:Int)<=5)=decide (j<=5):=decide_eq_decide.2 q_o;generalize decide (j<=5)=y,decide (i<=5)=x at*;cases x;all_goals repeat' (first|refine s_0 ?_|refine q_k 7 ?_;refine q_v (zm (hr:=g1)) ?_|refine q_k 11 ?_;refine q_x (zaP (hr:=g2)) ?_;(first|refine q_v (zaP (hr:=g3)) ?_|skip|fail);(try refine zf ?_))
 all_goals exact q_r
attribute [local irreducible] SyG SyH Sy.FnP
theorem zr1(a b:Option Addr)(n c d:Nat)(ps O:List Pl)(l:List Cert)(w:World)(hn:l.length=n)(h:zck w a c ps l)(J:zck w b d O l)(L:∀x∈l,x.fine)(hb:n<1000000000):q_G 18 [.slice a n c,.slice b n d] w (.bool true):=by
 refine zz Tryz.func18 Tryz.ntmps18 ?_;have g0:decide ((n:Int)≠(n:Int))=false:=decide_eq_false (λh=>h rfl);repeat' (first|refine s_t ?_|refine zL [0,3] ?_;refine zf ?_|refine q_k 1 ?_;refine q_v (zV (hr:=g0)) ?_)
 refine zX (γ:=Nat) (λi=>[(0,.slice a n c),(1,.slice b n d),(5,.int .i64 (i:Int))]) (λ_=>[]) (λi=>i<=n) (λi=>n-i) 0 (AE _) ?_ ?_ ?_
 ·exact q_h
 ·exact q_h
 intro i R;by_cases hlt:i<n
 ·obtain⟨Q,T,p,rfl,S,A,hc⟩:=h.at (k:=11) q_e (λ_ _=>rfl) (i:=i) q_o;obtain⟨I,N,F,rfl,M,m,B⟩:=J.at (k:=11) q_e (λ_ _=>rfl) (i:=i) q_o;have E:=L l[i] (AX q_o);have q:=λH (G:Keep No w H)=>znf p F l[i] l[i] H (A.keep G) (m.keep G) E;rw[Fk.2 rfl] at q;have K:(zE p l[i]).length=11:=rfl;have r:(zE F l[i]).length=11:=rfl;generalize l[i]=x,zE F l[i]=P at*;generalize zE p x=C at*;have g1:decide ((i:Int)<(n:Int))=true:=q_d;have g5:IntKind.i64.wrap ((i:Int)+1)=((i+1:Nat):Int):=q_w;repeat' (first|refine s_t ?_|refine q_k 4 ?_;refine q_v (zm (hr:=g1)) ?_)
  (refine zdq (id:=6) [0,1,2,3,4,5,6,7] [8,9] mixed ?_ ?_;kernel_rfl;refine yfv zar (k:=?_);refine yfv zar (k:=?_);refine yfv (zS (j:=i)) (k:=?_);refine yfv (zK (hv:=hc) (hz:=K.symm)) (k:=?_);refine yfv zar (k:=?_);refine yfv zar (k:=?_);refine yfv (zS (j:=i)) (k:=?_);refine yfv (zK (hv:=B) (hz:=r.symm)) (k:=?_);refine yf0 ?_;refine ycv (za (hc:=zr q)) (k:=?_);refine ycv zka (k:=?_);try refine yc0 (k:=?_))
  repeat' (first|refine s_0 ?_|refine q_k 5 ?_;refine q_x (zN (hr:=g5)) ?_)
  refine zQ (i+1) hlt ?_ ?_ ?_
  ·show n-(i+1)<n-i;omega
  ·exact q_h
  ·exact q_h
 obtain rfl:i=n:=q_o;have g1:decide ((i:Int)<(i:Int))=false:=q_f;repeat' (first|refine s_0 ?_|refine q_k 4 ?_;refine q_v (zm (hr:=g1)) ?_|refine q_k 8 ?_)
 exact q_r
def zuT(cs:List Cert)(v:Value)(R:List Res):Prop:=∃a k ps,ps.length=cs.length/\v= .tuple #[.slice a cs.length k,.int .i64 0]/\R= .row (.slice a cs.length k) 45 11 cs.length (List.zipWith zE ps cs).flatten::allRows ps.reverse cs.reverse
theorem DecCR.some{l:List UInt8}{d:List Cert}(h:zcW svK l=some d){v:Value}{R:List Res}(hv:DecCR l v R):zuT d v R:=by
 rcases hv with ⟨A,a,k,w,j,-,m,q,r⟩|⟨j,-,-⟩
 ·rw[h] at j;cases j;exact⟨a,k,w,m,q,r⟩
 ·rw[h] at j;cases j
end Go.Proofs.YtdnlngbjpdbffaaGreatDoor
