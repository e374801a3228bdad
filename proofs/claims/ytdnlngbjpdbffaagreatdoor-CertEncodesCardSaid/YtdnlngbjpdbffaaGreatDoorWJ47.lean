/- Lemmas of this proof. -/
import Derived.Test.YtdnlngbjpdbffaaGreatDoorWJ46
set_option maxHeartbeats 4000000
set_option maxRecDepth 10000
set_option linter.all false
namespace Go.Ct
open Go Go.Sy
theorem zqn{sv:Int->List UInt8->Bool}{b:List UInt8}{c:Cert}(h:zc6 sv b=some c):c.rd b.length:=by
 unfold zc6 at h;split at h
 ·rename_i d j;split at h
  ·cases h;exact zmg j
  ·cases h
 ·cases h
end Go.Ct
namespace Go.Proofs.YtdnlngbjpdbffaaGreatDoor
open Go Go.Sy Go.Ct Go.Nt Go.RowKit
attribute [local irreducible] Sy SyL SyX SyC SyF SyG SyH Sy.Fn Sy.FnP callFunc
def zvF(d:Cert)(v:Value)(R:List Res):Prop:=∃p,v= .tuple #[.agg (zG p d).toArray,.int .i64 0]/\R=zaa p d
theorem DecR.some{l:List UInt8}{d:Cert}(h:zc6 svK l=some d){v:Value}{R:List Res}(hv:DecR l v R):zvF d v R:=by
 rcases hv with ⟨c,p,j,m,q⟩|⟨j,-,-⟩
 ·rw[h] at j;cases j;exact⟨p,m,q⟩
 ·rw[h] at j;cases j
def Fv:=@DecR.some
theorem DecR.none{l:List UInt8}(h:zc6 svK l=none){v:Value}{R:List Res}(hv:DecR l v R):zij (.tuple #[.agg (zG zfm noCert).toArray,.int .i64 6]) v R:=by
 rcases hv with ⟨c,p,j,-,-⟩|⟨-,m,q⟩
 ·rw[h] at j;cases j
 ·exact⟨m,q⟩
def Fw:=@DecR.none
theorem zlB(p:Pl)(c:Cert)(s:Bs)(w:World)(hG:GT w)(hT:Tab w No)(hS:ST w)(h:CertAt w p c)(hs:s.ok w):q_G 9 [.agg (zG p c).toArray,s.val] w (.bool true):=by
 refine zt Tryz.func9 Tryz.ntmps9 ?_;have a9:=λj (m:Keep No w j)=>zri j (hG.to m) (hT.no m) (hS.to m);have b0:=λj (m:Keep No w j)=>zt6 p c j (h.keep m);have hC:(zG p c).length=11:=rfl;have b6:s.val= .slice s.a s.n s.c:=rfl;have b9:=hs.len;rw[b6];by_cases hg:¬(c.tiny=true/\s.n<=800)
 ·obtain⟨y1,g1⟩:∃y,decide ((s.n:Int)>800)=y:=⟨_,rfl⟩;have b3:c.tiny=false\/(c.tiny=true/\y1=true):=by
   cases hx:c.tiny
   ·exact .inl rfl
   ·rw[hx] at hg;cases y1
    ·have e1:=of_decide_eq_false g1;exact(hg ⟨rfl,by omega⟩).elim
    ·exact .inr ⟨rfl,rfl⟩
  clear hg;generalize c.tiny=x,zG p c=C at*;rcases b3 with rfl|⟨rfl,rfl⟩
  all_goals repeat' (first|refine s_0 ?_|refine zf 0 ?_;refine zW ?_;intro _|refine zf 1 ?_;refine q_v (ze (B:=C) (hz:=hC.symm)) ?_;refine q_v (za (hc:=zu b0)) ?_;refine zJ ?_;refine zb ?_;(first|refine q_v (zH (hr:=g1)) ?_|skip|fail);(try refine zb ?_)|refine zf 2 ?_;refine q_v (za (hc:=zu a9)) ?_;refine zb ?_)
  all_goals exact q_r
 obtain⟨N,n1⟩:=DR.1 hg;clear hg;obtain⟨fa,pa,sa⟩:=Cert.tiny_fine N;rw[N] at b0;have g1:decide ((s.n:Int)>800)=false:=q_f;have b1:=λj (m:Keep No w j)=>zkP p c j (hG.to m) (h.keep m) fa;have b2:=λj (m:Keep No w j)=>zd9 p c j (hG.to m) (h.keep m) fa;have J:=zkw;have Q:=λj (m:Keep No w j)=>zrN s j (hG.to m) (hs.keep m) q_o;have S:=λj (m:Keep No w j)=>zrk s j (hG.to m) (hs.keep m) q_o;rw[b6] at Q S;by_cases hok:c.ok svK=true
 ·rw[hok] at b1 b2;have b4:=λj (m:Keep No w j)=>zpT p c j (hG.to m) (h.keep m) fa hok;have b5:=λj (m:Keep No w j)=>zk8 p c j (h.keep m) (F9 zef hok);unfold zbi at b5;generalize zG p c=C at*;have b7:decide (c.der≠c.der)=false:=decide_eq_false (λh=>h rfl);repeat' (first|refine s_0 ?_|refine zf 0 ?_;refine zW ?_;intro _|refine zf 1 ?_;refine q_v (ze (B:=C) (hz:=hC.symm)) ?_;refine q_v (za (hc:=zu b0)) ?_;refine zJ ?_;refine zb ?_;refine q_x (zH (hr:=g1)) ?_|refine zf 3 ?_;refine q_v (ze (B:=C) (hz:=hC.symm)) ?_;(refine q_s (zi (hc:=zu b4)) ?_;rintro _ _ ⟨R,rfl,aE,kE,rfl,rfl⟩);refine zb ?_|refine zf 4 ?_;refine q_v (ze (B:=C) (hz:=hC.symm)) ?_;refine q_v (za (hc:=zu b1)) ?_;refine zb ?_|refine zf 5 ?_;refine q_v (ze (B:=C) (hz:=hC.symm)) ?_;refine q_v (za (hc:=zu b2)) ?_;refine zb ?_;refine zaA ?_|refine q_k 7 ?_;refine zJ ?_)
  (refine zdy (id:=10) [] false [] [0,1,2] [(3,[]),(4,[]),(5,[]),(6,[7]),(8,[9,10])] mixed q_h ?_ ?_;kernel_rfl;refine ygv zZ (k:=?_);refine ygv (zch (l:=c.der) (hr:=G8 (by exact Ev)) (hn:=rfl)) (k:=?_);refine ygv (ze (B:=C) (hz:=hC.symm)) (k:=?_);refine yg0 ?_;(refine yhs (zi (hc:=zu b5)) (k:=?_);rintro _ _ ⟨R,rfl,aF,kF,rfl,rfl⟩);try refine yg0 ?_;refine yhv (zch (l:=c.der) (hr:=G8 (by exact Ev)) (hn:=rfl)) (k:=?_);try refine yg0 ?_;refine yhv (zcR (hr:=b7)) (k:=?_);try refine yg0 ?_;refine yhv zZ (k:=?_);refine ygv zZ (k:=?_);try refine yg0 ?_;refine yhv (za (hc:=λ_ _ _ _=>(J _ _))) (k:=?_);refine ygv zaf (k:=?_);refine ygv zdc (k:=?_);try refine yg0 ?_;try refine yh0 (k:=?_))
  repeat' (first|refine s_0 ?_|(refine zy ?_;first|refine zaR ?_|fail)|refine zdz ?_)
  cases hdp:zc6 svK s.l with
  |none=>
   have r:=λj (m:Keep No w j)=>(Q j m).mono λv R hv=>Fw hdp hv;have A:=λj (m:Keep No w j)=>(S j m).mono λv R hv=>Fw hdp hv;have N:=λj=>zmu j;have E:(zG zfm noCert).length=11:=rfl;obtain⟨Z,hZ⟩:∃x,x=zG zfm noCert:=⟨_,rfl⟩;have a8:Z.all (·.oneCell')=true:=by rw[hZ];rfl
   rw[<-hZ] at r A N E;repeat' (first|refine s_0 ?_|refine q_k 13 ?_;refine q_v (za (hc:=zu A)) ?_;refine zb ?_;refine zj ?_;intro _;refine q_y (zC (B:=Z) (h1:=E.symm) (hv:=a8) (hC:=by exact E.symm)) ?_|refine zf 14 ?_;refine q_v (ze (B:=Z) (hz:=E.symm)) ?_;refine q_v (ze (B:=Z) (hz:=E.symm)) ?_;refine q_v (za (hc:=q_c N)) ?_;refine zb ?_;refine q_v (za (hc:=λ_ _ _ _=>(J _ _))) ?_;refine zb ?_;refine zaD ?_;refine zb ?_;refine q_v (za (hc:=zu a9)) ?_;refine zb ?_|(refine zy ?_;first|refine q_v (za (hc:=zu r)) ?_|refine q_n (zC (B:=Z) (h1:=E.symm) (hv:=a8) (hC:=by exact E.symm)) ?_|refine zw ?_|refine zY ?_|refine zaR ?_|refine zj ?_;intro _|fail)|fail)
   exact q_r
  |some d=>
   have r:=λj (m:Keep No w j)=>(Q j m).mono λv R hv=>Fv hdp hv;have A:=λj (m:Keep No w j)=>(S j m).mono λv R hv=>Fv hdp hv;unfold zvF at r A;have T:=zqn hdp;have Y:∀q,(zG q d).length=11:=λq=>rfl;have H:∀M I {j:World}{X L:List Res},Keep No w j->Holds w.heap.size No (L++X) j->(∀x∈zaa M d,x∈L)->(∀x∈zaa I d,x∈L)->q_G 23 [.agg (zG M d).toArray,.agg (zG I d).toArray] j (.bool true):=by
    intro M I j X L m hh m1 m2;have:=zka M I d d j (zna hh m1 T) (zna hh m2 T) (Fo T);rwa[Fg.2 rfl] at this
   clear Q S;repeat' (first|fail)
   refine q_s (zi (hc:=zu r)) ?_;rintro _ _ ⟨R,rfl,M,rfl,rfl⟩;obtain⟨V,O⟩:∃x,x=zG M d:=⟨_,rfl⟩;obtain⟨Rq,a6⟩:∃x,x=zaa M d:=⟨_,rfl⟩;have F:=Y M;have K:=H M;rw[<-O,<-a6];rw[<-O] at F K;rw[<-a6] at K;repeat' (first|refine s_0 ?_|(refine zy ?_;first|refine q_n (zC (B:=V) (h1:=F.symm) (hv:=by rw[O];rfl) (hC:=by exact F.symm)) ?_|refine zw ?_|refine zY ?_|refine zaR ?_|refine zj ?_;intro _|fail)|fail)
   rename_i b8;refine FE (fr':=[(9,.int .i64 0),(8,.pointer (some ⟨b8,0,none⟩)),(1,.slice s.a s.n s.c)]) (L':=.blk b8 45 V::Rq) ?_ q_h ?_;rotate_left
   ·exact F2 Es ⟨_,B5 _⟩
   repeat' (first|refine q_k 13 ?_)
   refine q_s (zi (hc:=zu A)) ?_;rintro _ _ ⟨R,rfl,I,rfl,rfl⟩;obtain⟨Cr,P⟩:∃x,x=zG I d:=⟨_,rfl⟩;obtain⟨Rr,a7⟩:∃x,x=zaa I d:=⟨_,rfl⟩;have G:=Y I;have U:∀ {j:World}{X L:List Res},Keep No w j->Holds w.heap.size No (L++X) j->(∀x∈Rq,x∈L)->(∀x∈zaa I d,x∈L)->q_G 23 [.agg V.toArray,.agg (zG I d).toArray] j (.bool true):=K I;rw[<-P,<-a7];rw[<-P] at G U;rw[<-a7] at U;clear H K r A;repeat' (first|refine s_0 ?_|(refine zy ?_;first|refine q_n (zC (B:=Cr) (h1:=G.symm) (hv:=by rw[P];rfl) (hC:=by exact G.symm)) ?_|refine zw ?_|refine zY ?_|refine zaR ?_|refine zj ?_;intro _|fail)|fail)
   rename_i W;refine FE (fr':=[(11,.int .i64 0),(10,.pointer (some ⟨W,0,none⟩)),(9,.int .i64 0),(8,.pointer (some ⟨b8,0,none⟩))]) (L':=.blk W 45 Cr:: .blk b8 45 V::(Rr++Rq)) ?_ q_h ?_;rotate_left
   ·exact F2 Es ⟨[],by rw[AG];exact Ca⟩
   repeat' (first|refine s_0 ?_|refine zf 14 ?_;refine q_v (ze (B:=V) (hz:=F.symm)) ?_;refine q_v (ze (B:=Cr) (hz:=G.symm)) ?_;refine q_v (za (hc:=λj X m hh=>U m hh (λx hx=>A4 _ (A4 _ (AX _ hx))) (λx hx=>A4 _ (A4 _ (AM _ hx))))) ?_;refine zb ?_;refine q_v (za (hc:=λ_ _ _ _=>(J _ _))) ?_;refine zb ?_;refine zaD ?_;refine zb ?_;refine q_v (za (hc:=zu a9)) ?_;refine zb ?_)
   exact q_r
 ·rw[C8] at hok;rw[hok] at b1 b2;have b4:=λj (m:Keep No w j)=>zwE p c j (hG.to m) (h.keep m) fa hok;generalize zG p c=C at*;repeat' (first|refine s_0 ?_|refine zf 0 ?_;refine zW ?_;intro _|refine zf 1 ?_;refine q_v (ze (B:=C) (hz:=hC.symm)) ?_;refine q_v (za (hc:=zu b0)) ?_;refine zJ ?_;refine zb ?_;refine q_x (zH (hr:=g1)) ?_|refine zf 3 ?_;refine q_v (ze (B:=C) (hz:=hC.symm)) ?_;refine q_v (za (hc:=zu b4)) ?_;refine zb ?_|refine zf 4 ?_;refine q_v (ze (B:=C) (hz:=hC.symm)) ?_;refine q_v (za (hc:=zu b1)) ?_;refine zb ?_|refine zf 5 ?_;refine q_v (ze (B:=C) (hz:=hC.symm)) ?_;refine q_v (za (hc:=zu b2)) ?_;refine zb ?_;refine zaA ?_|refine q_k 7 ?_;refine zJ ?_|refine q_k 8 ?_;refine zaA ?_;refine zb ?_;refine q_v (za (hc:=λ_ _ _ _=>(J _ _))) ?_;refine zaA ?_;refine zb ?_)
  cases hdp:zc6 svK s.l with
  |none=>
   have r:=λj (m:Keep No w j)=>(Q j m).mono λv R hv=>Fw hdp hv;have A:=λj (m:Keep No w j)=>(S j m).mono λv R hv=>Fw hdp hv;have N:=λj=>zmu j;have E:(zG zfm noCert).length=11:=rfl;obtain⟨Z,hZ⟩:∃x,x=zG zfm noCert:=⟨_,rfl⟩;have a8:Z.all (·.oneCell')=true:=by rw[hZ];rfl
   rw[<-hZ] at r A N E;repeat' (first|refine s_0 ?_|refine q_k 12 ?_;refine q_v (za (hc:=zu r)) ?_;refine zb ?_;refine zj ?_;intro _;refine q_y (zC (B:=Z) (h1:=E.symm) (hv:=a8) (hC:=by exact E.symm)) ?_|refine q_k 13 ?_;refine q_v (za (hc:=zu A)) ?_;refine zb ?_;refine zj ?_;intro _;refine q_y (zC (B:=Z) (h1:=E.symm) (hv:=a8) (hC:=by exact E.symm)) ?_|refine zf 14 ?_;refine q_v (ze (B:=Z) (hz:=E.symm)) ?_;refine q_v (ze (B:=Z) (hz:=E.symm)) ?_;refine q_v (za (hc:=q_c N)) ?_;refine zb ?_;refine q_v (za (hc:=λ_ _ _ _=>(J _ _))) ?_;refine zb ?_;refine zaD ?_;refine zb ?_;refine q_v (za (hc:=zu a9)) ?_;refine zb ?_)
   exact q_r
  |some d=>
   have r:=λj (m:Keep No w j)=>(Q j m).mono λv R hv=>Fv hdp hv;have A:=λj (m:Keep No w j)=>(S j m).mono λv R hv=>Fv hdp hv;unfold zvF at r A;have T:=zqn hdp;have Y:∀q,(zG q d).length=11:=λq=>rfl;have H:∀M I {j:World}{X L:List Res},Keep No w j->Holds w.heap.size No (L++X) j->(∀x∈zaa M d,x∈L)->(∀x∈zaa I d,x∈L)->q_G 23 [.agg (zG M d).toArray,.agg (zG I d).toArray] j (.bool true):=by
    intro M I j X L m hh m1 m2;have:=zka M I d d j (zna hh m1 T) (zna hh m2 T) (Fo T);rwa[Fg.2 rfl] at this
   clear Q S;repeat' (first|refine q_k 12 ?_)
   refine q_s (zi (hc:=zu r)) ?_;rintro _ _ ⟨R,rfl,M,rfl,rfl⟩;obtain⟨V,O⟩:∃x,x=zG M d:=⟨_,rfl⟩;obtain⟨Rq,a6⟩:∃x,x=zaa M d:=⟨_,rfl⟩;have F:=Y M;have K:=H M;rw[<-O,<-a6];rw[<-O] at F K;rw[<-a6] at K;repeat' (first|refine s_0 ?_|(refine zy ?_;first|refine q_n (zC (B:=V) (h1:=F.symm) (hv:=by rw[O];rfl) (hC:=by exact F.symm)) ?_|refine zw ?_|refine zY ?_|refine zaR ?_|refine zj ?_;intro _|fail)|fail)
   rename_i b8;refine FE (fr':=[(9,.int .i64 0),(8,.pointer (some ⟨b8,0,none⟩)),(1,.slice s.a s.n s.c)]) (L':=.blk b8 45 V::Rq) ?_ q_h ?_;rotate_left
   ·exact F2 Es ⟨_,B5 _⟩
   repeat' (first|refine q_k 13 ?_)
   refine q_s (zi (hc:=zu A)) ?_;rintro _ _ ⟨R,rfl,I,rfl,rfl⟩;obtain⟨Cr,P⟩:∃x,x=zG I d:=⟨_,rfl⟩;obtain⟨Rr,a7⟩:∃x,x=zaa I d:=⟨_,rfl⟩;have G:=Y I;have U:∀ {j:World}{X L:List Res},Keep No w j->Holds w.heap.size No (L++X) j->(∀x∈Rq,x∈L)->(∀x∈zaa I d,x∈L)->q_G 23 [.agg V.toArray,.agg (zG I d).toArray] j (.bool true):=K I;rw[<-P,<-a7];rw[<-P] at G U;rw[<-a7] at U;clear H K r A;repeat' (first|refine s_0 ?_|(refine zy ?_;first|refine q_n (zC (B:=Cr) (h1:=G.symm) (hv:=by rw[P];rfl) (hC:=by exact G.symm)) ?_|refine zw ?_|refine zY ?_|refine zaR ?_|refine zj ?_;intro _|fail)|fail)
   rename_i W;refine FE (fr':=[(11,.int .i64 0),(10,.pointer (some ⟨W,0,none⟩)),(9,.int .i64 0),(8,.pointer (some ⟨b8,0,none⟩))]) (L':=.blk W 45 Cr:: .blk b8 45 V::(Rr++Rq)) ?_ q_h ?_;rotate_left
   ·exact F2 Es ⟨[],by rw[AG];exact Ca⟩
   repeat' (first|refine s_0 ?_|refine zf 14 ?_;refine q_v (ze (B:=V) (hz:=F.symm)) ?_;refine q_v (ze (B:=Cr) (hz:=G.symm)) ?_;refine q_v (za (hc:=λj X m hh=>U m hh (λx hx=>A4 _ (A4 _ (AX _ hx))) (λx hx=>A4 _ (A4 _ (AM _ hx))))) ?_;refine zb ?_;refine q_v (za (hc:=λ_ _ _ _=>(J _ _))) ?_;refine zb ?_;refine zaD ?_;refine zb ?_;refine q_v (za (hc:=zu a9)) ?_;refine zb ?_)
   exact q_r
end Go.Proofs.YtdnlngbjpdbffaaGreatDoor
