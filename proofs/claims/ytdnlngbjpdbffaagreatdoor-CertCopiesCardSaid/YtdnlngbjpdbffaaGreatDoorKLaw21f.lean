/- Lemmas of this proof. -/
import Derived.Test.YtdnlngbjpdbffaaGreatDoorKLaw21e
import Derived.Test.YtdnlngbjpdbffaaGreatDoorKSyCutI
set_option maxHeartbeats 4000000
set_option maxRecDepth 10000
set_option linter.all false
namespace Go.Proofs.YtdnlngbjpdbffaaGreatDoor
open Go Go.Sy Go.Ct Go.Nt Go.RowKit
attribute [local irreducible] Sy SyL SyX SyC SyF Sy.Fn callFunc
theorem zlT(p q:Pl)(a b:Cert)(w:World)(hG:GT w)(hT:Tab w No)(hS:ST w)(ha:CertAt w p a)(hb:CertAt w q b):q_G 8 [.agg (zx p a).toArray,.agg (zx q b).toArray] w (.bool true):=by
 refine zo Tryz.func8 Tryz.ntmps8 ?_;have c1:=λF (G:Keep No w F)=>zhv F (hG.to G) (hT.no G) (hS.to G);have Q:=λF (G:Keep No w F)=>zjs p a F (ha.keep G);have W:=λF (G:Keep No w F)=>zjs q b F (hb.keep G);have hC:(zx p a).length=11:=rfl;have hD:(zx q b).length=11:=rfl;by_cases hsm:¬(a.tiny=true/\b.tiny=true)
 ·obtain⟨C,b7⟩:∃C,C=zx p a:=⟨_,rfl⟩;obtain⟨D,b8⟩:∃D,D=zx q b:=⟨_,rfl⟩;rw[<-b7] at Q hC ⊢;rw[<-b8] at W hD ⊢;generalize b.tiny=y,a.tiny=x at*;have c8:x=false\/(x=true/\y=false):=by
   cases x <;> cases y <;> simp at hsm ⊢
  rcases c8 with rfl|⟨rfl,rfl⟩;all_goals repeat' (first|refine s_0 ?_|refine zg 0 ?_;refine zi ?_;intro _;refine zV ?_;intro _|refine zg 1 ?_;refine q_v (ze (B:=C) (hz:=hC.symm)) ?_;refine q_v (za (hc:=zq Q)) ?_;refine zJ ?_;refine zb ?_;(first|refine q_v (ze (B:=D) (hz:=hD.symm)) ?_|skip|fail);(first|refine q_v (za (hc:=zq W)) ?_|refine zaf rfl rfl rfl ?_|skip);(first|refine zJ ?_|refine zaf rfl rfl rfl ?_|skip);(try refine zb ?_)|refine zg 2 ?_;refine q_v (za (hc:=zq c1)) ?_;refine zb ?_)
  all_goals exact q_r
 have U:=EN.1 hsm;obtain⟨fa,pa,sa⟩:=Fj U.1;obtain⟨fb,pb,sb⟩:=Fj U.2;rw[U.1] at Q;rw[U.2] at W;have a8:=λF (G:Keep No w F)=>zqw p q a b F (ha.keep G) (hb.keep G) fa;have a9:=λF (G:Keep No w F)=>zhh p q a b F (ha.keep G) (hb.keep G) fa;have a7:=λF (G:Keep No w F)=>zni p a F (ha.keep G) fa q_o q_o;have c7:a.same a=true:=Fo.2 rfl;have b0:∀F (G:Keep No w F) r (_:CertAt F r a),q_G 23 [.agg (zx r a).toArray,.agg (zx p a).toArray] F (.bool true):=λF G r hr=>by
  have:=zhh r p a a F hr (ha.keep G) fa;rw[c7] at this;exact this
 obtain⟨C,b7⟩:∃C,C=zx p a:=⟨_,rfl⟩;obtain⟨D,b8⟩:∃D,D=zx q b:=⟨_,rfl⟩;rw[<-b7] at Q hC a8 a9 a7 b0 ⊢;rw[<-b8] at W hD a8 a9 ⊢;generalize a.same b=x at*;have gx:(!(x==x))=false:=by cases x <;> rfl
 repeat' (first|refine s_0 ?_|refine zg 0 ?_;refine zi ?_;intro _;refine zV ?_;intro _|refine zg 1 ?_;refine q_v (ze (B:=C) (hz:=hC.symm)) ?_;refine q_v (za (hc:=zq Q)) ?_;refine zJ ?_;refine zb ?_;refine q_v (ze (B:=D) (hz:=hD.symm)) ?_;refine q_v (za (hc:=zq W)) ?_;refine zJ ?_;refine zb ?_|refine z5 (id:=3) 5 [[],[],[0,1],[],[],[0,1,2,3,4],[0,1,2,3,4,5]] mixed ?_ ?_;kernel_rfl;refine q_D (ze (B:=C) (hz:=hC.symm)) ?_;refine q_D (ze (B:=D) (hz:=hD.symm)) ?_;refine q_D (za (hc:=λF X G hh=>a8 F G)) ?_;refine q_D (ze (B:=C) (hz:=hC.symm)) ?_;refine q_D (ze (B:=D) (hz:=hD.symm)) ?_;refine zam ?_;refine q_v (za (hc:=λF X G hh=>a9 F G)) ?_;refine q_v (zrd (hr:=gx)) ?_|fail)
 rename_i I b3;refine zb2 (id:=5) mixed ?_
 (refine zbY 8 8 [[],[0],[],[0,1,2],[],[],[0,1,2,3,4,5],[0,1,2,3,4,5,6]] [[],[],[],[],[],[],[4],[5]] none rfl ?_ ?_ ?_;kernel_rfl;kernel_rfl;refine q_E (ze (B:=C) (hz:=hC.symm)) ?_;try refine dh_0nE (h:=?_))
 refine zcW (R:=λ_=>zku a) (λ_ _ _=>rfl) (λρ hρ=>FF (zh (hc:=zq a7)) λv L' h=>?_) (h:=?_)
 ·obtain⟨R,rfl,r,rfl,rfl⟩:=h;exact⟨_,rfl,r,rfl,rfl⟩
 (skip;refine q_E (ze (B:=C) (hz:=hC.symm)) ?_;try refine dh_0nE (h:=?_))
 refine zcW (R:=λ_=>zku a) (λ_ _ _=>rfl) (λρ hρ=>FF (zh (hc:=zq a7)) λv L' h=>?_) (h:=?_)
 ·obtain⟨R,rfl,r,rfl,rfl⟩:=h;exact⟨_,rfl,r,rfl,rfl⟩
 refine zcW (R:=λ_=>zgK 45 (zx zd6 noCert)) (λ_ _ _=>rfl) (λρ hρ=>FF zc8 λv L' h=>?_) (h:=?_)
 ·obtain⟨b,rfl,rfl⟩:=h;exact⟨[_],rfl,b,rfl,rfl⟩
 refine zcW (R:=λ_=>zgK 45 (zx zd6 noCert)) (λ_ _ _=>rfl) (λρ hρ=>FF zc8 λv L' h=>?_) (h:=?_)
 ·obtain⟨b,rfl,rfl⟩:=h;exact⟨[_],rfl,b,rfl,rfl⟩
 refine zhg (R:=λρ _ Nw=>∃b,(ρ 4).1= .pointer (some ⟨b,0,none⟩)/\∃r,(ρ 1).1= .agg (zx r a).toArray/\Nw= [.blk b 45 (zx r a)]) (λρ ρ' h=>by rw[h 4 q_e,h 1 q_e]) (λρ hρ=>?_) (h:=?_)
 ·obtain⟨⟨H,g1,g2⟩,⟨b4,f1,f2⟩,⟨Y,e3,c3⟩,⟨V,e1,c2⟩,-⟩:=hρ;refine Fh (zld (L:=(ρ 5).2++((ρ 4).2++((ρ 3).2++((ρ 1).2++[.blk b3 45 D,.blk I 45 C])))) (CX _ _ _)) ?_;refine FF (zC (B:=zx V a) (hx:=by show some (ρ 4).1=_;rw[f1]) (hz:=by show some (ρ 1).1=_;rw[e1]) (hL:=by rw[f2];exact FU)) λv L' h=>?_;obtain⟨rfl,rfl⟩:=h;exact⟨[_],rfl,b4,f1,V,e1,rfl⟩
 refine zhg (R:=λρ _ Nw=>∃b,(ρ 5).1= .pointer (some ⟨b,0,none⟩)/\∃r,(ρ 3).1= .agg (zx r a).toArray/\Nw= [.blk b 45 (zx r a)]) (λρ ρ' h=>by rw[h 5 q_e,h 3 q_e]) (λρ hρ=>?_) (h:=?_)
 ·obtain⟨-,⟨H,g1,g2⟩,⟨b4,f1,f2⟩,⟨Y,e3,c3⟩,⟨V,e1,c2⟩,-⟩:=hρ;refine Fh (zld (L:=(ρ 6).2++((ρ 5).2++((ρ 3).2++((ρ 1).2++[.blk b3 45 D,.blk I 45 C])))) (CX _ _ _)) ?_;refine FF (zC (B:=zx Y a) (hx:=by show some (ρ 5).1=_;rw[g1]) (hz:=by show some (ρ 3).1=_;rw[e3]) (hL:=by rw[g2];exact FU)) λv L' h=>?_;obtain⟨rfl,rfl⟩:=h;exact⟨[_],rfl,H,g1,Y,e3,rfl⟩
 refine zdI (h:=?_);rintro ρ ⟨⟨K,k1,s3,k2,k3⟩,⟨H,m1,s1,m2,m3⟩,⟨e4,c9,-⟩,⟨e2,d9,-⟩,⟨Y,e3,f3⟩,⟨V,e1,f1⟩,-⟩
 (refine zb1 [[],[0],[],[0,1,2],[],[],[0,1,2,3,4,5],[0,1,2,3,4,5,6]] ?_ ?_;kernel_rfl)
 have x1:zx s1 a=zx V a:=by
  have:=m2.symm.trans e1;simpa only[Value.agg.injEq,Array.mk.injEq,List.toArray_inj] using this
 have x3:zx s3 a=zx Y a:=by
  have:=k2.symm.trans e3;simpa only[Value.agg.injEq,Array.mk.injEq,List.toArray_inj] using this
 rw[x1] at m3;rw[x3] at k3;refine FI (fr':=[(6,.pointer (some ⟨K,0,none⟩)),(5,.pointer (some ⟨H,0,none⟩)),(4,.bool false),(2,.pointer (some ⟨I,0,none⟩))]) (L':=.blk K 45 (zx Y a):: .blk H 45 (zx V a)::(zaB Y a++(zaB V a++[.blk b3 45 D,.blk I 45 C]))) ?_ ?_ ?_;rotate_left
 ·(repeat' (first|exact FQ|refine FX rfl ?_ ?_|rfl))
  ·exact k1
  ·exact m1
 ·show SubR _ ((ρ 7).2++((ρ 6).2++((ρ 3).2++((ρ 1).2++_))));have d8:(ρ 7).2=_:=k3;have e0:(ρ 6).2=_:=m3;have c5:(ρ 3).2=_:=f3;have c4:(ρ 1).2=_:=f1;rw[d8,e0,c5,c4];exact F8
 clear k3 m3 f3 f1 e1 e3 k1 m1 c9 d9 k2 m2 x1 x3;have a6:∀ {F:World}{r:Pl}{L X:List Res},Holds w.heap.size No (L++X) F->(∀x∈zaB r a,x∈L)->CertAt F r a:=λhh hm=>zkQ hh hm (by obtain⟨⟨_,_,_,h1,h2,_⟩,_⟩:=ha.iss;omega) ha.rng ha.iss.len ha.sub.len;have c6:∀ {F:World}{X L:List Res},Keep No w F->Holds w.heap.size No (L++X) F->(∀x∈zaB Y a,x∈L)->q_G 23 [.agg (zx Y a).toArray,.agg C.toArray] F (.bool true):=λG hh hm=>b0 _ G Y (a6 hh hm);have Q:∀ {F:World}{X L:List Res},Keep No w F->Holds w.heap.size No (L++X) F->(∀x∈zaB V a,x∈L)->q_G 23 [.agg (zx V a).toArray,.agg C.toArray] F (.bool true):=λG hh hm=>b0 _ G V (a6 hh hm);clear b0 a6 a8 a9 a7 gx W fb pb sb;have hE:(zx Y a).length=11:=rfl;have hB:(zx V a).length=11:=rfl;generalize zaB Y a=S,zx Y a=E at*;obtain⟨X1,b9⟩:∃X,X=zaB V a:=⟨_,rfl⟩;obtain⟨B,b1⟩:∃B,B=zx V a:=⟨_,rfl⟩;rw[<-b9] at Q;rw[<-b9,<-b1];rw[<-b1] at Q hB;refine FI (fr':=[(6,.pointer (some ⟨K,0,none⟩)),(5,.pointer (some ⟨H,0,none⟩)),(4,.bool false),(2,.pointer (some ⟨I,0,none⟩))]) (L':=.blk K 45 E:: .blk H 45 B:: .blk I 45 C::(S++X1)) ?_ q_h ?_;rotate_left
 ·refine F9 F1 (F9 F1 ?_);exact⟨[.blk b3 45 D],by
   refine(B1 _ (B1 _ (List.Perm.swap _ _ _))).trans ?_;refine(CX _ _ _).trans ?_;simp only[An,AL];rw[<-AL];exact CY.trans (List.Perm.cons _ (by rw[AL];exact CX _ _ _))⟩
 repeat' (first|refine s_0 ?_|refine zg 6 ?_;refine q_v (ze (B:=B) (hz:=hB.symm)) ?_;refine q_v (ze (B:=C) (hz:=hC.symm)) ?_;refine q_v (za (hc:=λF X G hh=>Q G hh (by intro x hx;(repeat (first|exact Ar _ hx|apply A9))))) ?_;refine zJ ?_)
 refine FJ (fr':=[(34,.bool (!true)),(6,.pointer (some ⟨K,0,none⟩)),(5,.pointer (some ⟨H,0,none⟩)),(4,.bool false),(2,.pointer (some ⟨I,0,none⟩))]) (L':=X1++(.blk K 45 E:: .blk H 45 B:: .blk I 45 C::S)) ?_ q_h ?_;rotate_left
 ·exact⟨[],by
   rw[AZ];exact BU (l₁:=.blk K 45 E:: .blk H 45 B:: .blk I 45 C::S) (l₂:=X1)⟩
 subst b9 b1;obtain⟨a1,k1,a2,k2,a3,k3,a4,k4⟩:=V;obtain⟨serial,⟨t,N⟩,⟨m,O⟩,fr,til,auth,group,pub,sig⟩:=a;unfold zx zaB;have e5:t.length<1000000:=fa.i.1;have e6:m.length<1000000:=fa.s.1;have e7:pub.length<=300:=pa;have e8:sig.length<=300:=sa
 -- the loops
 refine ziM (γ:=Unit) (λ_=>[(6,.pointer (some ⟨K,0,none⟩)),(5,.pointer (some ⟨H,0,none⟩)),(4,.bool false),(2,.pointer (some ⟨I,0,none⟩))]) (λ_=> .row (.slice a2 m.length k2) 9 1 m.length (m.map zX):: .row (.slice a3 pub.length k3) 5 1 pub.length (pub.map v8):: .row (.slice a4 sig.length k4) 5 1 sig.length (sig.map v8)::(.blk K 45 E:: .blk H 45 [.int .i64 serial,.slice a1 t.length k1,zX N,.slice a2 m.length k2,zX O,.int .i64 fr,.int .i64 til,.bool auth,.int .i64 group,.slice a3 pub.length k3,.slice a4 sig.length k4]:: .blk I 45 C::S)) (λ_=>True) ?_ ?_
 ·refine zec (F1) ?_;intro rr M;rcases AD t.length with hz|hz
  ·have A:decide (((0:Nat):Int)<(t.length:Int))=false:=q_f;clear M;repeat' (first|refine s_t ?_|refine q_k 8 ?_)
   refine zE (γ:=Unit) (λ_=>(7,.int .i64 ((0:Nat):Int))::[(6,.pointer (some ⟨K,0,none⟩)),(5,.pointer (some ⟨H,0,none⟩)),(4,.bool false),(2,.pointer (some ⟨I,0,none⟩))]) (λ_=>rr:: .row (.slice a2 m.length k2) 9 1 m.length (m.map zX):: .row (.slice a3 pub.length k3) 5 1 pub.length (pub.map v8):: .row (.slice a4 sig.length k4) 5 1 sig.length (sig.map v8)::(.blk K 45 E:: .blk H 45 [.int .i64 serial,.slice a1 t.length k1,zX N,.slice a2 m.length k2,zX O,.int .i64 fr,.int .i64 til,.bool auth,.int .i64 group,.slice a3 pub.length k3,.slice a4 sig.length k4]:: .blk I 45 C::S)) (λ_=>True) (λ_=>0) () trivial q_h F8 ?_;rintro⟨⟩ -;repeat' (first|refine s_0 ?_|refine q_k 9 ?_;refine zk ?_;refine zb ?_;refine q_v (zl (hr:=A)) ?_)
   exact zZ () trivial q_h (FE F8)
  ·obtain⟨Z,J,rfl,rfl⟩:=M hz;clear M;repeat' (first|refine s_t ?_|refine q_k 8 ?_)
   refine zE (γ:=Nat×List Value) (λg=>(7,.int .i64 (g.1:Int))::[(6,.pointer (some ⟨K,0,none⟩)),(5,.pointer (some ⟨H,0,none⟩)),(4,.bool false),(2,.pointer (some ⟨I,0,none⟩))]) (λg=> .blk Z 9 (g.2++J):: .row (.slice a2 m.length k2) 9 1 m.length (m.map zX):: .row (.slice a3 pub.length k3) 5 1 pub.length (pub.map v8):: .row (.slice a4 sig.length k4) 5 1 sig.length (sig.map v8)::(.blk K 45 E:: .blk H 45 [.int .i64 serial,.slice (some ⟨Z,0,none⟩) t.length k1,zX N,.slice a2 m.length k2,zX O,.int .i64 fr,.int .i64 til,.bool auth,.int .i64 group,.slice a3 pub.length k3,.slice a4 sig.length k4]:: .blk I 45 C::S)) (λg=>g.1<=t.length/\g.2.length=t.length) (λg=>t.length-g.1) (0,t.map zX) ⟨AE _,by rw[A0]⟩ ?_ ?_ ?_
   ·exact q_h
   ·exact F8
   rintro⟨k,q⟩ ⟨G,hq⟩;dsimp only at G hq ⊢;rcases AH k t.length with P|P
   ·have A:decide ((k:Int)<(t.length:Int))=true:=q_d;have g5:IntKind.i64.wrap ((k:Int)+1)=((k+1:Nat):Int):=q_w;have T:SetAt (q++J) (0+k) (.string (str [63])) (q.set k (.string (str [63]))++J):=by
     refine⟨by rw[A2];omega,?_⟩;rw[AR,DF _ _ q_o]
    repeat' (first|refine s_t ?_|refine q_k 9 ?_;refine zk ?_;refine zb ?_;refine q_v (zl (hr:=A)) ?_|refine q_k 11 ?_;refine zk ?_;refine zb ?_;refine q_v (zL (j:=k)) ?_;refine q_n (zcn (v:=.string (str [63])) (hC:=T)) ?_|refine q_k 10 ?_;refine q_x (zA (hr:=g5)) ?_)
    refine zy (k+1,q.set k (.string (str [63]))) ⟨P,by rw[AI];exact hq⟩ ?_ ?_ ?_
    ·show t.length-(k+1)<t.length-k;omega
    ·exact q_h
    ·exact F8
   obtain rfl:k=t.length:=q_o;have A:decide ((t.length:Int)<(t.length:Int))=false:=q_f;repeat' (first|refine s_0 ?_|refine q_k 9 ?_;refine zk ?_;refine zb ?_;refine q_v (zl (hr:=A)) ?_)
   exact zZ () trivial q_h (FE F8)
 rintro⟨⟩ -;repeat refine zb0 ?_
 refine ziM (γ:=Unit) (λ_=>[(6,.pointer (some ⟨K,0,none⟩)),(5,.pointer (some ⟨H,0,none⟩)),(4,.bool false),(2,.pointer (some ⟨I,0,none⟩))]) (λ_=> .row (.slice a3 pub.length k3) 5 1 pub.length (pub.map v8):: .row (.slice a4 sig.length k4) 5 1 sig.length (sig.map v8)::(.blk K 45 E:: .blk H 45 [.int .i64 serial,.slice a1 t.length k1,zX N,.slice a2 m.length k2,zX O,.int .i64 fr,.int .i64 til,.bool auth,.int .i64 group,.slice a3 pub.length k3,.slice a4 sig.length k4]:: .blk I 45 C::S)) (λ_=>True) ?_ ?_
 ·refine zec (F1) ?_;intro rr M;rcases AD m.length with hz|hz
  ·have A:decide (((0:Nat):Int)<(m.length:Int))=false:=q_f;clear M;repeat' (first|refine s_t ?_|refine q_k 12 ?_)
   refine zE (γ:=Unit) (λ_=>(8,.int .i64 ((0:Nat):Int))::[(6,.pointer (some ⟨K,0,none⟩)),(5,.pointer (some ⟨H,0,none⟩)),(4,.bool false),(2,.pointer (some ⟨I,0,none⟩))]) (λ_=>rr:: .row (.slice a3 pub.length k3) 5 1 pub.length (pub.map v8):: .row (.slice a4 sig.length k4) 5 1 sig.length (sig.map v8)::(.blk K 45 E:: .blk H 45 [.int .i64 serial,.slice a1 t.length k1,zX N,.slice a2 m.length k2,zX O,.int .i64 fr,.int .i64 til,.bool auth,.int .i64 group,.slice a3 pub.length k3,.slice a4 sig.length k4]:: .blk I 45 C::S)) (λ_=>True) (λ_=>0) () trivial q_h F8 ?_;rintro⟨⟩ -;repeat' (first|refine s_0 ?_|refine q_k 13 ?_;refine zk ?_;refine zb ?_;refine q_v (zl (hr:=A)) ?_)
   exact zZ () trivial q_h (FE F8)
  ·obtain⟨Z,J,rfl,rfl⟩:=M hz;clear M;repeat' (first|refine s_t ?_|refine q_k 12 ?_)
   refine zE (γ:=Nat×List Value) (λg=>(8,.int .i64 (g.1:Int))::[(6,.pointer (some ⟨K,0,none⟩)),(5,.pointer (some ⟨H,0,none⟩)),(4,.bool false),(2,.pointer (some ⟨I,0,none⟩))]) (λg=> .blk Z 9 (g.2++J):: .row (.slice a3 pub.length k3) 5 1 pub.length (pub.map v8):: .row (.slice a4 sig.length k4) 5 1 sig.length (sig.map v8)::(.blk K 45 E:: .blk H 45 [.int .i64 serial,.slice a1 t.length k1,zX N,.slice (some ⟨Z,0,none⟩) m.length k2,zX O,.int .i64 fr,.int .i64 til,.bool auth,.int .i64 group,.slice a3 pub.length k3,.slice a4 sig.length k4]:: .blk I 45 C::S)) (λg=>g.1<=m.length/\g.2.length=m.length) (λg=>m.length-g.1) (0,m.map zX) ⟨AE _,by rw[A0]⟩ ?_ ?_ ?_
   ·exact q_h
   ·exact F8
   rintro⟨k,q⟩ ⟨G,hq⟩;dsimp only at G hq ⊢;rcases AH k m.length with P|P
   ·have A:decide ((k:Int)<(m.length:Int))=true:=q_d;have g5:IntKind.i64.wrap ((k:Int)+1)=((k+1:Nat):Int):=q_w;have T:SetAt (q++J) (0+k) (.string (str [63])) (q.set k (.string (str [63]))++J):=by
     refine⟨by rw[A2];omega,?_⟩;rw[AR,DF _ _ q_o]
    repeat' (first|refine s_t ?_|refine q_k 13 ?_;refine zk ?_;refine zb ?_;refine q_v (zl (hr:=A)) ?_|refine q_k 15 ?_;refine zk ?_;refine zb ?_;refine q_v (zL (j:=k)) ?_;refine q_n (zcn (v:=.string (str [63])) (hC:=T)) ?_|refine q_k 14 ?_;refine q_x (zA (hr:=g5)) ?_)
    refine zy (k+1,q.set k (.string (str [63]))) ⟨P,by rw[AI];exact hq⟩ ?_ ?_ ?_
    ·show m.length-(k+1)<m.length-k;omega
    ·exact q_h
    ·exact F8
   obtain rfl:k=m.length:=q_o;have A:decide ((m.length:Int)<(m.length:Int))=false:=q_f;repeat' (first|refine s_0 ?_|refine q_k 13 ?_;refine zk ?_;refine zb ?_;refine q_v (zl (hr:=A)) ?_)
   exact zZ () trivial q_h (FE F8)
 rintro⟨⟩ -;repeat refine zb0 ?_
 refine ziM (γ:=Unit) (λ_=>[(6,.pointer (some ⟨K,0,none⟩)),(5,.pointer (some ⟨H,0,none⟩)),(4,.bool false),(2,.pointer (some ⟨I,0,none⟩))]) (λ_=> .row (.slice a4 sig.length k4) 5 1 sig.length (sig.map v8)::(.blk K 45 E:: .blk H 45 [.int .i64 serial,.slice a1 t.length k1,zX N,.slice a2 m.length k2,zX O,.int .i64 fr,.int .i64 til,.bool auth,.int .i64 group,.slice a3 pub.length k3,.slice a4 sig.length k4]:: .blk I 45 C::S)) (λ_=>True) ?_ ?_
 ·refine zec (F1) ?_;intro rr M;rcases AD pub.length with hz|hz
  ·have A:decide (((0:Nat):Int)<(pub.length:Int))=false:=q_f;clear M;repeat' (first|refine s_t ?_|refine q_k 16 ?_)
   refine zE (γ:=Unit) (λ_=>(9,.int .i64 ((0:Nat):Int))::[(6,.pointer (some ⟨K,0,none⟩)),(5,.pointer (some ⟨H,0,none⟩)),(4,.bool false),(2,.pointer (some ⟨I,0,none⟩))]) (λ_=>rr:: .row (.slice a4 sig.length k4) 5 1 sig.length (sig.map v8)::(.blk K 45 E:: .blk H 45 [.int .i64 serial,.slice a1 t.length k1,zX N,.slice a2 m.length k2,zX O,.int .i64 fr,.int .i64 til,.bool auth,.int .i64 group,.slice a3 pub.length k3,.slice a4 sig.length k4]:: .blk I 45 C::S)) (λ_=>True) (λ_=>0) () trivial q_h F8 ?_;rintro⟨⟩ -;repeat' (first|refine s_0 ?_|refine q_k 17 ?_;refine zk ?_;refine zb ?_;refine q_v (zl (hr:=A)) ?_)
   exact zZ () trivial q_h (FE F8)
  ·obtain⟨Z,J,rfl,rfl⟩:=M hz;clear M;repeat' (first|refine s_t ?_|refine q_k 16 ?_)
   refine zE (γ:=Nat×List Int) (λg=>(9,.int .i64 (g.1:Int))::[(6,.pointer (some ⟨K,0,none⟩)),(5,.pointer (some ⟨H,0,none⟩)),(4,.bool false),(2,.pointer (some ⟨I,0,none⟩))]) (λg=> .blk Z 5 (g.2.map (Value.int .u8)++J):: .row (.slice a4 sig.length k4) 5 1 sig.length (sig.map v8)::(.blk K 45 E:: .blk H 45 [.int .i64 serial,.slice a1 t.length k1,zX N,.slice a2 m.length k2,zX O,.int .i64 fr,.int .i64 til,.bool auth,.int .i64 group,.slice (some ⟨Z,0,none⟩) pub.length k3,.slice a4 sig.length k4]:: .blk I 45 C::S)) (λg=>g.1<=pub.length/\g.2.length=pub.length) (λg=>pub.length-g.1) (0,pub.map Wd.n8) ⟨AE _,by rw[A0]⟩ ?_ ?_ ?_
   ·exact q_h
   ·rw[Ch];exact F8
   rintro⟨k,q⟩ ⟨G,hq⟩;dsimp only at G hq ⊢;rcases AH k pub.length with P|P
   ·have A:decide ((k:Int)<(pub.length:Int))=true:=q_d;have g5:IntKind.i64.wrap ((k:Int)+1)=((k+1:Nat):Int):=q_w;have c0:(q.map (Value.int .u8)++J)[0+k]?=some (.int .u8 q[k]):=by
     rw[AR,Aq (by rw[A0];omega),AY,A1 q_o];rfl
    have T:∀y:Int,SetAt (q.map (Value.int .u8)++J) (0+k) (.int .u8 y) ((q.set k y).map (Value.int .u8)++J):=λy=>by
     refine⟨by rw[A2,A0];omega,?_⟩;rw[AR,DF _ _ (by rw[A0];omega),BS]
    obtain⟨y,hy⟩:∃y,IntKind.u8.wrap (q[k]+1)=y:=⟨_,rfl⟩;repeat' (first|refine s_t ?_|refine q_k 17 ?_;refine zk ?_;refine zb ?_;refine q_v (zl (hr:=A)) ?_|refine q_k 19 ?_;refine zk ?_;refine zb ?_;refine q_v (zL (j:=k)) ?_;refine q_v (zM (hv:=c0)) ?_;refine q_v (zA (hr:=hy)) ?_;refine q_v (zL (j:=k)) ?_;refine q_n (zcn (v:=.int .u8 y) (hC:=T y)) ?_|refine q_k 18 ?_;refine q_x (zA (hr:=g5)) ?_)
    refine zy (k+1,q.set k y) ⟨P,by rw[AI];exact hq⟩ ?_ ?_ ?_
    ·show pub.length-(k+1)<pub.length-k;omega
    ·exact q_h
    ·exact F8
   obtain rfl:k=pub.length:=q_o;have A:decide ((pub.length:Int)<(pub.length:Int))=false:=q_f;repeat' (first|refine s_0 ?_|refine q_k 17 ?_;refine zk ?_;refine zb ?_;refine q_v (zl (hr:=A)) ?_)
   exact zZ () trivial q_h (FE F8)
 rintro⟨⟩ -;repeat refine zb0 ?_
 refine ziM (γ:=Unit) (λ_=>[(6,.pointer (some ⟨K,0,none⟩)),(5,.pointer (some ⟨H,0,none⟩)),(4,.bool false),(2,.pointer (some ⟨I,0,none⟩))]) (λ_=>(.blk K 45 E:: .blk H 45 [.int .i64 serial,.slice a1 t.length k1,zX N,.slice a2 m.length k2,zX O,.int .i64 fr,.int .i64 til,.bool auth,.int .i64 group,.slice a3 pub.length k3,.slice a4 sig.length k4]:: .blk I 45 C::S)) (λ_=>True) ?_ ?_
 ·refine zec (F1) ?_;intro rr M;rcases AD sig.length with hz|hz
  ·have A:decide (((0:Nat):Int)<(sig.length:Int))=false:=q_f;clear M;repeat' (first|refine s_t ?_|refine q_k 20 ?_)
   refine zE (γ:=Unit) (λ_=>(10,.int .i64 ((0:Nat):Int))::[(6,.pointer (some ⟨K,0,none⟩)),(5,.pointer (some ⟨H,0,none⟩)),(4,.bool false),(2,.pointer (some ⟨I,0,none⟩))]) (λ_=>rr::(.blk K 45 E:: .blk H 45 [.int .i64 serial,.slice a1 t.length k1,zX N,.slice a2 m.length k2,zX O,.int .i64 fr,.int .i64 til,.bool auth,.int .i64 group,.slice a3 pub.length k3,.slice a4 sig.length k4]:: .blk I 45 C::S)) (λ_=>True) (λ_=>0) () trivial q_h F8 ?_;rintro⟨⟩ -;repeat' (first|refine s_0 ?_|refine q_k 21 ?_;refine zk ?_;refine zb ?_;refine q_v (zl (hr:=A)) ?_)
   exact zZ () trivial q_h (FE F8)
  ·obtain⟨Z,J,rfl,rfl⟩:=M hz;clear M;repeat' (first|refine s_t ?_|refine q_k 20 ?_)
   refine zE (γ:=Nat×List Int) (λg=>(10,.int .i64 (g.1:Int))::[(6,.pointer (some ⟨K,0,none⟩)),(5,.pointer (some ⟨H,0,none⟩)),(4,.bool false),(2,.pointer (some ⟨I,0,none⟩))]) (λg=> .blk Z 5 (g.2.map (Value.int .u8)++J)::(.blk K 45 E:: .blk H 45 [.int .i64 serial,.slice a1 t.length k1,zX N,.slice a2 m.length k2,zX O,.int .i64 fr,.int .i64 til,.bool auth,.int .i64 group,.slice a3 pub.length k3,.slice (some ⟨Z,0,none⟩) sig.length k4]:: .blk I 45 C::S)) (λg=>g.1<=sig.length/\g.2.length=sig.length) (λg=>sig.length-g.1) (0,sig.map Wd.n8) ⟨AE _,by rw[A0]⟩ ?_ ?_ ?_
   ·exact q_h
   ·rw[Ch];exact F8
   rintro⟨k,q⟩ ⟨G,hq⟩;dsimp only at G hq ⊢;rcases AH k sig.length with P|P
   ·have A:decide ((k:Int)<(sig.length:Int))=true:=q_d;have g5:IntKind.i64.wrap ((k:Int)+1)=((k+1:Nat):Int):=q_w;have c0:(q.map (Value.int .u8)++J)[0+k]?=some (.int .u8 q[k]):=by
     rw[AR,Aq (by rw[A0];omega),AY,A1 q_o];rfl
    have T:∀y:Int,SetAt (q.map (Value.int .u8)++J) (0+k) (.int .u8 y) ((q.set k y).map (Value.int .u8)++J):=λy=>by
     refine⟨by rw[A2,A0];omega,?_⟩;rw[AR,DF _ _ (by rw[A0];omega),BS]
    obtain⟨y,hy⟩:∃y,IntKind.u8.wrap (q[k]+1)=y:=⟨_,rfl⟩;repeat' (first|refine s_t ?_|refine q_k 21 ?_;refine zk ?_;refine zb ?_;refine q_v (zl (hr:=A)) ?_|refine q_k 23 ?_;refine zk ?_;refine zb ?_;refine q_v (zL (j:=k)) ?_;refine q_v (zM (hv:=c0)) ?_;refine q_v (zA (hr:=hy)) ?_;refine q_v (zL (j:=k)) ?_;refine q_n (zcn (v:=.int .u8 y) (hC:=T y)) ?_|refine q_k 22 ?_;refine q_x (zA (hr:=g5)) ?_)
    refine zy (k+1,q.set k y) ⟨P,by rw[AI];exact hq⟩ ?_ ?_ ?_
    ·show sig.length-(k+1)<sig.length-k;omega
    ·exact q_h
    ·exact F8
   obtain rfl:k=sig.length:=q_o;have A:decide ((sig.length:Int)<(sig.length:Int))=false:=q_f;repeat' (first|refine s_0 ?_|refine q_k 21 ?_;refine zk ?_;refine zb ?_;refine q_v (zl (hr:=A)) ?_)
   exact zZ () trivial q_h (FE F8)
 rintro⟨⟩ -;repeat' (first|refine s_0 ?_|refine zg 24 ?_;refine q_v (ze (B:=E) (hz:=hE.symm)) ?_;refine q_v (ze (B:=C) (hz:=hC.symm)) ?_;refine q_v (za (hc:=λF X G hh=>c6 G hh (by intro x hx;(repeat (first|exact hx|apply A9))))) ?_;refine zb ?_;refine q_v (za (hc:=zq c1)) ?_;refine zb ?_)
 exact q_r
end Go.Proofs.YtdnlngbjpdbffaaGreatDoor
