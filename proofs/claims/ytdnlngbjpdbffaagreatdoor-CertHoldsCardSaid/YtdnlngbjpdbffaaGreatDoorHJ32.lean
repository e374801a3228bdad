/- Lemmas of this proof. -/
import Derived.Test.YtdnlngbjpdbffaaGreatDoorHJ31
set_option maxHeartbeats 2000000
set_option maxRecDepth 10000
set_option linter.all false
namespace Go.Proofs.YtdnlngbjpdbffaaGreatDoor
open Go Go.Sy Go.Nt Go.RowKit
attribute [local irreducible] Sy SyL SyX Sy.Fn callFunc zg zad gP gQ gL zaR zaf za7 za2 gel zaQ zbP Sh.sum zbd
theorem ztF(l:List Nat):(zad l).all (·.oneCell')=true:=by
 induction l with
 |nil=>rw[Av.1 (show(zad []).length=0 from zfk [])];rfl
 |cons x l ih=>rw[zgx,BK,zfa,ih];rfl
theorem zr2:zad []= []:=Av.1 (show(zad []).length=0 from zfk [])
def vfs(b4 b5 b6 b9 b10 b12:Nat):List Value:=
 [.func (.func 132) #[] #[.pointer (some ⟨b9,0,none⟩)],.func (.func 133) #[] #[.pointer (some ⟨b9,0,none⟩),.pointer (some ⟨b12,0,none⟩)],.func (.func 135) #[] #[.pointer (some ⟨b9,0,none⟩),.pointer (some ⟨b12,0,none⟩)],.func (.func 136) #[] #[.pointer (some ⟨b4,0,none⟩),.pointer (some ⟨b10,0,none⟩),.pointer (some ⟨b9,0,none⟩),.pointer (some ⟨b12,0,none⟩),.pointer (some ⟨b5,0,none⟩),.pointer (some ⟨b6,0,none⟩)]]
theorem zsc(r F G H j m q B:Nat)(A:Option Addr)(w:World)(I:w.cell? ⟨j,0,none⟩=some (.slice A 0 B))(J:w.rangeAt r 0 (vfs F G H j m q)):
  q_G 131 [.slice (some ⟨r,0,none⟩) 4 4] w (.bool false):=by
 refine zpH r 4 4 _ [false,false,false,false] w rfl rfl q_e J ?_;intro k v L E;rcases k with _|k
 ·obtain rfl:false=v:=An L;exact⟨_,[.pointer (some ⟨j,0,none⟩)],rfl,en rfl,λM K=>zpc j 0 B A M (K.cell I (λh=>h))⟩
 ·rw[Br,BI] at E;exact absurd E q_p
theorem zvq(i Q K L M q r m H I A B y P pc O Z:Nat)(pa Y:Option Addr)(pl ml:List UInt8)(w:World)(h0:1<=i)(h5:i<=4)(hG:GT w)(hT:Tab w No)(h4:w.cell? ⟨K,0,none⟩=some (.int .i64 (i:Int)))(R:w.rangeAt r 0 (zg y))
  (N:w.cell? ⟨q,0,none⟩=some (.slice (some ⟨H,0,none⟩) 2 I))(hr:w.rangeAt H 0 (zad [A,B]))(E:w.rangeAt m 0 (zg (gQ i)))(U:w.cell? ⟨L,0,none⟩=some (.slice pa P pc))(S:w.cell? ⟨M,0,none⟩=some (.slice Y O Z))
  (hp:(⟨pa,P,pc,pl⟩:Bs).ok w)(hm:(⟨Y,O,Z,ml⟩:Bs).ok w)(V:P<=1000)(T:O<=100000)(W:A<18446744073709551616^16)(X:B<18446744073709551616^16)(hy:zaR (gP i) (gQ i) y=true)(hF:w.rangeAt Q 0 (vfs K L M q r m)):
  q_G 131 [.slice (some ⟨Q,0,none⟩) 4 4] w (.bool ([true,decide (A<gQ i),decide (B<gQ i),decide (zbP i pl (sR i y A B) ml=A)].all id)):=by
 have hW:=zb7 i h0 h5;refine zpH Q 4 4 _ _ w rfl rfl q_e hF ?_;intro k v J ht;rcases k with _|_|_|_|k
 ·obtain rfl:=An J;exact⟨_,[.pointer (some ⟨q,0,none⟩)],rfl,en rfl,λG j=>zpc q 2 I _ G (j.cell N (λh=>h))⟩
 ·obtain rfl:=An J;exact⟨_,[.pointer (some ⟨q,0,none⟩),.pointer (some ⟨m,0,none⟩)],rfl,en rfl,λG j=>zvA q H 0 I m A B _ G (j.cell N (λh=>h)) (zaW hr j (λh=>h)) (zaW E j (λh=>h)) W hW⟩
 ·obtain rfl:=An J;exact⟨_,[.pointer (some ⟨q,0,none⟩),.pointer (some ⟨m,0,none⟩)],rfl,en rfl,λG j=>zvV q H 0 I m A B _ G (j.cell N (λh=>h)) (zaW hr j (λh=>h)) (zaW E j (λh=>h)) X hW⟩
 ·obtain rfl:=An J;have F:(true&&(decide (A<gQ i)&&(decide (B<gQ i)&&true)))=true:=ht;rw[B1,E0,A5,decide_eq_true_eq,decide_eq_true_eq] at F;exact⟨_,[.pointer (some ⟨K,0,none⟩),.pointer (some ⟨r,0,none⟩),.pointer (some ⟨q,0,none⟩),.pointer (some ⟨m,0,none⟩),.pointer (some ⟨L,0,none⟩),.pointer (some ⟨M,0,none⟩)],rfl,en rfl,λG j=>
   zu6 i K r q H 0 I m L M A B y P pc O Z pa Y pl ml G h0 h5 (hG.to j) (hT.no j) (j.cell h4 (λh=>h)) (zaW R j (λh=>h)) (j.cell N (λh=>h)) (zaW hr j (λh=>h)) (zaW E j (λh=>h)) (j.cell U (λh=>h)) (j.cell S (λh=>h)) (hp.keep j) (hm.keep j) V T F.1 F.2 hy⟩
 ·cases J
theorem zwY{i:Nat}(h0:1<=i)(j:i<=4):1<=gL i:=zcm (p:=λi=>1<=gL i) (by decide +kernel) (by decide +kernel) (by decide +kernel) (by decide +kernel) i h0 j
theorem zui{z:Int}{pl ml j:List UInt8}(h:(gel z pl).2≠0\/65536<ml.length):ze0 z pl ml j=2:=if_pos h
theorem zmS{z:Int}{pl ml j:List UInt8}(h:¬((gel z pl).2≠0\/65536<ml.length))(m:j.length≠2*gL z.toNat):ze0 z pl ml j=10:=by
 unfold ze0;rw[if_neg h,if_pos m]
theorem zwd{i:Nat}{pl ml q:List UInt8}(h:¬((gel (i:Int) pl).2≠0\/65536<ml.length))(A:q.length=2*gL i){j m:Nat}(r:j=bev 256 (bn (q.take (gL i))))(w:m=bev 256 (bn (q.drop (gL i)))):
  ze0 (i:Int) pl ml q=if ([true,decide (j<gQ i),decide (m<gQ i),decide (zbP i pl (sR i (gel (i:Int) pl).1 j m) ml=j)].all id)=true then 0 else 10:=by
 unfold ze0;rw[if_neg h,Bc,if_neg q_o,<-r,<-w];simp only[BI,DN,id,A5,decide_eq_true_eq,and_true,true_and];by_cases h0:gQ i<=j\/gQ i<=m
 ·rw[if_pos h0,if_neg q_o]
 ·rw[if_neg h0];by_cases hc:zbP i pl (sR i (gel (i:Int) pl).1 j m) ml=j
  ·rw[if_pos hc,if_pos q_o]
  ·rw[if_neg hc,if_neg (λh=>hc h.2.2)]
theorem zsj(z:Int)(pa ma sa:Option Addr)(pn pc T mc U sc:Nat)(pl ml j:List UInt8)(w:World)(hG:GT w)(hT:Tab w No)(hS:ST w)(hp:(⟨pa,pn,pc,pl⟩:Bs).ok w)(hm:(⟨ma,T,mc,ml⟩:Bs).ok w)(hs:(⟨sa,U,sc,j⟩:Bs).ok w)(b7:pn<=1000)(b3:T<=100000)(d8:U<=1000):
  q_G 56 [.int .i64 z,.slice pa pn pc,.slice ma T mc,.slice sa U sc] w (.int .i64 (ze0 z pl ml j)):=by
 refine zz Tryz.func56 Tryz.ntmps56 ?_;have Q:=λH (A:Keep No w H)=>zsl z pa pn pc pl H (hG.to A) hp.len hp.cap (hp.keep A).sla;have S:=λH (A:Keep No w H)=>zvK z H (hG.to A);have c8:ml.length=T:=hm.len;have c9:j.length=U:=hs.len;have c7:=zb (gel z pl).1;by_cases hw:(gel z pl).2≠0\/65536<ml.length
 ·rw[zui hw];have b1:=zb (zg3 z).1;repeat' (first|refine s_0 ?_|refine ze 0 ?_;refine zi ?_;intro _;refine zi ?_;intro _;refine z9 ?_;intro _)
  refine zjn (γ:=Unit) 0 (λ_=>[]) (λ_=>[]) (λ_=>True) rfl ?_ (λ_ _=>?_);rotate_left
  ·repeat' (first|refine s_0 ?_|refine zbO ?_|refine q_k 12 ?_)
   exact q_r
  by_cases he:(gel z pl).2=0
  ·have g1:decide ((gel z pl).2≠0)=false:=decide_eq_false (λh=>h he);have gm:decide (65536<(T:Int))=true:=decide_eq_true (by have:=hw.resolve_left (λh=>h he);omega);generalize (zg3 z).2=e',(zg3 z).1=q,(gel z pl).2=e,(gel z pl).1=y at*;repeat' (first|refine s_0 ?_|refine zf0 ?_|refine zcM ?_|refine zfb ?_|refine ze 1 ?_;refine zi ?_;intro _|refine ze 2 ?_;refine zl ?_;refine zl ?_;refine q_v (za (hc:=zr Q)) ?_;refine zf ?_;refine zi ?_;intro _;refine q_y (zk (n:=y)) ?_|refine ze 3 ?_;refine zl ?_;refine q_v (za (hc:=zr S)) ?_;refine zf ?_;refine zi ?_;intro _;refine q_y (zk (n:=q)) ?_|refine q_k 4 ?_;refine q_v (zV (hr:=g1)) ?_|refine ze 5 ?_;refine zl ?_;refine zf ?_;refine q_v (zF (hr:=gm)) ?_)
   exact zam () trivial FL El
  ·have g1:decide ((gel z pl).2≠0)=true:=decide_eq_true he;generalize (zg3 z).2=e',(zg3 z).1=q,(gel z pl).2=e,(gel z pl).1=y at*;repeat' (first|refine s_0 ?_|refine zf0 ?_|refine zcM ?_|refine zfb ?_|refine ze 1 ?_;refine zi ?_;intro _|refine ze 2 ?_;refine zl ?_;refine zl ?_;refine q_v (za (hc:=zr Q)) ?_;refine zf ?_;refine zi ?_;intro _;refine q_y (zk (n:=y)) ?_|refine ze 3 ?_;refine zl ?_;refine q_v (za (hc:=zr S)) ?_;refine zf ?_;refine zi ?_;intro _;refine q_y (zk (n:=q)) ?_|refine q_k 4 ?_;refine q_v (zV (hr:=g1)) ?_)
   exact zam () trivial FL El
 have he:(gel z pl).2=0:=Classical.byContradiction λh=>hw (.inl h);have F:=zj2 he;obtain⟨i,rfl,hi,h0,h5⟩:=zdo F.1;rw[hi] at F;have hy:zaR (gP i) (gQ i) (gel (i:Int) pl).1=true:=by rw[F.2.2.2];exact F.2.2.1
 have b0:zg3 (i:Int)=(gQ i,0):=by unfold zg3;rw[if_pos F.1,hi]
 rw[b0] at S;rw[he] at Q;have b1:=zb (gQ i);have gm:decide (65536<(T:Int))=false:=decide_eq_false (λh=>hw (.inr q_o));have Y:zbd (i:Int)=gL i:=by unfold zbd;rw[if_pos F.1,hi]
 have Z:=zgM F.1;rw[hi] at Z;have a9:∀x∈zbm (i:Int) j,x<18446744073709551616^16:=by
  unfold zbm;split
  ·intro x hx;cases hx
  ·rename_i h;rw[Y] at h ⊢;intro x hx;simp only[AQ,BB,or_false] at hx;rcases hx with rfl|rfl
   ·exact zqM (by rw[Ad];omega)
   ·exact zqM (by rw[Az];omega)
 have c5:(zbm (i:Int) j).length<=2:=by unfold zbm;split <;> simp
 repeat' (first|refine s_t ?_|refine zdk ?_|refine ze 0 ?_;refine zi ?_;intro _;refine zi ?_;intro _;refine z9 ?_;intro _|refine ze 1 ?_;refine zi ?_;intro _|refine ze 2 ?_;refine zl ?_;refine zl ?_;refine q_v (za (hc:=zr Q)) ?_;refine zf ?_;refine zi ?_;intro _;refine q_y (zk (n:=(gel (i:Int) pl).1)) ?_|refine ze 3 ?_;refine zl ?_;refine q_v (za (hc:=zr S)) ?_;refine zf ?_;refine zi ?_;intro _;refine q_y (zk (n:=gQ i)) ?_|refine q_k 4 ?_;refine zat ?_|refine ze 5 ?_;refine zl ?_;refine zf ?_;refine q_v (zF (hr:=gm)) ?_|refine ze 6 ?_;refine zl ?_;refine zf ?_;(refine q_s (zn (hc:=λH X A L=>ztk (i:Int) sa U sc j H (hs.keep A) q_o)) ?_;rintro _ _ ⟨R,rfl,bI,bS,aS,cS,rfl,rfl⟩))
 rename_i b4 b5 b6 V I K;refine zcN (zbZ 133 16) ?_;unfold zqA;have b8:zad ((zbm (i:Int) j).take 0)= []:=by rw[Bb];exact zr2
 refine zgb (γ:=Nat×Option Addr×Nat) (xs:=zbm (i:Int) j) (Arg:=zxG) zcO rfl (en rfl) rfl (λk s=>s.1=k) (λ_ _ _=>False)
  (λs=>[.blk V 150 [.slice s.2.1 s.1 s.2.2],.row (.slice s.2.1 s.1 s.2.2) 133 16 s.1 (zad ((zbm (i:Int) j).take s.1))])
  [.blk bS 23 [.slice aS U cS],.blk bI 3 [.int .i64 (i:Int)],.row (.slice aS U cS) 5 1 U (j.map v8)]
  [.blk K 133 (zg (gQ i)),.blk I 133 (zg (gel (i:Int) pl).1),.blk b6 23 [.slice ma T mc],.blk b5 23 [.slice pa pn pc],.blk b4 3 [.int .i64 (i:Int)]] (0,none,0) rfl ?_ ?_ ?_ ?_ ?_ ?_
 ·dsimp only;rw[b8]
  ((try simp only[Aa,AY,AH]);(repeat' (first|exact List.Perm.nil|exact Aq _|apply zgP;with_reducible (focus ((repeat (first|exact Ej|apply Ek));done))|apply zgP;(focus ((repeat (first|exact Ej|apply Ek));done)))))
 ·intro H Mi X A a7 _ _;obtain⟨q1,q2⟩:=zek (M:=No) hG (by unfold ze4;simp) (λh=>h) A a7;obtain⟨q3,q4⟩:=zek (M:=No) hS (E3 _ _) (λh=>h) A a7;exact zrS bI bS (i:Int) aS U cS j H Mi hs.len q1 q2 q3 q4
 ·rintro O x vs RA H ⟨rfl,_⟩;rfl
 ·rintro lq k A ⟨P,aP,cP⟩ vs RA W rec c2 N ⟨rfl,rfl⟩ c4 b2;dsimp only at N ⊢;subst N;have a8:zad ((zbm (i:Int) j).take P)++zad [(zbm (i:Int) j)[P]]=zad ((zbm (i:Int) j).take (P+1)):=by
   rw[<-zjN,CA,A2 A];rfl
  have c6:=zb (zbm (i:Int) j)[P];have c3:P<2:=q_o;generalize (zbm (i:Int) j)[P]=x at*;obtain⟨Rn,a6⟩:∃r,r=zad ((zbm (i:Int) j).take (P+1)):=⟨_,rfl⟩;rw[<-a6] at a8;generalize zad ((zbm (i:Int) j).take P)=Ro at*;repeat' (first|refine s_t ?_|apply zaJ;(focus ((repeat (first|exact Ej|apply Ek));done));assumption|refine ze 7 ?_;refine zi ?_;intro _;refine q_n (zk (n:=x)) ?_|refine ze 8 ?_;refine zl ?_;refine q_v (zd (B:=zg x)) ?_|refine q_s (zbX (x:=x)) ?_;rintro _ _ ⟨bN,rfl,rfl⟩|(refine zx ?_;first|refine q_s (zaB (m:=1) (size:=16) (xs:=Ro) (news:=zad [x]) (ys:=Rn) (km:=P+1) (hn:=zfk [x]) (h1:=ztF [x]) (hkm:=rfl) (hys:=a8)) ?_;rintro _ _ ⟨rfl,aQ,cQ,rfl⟩|refine zJ ?_|fail)|fail)
  refine zfY (P+1,aQ,cQ) rfl ?_;dsimp only;rw[<-a6];exact q_h
 ·rintro⟨P,aP,cP⟩ N;dsimp only at N ⊢;subst N;rw[List.take_length];repeat' (first|refine zd4 ?_|refine zhd ?_|fail)
  by_cases hlen:j.length=2*gL i
  ·have G:zbm (i:Int) j= [bev 256 (bn (j.take (gL i))),bev 256 (bn (j.drop (gL i)))]:=by
    unfold zbm;have:=zwY h0 h5;rw[Y,if_neg q_o]
   obtain⟨x0,e0⟩:∃x,x=bev 256 (bn (j.take (gL i))):=⟨_,rfl⟩;obtain⟨x1,e1⟩:∃x,x=bev 256 (bn (j.drop (gL i))):=⟨_,rfl⟩;rw[<-e0,<-e1] at G;rw[zwd hw hlen e0 e1];have c0:=a9 x0 (by rw[G];simp);have c1:=a9 x1 (by rw[G];simp);have hl:(zbm (i:Int) j).length=2:=by rw[G];rfl
   rw[hl,G];refine zkQ (a:=aP) (n:=2) (cp:=cP) (s:=16) (E:=133) (xs:=zad [x0,x1]) (by exact Ek Ej) q_e λbP J ha _ _ _ _=>?_;subst ha;repeat' (first|refine ze 9 ?_;refine q_v zZ ?_;refine q_v zZ ?_;refine q_v zZ ?_;refine q_v zZ ?_;(refine q_s zD ?_;rintro _ _ ⟨_,rfl,rfl⟩))
   rename_i bF;refine q_v (za (hc:=λH X A L=>zvq i bF b4 b5 b6 V I K bP cP x0 x1 (gel (i:Int) pl).1 pn pc T mc pa ma pl ml H h0 h5 (hG.to A) (hT.no A) (zq (L.has (r:=.blk b4 3 [.int .i64 (i:Int)]) q_h) Em 0 _ rfl) (zq (L.has (r:=.blk I 133 (zg (gel (i:Int) pl).1)) q_h) Em) (zq (L.has (r:=.blk V 150 [.slice (some ⟨bP,0,none⟩) 2 cP]) q_h) Em 0 _ rfl) (zq (L.has (r:=.blk bP 133 (zad [x0,x1]++J)) q_h) zm6) (zq (L.has (r:=.blk K 133 (zg (gQ i))) q_h) Em) (zq (L.has (r:=.blk b5 23 [.slice pa pn pc]) q_h) Em 0 _ rfl) (zq (L.has (r:=.blk b6 23 [.slice ma T mc]) q_h) Em 0 _ rfl) (hp.keep A) (hm.keep A) b7 b3 c0 c1 hy (zq (L.has (r:=.blk bF 25 (vfs b4 b5 b6 V I K)) q_h) Em))) ?_;generalize ([true,decide (x0<gQ i),decide (x1<gQ i),decide (zbP i pl (sR i (gel (i:Int) pl).1 x0 x1) ml=x0)].all id)=r;cases r with
   |true=>
    repeat' (first|refine s_0 ?_|refine zbO ?_|refine q_k 10 ?_)
    exact q_r
   |false=>
    repeat' (first|refine s_0 ?_|refine zbO ?_|refine q_k 11 ?_)
    exact q_r
  ·have G:zbm (i:Int) j= []:=by
    unfold zbm;rw[Y,if_pos (.inr hlen)]
   have hl:(zbm (i:Int) j).length=0:=by rw[G];rfl
   rw[zmS hw (by rw[hi];exact hlen),hl];repeat' (first|refine ze 9 ?_;refine q_v zZ ?_;refine q_v zZ ?_;refine q_v zZ ?_;refine q_v zZ ?_;(refine q_s zD ?_;rintro _ _ ⟨_,rfl,rfl⟩))
   rename_i bF;refine q_v (za (hc:=λH X A L=>zsc bF b4 b5 b6 V I K cP aP H (zq (L.has (r:=.blk V 150 [.slice aP 0 cP]) q_h) Em 0 _ rfl) (zq (L.has (r:=.blk bF 25 (vfs b4 b5 b6 V I K)) q_h) Em))) ?_;repeat' (first|refine s_0 ?_|refine zbO ?_|refine q_k 11 ?_)
   exact q_r
 ·exact λ_ _ _ _ h=>h.elim
end Go.Proofs.YtdnlngbjpdbffaaGreatDoor
namespace Go.Ct
open Go Go.Sy
theorem zm3{w:World}{a:Option Addr}{k:Nat}{m:List (List Value)}(h:SlA w a m.flatten)(hk:∀C∈m,C.length=k)(h0:0<k){i:Nat}(B:i<m.length):∃b o,a=some ⟨b,o,none⟩/\∀(j:Nat) (q:j<m.length),w.rangeAt b (o+j*k) m[j]:=by
 rcases h with h|⟨b,o,rfl,G⟩
 ·have r:=hk m[i] (AX B);have F:m[i]= []:=List.flatten_eq_nil_iff.1 h _ (AX B);rw[F] at r;simp at r;omega
 ·refine⟨b,o,rfl,λj q t v E=>?_⟩;have H:t<k:=by have:=(AL.1 E).1;rw[hk m[j] (AX q)] at this;exact this
  have A:=zf7 (f:=λ(z:List Value)=>z) (k:=k) m hk j t H;rw[List.flatMap_id',A2 q] at A;have:=G (j*k+t) v (by rw[A];exact E);rw[BH];exact this
def zi7{α:Type}(E k:Nat)(zs:List (List Value×α))(v:Value)(R:List Res):Prop:=∃a c,v= .slice a zs.length c/\R= [.row (.slice a zs.length c) E k zs.length (zs.map (·.1)).flatten]
def zg5(es:List Int):Int:=(es.find? λe=>!decide (e=0)).getD 0
end Go.Ct
namespace Go.Proofs.YtdnlngbjpdbffaaGreatDoor
open Go Go.Sy Go.Ct Go.Nt Go.RowKit
attribute [local irreducible] Sy SyL SyX SyC SyF Sy.Fn callFunc
theorem zuc(a:Option Addr)(n c f:Nat)(cap:List Value)(xs:List Anch)(r:List (List Value))(q:Anch->Bool)(w:World)(I:∀args w,(callFunc f args).run Tryz.prog w= .ok (.enter f args) w)(hn:xs.length=n)(hC:r.length=n)(hk:∀C∈r,C.length=4/\C.all (·.oneCell')=true)(Z:SlA w a r.flatten)(hb:n<1000)
  (W:∀(i:Nat) (C:List Value) (x:Anch),r[i]?=some C->xs[i]?=some x->∀O,Keep No w O->q_G f (.agg C.toArray::cap) O (.bool (q x))):
  Sy.Fn Tryz.prog 141 [.slice a n c,.func (.func f) #[] cap.toArray] w No (zi7 65 4 ((List.zip r xs).filter (λp=>q p.2))):=by
 refine zz Tryz.func141 Tryz.ntmps141 ?_;unfold zi7;repeat' (first|refine s_t ?_|refine zL [0,1,2] ?_;refine zf ?_)
 refine zcN (zbZ 65 4) ?_;refine zX (γ:=Nat×Option Addr×Nat) (λg=>[(1,.func (.func f) #[] cap.toArray),(8,.slice a n c),(9,.int .i64 (n:Int)),(10,.int .i64 (g.1:Int)),(5,.slice g.2.1 (((List.zip r xs).take g.1).filter (λp=>q p.2)).length g.2.2)])
  (λg=>[.row (.slice g.2.1 (((List.zip r xs).take g.1).filter (λp=>q p.2)).length g.2.2) 65 4 (((List.zip r xs).take g.1).filter (λp=>q p.2)).length ((((List.zip r xs).take g.1).filter (λp=>q p.2)).map (·.1)).flatten]) (λg=>g.1<=n) (λg=>n-g.1) (0,none,0) (AE _) ?_ ?_ ?_
 ·exact q_h
 ·exact q_h
 rintro⟨i,R,T⟩ Y;dsimp only at Y ⊢;have a6:(List.zip r xs).length=n:=by simp[hn,hC]
 by_cases hlt:i<n
 ·obtain⟨bl,ol,rfl,H⟩:=zm3 (k:=4) Z (λC h=>(hk C h).1) q_e (i:=i) q_o;have hc:=H i q_o;have J:=hk r[i] (AX q_o);have N:=W i r[i] xs[i] (A2 q_o) (A2 q_o);have L:(List.zip r xs).take (i+1)=(List.zip r xs).take i++[(r[i],xs[i])]:=by rw[zaI q_o,List.getElem_zip]
  generalize xs[i]=x,r[i]=C at*;have A:=J.1;have G:=J.2;have g1:decide ((i:Int)<(n:Int))=true:=q_d;have g5:IntKind.i64.wrap ((i:Int)+1)=((i+1:Nat):Int):=q_w;have X:((((List.zip r xs).take i).filter (λp=>q p.2))).length<=n:=by
   refine BM (Ci _ _) ?_;rw[Ad];omega
  have K:q x=false->((List.zip r xs).take (i+1)).filter (λp=>q p.2)=((List.zip r xs).take i).filter (λp=>q p.2):=λh=>by rw[L,DD];simp[h]
  have F:q x=true->((List.zip r xs).take (i+1)).filter (λp=>q p.2)=((List.zip r xs).take i).filter (λp=>q p.2)++[(C,x)]:=λh=>by rw[L,DD];simp[h]
  obtain⟨M,E⟩:∃z,z=((List.zip r xs).take (i+1)).filter (λp=>q p.2):=⟨_,rfl⟩;rw[<-E] at K F;generalize ((List.zip r xs).take i).filter (λp=>q p.2)=P at*;cases hqx:q x
  ·have hz:=K hqx;rw[hqx] at N;repeat' (first|refine s_t ?_|refine ze 3 ?_;refine q_v (zm (hr:=g1)) ?_|refine ze 4 ?_;refine q_v (zS (j:=i)) ?_;refine q_v (zK (hv:=hc) (hz:=A.symm)) ?_;refine zi ?_;intro _;refine q_n (zA (B:=C) (hv:=G) (h1:=A.symm) (hC:=by exact A.symm)) ?_|refine q_k 5 ?_;refine q_v (zd (B:=C) (hz:=A.symm)) ?_;(refine q_v (za (f:=f) (cap:=cap) (vs:=[.agg C.toArray]) (he:=I) (hc:=zr N)) ?_)|refine ze 7 ?_;refine q_x (zN (hr:=g5)) ?_)
   refine zQ (i+1,R,T) hlt ?_ ?_ ?_
   ·show n-(i+1)<n-i;omega
   ·dsimp only;rw[<-E,hz];exact q_h
   ·dsimp only;rw[<-E,hz];exact q_h
  ·have hz:=F hqx;rw[hqx] at N;have U:(P.map (·.1)).flatten++C=(M.map (·.1)).flatten:=by rw[hz,B2,Cz];simp
   have V:P.length+1=M.length:=by rw[hz];simp
   repeat' (first|refine s_t ?_|refine ze 3 ?_;refine q_v (zm (hr:=g1)) ?_|refine ze 4 ?_;refine q_v (zS (j:=i)) ?_;refine q_v (zK (hv:=hc) (hz:=A.symm)) ?_;refine zi ?_;intro _;refine q_n (zA (B:=C) (hv:=G) (h1:=A.symm) (hC:=by exact A.symm)) ?_|refine q_k 5 ?_;refine q_v (zd (B:=C) (hz:=A.symm)) ?_;(refine q_v (za (f:=f) (cap:=cap) (vs:=[.agg C.toArray]) (he:=I) (hc:=zr N)) ?_)|refine q_k 6 ?_;refine q_v (zd (B:=C) (hz:=A.symm)) ?_;(refine q_s (zb6 (vs:=[.agg C.toArray]) (zfg A rfl)) ?_;rintro _ _ ⟨bL,rfl,rfl⟩);(refine q_s (zaB (size:=4) (news:=C) (m:=1) (hn:=A) (h1:=G) (hys:=U) (hkm:=V)) ?_;rintro _ _ ⟨rfl,Q,S,rfl⟩);refine zf ?_|refine ze 7 ?_;refine q_x (zN (hr:=g5)) ?_)
   refine zQ (i+1,Q,S) hlt ?_ ?_ ?_
   ·show n-(i+1)<n-i;omega
   ·dsimp only;rw[<-E];exact q_h
   ·dsimp only;rw[<-E];exact q_h
 obtain rfl:i=n:=q_o;rw[A9 q_o];have g1:decide ((i:Int)<(i:Int))=false:=q_f;repeat' (first|refine s_0 ?_|refine ze 3 ?_;refine q_v (zm (hr:=g1)) ?_|refine q_k 8 ?_)
 exact q_r
theorem zt1(a:Option Addr)(n c f:Nat)(cap:List Value)(xs:List Revo)(r:List (List Value))(q:Revo->Bool)(w:World)(I:∀args w,(callFunc f args).run Tryz.prog w= .ok (.enter f args) w)(hn:xs.length=n)(hC:r.length=n)(hk:∀C∈r,C.length=3/\C.all (·.oneCell')=true)(Z:SlA w a r.flatten)(hb:n<1000)
  (W:∀(i:Nat) (C:List Value) (x:Revo),r[i]?=some C->xs[i]?=some x->∀O,Keep No w O->q_G f (.agg C.toArray::cap) O (.bool (q x))):
  Sy.Fn Tryz.prog 143 [.slice a n c,.func (.func f) #[] cap.toArray] w No (zi7 67 3 ((List.zip r xs).filter (λp=>q p.2))):=by
 refine zz Tryz.func143 Tryz.ntmps143 ?_;unfold zi7;repeat' (first|refine s_t ?_|refine zL [0,1,2] ?_;refine zf ?_)
 refine zcN (zbZ 67 3) ?_;refine zX (γ:=Nat×Option Addr×Nat) (λg=>[(1,.func (.func f) #[] cap.toArray),(8,.slice a n c),(9,.int .i64 (n:Int)),(10,.int .i64 (g.1:Int)),(5,.slice g.2.1 (((List.zip r xs).take g.1).filter (λp=>q p.2)).length g.2.2)])
  (λg=>[.row (.slice g.2.1 (((List.zip r xs).take g.1).filter (λp=>q p.2)).length g.2.2) 67 3 (((List.zip r xs).take g.1).filter (λp=>q p.2)).length ((((List.zip r xs).take g.1).filter (λp=>q p.2)).map (·.1)).flatten]) (λg=>g.1<=n) (λg=>n-g.1) (0,none,0) (AE _) ?_ ?_ ?_
 ·exact q_h
 ·exact q_h
 rintro⟨i,R,T⟩ Y;dsimp only at Y ⊢;have a6:(List.zip r xs).length=n:=by simp[hn,hC]
 by_cases hlt:i<n
 ·obtain⟨bl,ol,rfl,H⟩:=zm3 (k:=3) Z (λC h=>(hk C h).1) q_e (i:=i) q_o;have hc:=H i q_o;have J:=hk r[i] (AX q_o);have N:=W i r[i] xs[i] (A2 q_o) (A2 q_o);have L:(List.zip r xs).take (i+1)=(List.zip r xs).take i++[(r[i],xs[i])]:=by rw[zaI q_o,List.getElem_zip]
  generalize xs[i]=x,r[i]=C at*;have A:=J.1;have G:=J.2;have g1:decide ((i:Int)<(n:Int))=true:=q_d;have g5:IntKind.i64.wrap ((i:Int)+1)=((i+1:Nat):Int):=q_w;have X:((((List.zip r xs).take i).filter (λp=>q p.2))).length<=n:=by
   refine BM (Ci _ _) ?_;rw[Ad];omega
  have K:q x=false->((List.zip r xs).take (i+1)).filter (λp=>q p.2)=((List.zip r xs).take i).filter (λp=>q p.2):=λh=>by rw[L,DD];simp[h]
  have F:q x=true->((List.zip r xs).take (i+1)).filter (λp=>q p.2)=((List.zip r xs).take i).filter (λp=>q p.2)++[(C,x)]:=λh=>by rw[L,DD];simp[h]
  obtain⟨M,E⟩:∃z,z=((List.zip r xs).take (i+1)).filter (λp=>q p.2):=⟨_,rfl⟩;rw[<-E] at K F;generalize ((List.zip r xs).take i).filter (λp=>q p.2)=P at*;cases hqx:q x
  ·have hz:=K hqx;rw[hqx] at N;repeat' (first|refine s_t ?_|refine ze 3 ?_;refine q_v (zm (hr:=g1)) ?_|refine ze 4 ?_;refine q_v (zS (j:=i)) ?_;refine q_v (zK (hv:=hc) (hz:=A.symm)) ?_;refine zi ?_;intro _;refine q_n (zA (B:=C) (hv:=G) (h1:=A.symm) (hC:=by exact A.symm)) ?_|refine q_k 5 ?_;refine q_v (zd (B:=C) (hz:=A.symm)) ?_;(refine q_v (za (f:=f) (cap:=cap) (vs:=[.agg C.toArray]) (he:=I) (hc:=zr N)) ?_)|refine ze 7 ?_;refine q_x (zN (hr:=g5)) ?_)
   refine zQ (i+1,R,T) hlt ?_ ?_ ?_
   ·show n-(i+1)<n-i;omega
   ·dsimp only;rw[<-E,hz];exact q_h
   ·dsimp only;rw[<-E,hz];exact q_h
  ·have hz:=F hqx;rw[hqx] at N;have U:(P.map (·.1)).flatten++C=(M.map (·.1)).flatten:=by rw[hz,B2,Cz];simp
   have V:P.length+1=M.length:=by rw[hz];simp
   repeat' (first|refine s_t ?_|refine ze 3 ?_;refine q_v (zm (hr:=g1)) ?_|refine ze 4 ?_;refine q_v (zS (j:=i)) ?_;refine q_v (zK (hv:=hc) (hz:=A.symm)) ?_;refine zi ?_;intro _;refine q_n (zA (B:=C) (hv:=G) (h1:=A.symm) (hC:=by exact A.symm)) ?_|refine q_k 5 ?_;refine q_v (zd (B:=C) (hz:=A.symm)) ?_;(refine q_v (za (f:=f) (cap:=cap) (vs:=[.agg C.toArray]) (he:=I) (hc:=zr N)) ?_)|refine q_k 6 ?_;refine q_v (zd (B:=C) (hz:=A.symm)) ?_;(refine q_s (zb6 (vs:=[.agg C.toArray]) (zfg A rfl)) ?_;rintro _ _ ⟨bL,rfl,rfl⟩);(refine q_s (zaB (size:=3) (news:=C) (m:=1) (hn:=A) (h1:=G) (hys:=U) (hkm:=V)) ?_;rintro _ _ ⟨rfl,Q,S,rfl⟩);refine zf ?_|refine ze 7 ?_;refine q_x (zN (hr:=g5)) ?_)
   refine zQ (i+1,Q,S) hlt ?_ ?_ ?_
   ·show n-(i+1)<n-i;omega
   ·dsimp only;rw[<-E];exact q_h
   ·dsimp only;rw[<-E];exact q_h
 obtain rfl:i=n:=q_o;rw[A9 q_o];have g1:decide ((i:Int)<(i:Int))=false:=q_f;repeat' (first|refine s_0 ?_|refine ze 3 ?_;refine q_v (zm (hr:=g1)) ?_|refine q_k 8 ?_)
 exact q_r
theorem zv7(b n c:Nat)(E:List Value)(es:List Int)(w:World)(hn:E.length=n)(hb:es.length=n)(L:n<=1000)(M:w.rangeAt b 0 E)
  (K:∀(k:Nat) (e:Int),es[k]?=some e->(∀J∈es.take k,J=0)->∃(f:Nat) (cap:List Value),E[k]?=some (.func (.func f) #[] cap.toArray)/\(∀args w,(callFunc f args).run Tryz.prog w= .ok (.enter f args) w)/\∀I,Keep No w I->q_G f cap I (.int .i64 e)):
  q_G 60 [.slice (some ⟨b,0,none⟩) n c] w (.int .i64 (zg5 es)):=by
 refine zz Tryz.func60 Tryz.ntmps60 ?_;repeat' (first|refine s_t ?_|refine zL [0,1] ?_;refine zf ?_)
 refine zX (γ:=Nat) (λk=>[(6,.slice (some ⟨b,0,none⟩) n c),(7,.int .i64 n),(8,.int .i64 k)]) (λ_=>[]) (λk=>k<=n/\∀e∈es.take k,e=0) (λk=>n-k) 0 ⟨AE _,λe h=>by cases h⟩ ?_ ?_ ?_
 ·exact q_h
 ·exact q_h
 rintro k ⟨N,m⟩;rcases AK k n with h|h
 ·obtain⟨v,hv⟩:∃v,es[k]?=some v:=⟨_,A2 q_o⟩;obtain⟨f,cap,F,B,hc⟩:=K k v hv m;have q:w.cell? ⟨b,0+k,none⟩=some (.func (.func f) #[] cap.toArray):=M k _ F;have r:decide ((k:Int)<(n:Int))=true:=q_d;have A:IntKind.i64.wrap ((k:Int)+1)=((k+1:Nat):Int):=q_w;have G:es.take (k+1)=es.take k++[v]:=by rw[CA,hv];rfl
  by_cases hz:v=0
  ·have g:decide (v≠0)=false:=decide_eq_false (λh=>h hz);repeat' (first|refine s_t ?_|refine ze 2 ?_;refine q_v (zm (hr:=r)) ?_|refine ze 3 ?_;refine q_v (zG (j:=k)) ?_;refine q_x (zp (hv:=q)) ?_|refine q_k 4 ?_;(refine q_v (za (f:=f) (cap:=cap) (vs:=[]) (he:=B) (hc:=zr hc)) ?_);refine zf ?_|refine q_k 5 ?_;refine q_v (zV (hr:=g)) ?_|refine ze 7 ?_;refine q_x (zN (hr:=A)) ?_)
   refine zQ (k+1) ⟨h,λe he=>?_⟩ ?_ ?_ ?_
   ·rw[G] at he;rcases Am.1 he with he|he
    ·exact m e he
    ·rw[AC.1 he,hz]
   ·show n-(k+1)<n-k;omega
   ·exact q_h
   ·exact q_h
  ·have g:decide (v≠0)=true:=decide_eq_true hz;have hex:zg5 es=v:=by
    have e:es=es.take k++(v::es.drop (k+1)):=by
     have F:es.drop k=v::es.drop (k+1):=by
      rw[Bq q_o];rw[A2 q_o] at hv;rw[An hv]
     rw[<-F,BV]
    have h0:(es.take k).find? (λe=>!decide (e=0))=none:=List.find?_eq_none.2 (λx H=>by simp[m x H]);unfold zg5;rw[e,List.find?_append,h0];simp[hz]
   rw[hex];repeat' (first|refine s_t ?_|refine ze 2 ?_;refine q_v (zm (hr:=r)) ?_|refine ze 3 ?_;refine q_v (zG (j:=k)) ?_;refine q_x (zp (hv:=q)) ?_|refine q_k 4 ?_;(refine q_v (za (f:=f) (cap:=cap) (vs:=[]) (he:=B) (hc:=zr hc)) ?_);refine zf ?_|refine q_k 5 ?_;refine q_v (zV (hr:=g)) ?_|refine q_k 6 ?_)
   exact q_r
 ·obtain rfl:k=n:=q_o;rw[A9 q_o] at m;have r:decide ((k:Int)<(k:Int))=false:=q_f;have hex:zg5 es=0:=by
   unfold zg5;rw[List.find?_eq_none.2 (λx H=>by simp[m x H])];rfl
  rw[hex];repeat' (first|refine s_0 ?_|refine ze 2 ?_;refine q_v (zm (hr:=r)) ?_|refine q_k 8 ?_)
  exact q_r
end Go.Proofs.YtdnlngbjpdbffaaGreatDoor
