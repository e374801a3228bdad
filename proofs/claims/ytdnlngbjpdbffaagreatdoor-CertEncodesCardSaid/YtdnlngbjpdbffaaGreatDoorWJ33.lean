/- Lemmas of this proof. -/
import Derived.Test.YtdnlngbjpdbffaaGreatDoorWJ32
set_option maxHeartbeats 2000000
set_option maxRecDepth 10000
set_option linter.all false
namespace Go.Proofs.YtdnlngbjpdbffaaGreatDoor
open Go Go.Sy Go.Nt Go.RowKit
attribute [local irreducible] Sy SyL SyX Sy.Fn callFunc zg zae zac iC gP gQ gL zaH zai za7 za1 gel zaU zbX Sh.sum zbh
theorem ztW(l:List Nat):(zae l).all (·.oneCell')=true:=by
 induction l with
 |nil=>rw[As.1 (show(zae []).length=0 from zfD [])];rfl
 |cons x l ih=>rw[zhb,BW,zfE,ih];rfl
theorem zsc:zae []= []:=As.1 (show(zae []).length=0 from zfD [])
def vfs(b4 b5 b6 b9 b10 b12:Nat):List Value:=
 [.func (.func 132) #[] #[.pointer (some ⟨b9,0,none⟩)],.func (.func 133) #[] #[.pointer (some ⟨b9,0,none⟩),.pointer (some ⟨b12,0,none⟩)],.func (.func 135) #[] #[.pointer (some ⟨b9,0,none⟩),.pointer (some ⟨b12,0,none⟩)],.func (.func 136) #[] #[.pointer (some ⟨b4,0,none⟩),.pointer (some ⟨b10,0,none⟩),.pointer (some ⟨b9,0,none⟩),.pointer (some ⟨b12,0,none⟩),.pointer (some ⟨b5,0,none⟩),.pointer (some ⟨b6,0,none⟩)]]
theorem zrR(r E F G j m q B:Nat)(A:Option Addr)(w:World)(H:w.cell? ⟨j,0,none⟩=some (.slice A 0 B))(I:w.rangeAt r 0 (vfs E F G j m q)):
  q_G 131 [.slice (some ⟨r,0,none⟩) 4 4] w (.bool false):=by
 refine zpG r 4 4 _ [false,false,false,false] w rfl rfl q_e I ?_;intro k v K C;rcases k with _|k
 ·obtain rfl:false=v:=Am K;exact⟨_,[.pointer (some ⟨j,0,none⟩)],rfl,en rfl,λL J=>zpP j 0 B A L (J.cell H (λh=>h))⟩
 ·rw[By,BS] at C;exact absurd C q_p
theorem zxy(i P J K L q r m G H A B y O pc N Y:Nat)(Z X:Option Addr)(pl ml:List UInt8)(w:World)(h0:1<=i)(h5:i<=4)(hG:GT w)(hT:Tab w No)(h4:w.cell? ⟨J,0,none⟩=some (.int .i64 (i:Int)))(Q:w.rangeAt r 0 (zg y))
  (M:w.cell? ⟨q,0,none⟩=some (.slice (some ⟨G,0,none⟩) 2 H))(hr:w.rangeAt G 0 (zae [A,B]))(C:w.rangeAt m 0 (zg (gQ i)))(T:w.cell? ⟨K,0,none⟩=some (.slice Z O pc))(R:w.cell? ⟨L,0,none⟩=some (.slice X N Y))
  (hp:(⟨Z,O,pc,pl⟩:Bs).ok w)(hm:(⟨X,N,Y,ml⟩:Bs).ok w)(U:O<=1000)(S:N<=100000)(V:A<18446744073709551616^16)(W:B<18446744073709551616^16)(hy:zaH (gP i) (gQ i) y=true)(hF:w.rangeAt P 0 (vfs J K L q r m)):
  q_G 131 [.slice (some ⟨P,0,none⟩) 4 4] w (.bool ([true,decide (A<gQ i),decide (B<gQ i),decide (zbX i pl (sR i y A B) ml=A)].all id)):=by
 have hW:=zcb i h0 h5;refine zpG P 4 4 _ _ w rfl rfl q_e hF ?_;intro k v I ht;rcases k with _|_|_|_|k
 ·obtain rfl:=Am I;exact⟨_,[.pointer (some ⟨q,0,none⟩)],rfl,en rfl,λF j=>zpP q 2 H _ F (j.cell M (λh=>h))⟩
 ·obtain rfl:=Am I;exact⟨_,[.pointer (some ⟨q,0,none⟩),.pointer (some ⟨m,0,none⟩)],rfl,en rfl,λF j=>zwB q G 0 H m A B _ F (j.cell M (λh=>h)) (zaX hr j (λh=>h)) (zaX C j (λh=>h)) V hW⟩
 ·obtain rfl:=Am I;exact⟨_,[.pointer (some ⟨q,0,none⟩),.pointer (some ⟨m,0,none⟩)],rfl,en rfl,λF j=>zxx q G 0 H m A B _ F (j.cell M (λh=>h)) (zaX hr j (λh=>h)) (zaX C j (λh=>h)) W hW⟩
 ·obtain rfl:=Am I;have E:(true&&(decide (A<gQ i)&&(decide (B<gQ i)&&true)))=true:=ht;rw[B6,Dd,AA,decide_eq_true_eq,decide_eq_true_eq] at E;exact⟨_,[.pointer (some ⟨J,0,none⟩),.pointer (some ⟨r,0,none⟩),.pointer (some ⟨q,0,none⟩),.pointer (some ⟨m,0,none⟩),.pointer (some ⟨K,0,none⟩),.pointer (some ⟨L,0,none⟩)],rfl,en rfl,λF j=>
   zwP i J r q G 0 H m K L A B y O pc N Y Z X pl ml F h0 h5 (hG.to j) (hT.no j) (j.cell h4 (λh=>h)) (zaX Q j (λh=>h)) (j.cell M (λh=>h)) (zaX hr j (λh=>h)) (zaX C j (λh=>h)) (j.cell T (λh=>h)) (j.cell R (λh=>h)) (hp.keep j) (hm.keep j) U S E.1 E.2 hy⟩
 ·cases I
theorem zyC{i:Nat}(h0:1<=i)(j:i<=4):1<=gL i:=zcA (p:=λi=>1<=gL i) (by decide +kernel) (by decide +kernel) (by decide +kernel) (by decide +kernel) i h0 j
theorem zt9{z:Int}{pl ml j:List UInt8}(h:(gel z pl).2≠0\/65536<ml.length):zfO z pl ml j=2:=if_pos h
theorem znr{z:Int}{pl ml j:List UInt8}(h:¬((gel z pl).2≠0\/65536<ml.length))(m:j.length≠2*gL z.toNat):zfO z pl ml j=10:=by
 unfold zfO;rw[if_neg h,if_pos m]
theorem zwI{i:Nat}{pl ml q:List UInt8}(h:¬((gel (i:Int) pl).2≠0\/65536<ml.length))(A:q.length=2*gL i){j m:Nat}(r:j=bev 256 (bn (q.take (gL i))))(w:m=bev 256 (bn (q.drop (gL i)))):
  zfO (i:Int) pl ml q=if ([true,decide (j<gQ i),decide (m<gQ i),decide (zbX i pl (sR i (gel (i:Int) pl).1 j m) ml=j)].all id)=true then 0 else 10:=by
 unfold zfO;rw[if_neg h,Bj,if_neg q_o,<-r,<-w];simp only[BS,Du,id,AA,decide_eq_true_eq,and_true,true_and];by_cases h0:gQ i<=j\/gQ i<=m
 ·rw[if_pos h0,if_neg q_o]
 ·rw[if_neg h0];by_cases hc:zbX i pl (sR i (gel (i:Int) pl).1 j m) ml=j
  ·rw[if_pos hc,if_pos q_o]
  ·rw[if_neg hc,if_neg (λh=>hc h.2.2)]
theorem zsw(z:Int)(pa ma sa:Option Addr)(Z pc S mc T sc:Nat)(pl ml j:List UInt8)(w:World)(hG:GT w)(hT:Tab w No)(hS:ST w)(hp:(⟨pa,Z,pc,pl⟩:Bs).ok w)(hm:(⟨ma,S,mc,ml⟩:Bs).ok w)(hs:(⟨sa,T,sc,j⟩:Bs).ok w)(b7:Z<=1000)(b3:S<=100000)(d8:T<=1000):
  q_G 56 [.int .i64 z,.slice pa Z pc,.slice ma S mc,.slice sa T sc] w (.int .i64 (zfO z pl ml j)):=by
 refine zt Tryz.func56 Tryz.ntmps56 ?_;have P:=λG (A:Keep No w G)=>zsO z pa Z pc pl G (hG.to A) hp.len hp.cap (hp.keep A).sla;have Q:=λG (A:Keep No w G)=>zv9 z G (hG.to A);have c8:ml.length=S:=hm.len;have c9:j.length=T:=hs.len;have c7:=zd (gel z pl).1;by_cases hw:(gel z pl).2≠0\/65536<ml.length
 ·rw[zt9 hw];have b1:=zd (zhq z).1;repeat' (first|refine s_0 ?_|refine zf 0 ?_;refine zj ?_;intro _;refine zj ?_;intro _;refine zW ?_;intro _)
  refine zjS (γ:=Unit) 0 (λ_=>[]) (λ_=>[]) (λ_=>True) rfl ?_ (λ_ _=>?_);rotate_left
  ·repeat' (first|refine s_0 ?_|refine zbT ?_|refine q_k 12 ?_)
   exact q_r
  by_cases he:(gel z pl).2=0
  ·have g1:decide ((gel z pl).2≠0)=false:=decide_eq_false (λh=>h he);have gm:decide (65536<(S:Int))=true:=decide_eq_true (by have:=hw.resolve_left (λh=>h he);omega);generalize (zhq z).2=e',(zhq z).1=q,(gel z pl).2=e,(gel z pl).1=y at*;repeat' (first|refine s_0 ?_|refine zgA ?_|refine zc8 ?_|refine zfI ?_|refine zf 1 ?_;refine zj ?_;intro _|refine zf 2 ?_;refine zm ?_;refine zm ?_;refine q_v (za (hc:=zu P)) ?_;refine zb ?_;refine zj ?_;intro _;refine q_y (zl (n:=y)) ?_|refine zf 3 ?_;refine zm ?_;refine q_v (za (hc:=zu Q)) ?_;refine zb ?_;refine zj ?_;intro _;refine q_y (zl (n:=q)) ?_|refine q_k 4 ?_;refine q_v (zaf (hr:=g1)) ?_|refine zf 5 ?_;refine zm ?_;refine zb ?_;refine q_v (zH (hr:=gm)) ?_)
   exact zak () trivial FP Er
  ·have g1:decide ((gel z pl).2≠0)=true:=decide_eq_true he;generalize (zhq z).2=e',(zhq z).1=q,(gel z pl).2=e,(gel z pl).1=y at*;repeat' (first|refine s_0 ?_|refine zgA ?_|refine zc8 ?_|refine zfI ?_|refine zf 1 ?_;refine zj ?_;intro _|refine zf 2 ?_;refine zm ?_;refine zm ?_;refine q_v (za (hc:=zu P)) ?_;refine zb ?_;refine zj ?_;intro _;refine q_y (zl (n:=y)) ?_|refine zf 3 ?_;refine zm ?_;refine q_v (za (hc:=zu Q)) ?_;refine zb ?_;refine zj ?_;intro _;refine q_y (zl (n:=q)) ?_|refine q_k 4 ?_;refine q_v (zaf (hr:=g1)) ?_)
   exact zak () trivial FP Er
 have he:(gel z pl).2=0:=Classical.byContradiction λh=>hw (.inl h);have C:=zkT he;obtain⟨i,rfl,hi,h0,h5⟩:=zdf C.1;rw[hi] at C;have hy:zaH (gP i) (gQ i) (gel (i:Int) pl).1=true:=by rw[C.2.2.2];exact C.2.2.1
 have b0:zhq (i:Int)=(gQ i,0):=by unfold zhq;rw[if_pos C.1,hi]
 rw[b0] at Q;rw[he] at P;have b1:=zd (gQ i);have gm:decide (65536<(S:Int))=false:=decide_eq_false (λh=>hw (.inr q_o));have V:zbh (i:Int)=gL i:=by unfold zbh;rw[if_pos C.1,hi]
 have Y:=zfY C.1;rw[hi] at Y;have a9:∀x∈zbs (i:Int) j,x<18446744073709551616^16:=by
  unfold zbs;split
  ·intro x hx;cases hx
  ·rename_i h;rw[V] at h ⊢;intro x hx;simp only[AS,BC,or_false] at hx;rcases hx with rfl|rfl
   ·exact znc (by rw[AR];omega)
   ·exact znc (by rw[Ar];omega)
 have c5:(zbs (i:Int) j).length<=2:=by unfold zbs;split <;> simp
 repeat' (first|refine s_t ?_|refine zdG ?_|refine zf 0 ?_;refine zj ?_;intro _;refine zj ?_;intro _;refine zW ?_;intro _|refine zf 1 ?_;refine zj ?_;intro _|refine zf 2 ?_;refine zm ?_;refine zm ?_;refine q_v (za (hc:=zu P)) ?_;refine zb ?_;refine zj ?_;intro _;refine q_y (zl (n:=(gel (i:Int) pl).1)) ?_|refine zf 3 ?_;refine zm ?_;refine q_v (za (hc:=zu Q)) ?_;refine zb ?_;refine zj ?_;intro _;refine q_y (zl (n:=gQ i)) ?_|refine q_k 4 ?_;refine zaA ?_|refine zf 5 ?_;refine zm ?_;refine zb ?_;refine q_v (zH (hr:=gm)) ?_|refine zf 6 ?_;refine zm ?_;refine zb ?_;(refine q_s (zi (hc:=λG X A K=>zux (i:Int) sa T sc j G (hs.keep A) q_o)) ?_;rintro _ _ ⟨R,rfl,bI,bS,aS,cS,rfl,rfl⟩))
 rename_i b4 b5 b6 U H I;refine zbz (za3 133 16) ?_;unfold zrC;have b8:zae ((zbs (i:Int) j).take 0)= []:=by rw[Bu];exact zsc
 refine zgS (γ:=Nat×Option Addr×Nat) (xs:=zbs (i:Int) j) (Arg:=zzl) zdb rfl (en rfl) rfl (λk s=>s.1=k) (λ_ _ _=>False)
  (λs=>[.blk U 150 [.slice s.2.1 s.1 s.2.2],.row (.slice s.2.1 s.1 s.2.2) 133 16 s.1 (zae ((zbs (i:Int) j).take s.1))])
  [.blk bS 23 [.slice aS T cS],.blk bI 3 [.int .i64 (i:Int)],.row (.slice aS T cS) 5 1 T (j.map v8)]
  [.blk I 133 (zg (gQ i)),.blk H 133 (zg (gel (i:Int) pl).1),.blk b6 23 [.slice ma S mc],.blk b5 23 [.slice pa Z pc],.blk b4 3 [.int .i64 (i:Int)]] (0,none,0) rfl ?_ ?_ ?_ ?_ ?_ ?_
 ·dsimp only;rw[b8]
  ((try simp only[Ab,Af,AG]);(repeat' (first|exact List.Perm.nil|exact B5 _|apply zhh;with_reducible (focus ((repeat (first|exact Es|apply Eu));done))|apply zhh;(focus ((repeat (first|exact Es|apply Eu));done)))))
 ·intro G Mi X A a7 _ _;obtain⟨q1,q2⟩:=zeB (M:=No) hG (by unfold zed;simp) (λh=>h) A a7;obtain⟨q3,q4⟩:=zeB (M:=No) hS (E8 _ _) (λh=>h) A a7;exact zrM bI bS (i:Int) aS T cS j G Mi hs.len q1 q2 q3 q4
 ·rintro O x vs RA G ⟨rfl,_⟩;rfl
 ·rintro lq k A ⟨N,aP,cP⟩ vs RA W rec c2 L ⟨rfl,rfl⟩ c4 b2;dsimp only at L ⊢;subst L;have a8:zae ((zbs (i:Int) j).take N)++zae [(zbs (i:Int) j)[N]]=zae ((zbs (i:Int) j).take (N+1)):=by
   rw[<-zkg,CE,A1 A];rfl
  have c6:=zd (zbs (i:Int) j)[N];have c3:N<2:=q_o;generalize (zbs (i:Int) j)[N]=x at*;obtain⟨Rn,a6⟩:∃r,r=zae ((zbs (i:Int) j).take (N+1)):=⟨_,rfl⟩;rw[<-a6] at a8;generalize zae ((zbs (i:Int) j).take N)=Ro at*;repeat' (first|refine s_t ?_|apply zcH;(focus ((repeat (first|exact Es|apply Eu));done));assumption|refine zf 7 ?_;refine zj ?_;intro _;refine q_n (zl (n:=x)) ?_|refine zf 8 ?_;refine zm ?_;refine q_v (ze (B:=zg x)) ?_|refine q_s (zb3 (x:=x)) ?_;rintro _ _ ⟨bN,rfl,rfl⟩|(refine zy ?_;first|refine q_s (zaE (m:=1) (size:=16) (xs:=Ro) (news:=zae [x]) (ys:=Rn) (km:=N+1) (hn:=zfD [x]) (h1:=ztW [x]) (hkm:=rfl) (hys:=a8)) ?_;rintro _ _ ⟨rfl,aQ,cQ,rfl⟩|refine zO ?_|fail)|fail)
  refine zgv (N+1,aQ,cQ) rfl ?_;dsimp only;rw[<-a6];exact q_h
 ·rintro⟨N,aP,cP⟩ L;dsimp only at L ⊢;subst L;rw[List.take_length];repeat' (first|refine zc9 ?_|refine zhI ?_|fail)
  by_cases hlen:j.length=2*gL i
  ·have F:zbs (i:Int) j= [bev 256 (bn (j.take (gL i))),bev 256 (bn (j.drop (gL i)))]:=by
    unfold zbs;have:=zyC h0 h5;rw[V,if_neg q_o]
   obtain⟨x0,e0⟩:∃x,x=bev 256 (bn (j.take (gL i))):=⟨_,rfl⟩;obtain⟨x1,e1⟩:∃x,x=bev 256 (bn (j.drop (gL i))):=⟨_,rfl⟩;rw[<-e0,<-e1] at F;rw[zwI hw hlen e0 e1];have c0:=a9 x0 (by rw[F];simp);have c1:=a9 x1 (by rw[F];simp);have hl:(zbs (i:Int) j).length=2:=by rw[F];rfl
   rw[hl,F];refine zlw (a:=aP) (n:=2) (cp:=cP) (s:=16) (E:=133) (xs:=zae [x0,x1]) (by exact Eu Es) q_e λbP J ha _ _ _ _=>?_;subst ha;repeat' (first|refine zf 9 ?_;refine q_v zab ?_;refine q_v zab ?_;refine q_v zab ?_;refine q_v zab ?_;(refine q_s zz ?_;rintro _ _ ⟨_,rfl,rfl⟩))
   rename_i bF;refine q_v (za (hc:=λG X A K=>zxy i bF b4 b5 b6 U H I bP cP x0 x1 (gel (i:Int) pl).1 Z pc S mc pa ma pl ml G h0 h5 (hG.to A) (hT.no A) (zp (K.has (r:=.blk b4 3 [.int .i64 (i:Int)]) q_h) Et 0 _ rfl) (zp (K.has (r:=.blk H 133 (zg (gel (i:Int) pl).1)) q_h) Et) (zp (K.has (r:=.blk U 150 [.slice (some ⟨bP,0,none⟩) 2 cP]) q_h) Et 0 _ rfl) (zp (K.has (r:=.blk bP 133 (zae [x0,x1]++J)) q_h) zor) (zp (K.has (r:=.blk I 133 (zg (gQ i))) q_h) Et) (zp (K.has (r:=.blk b5 23 [.slice pa Z pc]) q_h) Et 0 _ rfl) (zp (K.has (r:=.blk b6 23 [.slice ma S mc]) q_h) Et 0 _ rfl) (hp.keep A) (hm.keep A) b7 b3 c0 c1 hy (zp (K.has (r:=.blk bF 25 (vfs b4 b5 b6 U H I)) q_h) Et))) ?_;generalize ([true,decide (x0<gQ i),decide (x1<gQ i),decide (zbX i pl (sR i (gel (i:Int) pl).1 x0 x1) ml=x0)].all id)=r;cases r with
   |true=>
    repeat' (first|refine s_0 ?_|refine zbT ?_|refine q_k 10 ?_)
    exact q_r
   |false=>
    repeat' (first|refine s_0 ?_|refine zbT ?_|refine q_k 11 ?_)
    exact q_r
  ·have F:zbs (i:Int) j= []:=by
    unfold zbs;rw[V,if_pos (.inr hlen)]
   have hl:(zbs (i:Int) j).length=0:=by rw[F];rfl
   rw[znr hw (by rw[hi];exact hlen),hl];repeat' (first|refine zf 9 ?_;refine q_v zab ?_;refine q_v zab ?_;refine q_v zab ?_;refine q_v zab ?_;(refine q_s zz ?_;rintro _ _ ⟨_,rfl,rfl⟩))
   rename_i bF;refine q_v (za (hc:=λG X A K=>zrR bF b4 b5 b6 U H I cP aP G (zp (K.has (r:=.blk U 150 [.slice aP 0 cP]) q_h) Et 0 _ rfl) (zp (K.has (r:=.blk bF 25 (vfs b4 b5 b6 U H I)) q_h) Et))) ?_;repeat' (first|refine s_0 ?_|refine zbT ?_|refine q_k 11 ?_)
   exact q_r
 ·exact λ_ _ _ _ h=>h.elim
end Go.Proofs.YtdnlngbjpdbffaaGreatDoor
namespace Go.Ct
open Go Go.Sy
theorem zn7{w:World}{a:Option Addr}{k:Nat}{m:List (List Value)}(h:SlA w a m.flatten)(hk:∀C∈m,C.length=k)(h0:0<k){i:Nat}(B:i<m.length):∃b o,a=some ⟨b,o,none⟩/\∀(j:Nat) (q:j<m.length),w.rangeAt b (o+j*k) m[j]:=by
 rcases h with h|⟨b,o,rfl,G⟩
 ·have r:=hk m[i] (Ad B);have F:m[i]= []:=List.flatten_eq_nil_iff.1 h _ (Ad B);rw[F] at r;simp at r;omega
 ·refine⟨b,o,rfl,λj q t v E=>?_⟩;have H:t<k:=by have:=(AU.1 E).1;rw[hk m[j] (Ad q)] at this;exact this
  have A:=zgQ (f:=λ(z:List Value)=>z) (k:=k) m hk j t H;rw[List.flatMap_id',A1 q] at A;have:=G (j*k+t) v (by rw[A];exact E);rw[BI];exact this
def zjK{α:Type}(E k:Nat)(zs:List (List Value×α))(v:Value)(R:List Res):Prop:=∃a c,v= .slice a zs.length c/\R= [.row (.slice a zs.length c) E k zs.length (zs.map (·.1)).flatten]
def zhu(es:List Int):Int:=(es.find? λe=>!decide (e=0)).getD 0
end Go.Ct
namespace Go.Proofs.YtdnlngbjpdbffaaGreatDoor
open Go Go.Sy Go.Ct Go.Nt Go.RowKit
attribute [local irreducible] Sy SyL SyX SyC SyF Sy.Fn callFunc
theorem zuE(a:Option Addr)(n c f:Nat)(cap:List Value)(xs:List Anch)(r:List (List Value))(q:Anch->Bool)(w:World)(I:∀args w,(callFunc f args).run Tryz.prog w= .ok (.enter f args) w)(hn:xs.length=n)(hC:r.length=n)(hk:∀C∈r,C.length=4/\C.all (·.oneCell')=true)(Z:SlA w a r.flatten)(hb:n<1000)
  (W:∀(i:Nat) (C:List Value) (x:Anch),r[i]?=some C->xs[i]?=some x->∀O,Keep No w O->q_G f (.agg C.toArray::cap) O (.bool (q x))):
  Sy.Fn Tryz.prog 141 [.slice a n c,.func (.func f) #[] cap.toArray] w No (zjK 65 4 ((List.zip r xs).filter (λp=>q p.2))):=by
 refine zt Tryz.func141 Tryz.ntmps141 ?_;unfold zjK;repeat' (first|refine s_t ?_|refine zD [0,1,2] ?_;refine zb ?_)
 refine zbz (za3 65 4) ?_;refine zN (γ:=Nat×Option Addr×Nat) (λg=>[(1,.func (.func f) #[] cap.toArray),(8,.slice a n c),(9,.int .i64 (n:Int)),(10,.int .i64 (g.1:Int)),(5,.slice g.2.1 (((List.zip r xs).take g.1).filter (λp=>q p.2)).length g.2.2)])
  (λg=>[.row (.slice g.2.1 (((List.zip r xs).take g.1).filter (λp=>q p.2)).length g.2.2) 65 4 (((List.zip r xs).take g.1).filter (λp=>q p.2)).length ((((List.zip r xs).take g.1).filter (λp=>q p.2)).map (·.1)).flatten]) (λg=>g.1<=n) (λg=>n-g.1) (0,none,0) (A9 _) ?_ ?_ ?_
 ·exact q_h
 ·exact q_h
 rintro⟨i,R,T⟩ Y;dsimp only at Y ⊢;have a6:(List.zip r xs).length=n:=by simp[hn,hC]
 by_cases hlt:i<n
 ·obtain⟨bl,ol,rfl,H⟩:=zn7 (k:=4) Z (λC h=>(hk C h).1) q_e (i:=i) q_o;have hc:=H i q_o;have J:=hk r[i] (Ad q_o);have N:=W i r[i] xs[i] (A1 q_o) (A1 q_o);have L:(List.zip r xs).take (i+1)=(List.zip r xs).take i++[(r[i],xs[i])]:=by rw[zaO q_o,List.getElem_zip]
  generalize xs[i]=x,r[i]=C at*;have A:=J.1;have G:=J.2;have g1:decide ((i:Int)<(n:Int))=true:=q_d;have g5:IntKind.i64.wrap ((i:Int)+1)=((i+1:Nat):Int):=q_w;have X:((((List.zip r xs).take i).filter (λp=>q p.2))).length<=n:=by
   refine BG (Ci _ _) ?_;rw[AR];omega
  have K:q x=false->((List.zip r xs).take (i+1)).filter (λp=>q p.2)=((List.zip r xs).take i).filter (λp=>q p.2):=λh=>by rw[L,DG];simp[h]
  have F:q x=true->((List.zip r xs).take (i+1)).filter (λp=>q p.2)=((List.zip r xs).take i).filter (λp=>q p.2)++[(C,x)]:=λh=>by rw[L,DG];simp[h]
  obtain⟨M,E⟩:∃z,z=((List.zip r xs).take (i+1)).filter (λp=>q p.2):=⟨_,rfl⟩;rw[<-E] at K F;generalize ((List.zip r xs).take i).filter (λp=>q p.2)=P at*;cases hqx:q x
  ·have hz:=K hqx;rw[hqx] at N;repeat' (first|refine s_t ?_|refine zf 3 ?_;refine q_v (zo (hr:=g1)) ?_|refine zf 4 ?_;refine q_v (zaG (j:=i)) ?_;refine q_v (zad (hv:=hc) (hz:=A.symm)) ?_;refine zj ?_;intro _;refine q_n (zC (B:=C) (hv:=G) (h1:=A.symm) (hC:=by exact A.symm)) ?_|refine q_k 5 ?_;refine q_v (ze (B:=C) (hz:=A.symm)) ?_;(refine q_v (za (f:=f) (cap:=cap) (vs:=[.agg C.toArray]) (he:=I) (hc:=zu N)) ?_)|refine zf 7 ?_;refine q_x (zF (hr:=g5)) ?_)
   refine zE (i+1,R,T) hlt ?_ ?_ ?_
   ·show n-(i+1)<n-i;omega
   ·dsimp only;rw[<-E,hz];exact q_h
   ·dsimp only;rw[<-E,hz];exact q_h
  ·have hz:=F hqx;rw[hqx] at N;have U:(P.map (·.1)).flatten++C=(M.map (·.1)).flatten:=by rw[hz,Aq,Ei];simp
   have V:P.length+1=M.length:=by rw[hz];simp
   repeat' (first|refine s_t ?_|refine zf 3 ?_;refine q_v (zo (hr:=g1)) ?_|refine zf 4 ?_;refine q_v (zaG (j:=i)) ?_;refine q_v (zad (hv:=hc) (hz:=A.symm)) ?_;refine zj ?_;intro _;refine q_n (zC (B:=C) (hv:=G) (h1:=A.symm) (hC:=by exact A.symm)) ?_|refine q_k 5 ?_;refine q_v (ze (B:=C) (hz:=A.symm)) ?_;(refine q_v (za (f:=f) (cap:=cap) (vs:=[.agg C.toArray]) (he:=I) (hc:=zu N)) ?_)|refine q_k 6 ?_;refine q_v (ze (B:=C) (hz:=A.symm)) ?_;(refine q_s (zcK (vs:=[.agg C.toArray]) (zgM A rfl)) ?_;rintro _ _ ⟨bL,rfl,rfl⟩);(refine q_s (zaE (size:=4) (news:=C) (m:=1) (hn:=A) (h1:=G) (hys:=U) (hkm:=V)) ?_;rintro _ _ ⟨rfl,Q,S,rfl⟩);refine zb ?_|refine zf 7 ?_;refine q_x (zF (hr:=g5)) ?_)
   refine zE (i+1,Q,S) hlt ?_ ?_ ?_
   ·show n-(i+1)<n-i;omega
   ·dsimp only;rw[<-E];exact q_h
   ·dsimp only;rw[<-E];exact q_h
 obtain rfl:i=n:=q_o;rw[A8 q_o];have g1:decide ((i:Int)<(i:Int))=false:=q_f;repeat' (first|refine s_0 ?_|refine zf 3 ?_;refine q_v (zo (hr:=g1)) ?_|refine q_k 8 ?_)
 exact q_r
theorem zt3(a:Option Addr)(n c f:Nat)(cap:List Value)(xs:List Revo)(r:List (List Value))(q:Revo->Bool)(w:World)(I:∀args w,(callFunc f args).run Tryz.prog w= .ok (.enter f args) w)(hn:xs.length=n)(hC:r.length=n)(hk:∀C∈r,C.length=3/\C.all (·.oneCell')=true)(Z:SlA w a r.flatten)(hb:n<1000)
  (W:∀(i:Nat) (C:List Value) (x:Revo),r[i]?=some C->xs[i]?=some x->∀O,Keep No w O->q_G f (.agg C.toArray::cap) O (.bool (q x))):
  Sy.Fn Tryz.prog 143 [.slice a n c,.func (.func f) #[] cap.toArray] w No (zjK 67 3 ((List.zip r xs).filter (λp=>q p.2))):=by
 refine zt Tryz.func143 Tryz.ntmps143 ?_;unfold zjK;repeat' (first|refine s_t ?_|refine zD [0,1,2] ?_;refine zb ?_)
 refine zbz (za3 67 3) ?_;refine zN (γ:=Nat×Option Addr×Nat) (λg=>[(1,.func (.func f) #[] cap.toArray),(8,.slice a n c),(9,.int .i64 (n:Int)),(10,.int .i64 (g.1:Int)),(5,.slice g.2.1 (((List.zip r xs).take g.1).filter (λp=>q p.2)).length g.2.2)])
  (λg=>[.row (.slice g.2.1 (((List.zip r xs).take g.1).filter (λp=>q p.2)).length g.2.2) 67 3 (((List.zip r xs).take g.1).filter (λp=>q p.2)).length ((((List.zip r xs).take g.1).filter (λp=>q p.2)).map (·.1)).flatten]) (λg=>g.1<=n) (λg=>n-g.1) (0,none,0) (A9 _) ?_ ?_ ?_
 ·exact q_h
 ·exact q_h
 rintro⟨i,R,T⟩ Y;dsimp only at Y ⊢;have a6:(List.zip r xs).length=n:=by simp[hn,hC]
 by_cases hlt:i<n
 ·obtain⟨bl,ol,rfl,H⟩:=zn7 (k:=3) Z (λC h=>(hk C h).1) q_e (i:=i) q_o;have hc:=H i q_o;have J:=hk r[i] (Ad q_o);have N:=W i r[i] xs[i] (A1 q_o) (A1 q_o);have L:(List.zip r xs).take (i+1)=(List.zip r xs).take i++[(r[i],xs[i])]:=by rw[zaO q_o,List.getElem_zip]
  generalize xs[i]=x,r[i]=C at*;have A:=J.1;have G:=J.2;have g1:decide ((i:Int)<(n:Int))=true:=q_d;have g5:IntKind.i64.wrap ((i:Int)+1)=((i+1:Nat):Int):=q_w;have X:((((List.zip r xs).take i).filter (λp=>q p.2))).length<=n:=by
   refine BG (Ci _ _) ?_;rw[AR];omega
  have K:q x=false->((List.zip r xs).take (i+1)).filter (λp=>q p.2)=((List.zip r xs).take i).filter (λp=>q p.2):=λh=>by rw[L,DG];simp[h]
  have F:q x=true->((List.zip r xs).take (i+1)).filter (λp=>q p.2)=((List.zip r xs).take i).filter (λp=>q p.2)++[(C,x)]:=λh=>by rw[L,DG];simp[h]
  obtain⟨M,E⟩:∃z,z=((List.zip r xs).take (i+1)).filter (λp=>q p.2):=⟨_,rfl⟩;rw[<-E] at K F;generalize ((List.zip r xs).take i).filter (λp=>q p.2)=P at*;cases hqx:q x
  ·have hz:=K hqx;rw[hqx] at N;repeat' (first|refine s_t ?_|refine zf 3 ?_;refine q_v (zo (hr:=g1)) ?_|refine zf 4 ?_;refine q_v (zaG (j:=i)) ?_;refine q_v (zad (hv:=hc) (hz:=A.symm)) ?_;refine zj ?_;intro _;refine q_n (zC (B:=C) (hv:=G) (h1:=A.symm) (hC:=by exact A.symm)) ?_|refine q_k 5 ?_;refine q_v (ze (B:=C) (hz:=A.symm)) ?_;(refine q_v (za (f:=f) (cap:=cap) (vs:=[.agg C.toArray]) (he:=I) (hc:=zu N)) ?_)|refine zf 7 ?_;refine q_x (zF (hr:=g5)) ?_)
   refine zE (i+1,R,T) hlt ?_ ?_ ?_
   ·show n-(i+1)<n-i;omega
   ·dsimp only;rw[<-E,hz];exact q_h
   ·dsimp only;rw[<-E,hz];exact q_h
  ·have hz:=F hqx;rw[hqx] at N;have U:(P.map (·.1)).flatten++C=(M.map (·.1)).flatten:=by rw[hz,Aq,Ei];simp
   have V:P.length+1=M.length:=by rw[hz];simp
   repeat' (first|refine s_t ?_|refine zf 3 ?_;refine q_v (zo (hr:=g1)) ?_|refine zf 4 ?_;refine q_v (zaG (j:=i)) ?_;refine q_v (zad (hv:=hc) (hz:=A.symm)) ?_;refine zj ?_;intro _;refine q_n (zC (B:=C) (hv:=G) (h1:=A.symm) (hC:=by exact A.symm)) ?_|refine q_k 5 ?_;refine q_v (ze (B:=C) (hz:=A.symm)) ?_;(refine q_v (za (f:=f) (cap:=cap) (vs:=[.agg C.toArray]) (he:=I) (hc:=zu N)) ?_)|refine q_k 6 ?_;refine q_v (ze (B:=C) (hz:=A.symm)) ?_;(refine q_s (zcK (vs:=[.agg C.toArray]) (zgM A rfl)) ?_;rintro _ _ ⟨bL,rfl,rfl⟩);(refine q_s (zaE (size:=3) (news:=C) (m:=1) (hn:=A) (h1:=G) (hys:=U) (hkm:=V)) ?_;rintro _ _ ⟨rfl,Q,S,rfl⟩);refine zb ?_|refine zf 7 ?_;refine q_x (zF (hr:=g5)) ?_)
   refine zE (i+1,Q,S) hlt ?_ ?_ ?_
   ·show n-(i+1)<n-i;omega
   ·dsimp only;rw[<-E];exact q_h
   ·dsimp only;rw[<-E];exact q_h
 obtain rfl:i=n:=q_o;rw[A8 q_o];have g1:decide ((i:Int)<(i:Int))=false:=q_f;repeat' (first|refine s_0 ?_|refine zf 3 ?_;refine q_v (zo (hr:=g1)) ?_|refine q_k 8 ?_)
 exact q_r
theorem zxi(b n c:Nat)(C:List Value)(es:List Int)(w:World)(hn:C.length=n)(hb:es.length=n)(K:n<=1000)(L:w.rangeAt b 0 C)
  (J:∀(k:Nat) (e:Int),es[k]?=some e->(∀I∈es.take k,I=0)->∃(f:Nat) (cap:List Value),C[k]?=some (.func (.func f) #[] cap.toArray)/\(∀args w,(callFunc f args).run Tryz.prog w= .ok (.enter f args) w)/\∀H,Keep No w H->q_G f cap H (.int .i64 e)):
  q_G 60 [.slice (some ⟨b,0,none⟩) n c] w (.int .i64 (zhu es)):=by
 refine zt Tryz.func60 Tryz.ntmps60 ?_;repeat' (first|refine s_t ?_|refine zD [0,1] ?_;refine zb ?_)
 refine zN (γ:=Nat) (λk=>[(6,.slice (some ⟨b,0,none⟩) n c),(7,.int .i64 n),(8,.int .i64 k)]) (λ_=>[]) (λk=>k<=n/\∀e∈es.take k,e=0) (λk=>n-k) 0 ⟨A9 _,λe h=>by cases h⟩ ?_ ?_ ?_
 ·exact q_h
 ·exact q_h
 rintro k ⟨M,m⟩;rcases AF k n with h|h
 ·obtain⟨v,hv⟩:∃v,es[k]?=some v:=⟨_,A1 q_o⟩;obtain⟨f,cap,E,B,hc⟩:=J k v hv m;have q:w.cell? ⟨b,0+k,none⟩=some (.func (.func f) #[] cap.toArray):=L k _ E;have r:decide ((k:Int)<(n:Int))=true:=q_d;have A:IntKind.i64.wrap ((k:Int)+1)=((k+1:Nat):Int):=q_w;have F:es.take (k+1)=es.take k++[v]:=by rw[CE,hv];rfl
  by_cases hz:v=0
  ·have g:decide (v≠0)=false:=decide_eq_false (λh=>h hz);repeat' (first|refine s_t ?_|refine zf 2 ?_;refine q_v (zo (hr:=r)) ?_|refine zf 3 ?_;refine q_v (zq (j:=k)) ?_;refine q_x (zn (hv:=q)) ?_|refine q_k 4 ?_;(refine q_v (za (f:=f) (cap:=cap) (vs:=[]) (he:=B) (hc:=zu hc)) ?_);refine zb ?_|refine q_k 5 ?_;refine q_v (zaf (hr:=g)) ?_|refine zf 7 ?_;refine q_x (zF (hr:=A)) ?_)
   refine zE (k+1) ⟨h,λe he=>?_⟩ ?_ ?_ ?_
   ·rw[F] at he;rcases Ao.1 he with he|he
    ·exact m e he
    ·rw[AE.1 he,hz]
   ·show n-(k+1)<n-k;omega
   ·exact q_h
   ·exact q_h
  ·have g:decide (v≠0)=true:=decide_eq_true hz;have hex:zhu es=v:=by
    have e:es=es.take k++(v::es.drop (k+1)):=by
     have E:es.drop k=v::es.drop (k+1):=by
      rw[BN q_o];rw[A1 q_o] at hv;rw[Am hv]
     rw[<-E,Bb]
    have h0:(es.take k).find? (λe=>!decide (e=0))=none:=List.find?_eq_none.2 (λx G=>by simp[m x G]);unfold zhu;rw[e,List.find?_append,h0];simp[hz]
   rw[hex];repeat' (first|refine s_t ?_|refine zf 2 ?_;refine q_v (zo (hr:=r)) ?_|refine zf 3 ?_;refine q_v (zq (j:=k)) ?_;refine q_x (zn (hv:=q)) ?_|refine q_k 4 ?_;(refine q_v (za (f:=f) (cap:=cap) (vs:=[]) (he:=B) (hc:=zu hc)) ?_);refine zb ?_|refine q_k 5 ?_;refine q_v (zaf (hr:=g)) ?_|refine q_k 6 ?_)
   exact q_r
 ·obtain rfl:k=n:=q_o;rw[A8 q_o] at m;have r:decide ((k:Int)<(k:Int))=false:=q_f;have hex:zhu es=0:=by
   unfold zhu;rw[List.find?_eq_none.2 (λx G=>by simp[m x G])];rfl
  rw[hex];repeat' (first|refine s_0 ?_|refine zf 2 ?_;refine q_v (zo (hr:=r)) ?_|refine q_k 8 ?_)
  exact q_r
end Go.Proofs.YtdnlngbjpdbffaaGreatDoor
namespace Go.Ct
open Go Go.Sy
structure LstAt{α β:Type}(cell:β->α->List Value)(At:World->β->α->Prop)(w:World)(a:Option Addr)(c:Nat)(ps:List β)(l:List α):Prop where
 len:ps.length=l.length
 cap:l.length<=c
 nil:a=none->c=0
 mem:SlA w a (List.zipWith cell ps l).flatten
 each:∀(i:Nat) (p:β) (x:α),ps[i]?=some p->l[i]?=some x->At w p x
theorem LstAt.keep{α β:Type}{cell:β->α->List Value}{j:World->β->α->Prop}{w w':World}{a:Option Addr}{c:Nat}{ps:List β}{l:List α}(h:LstAt cell j w a c ps l)(hk:Keep No w w')(r:∀p x,j w p x->j w' p x):LstAt cell j w' a c ps l:=
 ⟨h.len,h.cap,h.nil,h.mem.keep hk (λ_ _ h=>h),λi p x m q=>r p x (h.each i p x m q)⟩
structure Pa where
 a1:Option Addr
 k1:Nat
 a2:Option Addr
 k2:Nat
def zcu(p:Pa)(x:Anch):List Value:=[.slice p.a1 x.name.parts.length p.k1,zT x.name.realm,.int .i64 x.group,.slice p.a2 x.pub.length p.k2]
structure AnchAt(w:World)(p:Pa)(x:Anch):Prop where
 name:PrinIn w (zba p.a1 p.k1 x.name) x.name
 pub:(⟨p.a2,x.pub.length,p.k2,x.pub⟩:Bs).ok w
 rng:(Lit.int .i64 x.group).wf=true
theorem AnchAt.keep{w w':World}{p:Pa}{x:Anch}(h:AnchAt w p x)(hk:Keep No w w'):AnchAt w' p x:=⟨h.name.keep hk,h.pub.keep hk,h.rng⟩
def zen(p:Option Addr×Nat)(x:Revo):List Value:=[.slice p.1 x.issuer.parts.length p.2,zT x.issuer.realm,.int .i64 x.serial]
structure RevoAt(w:World)(p:Option Addr×Nat)(x:Revo):Prop where
 name:PrinIn w (zba p.1 p.2 x.issuer) x.issuer
 rng:(Lit.int .i64 x.serial).wf=true
theorem RevoAt.keep{w w':World}{p:Option Addr×Nat}{x:Revo}(h:RevoAt w p x)(hk:Keep No w w'):RevoAt w' p x:=⟨h.name.keep hk,h.rng⟩
def Prin.fine(p:Prin):Prop:=p.parts.length<1000000/\p.realm.length<1000000000/\∀x∈p.parts,x.length<1000000000
theorem Prin.same_comm(a b:Prin):a.same b=b.same a:=by
 rw[CJ,FD,FD];exact⟨De,De⟩
def Ft:=@Prin.same_comm
def zlr(sv:Int->List UInt8->Bool)(sf:Int->List UInt8->List UInt8->List UInt8->Bool)(c:Cert)(z:Int)(pub:List UInt8):Int:=if (c.ok sv&&sv z pub)=true then (if sf z pub c.body c.sig=true then 0 else 221) else 2
end Go.Ct
namespace Go.Proofs.YtdnlngbjpdbffaaGreatDoor
open Go Go.Sy Go.Ct Go.Nt Go.RowKit
attribute [local irreducible] Sy SyL SyX SyC SyF Sy.Fn callFunc
def sfK(z:Int)(pub m s:List UInt8):Bool:=decide (zfO z pub m s=0)
theorem zpz{z:Int}{l:List UInt8}(h:svK z l=true):l.length<=96:=by
 have j:=zkT (of_decide_eq_true h);rw[j.2.1];have:=zgu z;unfold zbh at this;rwa[if_pos j.1] at this
theorem zqa{c:Cert}(h:c.ok svK=true):c.pub.length<=96/\c.sig.length<=192/\c.body.length<=701/\c.der.length<=1000:=by
 have m:=F9 zef h;have j:=h;simp only[Cert.ok,AA,decide_eq_true_eq] at j;have q:=zpz j.2;have w:c.body.length<=605+c.pub.length:=by rw[FN];have:=(zX 0x30 c.flat).2;have:=GZ m;omega
 have A:=Cert.der_len m;have r:c.sig.length<=192:=j.1.2;exact⟨q,r,by omega,by omega⟩
theorem zqK(p:Pl)(c:Cert)(z:Int)(s:Bs)(w:World)(H:GT w)(O:Tab w No)(N:ST w)(h:CertAt w p c)(Q:c.fine)(E:s.ok w):q_G 24 [.agg (zG p c).toArray,.int .i64 z,s.val] w (.int .i64 (zlr svK sfK c z s.l)):=by
 refine zt Tryz.func24 Tryz.ntmps24 ?_;have hv:=λm (j:Keep No w m)=>zd9 p c m (H.to j) (h.keep j) Q;have q:=λm (j:Keep No w m)=>zkd z s.a s.n s.c s.l m (H.to j) E.len E.cap (E.keep j).sla;rw[show decide ((gel z s.l).2=0)=svK z s.l from rfl] at q;have F:s.val= .slice s.a s.n s.c:=rfl;rw[F];unfold zlr;have G:(zG p c).length=11:=rfl;by_cases hok:c.ok svK=true
 ·rw[hok] at hv ⊢;by_cases hz:svK z s.l=true
  ·rw[hz] at q ⊢;rw[if_pos (show(true&&true)=true from rfl)];obtain⟨V,W,Y,Z⟩:=zqa hok;have T:=zpz hz;have P:=λm (j:Keep No w m)=>zlF p c m (h.keep j) (F9 zef hok);have I:=λm (j:Keep No w m) a k (M:(⟨a,c.body.length,k,c.body⟩:Bs).ok m)=>zsw z s.a a p.a4 s.n s.c c.body.length k c.sig.length p.k4 s.l c.body c.sig m (H.to j) (O.no j) (N.to j) (E.keep j) M (h.sig.keep j) (by have:=E.len;omega) q_o q_o;have L:Seg (zG p c) 10 [.slice p.a4 c.sig.length p.k4]:=FF rfl;have A:(zG p c)[0+10]?=some (.slice p.a4 c.sig.length p.k4):=rfl;have r:(if sfK z s.l c.body c.sig=true then (0:Int) else 221)=if zfO z s.l c.body c.sig=0 then 0 else 221:=by unfold sfK;simp
   rw[r];generalize zfO z s.l c.body c.sig=e at*;clear r h;generalize c.body=U,zG p c=C at*;repeat' (first|refine s_0 ?_|refine zf 0 ?_;refine zW ?_;intro _|refine zf 1 ?_;refine q_v (ze (B:=C) (hz:=G.symm)) ?_;refine q_v (za (hc:=zu hv)) ?_;refine zJ ?_;refine zb ?_;refine q_v (za (hc:=zu q)) ?_;refine zJ ?_;refine zb ?_)
   (refine zdC (id:=3) [0,1,2,4,5] [3,6,7] mixed ?_ ?_;kernel_rfl;refine yfv zZ (k:=?_);refine yfv zZ (k:=?_);refine yfv (ze (B:=C) (hz:=G.symm)) (k:=?_);refine yfv zM (k:=?_);refine yfv (zL (hv:=A)) (k:=?_);refine yf0 ?_;try refine yc0 (k:=?_))
   refine ycs (zi (hc:=zu P)) (k:=?_);rintro _ _ ⟨R,rfl,J,K,rfl,rfl⟩;refine ycv (za (hc:=λm X j S=>I m j J K (zaz S rfl q_h))) (k:=?_);by_cases he:e=0
   ·refine ycv (zaf (hr:=decide_eq_false (λh=>h he))) (k:=?_);refine yc0 (k:=?_);rw[if_pos he];repeat' (first|refine s_0 ?_|refine q_k 5 ?_)
    exact q_r
   ·refine ycv (zaf (hr:=decide_eq_true he)) (k:=?_);refine yc0 (k:=?_);rw[if_neg he];repeat' (first|refine s_0 ?_|refine q_k 4 ?_)
    exact q_r
  ·rw[C8] at hz;rw[hz] at q ⊢;generalize zG p c=C at*;repeat' (first|refine s_0 ?_|refine zf 0 ?_;refine zW ?_;intro _|refine zf 1 ?_;refine q_v (ze (B:=C) (hz:=G.symm)) ?_;refine q_v (za (hc:=zu hv)) ?_;refine zJ ?_;refine zb ?_;refine q_v (za (hc:=zu q)) ?_;refine zJ ?_;refine zb ?_|refine q_k 2 ?_)
   exact q_r
 ·rw[C8] at hok;rw[hok] at hv ⊢;generalize zG p c=C at*;repeat' (first|refine s_0 ?_|refine zf 0 ?_;refine zW ?_;intro _|refine zf 1 ?_;refine q_v (ze (B:=C) (hz:=G.symm)) ?_;refine q_v (za (hc:=zu hv)) ?_;refine zJ ?_;refine zb ?_|refine q_k 2 ?_)
  exact q_r
def noCert:Cert:=⟨0,⟨[],[]⟩,⟨[],[]⟩,0,0,false,0,[],[]⟩
def zfm:Pl:=⟨none,0,none,0,none,0,none,0⟩
def zln(c:Cert)(v:Value)(R:List Res):Prop:=∃p,v= .tuple #[.agg (zG p c).toArray,.int .i64 0]/\R=zaa p c
theorem zmK(p:Pl)(c:Cert)(z:Int)(pr no:Bs)(s:List UInt8)(w:World)(M:GT w)(T:Tab w No)(h:CertAt w p c)(N:c.fine)(hp:pr.ok w)(hn:no.ok w)(G:no.n<=1000)(r:c.ok svK=true)(J:zhs z pr.l no.l c.body=some s):
  Sy.Fn Tryz.prog 20 [.agg (zG p c).toArray,.int .i64 z,pr.val,no.val] w No (zln { c with sig:=s }):=by
 refine zt Tryz.func20 Tryz.ntmps20 ?_;have hv:=λj (m:Keep No w j)=>zd9 p c j (M.to m) (h.keep m) N;have I:pr.val= .slice pr.a pr.n pr.c:=rfl;have H:no.val= .slice no.a no.n no.c:=rfl;have hC:(zG p c).length=11:=rfl;rw[I,H];rw[r] at hv;obtain⟨Z,m2,m3,m4⟩:=zqa r;have U:=λj (m:Keep No w j)=>zlF p c j (h.keep m) (F9 zef r);have A:=λj (m:Keep No w j) a k (Q:(⟨a,c.body.length,k,c.body⟩:Bs).ok j)=>zxd z pr.a no.a a pr.n pr.c no.n no.c c.body.length k pr.l no.l c.body j (M.to m) (T.no m) (hp.keep m) (hn.keep m) Q G q_o;rw[J] at A;unfold BR at A;have E:=λj (m:Keep No w j)=>ztN p c j (h.keep m) N q_o q_o;unfold zhj zaa at E;unfold zln zaa;generalize c.body=Y,S:zG p c=C at*;repeat' (first|refine s_0 ?_|refine zf 0 ?_;refine zj ?_;intro _;refine zW ?_;intro _|refine zf 1 ?_;refine q_v (ze (B:=C) (hz:=hC.symm)) ?_;refine q_v (za (hc:=zu hv)) ?_;refine zJ ?_|refine q_k 3 ?_;refine q_v (ze (B:=C) (hz:=hC.symm)) ?_;(refine q_s (zi (hc:=zu U)) ?_;rintro _ _ ⟨R,rfl,O,P,rfl,rfl⟩))
 refine q_s (zi (hc:=λj X m V=>A j m O P (zaz V rfl q_h))) ?_;rintro _ _ ⟨R,rfl,K,W,L,rfl,F,rfl⟩;obtain rfl:W=s.length:=F;repeat' (first|refine s_0 ?_|refine q_k 4 ?_;refine zaA ?_|refine zf 6 ?_;refine q_v (ze (B:=C) (hz:=hC.symm)) ?_;(refine q_s (zi (hc:=zu E)) ?_;rintro _ _ ⟨R,rfl,q,rfl,rfl⟩);refine q_n (zC (hv:=rfl) (h1:=rfl) (hC:=by exact hC)) ?_|(refine zy ?_;first|refine zw ?_|refine zY ?_|refine zaR ?_|fail)|fail)
 unfold zG;repeat' (first|refine s_0 ?_|refine q_k 7 ?_;refine q_n (zaM (hC:=⟨A5 rfl,rfl⟩)) ?_|refine zf 8 ?_;refine zm ?_;refine q_y (zC (h1:=rfl)) ?_)
 exact zU rfl (zB (B:=zG ⟨q.a1,q.k1,q.a2,q.k2,q.a3,q.k3,K,L⟩ { c with sig:=s }) rfl (ty rfl) rfl Ev Et rfl) (zh rfl) q_h ⟨⟨q.a1,q.k1,q.a2,q.k2,q.a3,q.k3,K,L⟩,rfl,rfl⟩
end Go.Proofs.YtdnlngbjpdbffaaGreatDoor
