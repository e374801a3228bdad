/- Lemmas of this proof. -/
import Derived.Test.YtdnlngbjpdbffaaGreatDoorKJ38
set_option maxHeartbeats 4000000
set_option maxRecDepth 10000
set_option linter.all false
namespace Go.Ct
open Go Go.Sy
theorem zqj{w:World}{b o:Nat}{C B:List Value}(h:w.rangeAt b 0 C)(q:(C.drop o).take B.length=B):w.rangeAt b o B:=λj v m=>by
 have:=h (o+j) v (FG q j v m);rwa[AR] at this
end Go.Ct
namespace Go.Proofs.YtdnlngbjpdbffaaGreatDoor
open Go Go.Sy Go.Ct Go.Nt Go.RowKit
attribute [local irreducible] Sy SyL SyX SyC SyF Sy.Fn callFunc
theorem ztf(b:Nat)(u:Bool)(w:World)(h:w.cell? ⟨b,0,none⟩=some (.bool u)):q_G 61 [.pointer (some ⟨b,0,none⟩)] w (.int .i64 (if u then 0 else 220)):=by
 refine zo Tryz.func61 Tryz.ntmps61 ?_;have j:=λm=>zhc (!u) 220 m;repeat' (first|refine s_0 ?_|refine q_k 0 ?_|refine zg 1 ?_;refine q_v (zn (hv:=h)) ?_;refine zJ ?_;refine q_v (za (hc:=q_c j)) ?_;refine zb ?_)
 exact zaw rfl (zr rfl) F2 ⟨by cases u <;> rfl,rfl⟩
theorem zsn(b d:Nat)(p:Pl)(c:Cert)(z:Int)(s:Bs)(w:World)(A:GT w)(E:Tab w No)(B:ST w)(t:w.rangeAt b 0 (zx p c))(m:w.rangeAt d 0 [.int .i64 z,s.val])(h:CertAt w p c)(F:c.fine)(G:s.ok w):
  q_G 63 [.pointer (some ⟨b,0,none⟩),.pointer (some ⟨d,0,none⟩)] w (.int .i64 (zgN svK sfK c z s.l)):=by
 refine zo Tryz.func63 Tryz.ntmps63 ?_;have r:(zx p c).length=11:=rfl;have H:w.cell? ⟨d,0,none⟩=some (.int .i64 z):=m 0 _ rfl;have k1:w.cell? ⟨d,1,none⟩=some s.val:=m 1 _ rfl;have hc:=λq (j:Keep No w q)=>zj3 p c z s q (A.to j) (E.no j) (B.to j) (h.keep j) F (G.keep j);generalize zx p c=C at*;repeat' (first|refine s_0 ?_|refine q_k 0 ?_|refine zg 1 ?_;refine q_x (z9 (hv:=t) (hz:=r.symm)) ?_;refine q_x (zn (hv:=H)) ?_;refine q_v (zn (hv:=k1)) ?_;refine q_v (za (hc:=zq hc)) ?_;refine zb ?_)
 exact q_r
theorem zr5(d b:Nat)(p:Pl)(c:Cert)(now:Int)(w:World)(j:w.cell? ⟨d,0,none⟩=some (.int .i64 now))(t:w.rangeAt b 0 (zx p c)):
  q_G 64 [.pointer (some ⟨d,0,none⟩),.pointer (some ⟨b,0,none⟩)] w (.int .i64 (if now<c.fr\/c.til<now then 222 else 0)):=by
 refine zo Tryz.func64 Tryz.ntmps64 ?_;have q:w.cell? ⟨b,0+5,none⟩=some (.int .i64 c.fr):=t 5 _ rfl;have B:w.cell? ⟨b,0+6,none⟩=some (.int .i64 c.til):=t 6 _ rfl;have A:=λr=>zhc true 222 r;have C:=λr=>zhc false 222 r;have hc:now<c.fr\/(¬now<c.fr/\c.til<now)\/(¬now<c.fr/\¬c.til<now):=q_o;rcases hc with h|⟨h,m⟩|⟨h,m⟩
 ·rw[if_pos (.inl h)];repeat' (first|refine s_0 ?_|refine q_k 0 ?_|refine zg 1 ?_;refine q_x (zn (hv:=j)) ?_;refine q_v (zn (hv:=q)) ?_;refine q_x (zl (hr:=decide_eq_true h)) ?_;refine q_v (za (hc:=q_c A)) ?_;refine zb ?_)
  exact q_r
 ·rw[if_pos (.inr m)];repeat' (first|refine s_0 ?_|refine q_k 0 ?_|refine zg 1 ?_;refine q_x (zn (hv:=j)) ?_;refine q_v (zn (hv:=q)) ?_;refine q_x (zl (hr:=decide_eq_false h)) ?_;refine q_x (zn (hv:=j)) ?_;refine q_v (zn (hv:=B)) ?_;refine q_x (zF (hr:=decide_eq_true m)) ?_;refine q_v (za (hc:=q_c A)) ?_;refine zb ?_)
  exact q_r
 ·rw[if_neg q_o];repeat' (first|refine s_0 ?_|refine q_k 0 ?_|refine zg 1 ?_;refine q_x (zn (hv:=j)) ?_;refine q_v (zn (hv:=q)) ?_;refine q_x (zl (hr:=decide_eq_false h)) ?_;refine q_x (zn (hv:=j)) ?_;refine q_v (zn (hv:=B)) ?_;refine q_x (zF (hr:=decide_eq_false m)) ?_;refine q_v (za (hc:=q_c C)) ?_;refine zb ?_)
  exact q_r
theorem ztb(b d:Nat)(p:Pl)(c:Cert)(a:Option Addr)(n k:Nat)(ps:List (Option Addr×Nat))(rs:List Revo)(w:World)(E:w.rangeAt b 0 (zx p c))(H:w.cell? ⟨d,0,none⟩=some (.slice a n k))(hc:CertAt w p c)(h:ze8 w a k ps rs)(hn:rs.length=n)(I:∀x∈rs,x.issuer.fine)(hb:n<1000):
  q_G 65 [.pointer (some ⟨b,0,none⟩),.pointer (some ⟨d,0,none⟩)] w (.int .i64 (if zfI rs c then 223 else 0)):=by
 refine zo Tryz.func65 Tryz.ntmps65 ?_;have L:w.cell? ⟨b,0+0,none⟩=some (.int .i64 c.serial):=E 0 _ rfl;have k1:w.rangeAt b (0+1) (za7 p.a1 p.k1 c.issuer):=zqj E rfl;have J:=λj (q:Keep No w j)=>ztj (za7 p.a1 p.k1 c.issuer) c.issuer a n k ps rs j (hc.iss.keep q) (h.keep q (λp x K=>K.keep q)) hn I hb;have A:=λu j=>zhc u 223 j;unfold za7 at*;repeat' (first|refine s_0 ?_|refine q_k 0 ?_)
 (refine zdc (id:=1) [0,1,2,4,5] [3,6,7,8] mixed ?_ ?_;kernel_rfl;refine yfv zO (k:=?_);refine yfv (z9 (hv:=k1)) (k:=?_);refine yfv (zn (hv:=H)) (k:=?_);refine yfv zO (k:=?_);refine yfv (zn (hv:=L)) (k:=?_);refine yf0 ?_;try refine yc0 (k:=?_))
 refine ycs (zh (hc:=zq J)) (k:=?_);rintro _ _ ⟨R,rfl,M,F,rfl,rfl,B⟩;have C:decide (c.serial∈F)=zfI rs c:=by
  rw[CR,decide_eq_true_iff,B,zfI,Dj];constructor
  ·rintro⟨r,t,m,G⟩;exact⟨r,t,by rw[m,decide_eq_true G];rfl⟩
  ·rintro⟨r,t,m⟩;rw[AB,decide_eq_true_eq] at m;exact⟨r,t,m.1,m.2⟩
 refine ycv (zq2 (l:=F) (u:=c.serial) zub zuf ztS) (k:=?_);rw[C];refine ycv (za (hc:=λj X q N=>A (zfI rs c) j)) (k:=?_);refine ycv zbM (k:=?_);refine yc0 (k:=?_);repeat' (first|refine s_0 ?_|fail)
 exact q_r
theorem ztk(d b:Nat)(p:Pl)(c:Cert)(i:Int)(w:World)(q:w.cell? ⟨d,0,none⟩=some (.int .i64 i))(t:w.rangeAt b 0 (zx p c)):
  q_G 67 [.pointer (some ⟨d,0,none⟩),.pointer (some ⟨b,0,none⟩)] w (.int .i64 (if (!decide (i=0) && !c.auth)=true then 224 else 0)):=by
 refine zo Tryz.func67 Tryz.ntmps67 ?_;have A:w.cell? ⟨b,0+7,none⟩=some (.bool c.auth):=t 7 _ rfl;have j:=λu B=>zhc u 224 B;by_cases h:i=0
 ·rw[decide_eq_true h];have m:=j false;repeat' (first|refine s_0 ?_|refine q_k 0 ?_|refine zg 1 ?_;refine q_v (zn (hv:=q)) ?_;refine q_x (zaC (hr:=decide_eq_false (λr=>r h))) ?_;refine q_v (za (hc:=q_c m)) ?_;refine zb ?_)
  exact q_r
 ·rw[decide_eq_false h];have m:=j (!c.auth);repeat' (first|refine s_0 ?_|refine q_k 0 ?_|refine zg 1 ?_;refine q_v (zn (hv:=q)) ?_;refine q_x (zaC (hr:=decide_eq_true h)) ?_;refine q_v (zn (hv:=A)) ?_;refine zJ ?_;refine zb ?_;refine q_v (za (hc:=q_c m)) ?_;refine zb ?_)
  exact zaw rfl (zr rfl) F2 ⟨by cases c.auth <;> rfl,rfl⟩
def KeyR(w:World)(x:Anch)(u:Bool)(v:Value)(R:List Res):Prop:=∃s:Bs,v= .tuple #[.agg #[.int .i64 x.group,s.val],.bool u]/\s.l=x.pub/\s.ok w/\R= []
theorem KeyR.done{w:World}{x:Anch}{u:Bool}{s:Bs}(h1:s.l=x.pub)(h2:s.ok w):KeyR w x u (.tuple #[.agg #[.int .i64 x.group,s.val],.bool u]) []:=⟨s,rfl,h1,h2,rfl⟩
def GB:=@KeyR.done
theorem zod(a:Option Addr)(n c i:Nat)(ps:List Pl)(l:List Cert)(K:Value)(S:K.oneCell'=true)(H w:World)(A:Keep No H w)(hn:l.length=n)(I:ze5 H a c ps l)(P:∀x∈l,x.fine)(hb:n<1000000)(U:i+1<n):
  Sy.Fn Tryz.prog 59 [.slice a n c,.int .i64 (i:Int),K] w No (KeyR H ⟨l[i+1].subject,l[i+1].group,l[i+1].pub⟩ (l[i+1].subject.same l[i].issuer)):=by
 refine zo Tryz.func59 Tryz.ntmps59 ?_;have h:=I.keep A (λp x Q=>Q.keep A);obtain⟨T,W,p,rfl,V,C,hc⟩:=h.at (k:=11) q_e (λ_ _=>rfl) (i:=i) q_o;obtain⟨M,R,q,N,F,r,E⟩:=h.at (k:=11) q_e (λ_ _=>rfl) (i:=i+1) q_o;cases N;have t:=P l[i+1] (Ah q_o);have O:=λL (J:Keep No w L)=>zfu _ _ _ _ L (r.sub.keep J) (C.iss.keep J) t.s.1;have G:=(I.each (i+1) q l[i+1] F (A1 q_o)).pub;generalize l[i+1]=m,l[i]=x at*;unfold zx za7 at*;have g1:IntKind.i64.wrap ((n:Int)-1)=((n-1:Nat):Int):=q_w;have g2:decide ((i:Int)<((n-1:Nat):Int))=true:=q_d;have g3:IntKind.i64.wrap ((i:Int)+1)=((i+1:Nat):Int):=q_w;repeat' (first|refine s_0 ?_|refine zg 0 ?_;refine zV ?_;intro _|refine q_k 1 ?_;refine q_v (zay (j:=i)) ?_;refine q_v (z9 (hv:=hc)) ?_;refine zi ?_;intro _;refine q_n (zC (h1:=rfl)) ?_|refine q_k 2 ?_;refine q_v (zH (hr:=g1)) ?_;refine q_v (zl (hr:=g2)) ?_|refine q_k 3 ?_;refine q_v (zA (hr:=g3)) ?_;refine q_v (zay (j:=i+1)) ?_;refine q_v (z9 (hv:=E)) ?_;refine zi ?_;intro _;refine q_n (zC (h1:=rfl)) ?_)
 (refine zlk (id:=4) [2] [0,1,2,3,4,5,6,7,8] [9,10,11] mixed ?_ ?_;kernel_rfl;refine yfv zO (k:=?_);refine yfv zM (k:=?_);refine yfv zO (k:=?_);refine yfv zM (k:=?_);refine yfv zgv (k:=?_);refine yfv zO (k:=?_);refine yfv (ze (B:=[.slice q.a2 m.subject.parts.length q.k2,zX m.subject.realm]) (hv:=FG rfl)) (k:=?_);refine yfv zO (k:=?_);refine yfv (ze (B:=[.slice p.a1 x.issuer.parts.length p.k1,zX x.issuer.realm]) (hv:=FG rfl)) (k:=?_);refine yf0 ?_;try refine yc0 (k:=?_))
 refine ycv (za (hc:=zq O)) (k:=?_);refine ycn (zC (h1:=rfl)) (k:=?_);refine ycv zbM (k:=?_);refine yc0 (k:=?_);repeat' (first|refine s_0 ?_|fail)
 exact zad rfl (zz (B:=[.int .i64 m.group,.slice q.a3 m.pub.length q.k3]) rfl (ty rfl) rfl F4 F0 rfl) (zr rfl) F2 (GB (x:=⟨m.subject,m.group,m.pub⟩) (s:=⟨q.a3,m.pub.length,q.k3,m.pub⟩) rfl G)
theorem zrk{γ:Type}(q:Anch->Bool)(zs:List (γ×Anch)):((zs.filter (λp=>q p.2)).head?).map (·.2)=(zs.map (·.2)).find? q:=by
 induction zs with
 |nil=>rfl
 |cons z zs ih=>
  cases h:q z.2
  ·rw[Db (by simp[h]),ih,Ay,List.find?_cons_of_neg (by simp[h])]
  ·rw[Dc (by simp[h]),Ay,Dh (by simp[h])];rfl
theorem zoa(a W:Option Addr)(n c L Y i:Nat)(ps:List Pl)(l:List Cert)(m:List Pa)(t:List Anch)(V w:World)(Q:Keep No V w)(hn:l.length=n)(h:ze5 w a c ps l)(hb:n<1000000)(hi:i+1=n)(I:t.length=L)(N:ze6 V W Y m t)(a9:∀x∈t,x.name.fine)(b0:L<1000):
  Sy.Fn Tryz.prog 59 [.slice a n c,.int .i64 (i:Int),.slice W L Y] w No (KeyR V (zdn t l[i].issuer) (t.find? (λx=>x.name.same l[i].issuer)).isSome):=by
 refine zo Tryz.func59 Tryz.ntmps59 ?_;obtain⟨bl,ol,p,rfl,hp,a7,hc⟩:=h.at (k:=11) q_e (λ_ _=>rfl) (i:=i) q_o;generalize l[i]=x at*;have U:=N.keep Q (λp x hx=>hx.keep Q);have O:(List.zipWith zb5 m t).length=L:=by rw[DO,U.len,I,EA]
 have F:=λT (P:Keep No w T) K (hD:T.rangeAt K 0 (zx p x))=>zsA W L Y 142 [.pointer (some ⟨K,0,none⟩)] t (List.zipWith zb5 m t) (λy=>y.name.same x.issuer) T (en rfl) I O (λC hC=>by
  obtain⟨q,y,rfl⟩:=LstAt.at.mem_zipWith hC;exact⟨rfl,rfl⟩) ((Fk U.mem).to (Mi:=No) P (λ_ h=> .inr h)).sla b0 (λi C y M Z b4 H=>by
  rw[Cx,Z] at M;cases S:m[i]? with
  |none=>rw[S] at M;cases M
  |some q=>
   rw[S] at M;cases M;have a8:=U.each i q y S Z;exact zuu K p x q y b4 (za5 hD H (λh=>h)) ((a7.keep P).keep H) ((a8.keep P).keep H) (a9 y (Bk Z)))
 unfold zi2 at F;have b3:∀z∈(List.zip (List.zipWith zb5 m t) t).filter (λz=>z.2.name.same x.issuer),∃q,z.1=zb5 q z.2/\AnchAt V q z.2:=λz hz=>by
  obtain⟨q,h1,j,h2,h3⟩:=zig (Bb.1 hz).1;exact⟨q,h1,N.each j q z.2 h2 h3⟩
 have G:=zrk (λy:Anch=>y.name.same x.issuer) (List.zip (List.zipWith zb5 m t) t);rw[zkY U.len] at G;have b9:((List.zip (List.zipWith zb5 m t) t).filter (λz=>z.2.name.same x.issuer)).length<=L:=by
  refine BG (Cy _ _) ?_;rw[List.length_zip,O,I,EA];exact A4 _
 unfold zdn;generalize (List.zip (List.zipWith zb5 m t) t).filter (λz=>z.2.name.same x.issuer)=A at*;rw[<-G];clear G;have hC:(zx p x).length=11:=rfl;have a6:(zx p x).all (·.oneCell')=true:=rfl;generalize zx p x=C at*;have g1:IntKind.i64.wrap ((n:Int)-1)=((n-1:Nat):Int):=q_w;have g2:decide ((i:Int)<((n-1:Nat):Int))=false:=q_f;repeat' (first|refine s_0 ?_|refine zg 0 ?_;refine zV ?_;intro _|refine q_k 1 ?_;refine q_v (zay (j:=i)) ?_;refine q_v (z9 (hv:=hc) (hz:=hC.symm)) ?_;refine zi ?_;intro _;refine q_n (zC (B:=C) (hv:=a6) (h1:=hC.symm) (hC:=by exact hC.symm)) ?_)
 rename_i b6 K;repeat' (first|refine s_0 ?_|refine q_k 2 ?_;refine q_v (zH (hr:=g1)) ?_;refine q_v (zl (hr:=g2)) ?_|refine q_k 5 ?_;refine q_v zaj ?_;(refine q_s (zh (hc:=λT X P hh=>F T P K (zp (hh.has (r:=.blk K 45 C) q_h) F0))) ?_;rintro _ _ ⟨R,rfl,aF,cF,rfl,rfl⟩);refine zb ?_)
 cases A with
 |nil=>
  repeat' (first|refine s_0 ?_|refine q_k 6 ?_;refine zaH ?_|refine zg 7 ?_;refine zbj ?_;refine q_y (zC (h1:=rfl)) ?_)
  exact zad rfl (zz (B:=[.int .i64 0,.slice none 0 0]) rfl (ty rfl) rfl F4 F0 rfl) (zr rfl) F2 (GB (x:=noAnch) (s:=⟨none,0,0,[]⟩) rfl ⟨rfl,A4 _,.inl rfl,λ_=>rfl⟩)
 |cons z A=>
  obtain⟨q,S,b2⟩:=b3 z A5;have b1:=b2.pub;obtain⟨zc,y⟩:=z;dsimp only at*;subst S;refine zec (a:=aF) (cp:=cF) (E:=65) (s:=4) (n:=((zb5 q y,y)::A).length) (xs:=(((zb5 q y,y)::A).map (λ(z:List Value×Anch)=>z.1)).flatten) (by exact F1) λr hr=>?_;obtain⟨bF,J,rfl,rfl⟩:=hr (by rw[Ac];omega);have e0:(((zb5 q y,y)::A).map (λ(z:List Value×Anch)=>z.1)).flatten++J=zb5 q y++((A.map (·.1)).flatten++J):=by simp
  rw[e0];have b7:(((zb5 q y,y)::A).length:Int)=(A.length:Int)+1:=by simp
  have g3:decide ((((zb5 q y,y)::A).length:Int)=0)=false:=q_f;have b5:0<((zb5 q y,y)::A).length:=by rw[Ac];omega
  unfold zb5;repeat' (first|refine s_0 ?_|refine q_k 6 ?_;refine q_v (zaa (hr:=g3)) ?_)
  (refine zlk (id:=8) [2] [0,1,2,3,4,5,6,7,8] [9,10] mixed ?_ ?_;kernel_rfl;refine yfv zao (k:=?_);refine yfv zay (k:=?_);refine yfv zO (k:=?_);refine yfv zM (k:=?_);refine yfv zao (k:=?_);refine yfv zay (k:=?_);refine yfv zO (k:=?_);refine yfv zM (k:=?_);refine yfv zgv (k:=?_);refine yf0 ?_;refine ycn zC (k:=?_);refine ycv zbM (k:=?_);try refine yc0 (k:=?_))
  repeat' (first|refine s_0 ?_|fail)
  exact zad rfl (zz (B:=[.int .i64 y.group,.slice q.a2 y.pub.length q.k2]) rfl (ty rfl) rfl F4 F0 rfl) (zr rfl) F2 (GB (x:=y) (s:=⟨q.a2,y.pub.length,q.k2,y.pub⟩) rfl b1)
end Go.Proofs.YtdnlngbjpdbffaaGreatDoor
namespace Go.Ct
open Go Go.Sy
variable (sv:Int->List UInt8->Bool)(sf:Int->List UInt8->List UInt8->List UInt8->Bool)
theorem zgt(e:Int)(es:List Int):zgV (e::es)=if e=0 then zgV es else e:=by
 unfold zgV;rw[List.find?_cons];by_cases h:e=0
 ·simp[h]
 ·simp[h]
theorem zsK:zgV []=0:=rfl
theorem zq7{x:Cert}{X:Anch}{u:Bool}{rs:List Revo}{now i:Int}{first:Bool}(m:decide (i=0)=first)(hu:u=x.issuer.same X.name)(q:u=true->sv X.group X.pub=true)(j:x.ok sv=true):
  zgV [if u then 0 else 220,zgN sv sf x X.group X.pub,if now<x.fr\/x.til<now then 222 else 0,if zfI rs x then 223 else 0,if (!decide (i=0) && !x.auth)=true then 224 else 0]=zfb sf x X rs now first:=by
 subst m;unfold zfb zgN;rw[<-hu];cases u
 ·rw[zgt];rfl
 ·rw[zgt,if_pos rfl,if_pos rfl,zgt,j,q rfl];simp only[zgt,zsK,Ev,if_true,Eu];cases sf X.group X.pub x.body x.sig
  ·simp
  ·by_cases ht:now<x.fr\/x.til<now
   ·simp[ht]
   ·cases hr:zfI rs x
    ·cases hz:(!decide (i=0) && !x.auth) <;> simp[ht]
    ·simp[ht]
end Go.Ct
namespace Go.Proofs.YtdnlngbjpdbffaaGreatDoor
open Go Go.Sy Go.Ct Go.Nt Go.RowKit
attribute [local irreducible] Sy SyL SyX SyC SyF Sy.Fn callFunc
def zgL(a0:Anch)(l:List Cert)(k:Nat):Anch:=match l[k]? with
 |none=>a0
 |some x=>⟨x.subject,x.group,x.pub⟩
theorem zlj{j:List Anch}{p:Prin}{x:Anch}(h:j.find? (λa=>a.name.same p)=some x):zdn j p=x/\x∈j/\x.name.same p=true:=⟨by unfold zdn;rw[h];rfl,List.mem_of_find?_eq_some h,by have:=List.find?_some h;simpa using this⟩
theorem zj7(a aa ar:Option Addr)(n c na ca nr cr:Nat)(ps:List Pl)(l:List Cert)(a9:List Pa)(t:List Anch)(d8:List (Option Addr×Nat))(rs:List Revo)(now:Int)(w:World)(hG:GT w)(hT:Tab w No)(hS:ST w)
  (hn:l.length=n)(c3:t.length=na)(c4:rs.length=nr)(h:ze5 w a c ps l)(hA:ze6 w aa ca a9 t)(hR:ze8 w ar cr d8 rs)(hf:∀x∈l,x.fine)(b8:∀x∈t,x.name.fine)(e6:∀x∈rs,x.issuer.fine)(hb:n<1000)(f7:na<1000)(f8:nr<1000):
  q_G 25 [.slice a n c,.slice aa na ca,.slice ar nr cr,.int .i64 now] w (.tuple #[.int .i64 (zcf sfK svK l t rs now).1,.int .i64 (zcf sfK svK l t rs now).2]):=by
 refine zo Tryz.func25 Tryz.ntmps25 ?_;have c1:=λq (r:Keep No w q)=>h.keep r (λp x hx=>hx.keep r);have e8:=λq (r:Keep No w q)=>hA.keep r (λp x hx=>hx.keep r);have e9:=λq (r:Keep No w q)=>hR.keep r (λp x hx=>hx.keep r);have F:=λq (r:Keep No w q)=>zqz a n c ps l q (hG.to r) hn (c1 q r) hf q_o;have H:=λq (r:Keep No w q)=>zty aa na ca a9 t q (hG.to r) c3 (e8 q r) b8 q_o;have O:=λq=>zjn now q;have a8:zeE svK l t rs now=(zbo svK l&&(decide (t.length<=64)&&t.all (Anch.ok svK))&&decide (rs.length<=64)&&zdm now):=by unfold zeE zdm;simp only[Em]
 unfold zcf;rw[a8,c4];have a7:zbo svK l=false\/(zbo svK l=true/\(decide (t.length<=64)&&t.all (Anch.ok svK))=false)\/(zbo svK l=true/\(decide (t.length<=64)&&t.all (Anch.ok svK))=true/\64<nr)\/(zbo svK l=true/\(decide (t.length<=64)&&t.all (Anch.ok svK))=true/\nr<=64/\zdm now=false)\/(zbo svK l=true/\(decide (t.length<=64)&&t.all (Anch.ok svK))=true/\nr<=64/\zdm now=true):=by
  rcases AH 64 nr with h1|h1 <;> cases zbo svK l <;> cases (decide (t.length<=64)&&t.all (Anch.ok svK)) <;> cases zdm now <;> simp[h1] <;> omega
 rcases a7 with J|⟨J,L⟩|⟨J,L,e3⟩|⟨J,L,e3,e4⟩|⟨J,L,e3,e4⟩
 ·rw[J] at F ⊢;rw[if_neg q_p];repeat' (first|refine s_0 ?_|refine zdd ?_|refine zbL ?_|refine zg 0 ?_;refine zi ?_;intro _;refine zV ?_;intro _|refine q_k 1 ?_;refine q_v (za (hc:=zq F)) ?_;refine zJ ?_;refine zb ?_|refine q_k 2 ?_)
  exact q_r
 ·rw[J] at F ⊢;rw[L] at H ⊢;rw[if_neg q_p];repeat' (first|refine s_0 ?_|refine zdd ?_|refine zbL ?_|refine zg 0 ?_;refine zi ?_;intro _;refine zV ?_;intro _|refine q_k 1 ?_;refine q_v (za (hc:=zq F)) ?_;refine zJ ?_;refine zb ?_;refine q_v (za (hc:=zq H)) ?_;refine zJ ?_;refine zb ?_|refine q_k 2 ?_)
  exact q_r
 ·rw[J] at F ⊢;rw[L] at H ⊢;rw[if_neg (by simp;omega)];have g:decide ((nr:Int)>64)=true:=q_d;repeat' (first|refine s_0 ?_|refine zdd ?_|refine zbL ?_|refine zg 0 ?_;refine zi ?_;intro _;refine zV ?_;intro _|refine q_k 1 ?_;refine q_v (za (hc:=zq F)) ?_;refine zJ ?_;refine zb ?_;refine q_v (za (hc:=zq H)) ?_;refine zJ ?_;refine zb ?_;refine zk ?_;refine zb ?_;refine q_x (zF (hr:=g)) ?_|refine q_k 2 ?_)
  exact q_r
 ·rw[J] at F ⊢;rw[L] at H ⊢;rw[e4] at O ⊢;rw[if_neg q_p];have g:decide ((nr:Int)>64)=false:=q_f;repeat' (first|refine s_0 ?_|refine zdd ?_|refine zbL ?_|refine zg 0 ?_;refine zi ?_;intro _;refine zV ?_;intro _|refine q_k 1 ?_;refine q_v (za (hc:=zq F)) ?_;refine zJ ?_;refine zb ?_;refine q_v (za (hc:=zq H)) ?_;refine zJ ?_;refine zb ?_;refine zk ?_;refine zb ?_;refine q_x (zF (hr:=g)) ?_;refine zk ?_;refine q_v (za (hc:=q_c O)) ?_;refine zJ ?_;refine zb ?_|refine q_k 2 ?_)
  exact q_r
 have b1:=J;have b2:=L;rw[J] at F;rw[L] at H;rw[e4] at O;rw[J,L,e4,decide_eq_true e3,if_pos (by rfl)];have g:decide ((nr:Int)>64)=false:=q_f;simp only[zbo,AB,decide_eq_true_eq,AT] at b1 b2;obtain⟨⟨f5,f6⟩,T⟩:=b1;obtain⟨h6,Z⟩:=b2;rw[hn] at f5 f6;obtain⟨a0,b3⟩:∃a0,a0=zdn t l[n-1].issuer:=⟨_,rfl⟩;have U:l.reverse=l[n-1]::(l.take (n-1)).reverse:=by
  have h1:=zaP (l:=l) (i:=n-1) q_o;rw[show n-1+1=n by omega,A6 q_o] at h1;exact(congrArg List.reverse h1).trans q_p
 rw[U];dsimp only;rw[<-b3,<-U];have g4:IntKind.i64.wrap ((n:Int)-1)=(n:Int)-1:=IntWalk.i64_in _ q_o;repeat' (first|refine s_t ?_|refine zdd ?_|refine zg 0 ?_;refine zi ?_;intro _;refine zV ?_;intro _|refine q_k 1 ?_;refine q_v (za (hc:=zq F)) ?_;refine zJ ?_;refine zb ?_;refine q_v (za (hc:=zq H)) ?_;refine zJ ?_;refine zb ?_;refine zk ?_;refine zb ?_;refine q_x (zF (hr:=g)) ?_;refine zk ?_;refine q_v (za (hc:=q_c O)) ?_;refine zJ ?_;refine zb ?_|refine q_k 3 ?_|refine q_k 4 ?_;refine q_v (zH (hr:=g4)) ?_;refine zi ?_;intro _;refine zS ?_)
 rename_i b6 b7 I;refine zE (γ:=Nat×Nat) (λg=>[(0,.slice a n c),(1,.slice aa na ca),(6,.pointer (some ⟨b6,0,none⟩)),(7,.pointer (some ⟨b7,0,none⟩)),(12,.pointer (some ⟨g.2,0,none⟩)),(10,.int .i64 0),(11,.int .i64 0)])
  (λg=>[.blk g.2 3 [.int .i64 ((g.1:Int)-1)],.blk b6 38 [.slice ar nr cr],.blk b7 3 [.int .i64 now]]) (λg=>g.1<=n/\zfq sfK rs now l.reverse a0=zfq sfK rs now (l.take g.1).reverse (zgL a0 l g.1)) (λg=>g.1) (n,I) ⟨A4 _,?_⟩ ?_ ?_ ?_
 ·have e:zgL a0 l n=a0:=by unfold zgL;rw[BL q_o]
  dsimp only;rw[List.take_of_length_le q_o,e]
 ·exact q_h
 ·exact q_h
 clear I;rintro⟨k,I⟩ ⟨r,A⟩;dsimp only at r A ⊢;rcases AD k with c0|c0
 ·subst c0;have g5:decide (((0:Nat):Int)-1>=0)=false:=rfl;have hz:zfq sfK rs now l.reverse a0=(0,0):=A;rw[hz];repeat' (first|refine s_0 ?_|refine zbL ?_|refine zg 5 ?_;refine zk ?_;refine q_v (zP (hr:=g5)) ?_|refine q_k 14 ?_)
  exact q_r
 obtain⟨i,rfl⟩:∃i,k=i+1:=⟨k-1,by omega⟩;have e7:(((i+1:Nat):Int)-1)=((i:Nat):Int):=q_o;rw[e7];have P:i<l.length:=q_o;obtain⟨bl,ol,p,rfl,hp,b4,hc⟩:=h.at (k:=11) q_e (λ_ _=>rfl) (i:=i) P;have c9:l[i]∈l:=Ah P;have N:=T l[i] c9;have h2:=hf l[i] c9;obtain⟨X,u,b9,hX,hu,c7⟩:∃(X:Anch) (u:Bool),(∀q,Keep No w q->Sy.Fn Tryz.prog 59 [.slice (some ⟨bl,ol,none⟩) n c,.int .i64 (i:Int),.slice aa na ca] q No (KeyR w X u))/\X=zgL a0 l (i+1)/\u=l[i].issuer.same X.name/\(u=true->svK X.group X.pub=true):=by
  rcases(show i+1<n\/i+1=n by omega) with h1|h1
  ·have V:i+1<l.length:=q_o;refine⟨⟨l[i+1].subject,l[i+1].group,l[i+1].pub⟩,l[i+1].subject.same l[i].issuer,λq r=>zod (some ⟨bl,ol,none⟩) n c i ps l _ rfl w q r hn h hf q_o h1,?_,?_,λ_=>?_⟩
   ·unfold zgL;rw[A1 V]
   ·exact Fy _ _
   ·have:=T l[i+1] (Ah V);simp only[Cert.ok,AB] at this;exact this.2
  ·have M:a0=zdn t l[i].issuer:=by
    obtain rfl:n=i+1:=h1.symm;exact b3
   refine⟨a0,(t.find? (λx=>x.name.same l[i].issuer)).isSome,λq r=>?_,?_,?_,?_⟩
   ·rw[M];exact zoa (some ⟨bl,ol,none⟩) aa n c na ca i ps l a9 t w q r hn (c1 q r) q_o h1 c3 hA b8 f7
   ·unfold zgL;rw[BL q_o]
   ·rw[M];cases hfd:t.find? (λx=>x.name.same l[i].issuer) with
    |none=>
     have e0:zdn t l[i].issuer=noAnch:=by unfold zdn;rw[hfd];rfl
     rw[e0];have:l[i].issuer.same noAnch.name=false:=by
      rw[Ci];intro K;rw[FL] at K;simp only[Cert.ok,AB] at N;have:=N.1.1.1.1.1.1.2;rw[K] at this;simp[Prin.ok,noAnch] at this
     rw[this];rfl
    |some x=>
     obtain⟨e0,_,J⟩:=zlj hfd;rw[e0,Fy,J];rfl
   ·intro K;rw[M];cases hfd:t.find? (λx=>x.name.same l[i].issuer) with
    |none=>rw[hfd] at K;cases K
    |some x=>
     obtain⟨e0,L,_⟩:=zlj hfd;rw[e0];have:=Z x L;simp only[Anch.ok,AB] at this;exact this.2
 have c8:(l.take (i+1)).reverse=l[i]::(l.take i).reverse:=by rw[zaP P];simp
 have c5:(⟨l[i].subject,l[i].group,l[i].pub⟩:Anch)=zgL a0 l i:=by unfold zgL;rw[A1 P]
 have b5:(l.take i).reverse.isEmpty=decide ((i:Int)=0):=by
  cases i with
  |zero=>rfl
  |succ i=>
   rw[decide_eq_false (show ¬(((i+1:Nat):Int)=0) by omega),List.isEmpty_eq_false_iff,ne_eq,List.reverse_eq_nil_iff];intro e;have:=congrArg List.length e;rw[AU,DU] at this;omega
 have c2:(l.take i).reverse.length=i:=by rw[CV,AU];omega
 rw[c8,<-hX,zfq,b5,c2,c5] at A;have hex:=zq7 svK sfK (rs:=rs) (now:=now) (i:=(i:Int)) (first:=decide ((i:Int)=0)) rfl hu c7 N;have hC:(zx p l[i]).length=11:=rfl;have d9:(zx p l[i]).all (·.oneCell')=true:=rfl;clear hX hu c7 c5 c8;generalize l[i]=x at*;generalize zfb sfK x X rs now (decide ((i:Int)=0))=E at*;have g5:decide ((i:Int)>=0)=true:=q_d;repeat' (first|refine s_t ?_|refine zg 5 ?_;refine zk ?_;refine q_v (zP (hr:=g5)) ?_|refine q_k 7 ?_;refine zk ?_;refine q_v (zay (j:=i)) ?_;refine q_v (z9 (hv:=hc) (hz:=hC.symm)) ?_;refine zi ?_;intro _;refine q_n (zC (B:=zx p x) (hv:=d9) (h1:=hC.symm) (hC:=by exact hC.symm)) ?_)
 rename_i G;repeat' (first|refine s_0 ?_|refine q_k 8 ?_;refine zk ?_;refine zb ?_;(refine q_s (zh (hc:=zq b9)) ?_;rintro _ _ ⟨R,rfl,s,rfl,f9,c6,rfl⟩);refine zb ?_;refine zi ?_;intro _;refine zi ?_;intro _;refine q_n (zC (h1:=rfl)) ?_;refine zS ?_)
 rename_i W Y;repeat' (first|refine zg 9 ?_;refine q_v zaj ?_;refine q_v zaj ?_;refine q_v zaj ?_;refine q_v zaj ?_;refine q_v zaj ?_;(refine q_s zw ?_;rintro _ _ ⟨bL,rfl,rfl⟩))
 have a6:∀(q:World),Keep No w q->q.rangeAt Y 0 [.bool u]->q.rangeAt W 0 [.int .i64 X.group,s.val]->q.rangeAt G 0 (zx p x)->q.rangeAt I 0 [.int .i64 (i:Int)]->q.rangeAt b6 0 [.slice ar nr cr]->q.rangeAt b7 0 [.int .i64 now]->
   q.rangeAt bL 0 [.func (.func 61) #[] #[.pointer (some ⟨Y,0,none⟩)],.func (.func 63) #[] #[.pointer (some ⟨G,0,none⟩),.pointer (some ⟨W,0,none⟩)],.func (.func 64) #[] #[.pointer (some ⟨b7,0,none⟩),.pointer (some ⟨G,0,none⟩)],.func (.func 65) #[] #[.pointer (some ⟨G,0,none⟩),.pointer (some ⟨b6,0,none⟩)],.func (.func 67) #[] #[.pointer (some ⟨I,0,none⟩),.pointer (some ⟨G,0,none⟩)]]->
   q_G 60 [.slice (some ⟨bL,0,none⟩) 5 5] q (.int .i64 E):=by
  intro q r h5 h4 S h3 r6 r7 rL;rw[<-hex];refine zuG bL 5 5 _ _ q rfl rfl q_e rL (λj e K e5=>?_);have hj:j<5:=(AQ.1 K).1;have Q:=λ{C:World}{b:Nat}{B:List Value}(m:Keep No q C) (h:q.rangeAt b 0 B)=>za5 h m (λh=>h);rcases(show j=0\/j=1\/j=2\/j=3\/j=4 by omega) with rfl|rfl|rfl|rfl|rfl
  ·cases K;exact⟨_,[_],rfl,en rfl,λC m=>ztf Y u C (Q m h5 0 _ rfl)⟩
  ·cases K;rw[<-f9];exact⟨_,[_,_],rfl,en rfl,λC m=>zsn G W p x X.group s C ((hG.to r).to m) ((hT.no r).no m) ((hS.to r).to m) (Q m S) (Q m h4) ((b4.keep r).keep m) h2 ((c6.keep r).keep m)⟩
  ·cases K;exact⟨_,[_,_],rfl,en rfl,λC m=>zr5 b7 G p x now C (Q m r7 0 _ rfl) (Q m S)⟩
  ·cases K;exact⟨_,[_,_],rfl,en rfl,λC m=>ztb G b6 p x ar nr cr d8 rs C (Q m S) (Q m r6 0 _ rfl) ((b4.keep r).keep m) ((e9 q r).keep m (λp x hx=>hx.keep m)) c4 e6 f8⟩
  ·cases K;exact⟨_,[_,_],rfl,en rfl,λC m=>ztk I G p x (i:Int) C (Q m h3 0 _ rfl) (Q m S)⟩
 refine q_v (za (hc:=λq X' r hh=>a6 q r (zp (hh.has q_h) F0) (zp (hh.has q_h) F0) (zp (hh.has q_h) F0) (zp (hh.has q_h) F0) (zp (hh.has q_h) F0) (zp (hh.has q_h) F0) (zp (hh.has q_h) F0))) ?_;have g6:IntKind.i64.wrap ((i:Int)-1)=(i:Int)-1:=IntWalk.i64_in _ q_o;by_cases hE:E=0
 ·rw[if_pos hE] at A;have g7:decide (E≠0)=false:=decide_eq_false (λh=>h hE);subst hE;repeat' (first|refine s_0 ?_|refine q_k 10 ?_;refine q_v (zaC (hr:=g7)) ?_|refine zg 12 ?_;refine zk ?_|refine zg 13 ?_;refine zi ?_;intro _;refine zS ?_|refine zg 6 ?_;refine zk ?_;refine q_v (zH (hr:=g6)) ?_;refine zS ?_|(refine zW ?_;first|refine zB ?_|fail)|fail)
  rename_i b0;refine zy (i,b0) ⟨by dsimp only;omega,A⟩ ?_ ?_ ?_
  ·show i<i+1;omega
  ·exact q_h
  ·exact q_h
 ·rw[if_neg hE] at A;rw[A];have g7:decide (E≠0)=true:=decide_eq_true hE;repeat' (first|refine s_0 ?_|refine zbL ?_|refine q_k 10 ?_;refine q_v (zaC (hr:=g7)) ?_|refine zg 11 ?_;refine zk ?_;refine zb ?_|refine q_k 14 ?_|(refine zW ?_;first|refine zB ?_|fail)|fail)
  exact q_r
end Go.Proofs.YtdnlngbjpdbffaaGreatDoor
