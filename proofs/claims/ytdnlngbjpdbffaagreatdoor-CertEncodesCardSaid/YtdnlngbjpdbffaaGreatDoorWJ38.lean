/- Lemmas of this proof. -/
import Derived.Test.YtdnlngbjpdbffaaGreatDoorWJ37
set_option maxHeartbeats 4000000
set_option maxRecDepth 10000
set_option linter.all false
namespace Go.Ct
open Go Go.Sy
theorem zsb{w:World}{b o:Nat}{C B:List Value}(h:w.rangeAt b 0 C)(q:(C.drop o).take B.length=B):w.rangeAt b o B:=λj v m=>by
 have:=h (o+j) v (FF q j v m);rwa[AZ] at this
end Go.Ct
namespace Go.Proofs.YtdnlngbjpdbffaaGreatDoor
open Go Go.Sy Go.Ct Go.Nt Go.RowKit
attribute [local irreducible] Sy SyL SyX SyC SyF Sy.Fn callFunc
theorem ztJ(b:Nat)(u:Bool)(w:World)(h:w.cell? ⟨b,0,none⟩=some (.bool u)):q_G 61 [.pointer (some ⟨b,0,none⟩)] w (.int .i64 (if u then 0 else 220)):=by
 refine zt Tryz.func61 Tryz.ntmps61 ?_;have j:=λm=>zhL (!u) 220 m;repeat' (first|refine s_0 ?_|refine q_k 0 ?_|refine zf 1 ?_;refine q_v (zn (hv:=h)) ?_;refine zJ ?_;refine q_v (za (hc:=q_c j)) ?_;refine zb ?_)
 exact zap rfl (zh rfl) Er ⟨by cases u <;> rfl,rfl⟩
theorem zt8(b d:Nat)(p:Pl)(c:Cert)(z:Int)(s:Bs)(w:World)(B:GT w)(F:Tab w No)(E:ST w)(A:w.rangeAt b 0 (zG p c))(m:w.rangeAt d 0 [.int .i64 z,s.val])(h:CertAt w p c)(G:c.fine)(H:s.ok w):
  q_G 63 [.pointer (some ⟨b,0,none⟩),.pointer (some ⟨d,0,none⟩)] w (.int .i64 (zlr svK sfK c z s.l)):=by
 refine zt Tryz.func63 Tryz.ntmps63 ?_;have r:(zG p c).length=11:=rfl;have I:w.cell? ⟨d,0,none⟩=some (.int .i64 z):=m 0 _ rfl;have k1:w.cell? ⟨d,1,none⟩=some s.val:=m 1 _ rfl;have hc:=λq (j:Keep No w q)=>zqK p c z s q (B.to j) (F.no j) (E.to j) (h.keep j) G (H.keep j);generalize zG p c=C at*;repeat' (first|refine s_0 ?_|refine q_k 0 ?_|refine zf 1 ?_;refine q_x (zad (hv:=A) (hz:=r.symm)) ?_;refine q_x (zn (hv:=I)) ?_;refine q_v (zn (hv:=k1)) ?_;refine q_v (za (hc:=zu hc)) ?_;refine zb ?_)
 exact q_r
theorem ztT(d b:Nat)(p:Pl)(c:Cert)(now:Int)(w:World)(j:w.cell? ⟨d,0,none⟩=some (.int .i64 now))(A:w.rangeAt b 0 (zG p c)):
  q_G 64 [.pointer (some ⟨d,0,none⟩),.pointer (some ⟨b,0,none⟩)] w (.int .i64 (if now<c.fr\/c.til<now then 222 else 0)):=by
 refine zt Tryz.func64 Tryz.ntmps64 ?_;have q:w.cell? ⟨b,0+5,none⟩=some (.int .i64 c.fr):=A 5 _ rfl;have C:w.cell? ⟨b,0+6,none⟩=some (.int .i64 c.til):=A 6 _ rfl;have B:=λr=>zhL true 222 r;have E:=λr=>zhL false 222 r;have hc:now<c.fr\/(¬now<c.fr/\c.til<now)\/(¬now<c.fr/\¬c.til<now):=q_o;rcases hc with h|⟨h,m⟩|⟨h,m⟩
 ·rw[if_pos (.inl h)];repeat' (first|refine s_0 ?_|refine q_k 0 ?_|refine zf 1 ?_;refine q_x (zn (hv:=j)) ?_;refine q_v (zn (hv:=q)) ?_;refine q_x (zo (hr:=decide_eq_true h)) ?_;refine q_v (za (hc:=q_c B)) ?_;refine zb ?_)
  exact q_r
 ·rw[if_pos (.inr m)];repeat' (first|refine s_0 ?_|refine q_k 0 ?_|refine zf 1 ?_;refine q_x (zn (hv:=j)) ?_;refine q_v (zn (hv:=q)) ?_;refine q_x (zo (hr:=decide_eq_false h)) ?_;refine q_x (zn (hv:=j)) ?_;refine q_v (zn (hv:=C)) ?_;refine q_x (zH (hr:=decide_eq_true m)) ?_;refine q_v (za (hc:=q_c B)) ?_;refine zb ?_)
  exact q_r
 ·rw[if_neg q_o];repeat' (first|refine s_0 ?_|refine q_k 0 ?_|refine zf 1 ?_;refine q_x (zn (hv:=j)) ?_;refine q_v (zn (hv:=q)) ?_;refine q_x (zo (hr:=decide_eq_false h)) ?_;refine q_x (zn (hv:=j)) ?_;refine q_v (zn (hv:=C)) ?_;refine q_x (zH (hr:=decide_eq_false m)) ?_;refine q_v (za (hc:=q_c E)) ?_;refine zb ?_)
  exact q_r
theorem zuW(b d:Nat)(p:Pl)(c:Cert)(a:Option Addr)(n k:Nat)(ps:List (Option Addr×Nat))(rs:List Revo)(w:World)(F:w.rangeAt b 0 (zG p c))(I:w.cell? ⟨d,0,none⟩=some (.slice a n k))(hc:CertAt w p c)(h:zhO w a k ps rs)(hn:rs.length=n)(J:∀x∈rs,x.issuer.fine)(hb:n<1000):
  q_G 65 [.pointer (some ⟨b,0,none⟩),.pointer (some ⟨d,0,none⟩)] w (.int .i64 (if zgh rs c then 223 else 0)):=by
 refine zt Tryz.func65 Tryz.ntmps65 ?_;have M:w.cell? ⟨b,0+0,none⟩=some (.int .i64 c.serial):=F 0 _ rfl;have k1:w.rangeAt b (0+1) (zba p.a1 p.k1 c.issuer):=zsb F rfl;have K:=λj (q:Keep No w j)=>zvh (zba p.a1 p.k1 c.issuer) c.issuer a n k ps rs j (hc.iss.keep q) (h.keep q (λp x L=>L.keep q)) hn J hb;have B:=λu j=>zhL u 223 j;unfold zba at*;repeat' (first|refine s_0 ?_|refine q_k 0 ?_)
 (refine zdC (id:=1) [0,1,2,4,5] [3,6,7,8] mixed ?_ ?_;kernel_rfl;refine yfv zM (k:=?_);refine yfv (zad (hv:=k1)) (k:=?_);refine yfv (zn (hv:=I)) (k:=?_);refine yfv zM (k:=?_);refine yfv (zn (hv:=M)) (k:=?_);refine yf0 ?_;try refine yc0 (k:=?_))
 refine ycs (zi (hc:=zu K)) (k:=?_);rintro _ _ ⟨R,rfl,N,G,rfl,rfl,C⟩;have E:decide (c.serial∈G)=zgh rs c:=by
  rw[CJ,decide_eq_true_iff,C,zgh,DY];constructor
  ·rintro⟨r,A,m,H⟩;exact⟨r,A,by rw[m,decide_eq_true H];rfl⟩
  ·rintro⟨r,A,m⟩;rw[AA,decide_eq_true_eq] at m;exact⟨r,A,m.1,m.2⟩
 refine ycv (zsZ (l:=G) (u:=c.serial) zvZ zvX zvD) (k:=?_);rw[E];refine ycv (za (hc:=λj X q O=>B (zgh rs c) j)) (k:=?_);refine ycv za6 (k:=?_);refine yc0 (k:=?_);repeat' (first|refine s_0 ?_|fail)
 exact q_r
theorem zt0(d b:Nat)(p:Pl)(c:Cert)(i:Int)(w:World)(q:w.cell? ⟨d,0,none⟩=some (.int .i64 i))(A:w.rangeAt b 0 (zG p c)):
  q_G 67 [.pointer (some ⟨d,0,none⟩),.pointer (some ⟨b,0,none⟩)] w (.int .i64 (if (!decide (i=0) && !c.auth)=true then 224 else 0)):=by
 refine zt Tryz.func67 Tryz.ntmps67 ?_;have B:w.cell? ⟨b,0+7,none⟩=some (.bool c.auth):=A 7 _ rfl;have j:=λu C=>zhL u 224 C;by_cases h:i=0
 ·rw[decide_eq_true h];have m:=j false;repeat' (first|refine s_0 ?_|refine q_k 0 ?_|refine zf 1 ?_;refine q_v (zn (hv:=q)) ?_;refine q_x (zaf (hr:=decide_eq_false (λr=>r h))) ?_;refine q_v (za (hc:=q_c m)) ?_;refine zb ?_)
  exact q_r
 ·rw[decide_eq_false h];have m:=j (!c.auth);repeat' (first|refine s_0 ?_|refine q_k 0 ?_|refine zf 1 ?_;refine q_v (zn (hv:=q)) ?_;refine q_x (zaf (hr:=decide_eq_true h)) ?_;refine q_v (zn (hv:=B)) ?_;refine zJ ?_;refine zb ?_;refine q_v (za (hc:=q_c m)) ?_;refine zb ?_)
  exact zap rfl (zh rfl) Er ⟨by cases c.auth <;> rfl,rfl⟩
def KeyR(w:World)(x:Anch)(u:Bool)(v:Value)(R:List Res):Prop:=∃s:Bs,v= .tuple #[.agg #[.int .i64 x.group,s.val],.bool u]/\s.l=x.pub/\s.ok w/\R= []
theorem KeyR.done{w:World}{x:Anch}{u:Bool}{s:Bs}(h1:s.l=x.pub)(h2:s.ok w):KeyR w x u (.tuple #[.agg #[.int .i64 x.group,s.val],.bool u]) []:=⟨s,rfl,h1,h2,rfl⟩
def G9:=@KeyR.done
theorem zpk(a:Option Addr)(n c i:Nat)(ps:List Pl)(l:List Cert)(L:Value)(T:L.oneCell'=true)(I w:World)(C:Keep No I w)(hn:l.length=n)(J:zhP I a c ps l)(Q:∀x∈l,x.fine)(hb:n<1000000)(V:i+1<n):
  Sy.Fn Tryz.prog 59 [.slice a n c,.int .i64 (i:Int),L] w No (KeyR I ⟨l[i+1].subject,l[i+1].group,l[i+1].pub⟩ (l[i+1].subject.same l[i].issuer)):=by
 refine zt Tryz.func59 Tryz.ntmps59 ?_;have h:=J.keep C (λp x R=>R.keep C);obtain⟨U,X,p,rfl,W,E,hc⟩:=h.at (k:=11) q_e (λ_ _=>rfl) (i:=i) q_o;obtain⟨N,S,q,O,G,r,F⟩:=h.at (k:=11) q_e (λ_ _=>rfl) (i:=i+1) q_o;cases O;have A:=Q l[i+1] (Ad q_o);have P:=λM (K:Keep No w M)=>zja _ _ _ _ M (r.sub.keep K) (E.iss.keep K) A.s.1;have H:=(J.each (i+1) q l[i+1] G (A1 q_o)).pub;generalize l[i+1]=m,l[i]=x at*;unfold zG zba at*;have g1:IntKind.i64.wrap ((n:Int)-1)=((n-1:Nat):Int):=q_w;have g2:decide ((i:Int)<((n-1:Nat):Int))=true:=q_d;have g3:IntKind.i64.wrap ((i:Int)+1)=((i+1:Nat):Int):=q_w;repeat' (first|refine s_0 ?_|refine zf 0 ?_;refine zW ?_;intro _|refine q_k 1 ?_;refine q_v (zaG (j:=i)) ?_;refine q_v (zad (hv:=hc)) ?_;refine zj ?_;intro _;refine q_n (zC (h1:=rfl)) ?_|refine q_k 2 ?_;refine q_v (zI (hr:=g1)) ?_;refine q_v (zo (hr:=g2)) ?_|refine q_k 3 ?_;refine q_v (zF (hr:=g3)) ?_;refine q_v (zaG (j:=i+1)) ?_;refine q_v (zad (hv:=F)) ?_;refine zj ?_;intro _;refine q_n (zC (h1:=rfl)) ?_)
 (refine zmk (id:=4) [2] [0,1,2,3,4,5,6,7,8] [9,10,11] mixed ?_ ?_;kernel_rfl;refine yfv zM (k:=?_);refine yfv zL (k:=?_);refine yfv zM (k:=?_);refine yfv zL (k:=?_);refine yfv zg0 (k:=?_);refine yfv zM (k:=?_);refine yfv (ze (B:=[.slice q.a2 m.subject.parts.length q.k2,zT m.subject.realm]) (hv:=FF rfl)) (k:=?_);refine yfv zM (k:=?_);refine yfv (ze (B:=[.slice p.a1 x.issuer.parts.length p.k1,zT x.issuer.realm]) (hv:=FF rfl)) (k:=?_);refine yf0 ?_;try refine yc0 (k:=?_))
 refine ycv (za (hc:=zu P)) (k:=?_);refine ycn (zC (h1:=rfl)) (k:=?_);refine ycv za6 (k:=?_);refine yc0 (k:=?_);repeat' (first|refine s_0 ?_|fail)
 exact zU rfl (zB (B:=[.int .i64 m.group,.slice q.a3 m.pub.length q.k3]) rfl (ty rfl) rfl Ev Et rfl) (zh rfl) Er (G9 (x:=⟨m.subject,m.group,m.pub⟩) (s:=⟨q.a3,m.pub.length,q.k3,m.pub⟩) rfl H)
theorem ztr{γ:Type}(q:Anch->Bool)(zs:List (γ×Anch)):((zs.filter (λp=>q p.2)).head?).map (·.2)=(zs.map (·.2)).find? q:=by
 induction zs with
 |nil=>rfl
 |cons z zs ih=>
  cases h:q z.2
  ·rw[DK (by simp[h]),ih,Aw,List.find?_cons_of_neg (by simp[h])]
  ·rw[DL (by simp[h]),Aw,DS (by simp[h])];rfl
theorem zpt(a Y:Option Addr)(n c M Z i:Nat)(ps:List Pl)(l:List Cert)(m:List Pa)(A:List Anch)(W w:World)(S:Keep No W w)(hn:l.length=n)(h:zhP w a c ps l)(hb:n<1000000)(hi:i+1=n)(K:A.length=M)(O:zhN W Y Z m A)(a9:∀x∈A,x.name.fine)(b0:M<1000):
  Sy.Fn Tryz.prog 59 [.slice a n c,.int .i64 (i:Int),.slice Y M Z] w No (KeyR W (zeJ A l[i].issuer) (A.find? (λx=>x.name.same l[i].issuer)).isSome):=by
 refine zt Tryz.func59 Tryz.ntmps59 ?_;obtain⟨bl,ol,p,rfl,hp,a7,hc⟩:=h.at (k:=11) q_e (λ_ _=>rfl) (i:=i) q_o;generalize l[i]=x at*;have V:=O.keep S (λp x hx=>hx.keep S);have P:(List.zipWith zcu m A).length=M:=by rw[Dq,V.len,K,Dv]
 have G:=λU (Q:Keep No w U) L (hD:U.rangeAt L 0 (zG p x))=>zuE Y M Z 142 [.pointer (some ⟨L,0,none⟩)] A (List.zipWith zcu m A) (λy=>y.name.same x.issuer) U (en rfl) K P (λC hC=>by
  obtain⟨q,y,rfl⟩:=LstAt.at.mem_zipWith hC;exact⟨rfl,rfl⟩) ((Fc V.mem).to (Mi:=No) Q (λ_ h=> .inr h)).sla b0 (λi C y N e2 b4 I=>by
  rw[DW,e2] at N;cases T:m[i]? with
  |none=>rw[T] at N;cases N
  |some q=>
   rw[T] at N;cases N;have a8:=V.each i q y T e2;exact zwG L p x q y b4 (zaX hD I (λh=>h)) ((a7.keep Q).keep I) ((a8.keep Q).keep I) (a9 y (BY e2)))
 unfold zjK at G;have b3:∀z∈(List.zip (List.zipWith zcu m A) A).filter (λz=>z.2.name.same x.issuer),∃q,z.1=zcu q z.2/\AnchAt W q z.2:=λz hz=>by
  obtain⟨q,h1,j,h2,h3⟩:=ziX (Bf.1 hz).1;exact⟨q,h1,O.each j q z.2 h2 h3⟩
 have H:=ztr (λy:Anch=>y.name.same x.issuer) (List.zip (List.zipWith zcu m A) A);rw[zlt V.len] at H;have b9:((List.zip (List.zipWith zcu m A) A).filter (λz=>z.2.name.same x.issuer)).length<=M:=by
  refine BG (Ci _ _) ?_;rw[List.length_zip,P,K,Dv];exact A6 _
 unfold zeJ;generalize (List.zip (List.zipWith zcu m A) A).filter (λz=>z.2.name.same x.issuer)=F at*;rw[<-H];clear H;have hC:(zG p x).length=11:=rfl;have a6:(zG p x).all (·.oneCell')=true:=rfl;generalize zG p x=C at*;have g1:IntKind.i64.wrap ((n:Int)-1)=((n-1:Nat):Int):=q_w;have g2:decide ((i:Int)<((n-1:Nat):Int))=false:=q_f;repeat' (first|refine s_0 ?_|refine zf 0 ?_;refine zW ?_;intro _|refine q_k 1 ?_;refine q_v (zaG (j:=i)) ?_;refine q_v (zad (hv:=hc) (hz:=hC.symm)) ?_;refine zj ?_;intro _;refine q_n (zC (B:=C) (hv:=a6) (h1:=hC.symm) (hC:=by exact hC.symm)) ?_)
 rename_i b6 L;repeat' (first|refine s_0 ?_|refine q_k 2 ?_;refine q_v (zI (hr:=g1)) ?_;refine q_v (zo (hr:=g2)) ?_|refine q_k 5 ?_;refine q_v zab ?_;(refine q_s (zi (hc:=λU X Q hh=>G U Q L (zp (hh.has (r:=.blk L 45 C) q_h) Et))) ?_;rintro _ _ ⟨R,rfl,aF,cF,rfl,rfl⟩);refine zb ?_)
 cases F with
 |nil=>
  repeat' (first|refine s_0 ?_|refine q_k 6 ?_;refine zaD ?_|refine zf 7 ?_;refine zbb ?_;refine q_y (zC (h1:=rfl)) ?_)
  exact zU rfl (zB (B:=[.int .i64 0,.slice none 0 0]) rfl (ty rfl) rfl Ev Et rfl) (zh rfl) Er (G9 (x:=noAnch) (s:=⟨none,0,0,[]⟩) rfl ⟨rfl,A6 _,.inl rfl,λ_=>rfl⟩)
 |cons z F=>
  obtain⟨q,T,b2⟩:=b3 z A3;have b1:=b2.pub;obtain⟨zc,y⟩:=z;dsimp only at*;subst T;refine zgX (a:=aF) (cp:=cF) (E:=65) (s:=4) (n:=((zcu q y,y)::F).length) (xs:=(((zcu q y,y)::F).map (λ(z:List Value×Anch)=>z.1)).flatten) (by exact Es) λr hr=>?_;obtain⟨bF,J,rfl,rfl⟩:=hr (by rw[AQ];omega);have e0:(((zcu q y,y)::F).map (λ(z:List Value×Anch)=>z.1)).flatten++J=zcu q y++((F.map (·.1)).flatten++J):=by simp
  rw[e0];have b7:(((zcu q y,y)::F).length:Int)=(F.length:Int)+1:=by simp
  have g3:decide ((((zcu q y,y)::F).length:Int)=0)=false:=q_f;have b5:0<((zcu q y,y)::F).length:=by rw[AQ];omega
  unfold zcu;repeat' (first|refine s_0 ?_|refine q_k 6 ?_;refine q_v (zS (hr:=g3)) ?_)
  (refine zmk (id:=8) [2] [0,1,2,3,4,5,6,7,8] [9,10] mixed ?_ ?_;kernel_rfl;refine yfv zZ (k:=?_);refine yfv zaG (k:=?_);refine yfv zM (k:=?_);refine yfv zL (k:=?_);refine yfv zZ (k:=?_);refine yfv zaG (k:=?_);refine yfv zM (k:=?_);refine yfv zL (k:=?_);refine yfv zg0 (k:=?_);refine yf0 ?_;refine ycn zC (k:=?_);refine ycv za6 (k:=?_);try refine yc0 (k:=?_))
  repeat' (first|refine s_0 ?_|fail)
  exact zU rfl (zB (B:=[.int .i64 y.group,.slice q.a2 y.pub.length q.k2]) rfl (ty rfl) rfl Ev Et rfl) (zh rfl) Er (G9 (x:=y) (s:=⟨q.a2,y.pub.length,q.k2,y.pub⟩) rfl b1)
end Go.Proofs.YtdnlngbjpdbffaaGreatDoor
namespace Go.Ct
open Go Go.Sy
variable (sv:Int->List UInt8->Bool)(sf:Int->List UInt8->List UInt8->List UInt8->Bool)
theorem zhg(e:Int)(es:List Int):zhu (e::es)=if e=0 then zhu es else e:=by
 unfold zhu;rw[List.find?_cons];by_cases h:e=0
 ·simp[h]
 ·simp[h]
theorem zuB:zhu []=0:=rfl
theorem zrT{x:Cert}{X:Anch}{u:Bool}{rs:List Revo}{now i:Int}{first:Bool}(m:decide (i=0)=first)(hu:u=x.issuer.same X.name)(q:u=true->sv X.group X.pub=true)(j:x.ok sv=true):
  zhu [if u then 0 else 220,zlr sv sf x X.group X.pub,if now<x.fr\/x.til<now then 222 else 0,if zgh rs x then 223 else 0,if (!decide (i=0) && !x.auth)=true then 224 else 0]=zfM sf x X rs now first:=by
 subst m;unfold zfM zlr;rw[<-hu];cases u
 ·rw[zhg];rfl
 ·rw[zhg,if_pos rfl,if_pos rfl,zhg,j,q rfl];simp only[zhg,zuB,El,if_true,Dc];cases sf X.group X.pub x.body x.sig
  ·simp
  ·by_cases ht:now<x.fr\/x.til<now
   ·simp[ht]
   ·cases hr:zgh rs x
    ·cases hz:(!decide (i=0) && !x.auth) <;> simp[ht]
    ·simp[ht]
end Go.Ct
namespace Go.Proofs.YtdnlngbjpdbffaaGreatDoor
open Go Go.Sy Go.Ct Go.Nt Go.RowKit
attribute [local irreducible] Sy SyL SyX SyC SyF Sy.Fn callFunc
def zhi(a0:Anch)(l:List Cert)(k:Nat):Anch:=match l[k]? with
 |none=>a0
 |some x=>⟨x.subject,x.group,x.pub⟩
theorem zl5{j:List Anch}{p:Prin}{x:Anch}(h:j.find? (λa=>a.name.same p)=some x):zeJ j p=x/\x∈j/\x.name.same p=true:=⟨by unfold zeJ;rw[h];rfl,List.mem_of_find?_eq_some h,by have:=List.find?_some h;simpa using this⟩
theorem zqW(a aa ar:Option Addr)(n c na ca nr cr:Nat)(ps:List Pl)(l:List Cert)(b0:List Pa)(A:List Anch)(d9:List (Option Addr×Nat))(rs:List Revo)(now:Int)(w:World)(hG:GT w)(hT:Tab w No)(hS:ST w)
  (hn:l.length=n)(c4:A.length=na)(c5:rs.length=nr)(h:zhP w a c ps l)(hA:zhN w aa ca b0 A)(hR:zhO w ar cr d9 rs)(hf:∀x∈l,x.fine)(b9:∀x∈A,x.name.fine)(e7:∀x∈rs,x.issuer.fine)(hb:n<1000)(h3:na<1000)(h4:nr<1000):
  q_G 25 [.slice a n c,.slice aa na ca,.slice ar nr cr,.int .i64 now] w (.tuple #[.int .i64 (verify sfK svK l A rs now).1,.int .i64 (verify sfK svK l A rs now).2]):=by
 refine zt Tryz.func25 Tryz.ntmps25 ?_;have c2:=λq (r:Keep No w q)=>h.keep r (λp x hx=>hx.keep r);have e9:=λq (r:Keep No w q)=>hA.keep r (λp x hx=>hx.keep r);have f8:=λq (r:Keep No w q)=>hR.keep r (λp x hx=>hx.keep r);have G:=λq (r:Keep No w q)=>zrZ a n c ps l q (hG.to r) hn (c2 q r) hf q_o;have I:=λq (r:Keep No w q)=>zue aa na ca b0 A q (hG.to r) c4 (e9 q r) b9 q_o;have P:=λq=>zkx now q;have a9:zim svK l A rs now=(zbO svK l&&(decide (A.length<=64)&&A.all (Anch.ok svK))&&decide (rs.length<=64)&&zdY now):=by unfold zim zdY;simp only[Ee]
 unfold verify;rw[a9,c5];have a8:zbO svK l=false\/(zbO svK l=true/\(decide (A.length<=64)&&A.all (Anch.ok svK))=false)\/(zbO svK l=true/\(decide (A.length<=64)&&A.all (Anch.ok svK))=true/\64<nr)\/(zbO svK l=true/\(decide (A.length<=64)&&A.all (Anch.ok svK))=true/\nr<=64/\zdY now=false)\/(zbO svK l=true/\(decide (A.length<=64)&&A.all (Anch.ok svK))=true/\nr<=64/\zdY now=true):=by
  rcases AF 64 nr with h1|h1 <;> cases zbO svK l <;> cases (decide (A.length<=64)&&A.all (Anch.ok svK)) <;> cases zdY now <;> simp[h1] <;> omega
 rcases a8 with K|⟨K,M⟩|⟨K,M,e3⟩|⟨K,M,e3,e4⟩|⟨K,M,e3,e4⟩
 ·rw[K] at G ⊢;rw[if_neg q_p];repeat' (first|refine s_0 ?_|refine zdG ?_|refine zbT ?_|refine zf 0 ?_;refine zj ?_;intro _;refine zW ?_;intro _|refine q_k 1 ?_;refine q_v (za (hc:=zu G)) ?_;refine zJ ?_;refine zb ?_|refine q_k 2 ?_)
  exact q_r
 ·rw[K] at G ⊢;rw[M] at I ⊢;rw[if_neg q_p];repeat' (first|refine s_0 ?_|refine zdG ?_|refine zbT ?_|refine zf 0 ?_;refine zj ?_;intro _;refine zW ?_;intro _|refine q_k 1 ?_;refine q_v (za (hc:=zu G)) ?_;refine zJ ?_;refine zb ?_;refine q_v (za (hc:=zu I)) ?_;refine zJ ?_;refine zb ?_|refine q_k 2 ?_)
  exact q_r
 ·rw[K] at G ⊢;rw[M] at I ⊢;rw[if_neg (by simp;omega)];have g:decide ((nr:Int)>64)=true:=q_d;repeat' (first|refine s_0 ?_|refine zdG ?_|refine zbT ?_|refine zf 0 ?_;refine zj ?_;intro _;refine zW ?_;intro _|refine q_k 1 ?_;refine q_v (za (hc:=zu G)) ?_;refine zJ ?_;refine zb ?_;refine q_v (za (hc:=zu I)) ?_;refine zJ ?_;refine zb ?_;refine zm ?_;refine zb ?_;refine q_x (zH (hr:=g)) ?_|refine q_k 2 ?_)
  exact q_r
 ·rw[K] at G ⊢;rw[M] at I ⊢;rw[e4] at P ⊢;rw[if_neg q_p];have g:decide ((nr:Int)>64)=false:=q_f;repeat' (first|refine s_0 ?_|refine zdG ?_|refine zbT ?_|refine zf 0 ?_;refine zj ?_;intro _;refine zW ?_;intro _|refine q_k 1 ?_;refine q_v (za (hc:=zu G)) ?_;refine zJ ?_;refine zb ?_;refine q_v (za (hc:=zu I)) ?_;refine zJ ?_;refine zb ?_;refine zm ?_;refine zb ?_;refine q_x (zH (hr:=g)) ?_;refine zm ?_;refine q_v (za (hc:=q_c P)) ?_;refine zJ ?_;refine zb ?_|refine q_k 2 ?_)
  exact q_r
 have b2:=K;have b3:=M;rw[K] at G;rw[M] at I;rw[e4] at P;rw[K,M,e4,decide_eq_true e3,if_pos (by rfl)];have g:decide ((nr:Int)>64)=false:=q_f;simp only[zbO,AA,decide_eq_true_eq,AL] at b2 b3;obtain⟨⟨f9,h2⟩,U⟩:=b2;obtain⟨i5,a6⟩:=b3;rw[hn] at f9 h2;obtain⟨a0,b4⟩:∃a0,a0=zeJ A l[n-1].issuer:=⟨_,rfl⟩;have V:l.reverse=l[n-1]::(l.take (n-1)).reverse:=by
  have h1:=zaO (l:=l) (i:=n-1) q_o;rw[show n-1+1=n by omega,A8 q_o] at h1;exact(congrArg List.reverse h1).trans q_p
 rw[V];dsimp only;rw[<-b4,<-V];have g4:IntKind.i64.wrap ((n:Int)-1)=(n:Int)-1:=IntWalk.i64_in _ q_o;repeat' (first|refine s_t ?_|refine zdG ?_|refine zf 0 ?_;refine zj ?_;intro _;refine zW ?_;intro _|refine q_k 1 ?_;refine q_v (za (hc:=zu G)) ?_;refine zJ ?_;refine zb ?_;refine q_v (za (hc:=zu I)) ?_;refine zJ ?_;refine zb ?_;refine zm ?_;refine zb ?_;refine q_x (zH (hr:=g)) ?_;refine zm ?_;refine q_v (za (hc:=q_c P)) ?_;refine zJ ?_;refine zb ?_|refine q_k 3 ?_|refine q_k 4 ?_;refine q_v (zI (hr:=g4)) ?_;refine zj ?_;intro _;refine zO ?_)
 rename_i b6 b7 J;refine zN (γ:=Nat×Nat) (λg=>[(0,.slice a n c),(1,.slice aa na ca),(6,.pointer (some ⟨b6,0,none⟩)),(7,.pointer (some ⟨b7,0,none⟩)),(12,.pointer (some ⟨g.2,0,none⟩)),(10,.int .i64 0),(11,.int .i64 0)])
  (λg=>[.blk g.2 3 [.int .i64 ((g.1:Int)-1)],.blk b6 38 [.slice ar nr cr],.blk b7 3 [.int .i64 now]]) (λg=>g.1<=n/\zgq sfK rs now l.reverse a0=zgq sfK rs now (l.take g.1).reverse (zhi a0 l g.1)) (λg=>g.1) (n,J) ⟨A6 _,?_⟩ ?_ ?_ ?_
 ·have e:zhi a0 l n=a0:=by unfold zhi;rw[BV q_o]
  dsimp only;rw[List.take_of_length_le q_o,e]
 ·exact q_h
 ·exact q_h
 clear J;rintro⟨k,J⟩ ⟨r,C⟩;dsimp only at r C ⊢;rcases AD k with c1|c1
 ·subst c1;have g5:decide (((0:Nat):Int)-1>=0)=false:=rfl;have hz:zgq sfK rs now l.reverse a0=(0,0):=C;rw[hz];repeat' (first|refine s_0 ?_|refine zbT ?_|refine zf 5 ?_;refine zm ?_;refine q_v (zP (hr:=g5)) ?_|refine q_k 14 ?_)
  exact q_r
 obtain⟨i,rfl⟩:∃i,k=i+1:=⟨k-1,by omega⟩;have e8:(((i+1:Nat):Int)-1)=((i:Nat):Int):=q_o;rw[e8];have Q:i<l.length:=q_o;obtain⟨bl,ol,p,rfl,hp,b5,hc⟩:=h.at (k:=11) q_e (λ_ _=>rfl) (i:=i) Q;have d8:l[i]∈l:=Ad Q;have O:=U l[i] d8;have h6:=hf l[i] d8;obtain⟨X,u,c0,hX,hu,c8⟩:∃(X:Anch) (u:Bool),(∀q,Keep No w q->Sy.Fn Tryz.prog 59 [.slice (some ⟨bl,ol,none⟩) n c,.int .i64 (i:Int),.slice aa na ca] q No (KeyR w X u))/\X=zhi a0 l (i+1)/\u=l[i].issuer.same X.name/\(u=true->svK X.group X.pub=true):=by
  rcases(show i+1<n\/i+1=n by omega) with h1|h1
  ·have W:i+1<l.length:=q_o;refine⟨⟨l[i+1].subject,l[i+1].group,l[i+1].pub⟩,l[i+1].subject.same l[i].issuer,λq r=>zpk (some ⟨bl,ol,none⟩) n c i ps l _ rfl w q r hn h hf q_o h1,?_,?_,λ_=>?_⟩
   ·unfold zhi;rw[A1 W]
   ·exact Ft _ _
   ·have:=U l[i+1] (Ad W);simp only[Cert.ok,AA] at this;exact this.2
  ·have N:a0=zeJ A l[i].issuer:=by
    obtain rfl:n=i+1:=h1.symm;exact b4
   refine⟨a0,(A.find? (λx=>x.name.same l[i].issuer)).isSome,λq r=>?_,?_,?_,?_⟩
   ·rw[N];exact zpt (some ⟨bl,ol,none⟩) aa n c na ca i ps l b0 A w q r hn (c2 q r) q_o h1 c4 hA b9 h3
   ·unfold zhi;rw[BV q_o]
   ·rw[N];cases hfd:A.find? (λx=>x.name.same l[i].issuer) with
    |none=>
     have e0:zeJ A l[i].issuer=noAnch:=by unfold zeJ;rw[hfd];rfl
     rw[e0];have:l[i].issuer.same noAnch.name=false:=by
      rw[Cl];intro L;rw[FD] at L;simp only[Cert.ok,AA] at O;have:=O.1.1.1.1.1.1.2;rw[L] at this;simp[Prin.ok,noAnch] at this
     rw[this];rfl
    |some x=>
     obtain⟨e0,_,K⟩:=zl5 hfd;rw[e0,Ft,K];rfl
   ·intro L;rw[N];cases hfd:A.find? (λx=>x.name.same l[i].issuer) with
    |none=>rw[hfd] at L;cases L
    |some x=>
     obtain⟨e0,M,_⟩:=zl5 hfd;rw[e0];have:=a6 x M;simp only[Anch.ok,AA] at this;exact this.2
 have c9:(l.take (i+1)).reverse=l[i]::(l.take i).reverse:=by rw[zaO Q];simp
 have c6:(⟨l[i].subject,l[i].group,l[i].pub⟩:Anch)=zhi a0 l i:=by unfold zhi;rw[A1 Q]
 have b8:(l.take i).reverse.isEmpty=decide ((i:Int)=0):=by
  cases i with
  |zero=>rfl
  |succ i=>
   rw[decide_eq_false (show ¬(((i+1:Nat):Int)=0) by omega),List.isEmpty_eq_false_iff,ne_eq,List.reverse_eq_nil_iff];intro e;have:=congrArg List.length e;rw[AR,Ce] at this;omega
 have c3:(l.take i).reverse.length=i:=by rw[Bz,AR];omega
 rw[c9,<-hX,zgq,b8,c3,c6] at C;have hex:=zrT svK sfK (rs:=rs) (now:=now) (i:=(i:Int)) (first:=decide ((i:Int)=0)) rfl hu c8 O;have hC:(zG p l[i]).length=11:=rfl;have e5:(zG p l[i]).all (·.oneCell')=true:=rfl;clear hX hu c8 c6 c9;generalize l[i]=x at*;generalize zfM sfK x X rs now (decide ((i:Int)=0))=E at*;have g5:decide ((i:Int)>=0)=true:=q_d;repeat' (first|refine s_t ?_|refine zf 5 ?_;refine zm ?_;refine q_v (zP (hr:=g5)) ?_|refine q_k 7 ?_;refine zm ?_;refine q_v (zaG (j:=i)) ?_;refine q_v (zad (hv:=hc) (hz:=hC.symm)) ?_;refine zj ?_;intro _;refine q_n (zC (B:=zG p x) (hv:=e5) (h1:=hC.symm) (hC:=by exact hC.symm)) ?_)
 rename_i H;repeat' (first|refine s_0 ?_|refine q_k 8 ?_;refine zm ?_;refine zb ?_;(refine q_s (zi (hc:=zu c0)) ?_;rintro _ _ ⟨R,rfl,s,rfl,h5,c7,rfl⟩);refine zb ?_;refine zj ?_;intro _;refine zj ?_;intro _;refine q_n (zC (h1:=rfl)) ?_;refine zO ?_)
 rename_i Y Z;repeat' (first|refine zf 9 ?_;refine q_v zab ?_;refine q_v zab ?_;refine q_v zab ?_;refine q_v zab ?_;refine q_v zab ?_;(refine q_s zz ?_;rintro _ _ ⟨bL,rfl,rfl⟩))
 have a7:∀(q:World),Keep No w q->q.rangeAt Z 0 [.bool u]->q.rangeAt Y 0 [.int .i64 X.group,s.val]->q.rangeAt H 0 (zG p x)->q.rangeAt J 0 [.int .i64 (i:Int)]->q.rangeAt b6 0 [.slice ar nr cr]->q.rangeAt b7 0 [.int .i64 now]->
   q.rangeAt bL 0 [.func (.func 61) #[] #[.pointer (some ⟨Z,0,none⟩)],.func (.func 63) #[] #[.pointer (some ⟨H,0,none⟩),.pointer (some ⟨Y,0,none⟩)],.func (.func 64) #[] #[.pointer (some ⟨b7,0,none⟩),.pointer (some ⟨H,0,none⟩)],.func (.func 65) #[] #[.pointer (some ⟨H,0,none⟩),.pointer (some ⟨b6,0,none⟩)],.func (.func 67) #[] #[.pointer (some ⟨J,0,none⟩),.pointer (some ⟨H,0,none⟩)]]->
   q_G 60 [.slice (some ⟨bL,0,none⟩) 5 5] q (.int .i64 E):=by
  intro q r h9 h8 T h7 r6 r7 rL;rw[<-hex];refine zxi bL 5 5 _ _ q rfl rfl q_e rL (λj e L e6=>?_);have hj:j<5:=(AU.1 L).1;have S:=λ{F:World}{b:Nat}{B:List Value}(m:Keep No q F) (h:q.rangeAt b 0 B)=>zaX h m (λh=>h);rcases(show j=0\/j=1\/j=2\/j=3\/j=4 by omega) with rfl|rfl|rfl|rfl|rfl
  ·cases L;exact⟨_,[_],rfl,en rfl,λF m=>ztJ Z u F (S m h9 0 _ rfl)⟩
  ·cases L;rw[<-h5];exact⟨_,[_,_],rfl,en rfl,λF m=>zt8 H Y p x X.group s F ((hG.to r).to m) ((hT.no r).no m) ((hS.to r).to m) (S m T) (S m h8) ((b5.keep r).keep m) h6 ((c7.keep r).keep m)⟩
  ·cases L;exact⟨_,[_,_],rfl,en rfl,λF m=>ztT b7 H p x now F (S m r7 0 _ rfl) (S m T)⟩
  ·cases L;exact⟨_,[_,_],rfl,en rfl,λF m=>zuW H b6 p x ar nr cr d9 rs F (S m T) (S m r6 0 _ rfl) ((b5.keep r).keep m) ((f8 q r).keep m (λp x hx=>hx.keep m)) c5 e7 h4⟩
  ·cases L;exact⟨_,[_,_],rfl,en rfl,λF m=>zt0 J H p x (i:Int) F (S m h7 0 _ rfl) (S m T)⟩
 refine q_v (za (hc:=λq X' r hh=>a7 q r (zp (hh.has q_h) Et) (zp (hh.has q_h) Et) (zp (hh.has q_h) Et) (zp (hh.has q_h) Et) (zp (hh.has q_h) Et) (zp (hh.has q_h) Et) (zp (hh.has q_h) Et))) ?_;have g6:IntKind.i64.wrap ((i:Int)-1)=(i:Int)-1:=IntWalk.i64_in _ q_o;by_cases hE:E=0
 ·rw[if_pos hE] at C;have g7:decide (E≠0)=false:=decide_eq_false (λh=>h hE);subst hE;repeat' (first|refine s_0 ?_|refine q_k 10 ?_;refine q_v (zaf (hr:=g7)) ?_|refine zf 12 ?_;refine zm ?_|refine zf 13 ?_;refine zj ?_;intro _;refine zO ?_|refine zf 6 ?_;refine zm ?_;refine q_v (zI (hr:=g6)) ?_;refine zO ?_|(refine zy ?_;first|refine zw ?_|fail)|fail)
  rename_i b1;refine zE (i,b1) ⟨by dsimp only;omega,C⟩ ?_ ?_ ?_
  ·show i<i+1;omega
  ·exact q_h
  ·exact q_h
 ·rw[if_neg hE] at C;rw[C];have g7:decide (E≠0)=true:=decide_eq_true hE;repeat' (first|refine s_0 ?_|refine zbT ?_|refine q_k 10 ?_;refine q_v (zaf (hr:=g7)) ?_|refine zf 11 ?_;refine zm ?_;refine zb ?_|refine q_k 14 ?_|(refine zy ?_;first|refine zw ?_|fail)|fail)
  exact q_r
end Go.Proofs.YtdnlngbjpdbffaaGreatDoor
