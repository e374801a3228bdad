/- Lemmas. -/
import Derived.Test.YtdnlngbjpdbffaaGreatDoorZJ38
set_option maxHeartbeats 4000000
set_option maxRecDepth 10000
set_option linter.all false
namespace Go.Proofs.YtdnlngbjpdbffaaGreatDoor
open Sy Ct Nt RowKit
attribute [local irreducible] Sy SyL SyX SyC SyF Sy.Fn callFunc
theorem zs4{w:World}{b o:Nat}{C B:List Value}(h:w.rangeAt b 0 C)(q:(C.drop o).take B.length=B):w.rangeAt b o B:=λj v m=>by
 have:=h (o+j) v (FK q j v m);rwa[Aa] at this
theorem zu8(b:Nat)(u:Bool)(w:World)(h:w.cell? ⟨b,0,none⟩=some (.bool u)):q_G 61 [.pointer (some ⟨b,0,none⟩)] w (.int .i64 (if u then 0 else 220)):=by
 refine zt Tryz.func61 Tryz.ntmps61 ?_;have j:=λm=>zhT (!u) 220 m;repeat' first|refine s_0 ?_|refine q_k 0 ?_|refine zf 1 ?_;refine q_v (zo (hv:=h)) ?_;refine zI ?_;refine q_v (za (hc:=q_c j)) ?_;refine zb ?_
 exact zar rfl (zh rfl) Ev ⟨by cases u <;> rfl,rfl⟩
theorem zuZ(b d:Nat)(p:Pl)(c:Cert)(z:Int)(s:Bs)(w:World)(B:GT w)(F:Tab w No)(E:ST w)(A:w.rangeAt b 0 (zF p c))(m:w.rangeAt d 0 [.int .i64 z,s.val])(h:CertAt w p c)(G:c.fine)(H:s.ok w):
  q_G 63 [.pointer (some ⟨b,0,none⟩),.pointer (some ⟨d,0,none⟩)] w (.int .i64 (zlQ svK sfK c z s.l)):=by
 refine zt Tryz.func63 Tryz.ntmps63 ?_;have r:(zF p c).length=11:=rfl;have I:w.cell? ⟨d,0,none⟩=some (.int .i64 z):=m 0 _ rfl;have k1:w.cell? ⟨d,1,none⟩=some s.val:=m 1 _ rfl;have hc:=λq (j:Keep No w q)=>zrv p c z s q (B.to j) (F.no j) (E.to j) (h.keep j) G (H.keep j);generalize zF p c=C at*;repeat' first|refine s_0 ?_|refine q_k 0 ?_|refine zf 1 ?_;refine q_x (zW (hv:=A) (hz:=r.symm)) ?_;refine q_x (zo (hv:=I)) ?_;refine q_v (zo (hv:=k1)) ?_;refine q_v (za (hc:=zr hc)) ?_;refine zb ?_
 exact q_r
theorem zvm(d b:Nat)(p:Pl)(c:Cert)(now:Int)(w:World)(j:w.cell? ⟨d,0,none⟩=some (.int .i64 now))(A:w.rangeAt b 0 (zF p c)):
  q_G 64 [.pointer (some ⟨d,0,none⟩),.pointer (some ⟨b,0,none⟩)] w (.int .i64 (if now<c.fr\/c.til<now then 222 else 0)):=by
 refine zt Tryz.func64 Tryz.ntmps64 ?_;have q:w.cell? ⟨b,0+5,none⟩=some (.int .i64 c.fr):=A 5 _ rfl;have E:w.cell? ⟨b,0+6,none⟩=some (.int .i64 c.til):=A 6 _ rfl;have B:=λr=>zhT true 222 r;have F:=λr=>zhT false 222 r;have hc:now<c.fr\/(¬now<c.fr/\c.til<now)\/(¬now<c.fr/\¬c.til<now):=q_o;rcases hc with h|⟨h,m⟩|⟨h,m⟩
 ·rw[if_pos (.inl h)];repeat' first|refine s_0 ?_|refine q_k 0 ?_|refine zf 1 ?_;refine q_x (zo (hv:=j)) ?_;refine q_v (zo (hv:=q)) ?_;refine q_x (zn (hr:=decide_eq_true h)) ?_;refine q_v (za (hc:=q_c B)) ?_;refine zb ?_
  exact q_r
 ·rw[if_pos (.inr m)];repeat' first|refine s_0 ?_|refine q_k 0 ?_|refine zf 1 ?_;refine q_x (zo (hv:=j)) ?_;refine q_v (zo (hv:=q)) ?_;refine q_x (zn (hr:=decide_eq_false h)) ?_;refine q_x (zo (hv:=j)) ?_;refine q_v (zo (hv:=E)) ?_;refine q_x (zH (hr:=decide_eq_true m)) ?_;refine q_v (za (hc:=q_c B)) ?_;refine zb ?_
  exact q_r
 ·rw[if_neg q_o];repeat' first|refine s_0 ?_|refine q_k 0 ?_|refine zf 1 ?_;refine q_x (zo (hv:=j)) ?_;refine q_v (zo (hv:=q)) ?_;refine q_x (zn (hr:=decide_eq_false h)) ?_;refine q_x (zo (hv:=j)) ?_;refine q_v (zo (hv:=E)) ?_;refine q_x (zH (hr:=decide_eq_false m)) ?_;refine q_v (za (hc:=q_c F)) ?_;refine zb ?_
  exact q_r
theorem zuY(b d:Nat)(p:Pl)(c:Cert)(a:Option Addr)(n k:Nat)(ps:List (Option Addr×Nat))(rs:List Revo)(w:World)(G:w.rangeAt b 0 (zF p c))(J:w.cell? ⟨d,0,none⟩=some (.slice a n k))(hc:CertAt w p c)(h:zh5 w a k ps rs)(hn:rs.length=n)(K:∀x∈rs,x.issuer.fine)(hb:n<1000):
  q_G 65 [.pointer (some ⟨b,0,none⟩),.pointer (some ⟨d,0,none⟩)] w (.int .i64 (if zgp rs c then 223 else 0)):=by
 refine zt Tryz.func65 Tryz.ntmps65 ?_;have N:w.cell? ⟨b,0+0,none⟩=some (.int .i64 c.serial):=G 0 _ rfl;have k1:w.rangeAt b (0+1) (zbe p.a1 p.k1 c.issuer):=zs4 G rfl;have L:=λj (q:Keep No w j)=>zug (zbe p.a1 p.k1 c.issuer) c.issuer a n k ps rs j (hc.iss.keep q) (h.keep q (λp x M=>M.keep q)) hn K hb;have B:=λu j=>zhT u 223 j;unfold zbe at*;repeat' first|refine s_0 ?_|refine q_k 0 ?_
 (refine zdp (id:=1) [0,1,2,4,5] [3,6,7,8] mixed ?_ ?_;kernel_rfl;refine yfv zN (k:=?_);refine yfv (zW (hv:=k1)) (k:=?_);refine yfv (zo (hv:=J)) (k:=?_);refine yfv zN (k:=?_);refine yfv (zo (hv:=N)) (k:=?_);refine yf0 ?_;try refine yc0 (k:=?_))
 refine ycs (zi (hc:=zr L)) (k:=?_);rintro _ _ ⟨R,rfl,O,H,rfl,rfl,E⟩;have F:decide (c.serial∈H)=zgp rs c:=by
  rw[CN,decide_eq_true_iff,E,zgp,DY];constructor
  ·rintro⟨r,A,m,I⟩;exact⟨r,A,by rw[m,decide_eq_true I];rfl⟩
  ·rintro⟨r,A,m⟩;rw[A8,decide_eq_true_eq] at m;exact⟨r,A,m.1,m.2⟩
 refine ycv (zsY (l:=H) (u:=c.serial) zwr zwx zv1) (k:=?_);rw[F];refine ycv (za (hc:=λj X q P=>B (zgp rs c) j)) (k:=?_);refine ycv za6 (k:=?_);refine yc0 (k:=?_);repeat' first|refine s_0 ?_|fail
 exact q_r
theorem zur(d b:Nat)(p:Pl)(c:Cert)(i:Int)(w:World)(q:w.cell? ⟨d,0,none⟩=some (.int .i64 i))(A:w.rangeAt b 0 (zF p c)):
  q_G 67 [.pointer (some ⟨d,0,none⟩),.pointer (some ⟨b,0,none⟩)] w (.int .i64 (if (!decide (i=0) && !c.auth)=true then 224 else 0)):=by
 refine zt Tryz.func67 Tryz.ntmps67 ?_;have B:w.cell? ⟨b,0+7,none⟩=some (.bool c.auth):=A 7 _ rfl;have j:=λu E=>zhT u 224 E;by_cases h:i=0
 ·rw[decide_eq_true h];have m:=j false;repeat' first|refine s_0 ?_|refine q_k 0 ?_|refine zf 1 ?_;refine q_v (zo (hv:=q)) ?_;refine q_x (zad (hr:=decide_eq_false (λr=>r h))) ?_;refine q_v (za (hc:=q_c m)) ?_;refine zb ?_
  exact q_r
 ·rw[decide_eq_false h];have m:=j (!c.auth);repeat' first|refine s_0 ?_|refine q_k 0 ?_|refine zf 1 ?_;refine q_v (zo (hv:=q)) ?_;refine q_x (zad (hr:=decide_eq_true h)) ?_;refine q_v (zo (hv:=B)) ?_;refine zI ?_;refine zb ?_;refine q_v (za (hc:=q_c m)) ?_;refine zb ?_
  exact zar rfl (zh rfl) Ev ⟨by cases c.auth <;> rfl,rfl⟩
def KeyR(w:World)(x:Anch)(u:Bool)(v:Value)(R:List Res):Prop:=∃s:Bs,v= .tuple #[.agg #[.int .i64 x.group,s.val],.bool u]/\s.l=x.pub/\s.ok w/\R= []
theorem KeyR.done{w:World}{x:Anch}{u:Bool}{s:Bs}(h1:s.l=x.pub)(h2:s.ok w):KeyR w x u (.tuple #[.agg #[.int .i64 x.group,s.val],.bool u]) []:=⟨s,rfl,h1,h2,rfl⟩
def GD:=@KeyR.done
theorem zpV(a:Option Addr)(n c i:Nat)(ps:List Pl)(l:List Cert)(M:Value)(U:M.oneCell'=true)(J w:World)(E:Keep No J w)(hn:l.length=n)(K:zbH J a c ps l)(R:∀x∈l,x.fine)(hb:n<1000000)(W:i+1<n):
  Sy.Fn Tryz.prog 59 [.slice a n c,.int .i64 (i:Int),M] w No (KeyR J ⟨l[i+1].subject,l[i+1].group,l[i+1].pub⟩ (l[i+1].subject.same l[i].issuer)):=by
 refine zt Tryz.func59 Tryz.ntmps59 ?_;have h:=K.keep E (λp x S=>S.keep E);obtain⟨V,Y,p,rfl,X,F,hc⟩:=h.at (k:=11) q_e (λ_ _=>rfl) (i:=i) q_o;obtain⟨O,T,q,P,H,r,G⟩:=h.at (k:=11) q_e (λ_ _=>rfl) (i:=i+1) q_o;cases P;have A:=R l[i+1] (AX q_o);have Q:=λN (L:Keep No w N)=>ziX _ _ _ _ N (r.sub.keep L) (F.iss.keep L) A.s.1;have I:=(K.each (i+1) q l[i+1] H (A2 q_o)).pub;generalize l[i+1]=m,l[i]=x at*;unfold zF zbe at*;have g1:IntKind.i64.wrap ((n:Int)-1)=((n-1:Nat):Int):=q_w;have g2:decide ((i:Int)<((n-1:Nat):Int))=true:=q_d;have g3:IntKind.i64.wrap ((i:Int)+1)=((i+1:Nat):Int):=q_w;repeat' first|refine s_0 ?_|refine zf 0 ?_;refine z9 λ_=>?_|refine q_k 1 ?_;refine q_v (zal (j:=i)) ?_;refine q_v (zW (hv:=hc)) ?_;refine zk λ_=>?_;refine q_n (zG (h1:=rfl)) ?_|refine q_k 2 ?_;refine q_v (zK (hr:=g1)) ?_;refine q_v (zn (hr:=g2)) ?_|refine q_k 3 ?_;refine q_v (zD (hr:=g3)) ?_;refine q_v (zal (j:=i+1)) ?_;refine q_v (zW (hv:=G)) ?_;refine zk λ_=>?_;refine q_n (zG (h1:=rfl)) ?_
 (refine zmR (id:=4) [2] [0,1,2,3,4,5,6,7,8] [9,10,11] mixed ?_ ?_;kernel_rfl;refine yfv zN (k:=?_);refine yfv zM (k:=?_);refine yfv zN (k:=?_);refine yfv zM (k:=?_);refine yfv zg8 (k:=?_);refine yfv zN (k:=?_);refine yfv (ze (B:=[.slice q.a2 m.subject.parts.length q.k2,zT m.subject.realm]) (hv:=FK rfl)) (k:=?_);refine yfv zN (k:=?_);refine yfv (ze (B:=[.slice p.a1 x.issuer.parts.length p.k1,zT x.issuer.realm]) (hv:=FK rfl)) (k:=?_);refine yf0 ?_;try refine yc0 (k:=?_))
 refine ycv (za (hc:=zr Q)) (k:=?_);refine ycn (zG (h1:=rfl)) (k:=?_);refine ycv za6 (k:=?_);refine yc0 (k:=?_);repeat' first|refine s_0 ?_|fail
 exact zU rfl (zE (B:=[.int .i64 m.group,.slice q.a3 m.pub.length q.k3]) rfl (ty rfl) rfl Ey Ex rfl) (zh rfl) Ev (GD (x:=⟨m.subject,m.group,m.pub⟩) (s:=⟨q.a3,m.pub.length,q.k3,m.pub⟩) rfl I)
theorem ztR{γ:Type}(q:Anch->Bool)(zs:List (γ×Anch)):((zs.filter (λp=>q p.2)).head?).map (·.2)=(zs.map (·.2)).find? q:=by
 induction zs with
 |nil=>rfl
 |cons z zs ih=>
  cases h:q z.2
  ·rw[DM (by simp[h]),ih,Au,List.find?_cons_of_neg (by simp[h])]
  ·rw[DN (by simp[h]),Au,DS (by simp[h])];rfl
theorem zpR(a Y:Option Addr)(n c M Z i:Nat)(ps:List Pl)(l:List Cert)(m:List Pa)(A:List Anch)(W w:World)(S:Keep No W w)(hn:l.length=n)(h:zbH w a c ps l)(hb:n<1000000)(hi:i+1=n)(K:A.length=M)(O:zh4 W Y Z m A)(a9:∀x∈A,x.name.fine)(b0:M<1000):
  Sy.Fn Tryz.prog 59 [.slice a n c,.int .i64 (i:Int),.slice Y M Z] w No (KeyR W (zeU A l[i].issuer) (A.find? (λx=>x.name.same l[i].issuer)).isSome):=by
 refine zt Tryz.func59 Tryz.ntmps59 ?_;obtain⟨bl,ol,p,rfl,hp,a7,hc⟩:=h.at (k:=11) q_e (λ_ _=>rfl) (i:=i) q_o;generalize l[i]=x at*;have V:=O.keep S (λp x hx=>hx.keep S);have P:(List.zipWith zcG m A).length=M:=by rw[Dp,V.len,K,Du]
 have G:=λU (Q:Keep No w U) L (hD:U.rangeAt L 0 (zF p x))=>zu2 Y M Z 142 [.pointer (some ⟨L,0,none⟩)] A (List.zipWith zcG m A) (λy=>y.name.same x.issuer) U (en rfl) K P (λC hC=>by
  obtain⟨q,y,rfl⟩:=LstAt.at.mem_zipWith hC;exact⟨rfl,rfl⟩) ((Fi V.mem).to (Mi:=No) Q (λ_ h=> .inr h)).sla b0 (λi C y N e2 b4 I=>by
  rw[CW,e2] at N;cases T:m[i]? with
  |none=>rw[T] at N;cases N
  |some q=>
   rw[T] at N;cases N;have a8:=V.each i q y T e2;exact zx0 L p x q y b4 (za0 hD I (λh=>h)) ((a7.keep Q).keep I) ((a8.keep Q).keep I) (a9 y (BB e2)))
 unfold zj8 at G;have b3:∀z∈(List.zip (List.zipWith zcG m A) A).filter (λz=>z.2.name.same x.issuer),∃q,z.1=zcG q z.2/\AnchAt W q z.2:=λz hz=>by
  obtain⟨q,h1,j,h2,h3⟩:=zjo (Bh.1 hz).1;exact⟨q,h1,O.each j q z.2 h2 h3⟩
 have H:=ztR (λy:Anch=>y.name.same x.issuer) (List.zip (List.zipWith zcG m A) A);rw[zlR V.len] at H;have b9:((List.zip (List.zipWith zcG m A) A).filter (λz=>z.2.name.same x.issuer)).length<=M:=by
  refine BE (Cn _ _) ?_;rw[List.length_zip,P,K,Du];exact A7 _
 unfold zeU;generalize (List.zip (List.zipWith zcG m A) A).filter (λz=>z.2.name.same x.issuer)=F at*;rw[<-H];clear H;have hC:(zF p x).length=11:=rfl;have a6:(zF p x).all (·.oneCell')=true:=rfl;generalize zF p x=C at*;have g1:IntKind.i64.wrap ((n:Int)-1)=((n-1:Nat):Int):=q_w;have g2:decide ((i:Int)<((n-1:Nat):Int))=false:=q_f;repeat' first|refine s_0 ?_|refine zf 0 ?_;refine z9 λ_=>?_|refine q_k 1 ?_;refine q_v (zal (j:=i)) ?_;refine q_v (zW (hv:=hc) (hz:=hC.symm)) ?_;refine zk λ_=>?_;refine q_n (zG (B:=C) (hv:=a6) (h1:=hC.symm) (hC:=by exact hC.symm)) ?_
 rename_i b6 L;repeat' first|refine s_0 ?_|refine q_k 2 ?_;refine q_v (zK (hr:=g1)) ?_;refine q_v (zn (hr:=g2)) ?_|refine q_k 5 ?_;refine q_v zab ?_;(refine q_s (zi (hc:=λU X Q hh=>G U Q L (zp (hh.has (r:=.blk L 45 C) q_h) Ex))) ?_;rintro _ _ ⟨R,rfl,aF,cF,rfl,rfl⟩);refine zb ?_
 cases F with
 |nil=>
  repeat' first|refine s_0 ?_|refine q_k 6 ?_;refine zaH ?_|refine zf 7 ?_;refine zbt ?_;refine q_y (zG (h1:=rfl)) ?_
  exact zU rfl (zE (B:=[.int .i64 0,.slice none 0 0]) rfl (ty rfl) rfl Ey Ex rfl) (zh rfl) Ev (GD (x:=noAnch) (s:=⟨none,0,0,[]⟩) rfl ⟨rfl,A7 _,.inl rfl,λ_=>rfl⟩)
 |cons z F=>
  obtain⟨q,T,b2⟩:=b3 z A3;have b1:=b2.pub;obtain⟨zc,y⟩:=z;dsimp only at*;subst T;refine zgh (a:=aF) (cp:=cF) (E:=65) (s:=4) (n:=((zcG q y,y)::F).length) (xs:=(((zcG q y,y)::F).map (λ(z:List Value×Anch)=>z.1)).flatten) (by exact Eu) λr hr=>?_;obtain⟨bF,J,rfl,rfl⟩:=hr (by rw[AQ];omega);have e0:(((zcG q y,y)::F).map (λ(z:List Value×Anch)=>z.1)).flatten++J=zcG q y++((F.map (·.1)).flatten++J):=by simp
  rw[e0];have b7:(((zcG q y,y)::F).length:Int)=(F.length:Int)+1:=by simp
  have g3:decide ((((zcG q y,y)::F).length:Int)=0)=false:=q_f;have b5:0<((zcG q y,y)::F).length:=by rw[AQ];omega
  unfold zcG;repeat' first|refine s_0 ?_|refine q_k 6 ?_;refine q_v (zS (hr:=g3)) ?_
  (refine zmR (id:=8) [2] [0,1,2,3,4,5,6,7,8] [9,10] mixed ?_ ?_;kernel_rfl;refine yfv zV (k:=?_);refine yfv zal (k:=?_);refine yfv zN (k:=?_);refine yfv zM (k:=?_);refine yfv zV (k:=?_);refine yfv zal (k:=?_);refine yfv zN (k:=?_);refine yfv zM (k:=?_);refine yfv zg8 (k:=?_);refine yf0 ?_;refine ycn zG (k:=?_);refine ycv za6 (k:=?_);try refine yc0 (k:=?_))
  repeat' first|refine s_0 ?_|fail
  exact zU rfl (zE (B:=[.int .i64 y.group,.slice q.a2 y.pub.length q.k2]) rfl (ty rfl) rfl Ey Ex rfl) (zh rfl) Ev (GD (x:=y) (s:=⟨q.a2,y.pub.length,q.k2,y.pub⟩) rfl b1)
end Go.Proofs.YtdnlngbjpdbffaaGreatDoor
namespace Go.Ct
open Sy
variable (sv:Int->List UInt8->Bool)(sf:Int->List UInt8->List UInt8->List UInt8->Bool)
theorem zhj(e:Int)(es:List Int):zhI (e::es)=if e=0 then zhI es else e:=by
 unfold zhI;rw[List.find?_cons];by_cases h:e=0
 ·simp[h]
 ·simp[h]
theorem zvz:zhI []=0:=rfl
theorem zt2{x:Cert}{X:Anch}{u:Bool}{rs:List Revo}{now i:Int}{first:Bool}(m:decide (i=0)=first)(hu:u=x.issuer.same X.name)(q:u=true->sv X.group X.pub=true)(j:x.ok sv=true):
  zhI [if u then 0 else 220,zlQ sv sf x X.group X.pub,if now<x.fr\/x.til<now then 222 else 0,if zgp rs x then 223 else 0,if (!decide (i=0) && !x.auth)=true then 224 else 0]=zfW sf x X rs now first:=by
 subst m;unfold zfW zlQ;rw[<-hu];cases u
 ·rw[zhj];rfl
 ·rw[zhj,if_pos rfl,if_pos rfl,zhj,j,q rfl];simp only[zhj,zvz,En,if_true,Dc];cases sf X.group X.pub x.body x.sig
  ·simp
  ·by_cases ht:now<x.fr\/x.til<now
   ·simp[ht]
   ·cases hr:zgp rs x
    ·cases hz:(!decide (i=0) && !x.auth) <;> simp[ht]
    ·simp[ht]
end Go.Ct
namespace Go.Proofs.YtdnlngbjpdbffaaGreatDoor
open Sy Ct Nt RowKit
attribute [local irreducible] Sy SyL SyX SyC SyF Sy.Fn callFunc
def zhv(a0:Anch)(l:List Cert)(k:Nat):Anch:=match l[k]? with
 |none=>a0
 |some x=>⟨x.subject,x.group,x.pub⟩
theorem zmY{j:List Anch}{p:Prin}{x:Anch}(h:j.find? (λa=>a.name.same p)=some x):zeU j p=x/\x∈j/\x.name.same p=true:=⟨by unfold zeU;rw[h];rfl,List.mem_of_find?_eq_some h,by have:=List.find?_some h;simpa using this⟩
theorem zrc(a aa ar:Option Addr)(n c na ca nr cr:Nat)(ps:List Pl)(l:List Cert)(b1:List Pa)(A:List Anch)(e5:List (Option Addr×Nat))(rs:List Revo)(now:Int)(w:World)(hG:GT w)(hT:Tab w No)(hS:ST w)
  (hn:l.length=n)(c5:A.length=na)(c6:rs.length=nr)(h:zbH w a c ps l)(hA:zh4 w aa ca b1 A)(hR:zh5 w ar cr e5 rs)(hf:∀x∈l,x.fine)(c0:∀x∈A,x.name.fine)(e8:∀x∈rs,x.issuer.fine)(hb:n<1000)(h4:na<1000)(h5:nr<1000):
  q_G 25 [.slice a n c,.slice aa na ca,.slice ar nr cr,.int .i64 now] w (.tuple #[.int .i64 (verify sfK svK l A rs now).1,.int .i64 (verify sfK svK l A rs now).2]):=by
 refine zt Tryz.func25 Tryz.ntmps25 ?_;have c3:=λq (r:Keep No w q)=>h.keep r (λp x hx=>hx.keep r);have f8:=λq (r:Keep No w q)=>hA.keep r (λp x hx=>hx.keep r);have f9:=λq (r:Keep No w q)=>hR.keep r (λp x hx=>hx.keep r);have H:=λq (r:Keep No w q)=>zhr a n c ps l q (hG.to r) hn (c3 q r) hf q_o;have J:=λq (r:Keep No w q)=>zvL aa na ca b1 A q (hG.to r) c5 (f8 q r) c0 q_o;have Q:=λq=>zkJ now q;have b0:ziM svK l A rs now=(zay svK l&&(decide (A.length<=64)&&A.all (Anch.ok svK))&&decide (rs.length<=64)&&zd3 now):=by unfold ziM zd3;simp only[EZ]
 unfold verify;rw[b0,c6];have a9:zay svK l=false\/(zay svK l=true/\(decide (A.length<=64)&&A.all (Anch.ok svK))=false)\/(zay svK l=true/\(decide (A.length<=64)&&A.all (Anch.ok svK))=true/\64<nr)\/(zay svK l=true/\(decide (A.length<=64)&&A.all (Anch.ok svK))=true/\nr<=64/\zd3 now=false)\/(zay svK l=true/\(decide (A.length<=64)&&A.all (Anch.ok svK))=true/\nr<=64/\zd3 now=true):=by
  rcases AG 64 nr with h1|h1 <;> cases zay svK l <;> cases (decide (A.length<=64)&&A.all (Anch.ok svK)) <;> cases zd3 now <;> simp[h1] <;> omega
 rcases a9 with L|⟨L,N⟩|⟨L,N,e3⟩|⟨L,N,e3,e4⟩|⟨L,N,e3,e4⟩
 ·rw[L] at H ⊢;rw[if_neg q_p];repeat' first|refine s_0 ?_|refine zdO ?_|refine zbY ?_|refine zf 0 ?_;refine zk λ_=>?_;refine z9 λ_=>?_|refine q_k 1 ?_;refine q_v (za (hc:=zr H)) ?_;refine zI ?_;refine zb ?_|refine q_k 2 ?_
  exact q_r
 ·rw[L] at H ⊢;rw[N] at J ⊢;rw[if_neg q_p];repeat' first|refine s_0 ?_|refine zdO ?_|refine zbY ?_|refine zf 0 ?_;refine zk λ_=>?_;refine z9 λ_=>?_|refine q_k 1 ?_;refine q_v (za (hc:=zr H)) ?_;refine zI ?_;refine zb ?_;refine q_v (za (hc:=zr J)) ?_;refine zI ?_;refine zb ?_|refine q_k 2 ?_
  exact q_r
 ·rw[L] at H ⊢;rw[N] at J ⊢;rw[if_neg (by simp;omega)];have g:decide ((nr:Int)>64)=true:=q_d;repeat' first|refine s_0 ?_|refine zdO ?_|refine zbY ?_|refine zf 0 ?_;refine zk λ_=>?_;refine z9 λ_=>?_|refine q_k 1 ?_;refine q_v (za (hc:=zr H)) ?_;refine zI ?_;refine zb ?_;refine q_v (za (hc:=zr J)) ?_;refine zI ?_;refine zb ?_;refine zm ?_;refine zb ?_;refine q_x (zH (hr:=g)) ?_|refine q_k 2 ?_
  exact q_r
 ·rw[L] at H ⊢;rw[N] at J ⊢;rw[e4] at Q ⊢;rw[if_neg q_p];have g:decide ((nr:Int)>64)=false:=q_f;repeat' first|refine s_0 ?_|refine zdO ?_|refine zbY ?_|refine zf 0 ?_;refine zk λ_=>?_;refine z9 λ_=>?_|refine q_k 1 ?_;refine q_v (za (hc:=zr H)) ?_;refine zI ?_;refine zb ?_;refine q_v (za (hc:=zr J)) ?_;refine zI ?_;refine zb ?_;refine zm ?_;refine zb ?_;refine q_x (zH (hr:=g)) ?_;refine zm ?_;refine q_v (za (hc:=q_c Q)) ?_;refine zI ?_;refine zb ?_|refine q_k 2 ?_
  exact q_r
 have b3:=L;have b4:=N;rw[L] at H;rw[N] at J;rw[e4] at Q;rw[L,N,e4,decide_eq_true e3,if_pos (by rfl)];have g:decide ((nr:Int)>64)=false:=q_f;simp only[zay,A8,decide_eq_true_eq,AF] at b3 b4;obtain⟨⟨h2,h3⟩,V⟩:=b3;obtain⟨i7,a7⟩:=b4;rw[hn] at h2 h3;obtain⟨a0,b5⟩:∃a0,a0=zeU A l[n-1].issuer:=⟨_,rfl⟩;have W:l.reverse=l[n-1]::(l.take (n-1)).reverse:=by
  have h1:=zaE (l:=l) (i:=n-1) q_o;rw[show n-1+1=n by omega,A6 q_o] at h1;exact(congrArg List.reverse h1).trans q_p
 rw[W];dsimp only;rw[<-b5,<-W];have g4:IntKind.i64.wrap ((n:Int)-1)=(n:Int)-1:=IntWalk.i64_in _ q_o;repeat' first|refine s_t ?_|refine zdO ?_|refine zf 0 ?_;refine zk λ_=>?_;refine z9 λ_=>?_|refine q_k 1 ?_;refine q_v (za (hc:=zr H)) ?_;refine zI ?_;refine zb ?_;refine q_v (za (hc:=zr J)) ?_;refine zI ?_;refine zb ?_;refine zm ?_;refine zb ?_;refine q_x (zH (hr:=g)) ?_;refine zm ?_;refine q_v (za (hc:=q_c Q)) ?_;refine zI ?_;refine zb ?_|refine q_k 3 ?_|refine q_k 4 ?_;refine q_v (zK (hr:=g4)) ?_;refine zk λ_=>?_;refine zP ?_
 rename_i b6 b7 K;refine zL (γ:=Nat×Nat) (λg=>[(0,.slice a n c),(1,.slice aa na ca),(6,.pointer (some ⟨b6,0,none⟩)),(7,.pointer (some ⟨b7,0,none⟩)),(12,.pointer (some ⟨g.2,0,none⟩)),(10,.int .i64 0),(11,.int .i64 0)])
  (λg=>[.blk g.2 3 [.int .i64 ((g.1:Int)-1)],.blk b6 38 [.slice ar nr cr],.blk b7 3 [.int .i64 now]]) (λg=>g.1<=n/\zgx sfK rs now l.reverse a0=zgx sfK rs now (l.take g.1).reverse (zhv a0 l g.1)) (λg=>g.1) (n,K) ⟨A7 _,?_⟩ ?_ ?_ ?_
 ·have e:zhv a0 l n=a0:=by unfold zhv;rw[BI q_o]
  dsimp only;rw[List.take_of_length_le q_o,e]
 ·exact q_h
 ·exact q_h
 clear K;rintro⟨k,K⟩ ⟨r,F⟩;dsimp only at r F ⊢;rcases AE k with c2|c2
 ·subst c2;have g5:decide (((0:Nat):Int)-1>=0)=false:=rfl;have hz:zgx sfK rs now l.reverse a0=(0,0):=F;rw[hz];repeat' first|refine s_0 ?_|refine zbY ?_|refine zf 5 ?_;refine zm ?_;refine q_v (zO (hr:=g5)) ?_|refine q_k 14 ?_
  exact q_r
 obtain⟨i,rfl⟩:∃i,k=i+1:=⟨k-1,by omega⟩;have e9:(((i+1:Nat):Int)-1)=((i:Nat):Int):=q_o;rw[e9];have S:i<l.length:=q_o;obtain⟨bl,ol,p,rfl,hp,b8,hc⟩:=h.at (k:=11) q_e (λ_ _=>rfl) (i:=i) S;have d9:l[i]∈l:=AX S;have P:=V l[i] d9;have h7:=hf l[i] d9;obtain⟨X,u,c1,hX,hu,c9⟩:∃(X:Anch) (u:Bool),(∀q,Keep No w q->Sy.Fn Tryz.prog 59 [.slice (some ⟨bl,ol,none⟩) n c,.int .i64 (i:Int),.slice aa na ca] q No (KeyR w X u))/\X=zhv a0 l (i+1)/\u=l[i].issuer.same X.name/\(u=true->svK X.group X.pub=true):=by
  rcases(show i+1<n\/i+1=n by omega) with h1|h1
  ·have Y:i+1<l.length:=q_o;refine⟨⟨l[i+1].subject,l[i+1].group,l[i+1].pub⟩,l[i+1].subject.same l[i].issuer,λq r=>zpV (some ⟨bl,ol,none⟩) n c i ps l _ rfl w q r hn h hf q_o h1,?_,?_,λ_=>?_⟩
   ·unfold zhv;rw[A2 Y]
   ·exact Fy _ _
   ·have:=V l[i+1] (AX Y);simp only[Cert.ok,A8] at this;exact this.2
  ·have O:a0=zeU A l[i].issuer:=by
    obtain rfl:n=i+1:=h1.symm;exact b5
   refine⟨a0,(A.find? (λx=>x.name.same l[i].issuer)).isSome,λq r=>?_,?_,?_,?_⟩
   ·rw[O];exact zpR (some ⟨bl,ol,none⟩) aa n c na ca i ps l b1 A w q r hn (c3 q r) q_o h1 c5 hA c0 h4
   ·unfold zhv;rw[BI q_o]
   ·rw[O];cases hfd:A.find? (λx=>x.name.same l[i].issuer) with
    |none=>
     have e0:zeU A l[i].issuer=noAnch:=by unfold zeU;rw[hfd];rfl
     rw[e0];have:l[i].issuer.same noAnch.name=false:=by
      rw[Co];intro M;rw[FI] at M;simp only[Cert.ok,A8] at P;have:=P.1.1.1.1.1.1.2;rw[M] at this;simp[Prin.ok,noAnch] at this
     rw[this];rfl
    |some x=>
     obtain⟨e0,_,L⟩:=zmY hfd;rw[e0,Fy,L];rfl
   ·intro M;rw[O];cases hfd:A.find? (λx=>x.name.same l[i].issuer) with
    |none=>rw[hfd] at M;cases M
    |some x=>
     obtain⟨e0,N,_⟩:=zmY hfd;rw[e0];have:=a7 x N;simp only[Anch.ok,A8] at this;exact this.2
 have d8:(l.take (i+1)).reverse=l[i]::(l.take i).reverse:=by rw[zaE S];simp
 have c7:(⟨l[i].subject,l[i].group,l[i].pub⟩:Anch)=zhv a0 l i:=by unfold zhv;rw[A2 S]
 have b9:(l.take i).reverse.isEmpty=decide ((i:Int)=0):=by
  cases i with
  |zero=>rfl
  |succ i=>
   rw[decide_eq_false (show ¬(((i+1:Nat):Int)=0) by omega),List.isEmpty_eq_false_iff,ne_eq,List.reverse_eq_nil_iff];intro e;have:=congrArg List.length e;rw[AS,Cj] at this;omega
 have c4:(l.take i).reverse.length=i:=by rw[Bd,AS];omega
 rw[d8,<-hX,zgx,b9,c4,c7] at F;have hex:=zt2 svK sfK (rs:=rs) (now:=now) (i:=(i:Int)) (first:=decide ((i:Int)=0)) rfl hu c9 P;have hC:(zF p l[i]).length=11:=rfl;have e6:(zF p l[i]).all (·.oneCell')=true:=rfl;clear hX hu c9 c7 d8;generalize l[i]=x at*;generalize zfW sfK x X rs now (decide ((i:Int)=0))=E at*;have g5:decide ((i:Int)>=0)=true:=q_d;repeat' first|refine s_t ?_|refine zf 5 ?_;refine zm ?_;refine q_v (zO (hr:=g5)) ?_|refine q_k 7 ?_;refine zm ?_;refine q_v (zal (j:=i)) ?_;refine q_v (zW (hv:=hc) (hz:=hC.symm)) ?_;refine zk λ_=>?_;refine q_n (zG (B:=zF p x) (hv:=e6) (h1:=hC.symm) (hC:=by exact hC.symm)) ?_
 rename_i I;repeat' first|refine s_0 ?_|refine q_k 8 ?_;refine zm ?_;refine zb ?_;(refine q_s (zi (hc:=zr c1)) ?_;rintro _ _ ⟨R,rfl,s,rfl,h6,c8,rfl⟩);refine zb ?_;refine zk λ_=>?_;refine zk λ_=>?_;refine q_n (zG (h1:=rfl)) ?_;refine zP ?_
 rename_i Z a6;repeat' first|refine zf 9 ?_;refine q_v zab ?_;refine q_v zab ?_;refine q_v zab ?_;refine q_v zab ?_;refine q_v zab ?_;(refine q_s zz ?_;rintro _ _ ⟨bL,rfl,rfl⟩)
 have a8:∀(q:World),Keep No w q->q.rangeAt a6 0 [.bool u]->q.rangeAt Z 0 [.int .i64 X.group,s.val]->q.rangeAt I 0 (zF p x)->q.rangeAt K 0 [.int .i64 (i:Int)]->q.rangeAt b6 0 [.slice ar nr cr]->q.rangeAt b7 0 [.int .i64 now]->
   q.rangeAt bL 0 [.func (.func 61) #[] #[.pointer (some ⟨a6,0,none⟩)],.func (.func 63) #[] #[.pointer (some ⟨I,0,none⟩),.pointer (some ⟨Z,0,none⟩)],.func (.func 64) #[] #[.pointer (some ⟨b7,0,none⟩),.pointer (some ⟨I,0,none⟩)],.func (.func 65) #[] #[.pointer (some ⟨I,0,none⟩),.pointer (some ⟨b6,0,none⟩)],.func (.func 67) #[] #[.pointer (some ⟨K,0,none⟩),.pointer (some ⟨I,0,none⟩)]]->
   q_G 60 [.slice (some ⟨bL,0,none⟩) 5 5] q (.int .i64 E):=by
  intro q r i5 h9 U h8 r6 r7 rL;rw[<-hex];refine zx9 bL 5 5 _ _ q rfl rfl q_e rL (λj e M e7=>?_);have hj:j<5:=(AR.1 M).1;have T:=λ{G:World}{b:Nat}{B:List Value}(m:Keep No q G) (h:q.rangeAt b 0 B)=>za0 h m (λh=>h);rcases(show j=0\/j=1\/j=2\/j=3\/j=4 by omega) with rfl|rfl|rfl|rfl|rfl
  ·cases M;exact⟨_,[_],rfl,en rfl,λG m=>zu8 a6 u G (T m i5 0 _ rfl)⟩
  ·cases M;rw[<-h6];exact⟨_,[_,_],rfl,en rfl,λG m=>zuZ I Z p x X.group s G ((hG.to r).to m) ((hT.no r).no m) ((hS.to r).to m) (T m U) (T m h9) ((b8.keep r).keep m) h7 ((c8.keep r).keep m)⟩
  ·cases M;exact⟨_,[_,_],rfl,en rfl,λG m=>zvm b7 I p x now G (T m r7 0 _ rfl) (T m U)⟩
  ·cases M;exact⟨_,[_,_],rfl,en rfl,λG m=>zuY I b6 p x ar nr cr e5 rs G (T m U) (T m r6 0 _ rfl) ((b8.keep r).keep m) ((f9 q r).keep m (λp x hx=>hx.keep m)) c6 e8 h5⟩
  ·cases M;exact⟨_,[_,_],rfl,en rfl,λG m=>zur K I p x (i:Int) G (T m h8 0 _ rfl) (T m U)⟩
 refine q_v (za (hc:=λq X' r hh=>a8 q r (zp (hh.has q_h) Ex) (zp (hh.has q_h) Ex) (zp (hh.has q_h) Ex) (zp (hh.has q_h) Ex) (zp (hh.has q_h) Ex) (zp (hh.has q_h) Ex) (zp (hh.has q_h) Ex))) ?_;have g6:IntKind.i64.wrap ((i:Int)-1)=(i:Int)-1:=IntWalk.i64_in _ q_o;by_cases hE:E=0
 ·rw[if_pos hE] at F;have g7:decide (E≠0)=false:=decide_eq_false (λh=>h hE);subst hE;repeat' first|refine s_0 ?_|refine q_k 10 ?_;refine q_v (zad (hr:=g7)) ?_|refine zf 12 ?_;refine zm ?_|refine zf 13 ?_;refine zk λ_=>?_;refine zP ?_|refine zf 6 ?_;refine zm ?_;refine q_v (zK (hr:=g6)) ?_;refine zP ?_|(refine zx ?_;first|refine zw ?_|fail)|fail
  rename_i b2;refine zC (i,b2) ⟨by dsimp only;omega,F⟩ ?_ ?_ ?_
  ·show i<i+1;omega
  ·exact q_h
  ·exact q_h
 ·rw[if_neg hE] at F;rw[F];have g7:decide (E≠0)=true:=decide_eq_true hE;repeat' first|refine s_0 ?_|refine zbY ?_|refine q_k 10 ?_;refine q_v (zad (hr:=g7)) ?_|refine zf 11 ?_;refine zm ?_;refine zb ?_|refine q_k 14 ?_|(refine zx ?_;first|refine zw ?_|fail)|fail
  exact q_r
end Go.Proofs.YtdnlngbjpdbffaaGreatDoor
