/- Lemmas. -/
import Derived.Test.YtdnlngbjpdbffaaGreatDoorZJ46
import Derived.Test.YtdnlngbjpdbffaaGreatDoorZJ42
set_option maxHeartbeats 4000000
set_option maxRecDepth 10000
set_option linter.all false
namespace Go.Proofs.YtdnlngbjpdbffaaGreatDoor
open Sy Ct Nt RowKit
attribute [local irreducible] Sy SyL SyX SyC SyF SyG SyH Sy.Fn Sy.FnP callFunc
theorem zre{sv:Int->List UInt8->Bool}{b:List UInt8}(h:zeu b=none):zbX sv b=none:=by unfold zbX;rw[h]
theorem zq3{sv:Int->List UInt8->Bool}{b r:List UInt8}{c:List Cert}(h:zeu b=some (c,r))(hr:r≠[]):zbX sv b=none:=by
 unfold zbX;rw[h];cases r with
 |nil=>exact absurd rfl hr
 |cons x r=>rfl
theorem zvp{sv:Int->List UInt8->Bool}{b:List UInt8}{c:List Cert}(h:zeu b=some (c,[])):zbX sv b=if zay sv c=true/\za3 c=b then some c else none:=by unfold zbX;rw[h]
theorem zxT(s:Bs)(w:World)(A:s.ok w)(hb:s.n<1000000000):Sy.Fn Tryz.prog 87 [s.val] w No (λv R=>∃b a c,v= .pointer (some ⟨b,0,none⟩)/\R= [zj b ⟨a,s.l.length,c,s.l⟩ 0,.row (.slice a s.l.length c) 5 1 s.l.length (s.l.map v8)]):=by
 refine zt Tryz.func87 Tryz.ntmps87 ?_;have hc:=λj (r:Keep No w j)=>zm8 s j (A.keep r) hb;unfold zbf zbK at hc;have B:s.val= .slice s.a s.n s.c:=rfl;rw[B] at hc ⊢;repeat' first|refine s_0 ?_|refine q_k 0 ?_|refine q_k 1 ?_;(refine q_s (zi (hc:=zr hc)) ?_;rintro _ _ ⟨R,rfl,m,q,rfl,rfl⟩);(refine q_s (zi (hc:=λj X r E=>zpa ⟨m,s.l.length,q,s.l⟩ j)) ?_;rintro _ _ ⟨R,rfl,b,rfl,rfl⟩);refine zb ?_
 exact zar rfl (zh rfl) Ez ⟨b,m,q,rfl,rfl⟩
theorem zx7{j E n c b k:Nat}{w:World}{M:Nat->Prop}{L X:List Res}{a:Option Addr}{l:List UInt8}{s0:Bs}(hh:Holds j M (L++X) w)(hr:Has L (zj b s0 k))(hL:Has L (.row (.slice a n c) E 1 n (l.map v8)))(hn:l.length=n):BsF w (OwnOf [zj b s0 k]) ⟨a,n,c,l⟩:=by
 refine⟨hn,FF hh (F1 hL),(SlF.rowB hh hr hL).imp id λ⟨m,o,q,A,B⟩=>⟨m,o,q,A,λF=>B ?_⟩,λh=>(Fj hh (F1 hL) h).1⟩;obtain⟨r,hr,G⟩:=F;cases AD.1 hr;exact Dd G
theorem zwR(j:Nat)(w:World)(hL:Holds w.heap.size (OwnOf [.blk j 26 [.int .i64 6]]) [.blk j 26 [.int .i64 6]] w):FnD Tryz.prog 86 [.pointer (some ⟨j,0,none⟩)] (.panicking (pch zcc)) w (OwnOf [.blk j 26 [.int .i64 6]]) (λA R=>A= .panicking [{ v:=zcc,recovered:=true }]/\R= [.blk j 26 [.int .i64 6]]):=by
 obtain⟨d,q,r⟩:=zkH;refine zhk (d:=4) (v0:=zcc) (u1:=.panicking [{ v:=zcc,recovered:=true }]) Tryz.func86 rfl rfl Tryz.ntmps86 q_p (λ_ _=>rfl) rfl rfl rfl (.inl ⟨rfl,rfl⟩) hL ?_;intro Q m;unfold zcc;repeat' first|refine s_0 ?_|refine q_k 1 ?_|refine q_k 2 ?_;refine zm ?_;refine zP ?_|refine q_v (ziW q r) ?_|refine m _ _ ?_|(refine zx ?_;first|refine q_n (zG (B:=[.int .i64 6]) (h1:=rfl)) ?_|refine zw ?_|refine zZ ?_|refine zaU ?_|refine zk λ_=>?_|fail)|fail
 exact zlv q_h ⟨rfl,rfl⟩
theorem zxt(j:Nat)(e:Int)(w:World)(hL:Holds w.heap.size (OwnOf [.blk j 26 [.int .i64 e]]) [.blk j 26 [.int .i64 e]] w):FnD Tryz.prog 86 [.pointer (some ⟨j,0,none⟩)] .returning w (OwnOf [.blk j 26 [.int .i64 e]]) (λA R=>A= .returning/\R= [.blk j 26 [.int .i64 e]]):=by
 obtain⟨d,q,r⟩:=zkH;refine zhk (d:=4) (v0:=.nilIface) (u1:=.returning) Tryz.func86 rfl rfl Tryz.ntmps86 q_p (λ_ _=>rfl) rfl rfl rfl (.inr ⟨rfl,rfl,rfl⟩) hL ?_;intro Q m;repeat' first|refine s_0 ?_|refine q_k 1 ?_|refine q_v (zjd (zv:=.agg #[.int .i64 0]) q r (λ_=>rfl)) ?_|refine m _ _ ?_|(refine zx ?_;first|refine q_n (zG (B:=[.int .i64 0]) (h1:=rfl)) ?_|refine zw ?_|refine zZ ?_|refine zaU ?_|refine zk λ_=>?_|fail)|fail
 exact zlv q_h ⟨rfl,rfl⟩
theorem zmO(a:Option Addr)(n c:Nat)(ps:List Pl)(l:List Cert)(w:World)(hn:l.length=n)(h:zbH w a c ps l)(A:∀x∈l,x.small)(hb:n<=5)(V:(l.map Cert.der).flatten.length<16777216):Sy.Fn Tryz.prog 40 [.slice a n c] w No (zbf (za3 l)):=by
 refine zt Tryz.func40 Tryz.ntmps40 ?_;repeat' first|refine s_t ?_|refine zA [0,1,2] ?_;refine zb ?_
 refine zbg (zaT 23 1) ?_;refine zL (γ:=Nat×List Bs×Option Addr×Nat) (λg=>[(6,.slice a n c),(7,.int .i64 (n:Int)),(8,.int .i64 (g.1:Int)),(3,.slice g.2.2.1 g.2.1.length g.2.2.2)])
  (λg=> .row (.slice g.2.2.1 g.2.1.length g.2.2.2) 23 1 g.2.1.length (g.2.1.reverse.map Bs.val)::zcZ 5 g.2.1)
  (λg=>g.1<=n/\g.2.1.reverse.map (·.l)=(l.take g.1).map Cert.der/\∀s∈g.2.1,s.l.length=s.n) (λg=>n-g.1) (0,[],none,0) ⟨AA _,rfl,λs A=>by cases A⟩ ?_ ?_ ?_
 ·exact q_h
 ·exact q_h
 rintro⟨i,m,Y,cP⟩ ⟨hi,q,G⟩;dsimp only at hi q G ⊢;have K:m.length=i:=by have:=congrArg List.length q;simp at this;omega
 by_cases hlt:i<n
 ·obtain⟨Z,ol,p,rfl,hp,P,hc⟩:=h.at (k:=11) q_e (λ_ _=>rfl) (i:=i) q_o;have S:l[i]∈l:=AX q_o;have U:l.take (i+1)=l.take i++[l[i]]:=zaE q_o;have T:=A l[i] S;have hw:=λL (W:Keep No w L)=>zoz p l[i] L (P.keep W) T;have hC:(zF p l[i]).length=11:=rfl;have O:(zF p l[i]).all (·.oneCell')=true:=rfl;generalize l[i]=x at*;generalize zF p x=C at*;have g1:decide ((i:Int)<(n:Int))=true:=q_d;have g5:IntKind.i64.wrap ((i:Int)+1)=((i+1:Nat):Int):=q_w;repeat' first|refine s_t ?_|refine zf 3 ?_;refine q_v (zn (hr:=g1)) ?_|refine zf 4 ?_;refine q_v (zal (j:=i)) ?_;refine q_v (zW (hv:=hc) (hz:=hC.symm)) ?_;refine zk λ_=>?_;refine q_n (zG (B:=C) (hv:=O) (h1:=hC.symm) (hC:=by exact hC.symm)) ?_|refine q_k 5 ?_;refine q_v (ze (B:=C) (hz:=hC.symm)) ?_;(refine q_s (zi (hc:=zr hw)) ?_;rintro _ _ ⟨R,rfl,H,I,rfl,rfl⟩);(refine q_s zz ?_;rintro _ _ ⟨_,rfl,rfl⟩);(refine q_s (zaz (hys:=zjN m ⟨H,x.der.length,I,x.der⟩) (hkm:=rfl)) ?_;rintro _ _ ⟨rfl,M,N,rfl⟩);refine zb ?_
  refine FJ (fr':=[(6,.slice (some ⟨Z,ol,none⟩) n c),(7,.int .i64 (n:Int)),(8,.int .i64 (i:Int)),(3,.slice M (m.length+1) N)]) (L':=.row (.slice M (m.length+1) N) 23 1 (m.length+1) ((⟨H,x.der.length,I,x.der⟩::m).reverse.map Bs.val)::zcZ 5 (⟨H,x.der.length,I,x.der⟩::m)) ?_ q_h ?_;rotate_left
  ·show SubR (_::zjG 5 ⟨H,x.der.length,I,x.der⟩::zcZ 5 m) _
   (repeat' (first|exact Ev|apply F3;with_reducible (focus ((repeat (first|exact Eu|apply Ew));done))|apply F9;(focus ((repeat (first|exact Eu|apply Ew));done))|apply F3;(focus ((repeat (first|exact Eu|apply Ew));done))|apply F6;(focus ((repeat (first|exact Eu|apply Ew));done))|rfl))
   all_goals (repeat (first|exact Ez|apply F7))
  repeat' first|refine zap ?_|refine zao ?_|refine zf 6 ?_;refine q_x (zD (hr:=g5)) ?_
  refine zC (i+1,⟨H,x.der.length,I,x.der⟩::m,M,N) ⟨hlt,?_,?_⟩ ?_ ?_ ?_
  ·show((⟨H,x.der.length,I,x.der⟩::m).reverse).map (·.l)=_;rw[znC,q,U,Ar];rfl
  ·intro s A;rcases AV.1 A with rfl|A
   ·rfl
   ·exact G s A
  ·show n-(i+1)<n-i;omega
  ·exact q_h
  ·exact Ez
 obtain rfl:i=n:=q_o;rw[A6 q_o] at q;have F:Bs.cat m.reverse=(l.map Cert.der).flatten:=by rw[zjL,q]
 have g1:decide ((i:Int)<(i:Int))=false:=q_f;have J:za3 l=tlv 0x30 (Bs.cat m.reverse):=by rw[F];rfl
 rw[<-F] at V;rw[J,K];repeat' first|refine s_0 ?_|refine zf 3 ?_;refine q_v (zn (hr:=g1)) ?_|refine q_k 7 ?_;(refine q_s (zi (hc:=λL X W Q=>zlT Y i cP m.reverse L (by rw[Bd];exact K) q_o (FF Q q_h) ((Fc (Mi:=No) Q q_h (λ_ h=>h.elim)).sla) (λs A=>zj1 (E:=5) Q G (λr hr=>AH _ (A1 _ hr)) s (CQ.1 A)) V)) ?_;rintro _ _ ⟨R,rfl,aS,cS,rfl,rfl⟩);refine zb ?_
 exact zar rfl (zh rfl) (F6 Eu rfl Ev) ⟨_,_,rfl,rfl⟩
theorem zwL(a:Option Addr)(n c:Nat)(ps:List Pl)(l:List Cert)(w:World)(B:GT w)(hn:l.length=n)(h:zbH w a c ps l)(F:∀x∈l,x.fine)(hb:n<1000000)(m:zay svK l=true):Sy.Fn Tryz.prog 12 [.slice a n c] w No (λv R=>∃a k,v= .tuple #[.slice a (za3 l).length k,.int .i64 0]/\R= [.row (.slice a (za3 l).length k) 5 1 (za3 l).length ((za3 l).map v8)]):=by
 refine zt Tryz.func12 Tryz.ntmps12 ?_;have A:=λr (q:Keep No w r)=>zhr a n c ps l r (B.to q) hn (h.keep q (λp x h=>h.keep q)) F hb;rw[m] at A;have E:=zeX zcC m;have j:=m;simp only[zay,A8,decide_eq_true_eq,AF] at j;have G:=λr (q:Keep No w r)=>zmO a n c ps l r hn (h.keep q (λp x h=>h.keep q)) (λx H=>FA zcC (j.2 x H)) q_o q_o;repeat' first|refine s_0 ?_|refine q_k 0 ?_|refine q_k 1 ?_;refine q_v (za (hc:=zr A)) ?_;refine zI ?_|refine q_k 3 ?_;(refine q_s (zi (hc:=zr G)) ?_;rintro _ _ ⟨R,rfl,I,J,rfl,rfl⟩);refine zb ?_
 exact zU rfl (zh rfl) (zh rfl) q_h ⟨_,_,rfl,rfl⟩
theorem zxN(a:Option Addr)(n c:Nat)(ps:List Pl)(l:List Cert)(w:World)(A:GT w)(hn:l.length=n)(h:zbH w a c ps l)(B:∀x∈l,x.fine)(hb:n<1000000)(m:zay svK l=false):q_G 12 [.slice a n c] w (.tuple #[.slice none 0 0,.int .i64 2]):=by
 refine zt Tryz.func12 Tryz.ntmps12 ?_;have q:=λr (j:Keep No w r)=>zhr a n c ps l r (A.to j) hn (h.keep j (λp x h=>h.keep j)) B hb;rw[m] at q;repeat' first|refine s_0 ?_|refine zA [0,2] ?_;refine zb ?_|refine q_k 1 ?_;refine q_v (za (hc:=zr q)) ?_;refine zI ?_
 exact q_r
theorem zn0{A:Nat}{w:World}{M:Nat->Prop}{E n m c s:Nat}{a:Option Addr}{xs:List Value}{L:List Res}(hh:Holds A M L w)(hL:Has L (.row (.slice a m c) E s n xs)):SlA w a xs:=by
 have q:w.ownsRow 0 E s (.slice a m c) n xs:=hh.has hL;obtain⟨F,⟨_,G⟩|⟨b,K,B,J,_,H,N,O,P,I⟩⟩:=q
 ·exact .inl (Av.1 (by rw[F,G,BF]))
 ·cases J;refine .inr ⟨b,0,rfl,λj v r=>?_⟩;rw[<-I,CI] at r;split at r
  ·simp only[World.cell?,H,Aa];simpa using r
  ·cases r
theorem ztq{A B D:List Res} :(A++(B++D)).Perm (B++(A++D)):=by
 rw[<-AI,<-AI];exact Aj.append_right D
theorem zjh:∀(m:List Pl) (j:List Cert),allRows m j=(List.zipWith zaD m j).flatten
 | [],_=>by simp[allRows]
 |_::_,[]=>by simp[allRows]
 |p::m,x::j=>by rw[allRows,zjh m j,EN,BM]
theorem zkq{ps:List Pl}{cs:List Cert}(j:ps.length=cs.length){i:Nat}{p:Pl}{x:Cert}(h1:ps[i]?=some p)(h2:cs[i]?=some x):∀r∈zaD p x,r∈allRows ps.reverse cs.reverse:=λr m=>by
 rw[zjh,<-List.reverse_zipWith j,List.mem_flatten];refine⟨zaD p x,CQ.2 (BB (i:=i) ?_),m⟩;rw[CW,h1,h2]
theorem zz2{w w0:World}{M:Nat->Prop}{L X:List Res}{p:Pl}{c:Cert}{n:Nat}(hh:Holds w0.heap.size M (L++X) w)(hL:∀r∈zaD p c,r∈L)(j:c.rd n):CertAt w p c:=
 zma hh hL (by have:=(FB j.iss).1;unfold maxLen;omega) (Cert.rd_wf j) (by obtain⟨-,q,A⟩:=FB j.iss;exact⟨by unfold maxLen;omega,λx m=>by have:=q x m;unfold maxLen;omega⟩) (by obtain⟨-,q,A⟩:=FB j.sub;exact⟨by unfold maxLen;omega,λx m=>by have:=q x m;unfold maxLen;omega⟩)
theorem zfb{w w0:World}{M:Nat->Prop}{L X:List Res}{a:Option Addr}{k n:Nat}{ps:List Pl}{cs:List Cert}(hh:Holds w0.heap.size M (L++X) w)(hr:Has L (.row (.slice a cs.length k) 45 11 cs.length (List.zipWith zF ps cs).flatten))(q:ps.length=cs.length)(hL:∀r∈allRows ps.reverse cs.reverse,r∈L)(j:∀c∈cs,c.rd n):zbH w a k ps cs:=
 ⟨q,FF hh (F1 hr),λh=>(Fj hh (F1 hr) h).1,zn0 hh (F1 hr),λ_ _ _ A m=>zz2 hh (λr hr=>hL r (zkq q A m r hr)) (j _ (BB m))⟩
def DecCR(l:List UInt8)(v:Value)(R:List Res):Prop:=(∃cs a k ps,zbX svK l=some cs/\(∀c∈cs,c.rd l.length)/\ps.length=cs.length/\v= .tuple #[.slice a cs.length k,.int .i64 0]/\R= .row (.slice a cs.length k) 45 11 cs.length (List.zipWith zF ps cs).flatten::allRows ps.reverse cs.reverse)\/(zbX svK l=none/\v= .tuple #[.slice none 0 0,.int .i64 6]/\R= [])
theorem zgr{N:Nat}(l:List UInt8)(w:World)(m:Nat)(j:List Nat)(h:zbX svK l=none):SyX N w No (dfn 86 [.pointer (some ⟨m,0,none⟩)]::(j.map col++[])) (bodyPostM Fence.wide 0 Tryz.prog Tryz.f43 (FnR w No (DecCR l)) (.panic (pch zcc))) [(8,.slice none 0 0),(9,.pointer (some ⟨m,0,none⟩))] ([.blk m 26 [.int .i64 6]]++j.map dob):=by
 refine zhb (.inr ⟨_,rfl,rfl⟩) (C:=[.blk m 26 [.int .i64 6]]) (L1:=[]) (Ay _) (λr _ _ q=>zwR m r q) ?_;rintro _ _ ⟨rfl,rfl⟩;exact⟨rfl,_,_,results2 rfl (zh rfl) (zdD rfl (ty rfl) rfl Ey rfl),Ev,.inr ⟨h,rfl,rfl⟩⟩
theorem ztm{N:Nat}(l:List UInt8)(w:World)(m:Nat)(j:List Nat)(ps:List Pl)(cs:List Cert)(a:Option Addr)(k:Nat)(h:zbX svK l=some cs)(q:∀c∈cs,c.rd l.length)(A:ps.length=cs.length):SyX N w No (dfn 86 [.pointer (some ⟨m,0,none⟩)]::(j.map col++[])) (bodyPostM Fence.wide 0 Tryz.prog Tryz.f43 (FnR w No (DecCR l)) .ret) [(8,.slice a cs.length k),(9,.pointer (some ⟨m,0,none⟩))] ((.blk m 26 [.int .i64 0]:: .row (.slice a cs.length k) 45 11 cs.length (List.zipWith zF ps cs).flatten::allRows ps.reverse cs.reverse)++j.map dob):=by
 refine zhb (.inl ⟨rfl,rfl⟩) (C:=[.blk m 26 [.int .i64 0]]) (L1:=.row (.slice a cs.length k) 45 11 cs.length (List.zipWith zF ps cs).flatten::allRows ps.reverse cs.reverse) (Ay _) (λB _ _ r=>zxt m 0 B r) ?_;rintro _ _ ⟨rfl,rfl⟩;exact⟨rfl,_,_,results2 rfl (zh rfl) (zdD rfl (ty rfl) rfl Ey rfl),(F7 Ez),.inl ⟨cs,a,k,ps,h,q,A,rfl,rfl⟩⟩
theorem zpG(s:Bs)(w:World)(hG:GT w)(hs:s.ok w)(hb:s.n<1000000):Sy.Fn Tryz.prog 43 [s.val,.func (.func 44) #[] #[],.func (.func 39) #[] #[],.func (.func 40) #[] #[]] w No (DecCR s.l):=by
 refine zt Tryz.func43 Tryz.ntmps43 ?_;have a8:=λj (E:Keep No w j)=>zxT s j (hs.keep E) q_o;have b5:=hs.len;have hv:s.val= .slice s.a s.n s.c:=rfl;rw[hv] at a8 ⊢;repeat' first|refine s_0 ?_|refine q_k 0 ?_;refine zk λ_=>?_
 rename_i b9;repeat' first|refine s_0 ?_|refine zf 1 ?_;refine zP ?_|refine zf 2 ?_;refine q_v zab ?_|refine znd (f:=86) (λJ=>?_)|fail
 simp only[Ae,Ag];repeat' first|refine s_0 ?_|refine q_k 3 ?_;(refine q_s (zi (hc:=zr a8)) ?_;rintro _ _ ⟨R,rfl,H,aR,cR,rfl,rfl⟩);refine zbt ?_;refine zk λ_=>?_;refine zP ?_
 rename_i b2;obtain⟨sR,Q⟩:∃x:Bs,x=⟨aR,s.l.length,cR,s.l⟩:=⟨_,rfl⟩;have b4:sR.n=s.l.length:=by rw[Q]
 have W:sR.l=s.l:=by rw[Q]
 have a6:sR.l.length=sR.n:=by rw[b4,W]
 have O:∀ {L X:List Res}{j:World}{k:Nat},Holds w.heap.size No (L++X) j->Has L (zj H sR k)->Has L (.row (.slice aR s.l.length cR) 5 1 s.l.length (s.l.map v8))->BsF j (OwnOf [zj H sR k]) sR:=λm M h2=>by
  have:=zx7 m M h2 rfl;rw[<-Q] at this;exact this
 rw[<-Q];repeat' first|refine q_k 4 ?_;refine zm ?_;(refine zef (f:=44) (M':=OwnOf [zj H sR 0]) (C:=[zj H sR 0]) (F0 (r':=zj H sR 0) (by repeat (first|exact Eu|apply Ew)) rfl F2) (λ_ h=>h) (hc:=λj X E m=>zse H sR 0 j (zhN (F0 (r':=zj H sR 0) (by repeat (first|exact Eu|apply Ew)) rfl F2) m) (O m Ey Ey) (AA _) q_o) ?_ ?_)
 rotate_left
 ·rintro _ _ ⟨M,rfl,rfl⟩;rw[BL,W] at M;repeat' first|refine zJ ?_|fail
  refine(zgr s.l w b9 J (zre M)).weaken q_h ?_
  (repeat' (first|exact Ev|apply F3;with_reducible (focus ((repeat (first|exact Eu|apply Ew));done))|apply F9;(focus ((repeat (first|exact Eu|apply Ew));done))|apply F3;(focus ((repeat (first|exact Eu|apply Ew));done))|apply F6;(focus ((repeat (first|exact Eu|apply Ew));done))|rfl))
  all_goals (repeat (first|exact Ez|exact⟨_,Aj⟩|apply F7))
 rintro _ _ ⟨q,b6,k,_,M,h2,h3,⟨a,kc,S,a9,rfl,rfl⟩,rfl⟩;rw[BL,W] at M;have Y:∀c∈q,c.rd s.l.length:=zls M;refine FL (L':=zj H sR k:: .row (.slice a q.length kc) 45 11 q.length (List.zipWith zF S q).flatten:: .blk b2 82 [.pointer (some ⟨H,0,none⟩)]:: .row (.slice aR s.l.length cR) 5 1 s.l.length (s.l.map v8):: .blk b9 26 [.int .i64 6]::(allRows S.reverse q.reverse++J.map dob)) ?_ (λ_ _ h=>h) ?_;rotate_left
 ·exact⟨[],by rw[AJ];exact List.Perm.cons _ (List.Perm.cons _ (ztq (B:=[_,_,_])))⟩
 have b3:∀c∈q,c.fine:=λc hc=>Ft (Y c hc);have a7:q.length<1000000:=by have:=zkj M;omega
 have G:∀ {L X:List Res}{j:World},Holds w.heap.size No (L++X) j->Has L (.row (.slice a q.length kc) 45 11 q.length (List.zipWith zF S q).flatten)->(∀r∈allRows S.reverse q.reverse,r∈L)->zbH j a kc S q:=λm I hL=>zfb m I a9 hL Y;have P:=λj (E:Keep No w j) h=>zhr a q.length kc S q j (hG.to E) rfl h b3 a7;have b1:=λj h (F:zay svK q=true)=>by
  have b7:=zeX zcC F;have T:=F;simp only[zay,A8,decide_eq_true_eq,AF] at T;exact zmO a q.length kc S q j rfl h (λx hx=>FA zcC (T.2 x hx)) q_o q_o
 unfold zbf zbK at b1;have V:=λj Z cW (M:SlA j Z ((za3 q).map v8)) (h2:SlA j s.a (s.l.map v8))=>zjj Z s.a (za3 q).length cW s.n s.c (za3 q) s.l j rfl b5 M h2;generalize hA:allRows S.reverse q.reverse=A at*;by_cases hd:sR.n-k=0
 ·have N:=λj I hc=>zoM H sR k j I h2 hc q_o hd;have b0:b6= []:=by rw[<-h3];exact(za4 a6).2 hd
  subst b0;have K:=zvp (sv:=svK) M;by_cases F:zay svK q=true
  ·have U:=λj h=>b1 j h F;rw[F] at P;obtain⟨y,hy⟩:∃y,(za3 q==s.l)=y:=⟨_,rfl⟩;rw[hy] at V;cases y with
   |true=>
    rw[if_pos ⟨F,beq_iff_eq.1 hy⟩] at K;repeat' first|refine s_0 ?_|refine zf 5 ?_;refine zm ?_;refine q_v (za (hc:=λj X E m=>N j (zp (m.has (r:=zj H sR k) q_h) Ex) (O m Ey Ey).cap)) ?_|refine q_k 6 ?_;refine q_v (za (hc:=λj X E m=>P j E (G m Ey (λr I=>A1 _ (A1 _ (A1 _ (A1 _ (A1 _ (AH _ I))))))))) ?_;refine zb ?_;(refine q_s (zi (hc:=λj X E m=>U j (G m Ey (λr I=>A1 _ (A1 _ (A1 _ (A1 _ (A1 _ (AH _ I))))))))) ?_;rintro _ _ ⟨R,rfl,Z,cW,rfl,rfl⟩);refine zb ?_;refine q_v (za (hc:=λj X E m=>V j Z cW (zat m q_h) (hs.keep E).sla)) ?_;refine zb ?_;refine q_v (za (hc:=q_c zeb)) ?_|refine q_k 7 ?_;refine zP ?_|(refine zx ?_;first|refine zw ?_|fail)|fail
    refine(ztm s.l w b9 J S q a kc K Y a9).weaken q_h ?_;rw[hA]
    (repeat' (first|exact Ev|apply F3;with_reducible (focus ((repeat (first|exact Eu|apply Ew));done))|apply F9;(focus ((repeat (first|exact Eu|apply Ew));done))|apply F3;(focus ((repeat (first|exact Eu|apply Ew));done))|apply F6;(focus ((repeat (first|exact Eu|apply Ew));done))|rfl))
    all_goals (repeat (first|exact Ez|exact⟨_,Aj⟩|apply F7))
   |false=>
    rw[if_neg (λh=>by rw[h.2] at hy;simp at hy)] at K;repeat' first|refine s_0 ?_|refine zf 5 ?_;refine zm ?_;refine q_v (za (hc:=λj X E m=>N j (zp (m.has (r:=zj H sR k) q_h) Ex) (O m Ey Ey).cap)) ?_|refine q_k 6 ?_;refine q_v (za (hc:=λj X E m=>P j E (G m Ey (λr I=>A1 _ (A1 _ (A1 _ (A1 _ (A1 _ (AH _ I))))))))) ?_;refine zb ?_;(refine q_s (zi (hc:=λj X E m=>U j (G m Ey (λr I=>A1 _ (A1 _ (A1 _ (A1 _ (A1 _ (AH _ I))))))))) ?_;rintro _ _ ⟨R,rfl,Z,cW,rfl,rfl⟩);refine zb ?_;refine q_v (za (hc:=λj X E m=>V j Z cW (zat m q_h) (hs.keep E).sla)) ?_;refine zb ?_;(refine zbi (hc:=λj _ _ _=>zeh j) ?_)|refine zJ ?_|(refine zx ?_;first|refine zw ?_|fail)|fail
    refine(zgr s.l w b9 J K).weaken q_h ?_
    (repeat' (first|exact Ev|apply F3;with_reducible (focus ((repeat (first|exact Eu|apply Ew));done))|apply F9;(focus ((repeat (first|exact Eu|apply Ew));done))|apply F3;(focus ((repeat (first|exact Eu|apply Ew));done))|apply F6;(focus ((repeat (first|exact Eu|apply Ew));done))|rfl))
    all_goals (repeat (first|exact Ez|exact⟨_,Aj⟩|apply F7))
  ·rw[if_neg (λh=>F h.1)] at K;rw[Br] at F;rw[F] at P;repeat' first|refine s_0 ?_|refine zf 5 ?_;refine zm ?_;refine q_v (za (hc:=λj X E m=>N j (zp (m.has (r:=zj H sR k) q_h) Ex) (O m Ey Ey).cap)) ?_|refine q_k 6 ?_;refine q_v (za (hc:=λj X E m=>P j E (G m Ey (λr I=>A1 _ (A1 _ (A1 _ (A1 _ (A1 _ (AH _ I))))))))) ?_;refine zb ?_;(refine zbi (hc:=λj _ _ _=>zeh j) ?_)|refine zJ ?_|(refine zx ?_;first|refine zw ?_|fail)|fail
   refine(zgr s.l w b9 J K).weaken q_h ?_
   (repeat' (first|exact Ev|apply F3;with_reducible (focus ((repeat (first|exact Eu|apply Ew));done))|apply F9;(focus ((repeat (first|exact Eu|apply Ew));done))|apply F3;(focus ((repeat (first|exact Eu|apply Ew));done))|apply F6;(focus ((repeat (first|exact Eu|apply Ew));done))|rfl))
   all_goals (repeat (first|exact Ez|exact⟨_,Aj⟩|apply F7))
 ·have N:=λj I hc=>zoa H sR k j I h2 hc q_o hd;repeat' first|refine s_0 ?_|refine zf 5 ?_;refine zm ?_;(refine zbi (hc:=λj X E m=>N j (zp (m.has (r:=zj H sR k) q_h) Ex) (O m Ey Ey).cap) ?_)|refine zJ ?_|(refine zx ?_;first|refine zw ?_|fail)|fail
  refine(zgr s.l w b9 J (zq3 M (λh=>hd ((za4 a6).1 (by rw[h3];exact h))))).weaken q_h ?_
  (repeat' (first|exact Ev|apply F3;with_reducible (focus ((repeat (first|exact Eu|apply Ew));done))|apply F9;(focus ((repeat (first|exact Eu|apply Ew));done))|apply F3;(focus ((repeat (first|exact Eu|apply Ew));done))|apply F6;(focus ((repeat (first|exact Eu|apply Ew));done))|rfl))
  all_goals (repeat (first|exact Ez|exact⟨_,Aj⟩|apply F7))
theorem zrH(s:Bs)(w:World)(E:GT w)(F:s.ok w)(hb:s.n<1000000):Sy.Fn Tryz.prog 16 [s.val] w No (DecCR s.l):=by
 refine zt Tryz.func16 Tryz.ntmps16 ?_;have h:=λq (m:Keep No w q)=>zpG s q (E.to m) (F.keep m) hb;have G:s.val= .slice s.a s.n s.c:=rfl;rw[G] at h ⊢;unfold DecCR at h;repeat' first|refine s_0 ?_|refine q_k 0 ?_|refine q_k 1 ?_;(refine q_s (zi (hc:=zr h)) ?_;rintro _ _ ⟨R,rfl,(⟨r,a,k,H,j,A,B,rfl,rfl⟩|⟨j,rfl,rfl⟩)⟩);refine zb ?_|(refine zx ?_;first|refine zw ?_|refine zZ ?_|fail)|fail
 ·exact zU rfl (zh rfl) (zh rfl) ⟨[],by simp⟩ (.inl ⟨r,a,k,H,j,A,B,rfl,rfl⟩)
 ·exact zU rfl (zh rfl) (zh rfl) Ev (.inr ⟨j,rfl,rfl⟩)
theorem zgX(b:List UInt8):(zaN b).length<=b.length:=by
 unfold zaN;split
 ·exact AA _
 ·rw[As,AS];omega
theorem zkE:∀(n:Nat) (b:List UInt8),b.length<=n->(zbW b).length<=b.length/\∀x∈zbW b,x.length<=b.length
 |0,b,h=>by
  have:b= []:=Av.1 q_o;subst this;rw[zhm];exact⟨A7 _,λx j=>by cases j⟩
 |n+1,b,h=>by
  cases hf:zfq b with
  |none=>rw[ziz hf];exact⟨AA _,λx j=>by cases j⟩
  |some p=>
   have w:=zjR hf;have r:(b.drop p.2).length=b.length-p.2:=As;obtain⟨q,m⟩:=zkE n (b.drop p.2) q_o;rw[zio hf];refine⟨by rw[AQ];omega,λx j=>?_⟩;rcases AV.1 j with rfl|j
   ·rw[AS];omega
   ·have:=m x j;omega
theorem zqT{m:Nat}(t:Nat):∀l:List (List UInt8),(∀x∈l,x.length<=m)->(pick t l).length<=m
 | [],_=>AA _
 |x::l,h=>by
  rw[pick];split
  ·have:=zgX x;have:=h x A3;omega
  ·exact zqT t l (λy j=>h y (A1 _ j))
theorem zhX(s:List UInt8)(n:Nat):(item s n).length<=s.length:=
 zqT _ _ (λx j=>by have:=(zkE _ (zaN s) (A7 _)).2 x j;have:=zgX s;omega)
theorem zmf(b:List UInt8):0<=zcr b/\zcr b<72057594037927936:=by
 have h:=zfP ((zaN b).take 7);have j:((zaN b).take 7).length<=7:=by rw[AS];omega
 have m:256^((zaN b).take 7).length<=256^7:=AB q_e j;have q:256^7=72057594037927936:=by decide
 unfold zcr;omega
theorem zvX(b:List UInt8): -9223372036854775808<=zfs b/\zfs b<=9223372036854775807:=by
 unfold zfs w64;split <;> omega
theorem zqN(b:List UInt8):(zdE b).parts.length<=b.length/\(zdE b).realm.length<=b.length/\∀x∈(zdE b).parts,x.length<=b.length:=by
 have r:=zhX b 0;have w:=zgX (item b 0);have j:=zkE _ (zaN (item b 0)) (A7 _);have A:=zhX b 1;have B:=zgX (item b 1);unfold zdE;dsimp only;refine⟨by rw[List.length_map];omega,by omega,λx m=>?_⟩;obtain⟨y,q,rfl⟩:=Bv.1 m;have:=zgX y;have:=j.2 y q;omega
end Go.Proofs.YtdnlngbjpdbffaaGreatDoor
namespace Go.Ct
open Sy
structure Cert.got(n:Nat)(c:Cert):Prop where
 rng:(Lit.int .i64 c.serial).wf=true/\(Lit.int .i64 c.fr).wf=true/\(Lit.int .i64 c.til).wf=true/\(Lit.int .i64 c.group).wf=true
 iss:c.issuer.parts.length<=n/\c.issuer.realm.length<=n/\∀x∈c.issuer.parts,x.length<=n
 sub:c.subject.parts.length<=n/\c.subject.realm.length<=n/\∀x∈c.subject.parts,x.length<=n
end Go.Ct
namespace Go.Proofs.YtdnlngbjpdbffaaGreatDoor
open Sy Ct Nt RowKit
attribute [local irreducible] Sy SyL SyX SyC SyF SyG SyH Sy.Fn Sy.FnP callFunc
theorem zvY(b:List UInt8):(zhJ b).got b.length:=by
 have h0:=zhX b 0;have F:=zhX (item b 0) 1;have G:=zhX (item b 0) 2;obtain⟨a1,a2,a3⟩:=zqN (item (item b 0) 1);obtain⟨B,E,A⟩:=zqN (item (item b 0) 2);have m:=zvX (item (item b 0) 0);have q:=zmf (item (item b 0) 3);have r:=zmf (item (item b 0) 4);have w:=zmf (item (item b 0) 6);exact⟨⟨zjD m.1 m.2,zjD (by have:=q.1;show -9223372036854775808<=zcr (item (item b 0) 3);omega) (by have:=q.2;show zcr (item (item b 0) 3)<=_;omega),zjD (by have:=r.1;show -9223372036854775808<=zcr (item (item b 0) 4);omega) (by have:=r.2;show zcr (item (item b 0) 4)<=_;omega),zjD (by have:=w.1;show -9223372036854775808<=zcr (item (item b 0) 6);omega) (by have:=w.2;show zcr (item (item b 0) 6)<=_;omega)⟩,
  ⟨by show(zdE (item (item b 0) 1)).parts.length<=_;omega,by show(zdE (item (item b 0) 1)).realm.length<=_;omega,λx j=>by have:=a3 x j;omega⟩,
  ⟨by show(zdE (item (item b 0) 2)).parts.length<=_;omega,by show(zdE (item (item b 0) 2)).realm.length<=_;omega,λx j=>by have:=A x j;omega⟩⟩
end Go.Proofs.YtdnlngbjpdbffaaGreatDoor
namespace Go.Ct
open Sy
theorem Cert.got_fine{n:Nat}{c:Cert}(h:c.got n)(hn:n<1000000):c.fine:=by
 obtain⟨a1,a2,a3⟩:=h.iss;obtain⟨q,r,m⟩:=h.sub;exact⟨⟨by omega,by omega,λx j=>by have:=a3 x j;omega⟩,⟨by omega,by omega,λx j=>by have:=m x j;omega⟩⟩
end Go.Ct
namespace Go.Proofs.YtdnlngbjpdbffaaGreatDoor
open Sy Ct Nt RowKit
attribute [local irreducible] Sy SyL SyX SyC SyF SyG SyH Sy.Fn Sy.FnP callFunc
theorem zzi{w w0:World}{M:Nat->Prop}{L X:List Res}{p:Pl}{c:Cert}{n:Nat}(hh:Holds w0.heap.size M (L++X) w)(hL:∀r∈zaD p c,r∈L)(j:c.got n)(hn:n<1000000):CertAt w p c:=
 zma hh hL (by have:=j.iss.1;unfold maxLen;omega) j.rng (by obtain⟨-,A,q⟩:=j.iss;exact⟨by unfold maxLen;omega,λx m=>by have:=q x m;unfold maxLen;omega⟩) (by obtain⟨-,A,q⟩:=j.sub;exact⟨by unfold maxLen;omega,λx m=>by have:=q x m;unfold maxLen;omega⟩)
theorem zrD(p:Pl)(c:Cert)(w:World)(h:CertAt w p c)(A:c.small):Sy.Fn Tryz.prog 35 [.agg (zF p c).toArray] w No (zbf c.der):=by
 refine zt Tryz.func35 Tryz.ntmps35 ?_;have M:=λj (B:Keep No w j)=>znO p c j (h.keep B) A;unfold zbf at M;have P:=A.sig;have O:=A.pub;have N:=λj (B:Keep No w j)=>zqX p.a4 c.sig.length p.k4 c.sig j (h.sig.keep B) q_o;unfold zbf at N;have V:0<c.body.length:=by rw[FR];exact zbG
 have W:0<(za9 c.sig).length:=zbG;have m0:c.body.length<=605+c.pub.length:=by rw[FR];have:=(zY 0x30 c.flat).2;have:=FP A;omega
 have m1:(za9 c.sig).length<=c.sig.length+5:=zcw (A7 _);obtain⟨m,F⟩:∃G,G=zax 0 c.body:=⟨_,rfl⟩;obtain⟨q,H⟩:∃G,G=zax 1 (za9 c.sig):=⟨_,rfl⟩;have l0:m.length<=c.body.length+5:=by rw[F];exact(zY (0xa0+0) _).2
 have l1:q.length<=(za9 c.sig).length+5:=by rw[H];exact(zY (0xa0+1) _).2
 have E:c.der=tlv 0x30 (m++q):=by rw[F,H];simp[Cert.der,zdc]
 generalize za9 c.sig=J,c.body=I,c.der=Q at*;unfold zF at*;unfold zbf;repeat' first|refine s_0 ?_|refine zf 0 ?_;refine z9 λ_=>?_
 (refine zdp (id:=1) [0,3,4] [1,2,5,6,7,8,9] mixed ?_ ?_;kernel_rfl;refine yfv ze (k:=?_);refine yfv zN (k:=?_);refine yfv zM (k:=?_);refine yf0 ?_;try refine yc0 (k:=?_))
 refine ycs (zi (hc:=zr M)) (k:=?_);rintro _ _ ⟨R,rfl,a0,T,rfl,rfl⟩;refine ycs (zi (hc:=λj X B r=>zdg 0 a0 I.length T I m j q_e (zaC r rfl q_h) V q_o F)) (k:=?_);rintro _ _ ⟨R,rfl,K,d0,rfl,rfl⟩;refine ycs (zi (hc:=zr N)) (k:=?_);rintro _ _ ⟨R,rfl,a1,U,rfl,rfl⟩;refine ycs (zi (hc:=λj X B r=>zdg 1 a1 J.length U J q j q_e (zaC r rfl q_h) W q_o H)) (k:=?_);rintro _ _ ⟨R,rfl,L,d1,rfl,rfl⟩;refine ycs zz (k:=?_);rintro _ _ ⟨S,rfl,rfl⟩;refine ycs (zi (hc:=λj X B r=>zkO S 2 [⟨K,m.length,d0,m⟩,⟨L,q.length,d1,q⟩] j rfl q_e (zp (r.has q_h) Ex) (λs A=>by
   simp only[AV,Bi,or_false] at A;rcases A with rfl|rfl
   ·exact zaC r rfl q_h
   ·exact zaC r rfl q_h) (by rw[show Bs.cat [⟨K,m.length,d0,m⟩,⟨L,q.length,d1,q⟩]=m++q by simp[Bs.cat]];simp only[A4];omega) Q (by rw[E];simp[Bs.cat]))) (k:=?_)
 rintro _ _ ⟨R,rfl,Y,Z,rfl,rfl⟩;refine ycv za6 (k:=?_);refine yc0 (k:=?_);repeat' first|refine s_0 ?_|fail
 exact zar rfl (zh rfl) (F6 Eu rfl Ev) ⟨_,_,rfl,rfl⟩
theorem eight{j m q r w A B E:Bool} :j=false\/(j=true/\m=false)\/(j=true/\m=true/\q=false)\/(j=true/\m=true/\q=true/\r=false)\/(j=true/\m=true/\q=true/\r=true/\w=false)\/(j=true/\m=true/\q=true/\r=true/\w=true/\A=false)\/(j=true/\m=true/\q=true/\r=true/\w=true/\A=true/\B=false)\/(j=true/\m=true/\q=true/\r=true/\w=true/\A=true/\B=true/\E=false)\/(j=true/\m=true/\q=true/\r=true/\w=true/\A=true/\B=true/\E=true):=by
 cases j <;> cases m <;> cases q <;> cases r <;> cases w <;> cases A <;> cases B <;> cases E <;> simp
theorem zuE(p q:Pl)(c d:Cert)(w:World)(h:CertAt w p c)(J:CertAt w q d)(U:c.fine):q_G 23 [.agg (zF p c).toArray,.agg (zF q d).toArray] w (.bool (c.same d)):=by
 refine zt Tryz.func23 Tryz.ntmps23 ?_;have q2:=λS (K:Keep No w S)=>zmP _ _ _ _ c.issuer d.issuer S (h.iss.keep K) (J.iss.keep K) U.i.1;have q3:=λS (K:Keep No w S)=>zmP _ _ _ _ c.subject d.subject S (h.sub.keep K) (J.sub.keep K) U.s.1;have s3:=h.pub.sla;have N:=J.pub.sla;have s4:=h.sig.sla;have O:=J.sig.sla;dsimp only at s3 N s4 O;have g8:decide (c.pub=d.pub)=(c.pub==d.pub):=by by_cases h:c.pub=d.pub <;> simp[h]
 have g9:decide (c.sig=d.sig)=(c.sig==d.sig):=by by_cases h:c.sig=d.sig <;> simp[h]
 unfold Cert.same;unfold zF zbe at*;clear h J U;obtain⟨serial,⟨L,M⟩,⟨P,Q⟩,fr,til,auth,group,pub,sig⟩:=c;obtain⟨j,⟨r,A⟩,⟨G,H⟩,T,R,I,m,E,F⟩:=d;dsimp only at*;generalize (sig==F)=x9,(pub==E)=x8,Z:decide (group=m)=x7,Y:(auth==I)=x6,X:decide (til=R)=x5,W:decide (fr=T)=x4,Prin.same ⟨P,Q⟩ ⟨G,H⟩=x3,Prin.same ⟨L,M⟩ ⟨r,A⟩=x2,V:decide (serial=j)=x1 at*;rcases @eight x1 x2 x3 x4 x5 x6 x7 x8 with rfl|⟨rfl,rfl⟩|⟨rfl,rfl,rfl⟩|⟨rfl,rfl,rfl,rfl⟩|⟨rfl,rfl,rfl,rfl,rfl⟩|⟨rfl,rfl,rfl,rfl,rfl,rfl⟩|⟨rfl,rfl,rfl,rfl,rfl,rfl,rfl⟩|⟨rfl,rfl,rfl,rfl,rfl,rfl,rfl,rfl⟩|⟨rfl,rfl,rfl,rfl,rfl,rfl,rfl,rfl⟩
 all_goals repeat' first|refine s_0 ?_|refine zf 0 ?_;refine zk λ_=>?_;refine z9 λ_=>?_|refine q_k 1 ?_;refine zm ?_;refine zb ?_;refine zm ?_;refine q_x (zS (hr:=V)) ?_;(first|refine q_v (ze (B:=[.slice p.a1 L.length p.k1,zT M]) (hv:=FK rfl)) ?_|skip|fail);(try refine zb ?_);(first|refine q_v (ze (B:=[.slice q.a1 r.length q.k1,zT A]) (hv:=FK rfl)) ?_|skip|fail);(first|refine q_v (za (hc:=zr q2)) ?_|refine zaG rfl rfl rfl ?_|skip);(try refine zb ?_);(first|refine q_v (ze (B:=[.slice p.a2 P.length p.k2,zT Q]) (hv:=FK rfl)) ?_|skip|fail);(try refine zb ?_);(first|refine q_v (ze (B:=[.slice q.a2 G.length q.k2,zT H]) (hv:=FK rfl)) ?_|skip|fail);(first|refine q_v (za (hc:=zr q3)) ?_|refine zaG rfl rfl rfl ?_|skip);(try refine zb ?_);(first|refine zm ?_|skip|fail);(try refine zb ?_);(first|refine zm ?_|skip|fail);(first|refine q_v (zS (hr:=W)) ?_|refine zaG rfl rfl rfl ?_|skip);(try refine zb ?_);(first|refine zm ?_|skip|fail);(try refine zb ?_);(first|refine zm ?_|skip|fail);(first|refine q_v (zS (hr:=X)) ?_|refine zaG rfl rfl rfl ?_|skip);(try refine zb ?_);(first|refine zm ?_|skip|fail);(try refine zb ?_);(first|refine zm ?_|skip|fail);(first|refine q_v (zjb (hr:=Y)) ?_|refine zaG rfl rfl rfl ?_|skip);(try refine zb ?_);(first|refine zm ?_|skip|fail);(try refine zb ?_);(first|refine zm ?_|skip|fail);(first|refine q_v (zS (hr:=Z)) ?_|refine zaG rfl rfl rfl ?_|skip);(try refine zb ?_);(first|refine zm ?_|skip|fail);(first|refine q_v (zcn (l:=pub) (hr:=FQ s3 (λ_ _ h=>h))) ?_|refine zaG rfl rfl rfl ?_|skip);(try refine zb ?_);(first|refine zm ?_|skip|fail);(first|refine q_v (zcn (l:=E) (hr:=FQ N (λ_ _ h=>h))) ?_|refine zaG rfl rfl rfl ?_|skip);(first|refine q_v (zbJ (hr:=g8)) ?_|refine zaG rfl rfl rfl ?_|skip);(try refine zb ?_);(first|refine zm ?_|skip|fail);(first|refine q_v (zcn (l:=sig) (hr:=FQ s4 (λ_ _ h=>h))) ?_|refine zaG rfl rfl rfl ?_|skip);(try refine zb ?_);(first|refine zm ?_|skip|fail);(first|refine q_v (zcn (l:=F) (hr:=FQ O (λ_ _ h=>h))) ?_|refine zaG rfl rfl rfl ?_|skip);(first|refine q_v (zbJ (hr:=g9)) ?_|refine zaG rfl rfl rfl ?_|skip);(try refine zb ?_)
 all_goals exact q_r
end Go.Proofs.YtdnlngbjpdbffaaGreatDoor
