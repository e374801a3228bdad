/- Lemmas. -/
import Derived.Test.YtdnlngbjpdbffaaGreatDoorZJ47
set_option maxHeartbeats 4000000
set_option maxRecDepth 10000
set_option linter.all false
namespace Go.Proofs.YtdnlngbjpdbffaaGreatDoor
open Sy Ct Nt RowKit
attribute [local irreducible] Sy SyL SyX SyC SyF Sy.Fn callFunc
theorem zlb(a:Option Addr)(n c:Nat)(ps:List Pl)(l:List Cert)(w:World)(K:GT w)(hn:l.length=n)(h:zbH w a c ps l)(L:∀x∈l,x.fine)(hb:n<1000000000):q_G 13 [.slice a n c] w (.bool (zay svK l)):=by
 refine zt Tryz.func13 Tryz.ntmps13 ?_;repeat' first|refine s_t ?_|refine zA [0,1] ?_;refine zb ?_
 refine zL (γ:=Nat) (λi=>[(0,.slice a n c),(3,.int .i64 (i:Int))]) (λ_=>[]) (λi=>i<=n/\(l.take i).all (Cert.ok svK)=true) (λi=>n-i) 0 ⟨AA _,rfl⟩ ?_ ?_ ?_
 ·exact q_h
 ·exact q_h
 rintro i ⟨N,m⟩;by_cases hlt:i<n
 ·obtain⟨M,P,p,rfl,O,F,hc⟩:=h.at (k:=11) q_e (λ_ _=>rfl) (i:=i) q_o;have B:l[i]∈l:=AX q_o;have H:l.take (i+1)=l.take i++[l[i]]:=zaE q_o;have G:=L l[i] B;have hv:=λE (J:Keep No w E)=>zry p l[i] E (K.to J) (F.keep J) G;have I:(zF p l[i]).length=11:=rfl;generalize l[i]=x at*;generalize zF p x=C at*;have g1:decide ((i:Int)<(n:Int))=true:=q_d;have g5:IntKind.i64.wrap ((i:Int)+1)=((i+1:Nat):Int):=q_w;by_cases hx:x.ok svK=true
  ·rw[hx] at hv;repeat' first|refine s_t ?_|refine q_k 2 ?_;refine q_v (zn (hr:=g1)) ?_|refine q_k 4 ?_;refine q_v (zal (j:=i)) ?_;refine q_v (zW (hv:=hc) (hz:=I.symm)) ?_;refine q_v (za (hc:=zr hv)) ?_;refine zI ?_|refine q_k 3 ?_;refine q_x (zD (hr:=g5)) ?_
   refine zC (i+1) ⟨hlt,by rw[H,BQ,m];simp[hx]⟩ ?_ ?_ ?_
   ·show n-(i+1)<n-i;omega
   ·exact q_h
   ·exact q_h
  ·rw[Br] at hx;rw[hx] at hv;have A:zay svK l=false:=by
    have:l.all (Cert.ok svK)=false:=by rw[BW];exact⟨x,B,by rw[hx];decide⟩
    unfold zay;rw[this,Cy]
   rw[A];repeat' first|refine s_t ?_|refine q_k 2 ?_;refine q_v (zn (hr:=g1)) ?_|refine q_k 4 ?_;refine q_v (zal (j:=i)) ?_;refine q_v (zW (hv:=hc) (hz:=I.symm)) ?_;refine q_v (za (hc:=zr hv)) ?_;refine zI ?_|refine q_k 5 ?_
   exact q_r
 obtain rfl:i=n:=q_o;rw[A6 q_o] at m;have g1:decide ((i:Int)<(i:Int))=false:=q_f;have q:=λE=>zsi (i:Int) 1 5 E;have e:zay svK l=(decide ((1:Int)<=(i:Int))&&decide ((i:Int)<=5)):=by
  unfold zay;rw[m,hn,DF,decide_eq_decide.2 (show 1<=i↔(1:Int)<=(i:Int) by omega),decide_eq_decide.2 (show i<=5↔(i:Int)<=5 by omega)]
 rw[e];generalize (decide ((1:Int)<=(i:Int))&&decide ((i:Int)<=5))=r at*;repeat' first|refine s_0 ?_|refine q_k 2 ?_;refine q_v (zn (hr:=g1)) ?_|refine q_k 6 ?_;refine q_v (za (hc:=q_c q)) ?_;refine zb ?_
 exact q_r
theorem zkr{sv:Int->List UInt8->Bool}{b:List UInt8}{l:List Cert}(h:zbX sv b=some l):∀c∈l,c.rd b.length:=by
 unfold zbX at h;split at h
 ·rename_i d j;split at h
  ·cases h;exact zls j
  ·cases h
 ·cases h
attribute [local irreducible] SyG SyH Sy.FnP
theorem zjc{w w0:World}{M:Nat->Prop}{L X:List Res}{a:Option Addr}{k n m:Nat}{ps:List Pl}{cs:List Cert}(hh:Holds w0.heap.size M (L++X) w)(hr:Has L (.row (.slice a n k) 45 11 n (List.zipWith zF ps cs).flatten))(hn:cs.length=n)(q:ps.length=cs.length)(hL:∀r∈allRows ps.reverse cs.reverse,r∈L)(B:∀c∈cs,c.got m)(hm:m<1000000):zbH w a k ps cs:=by
 subst hn;exact⟨q,FF hh (F1 hr),λh=>(Fj hh (F1 hr) h).1,zn0 hh (F1 hr),λ_ _ _ A j=>zzi hh (λr hr=>hL r (zkq q A j r hr)) (B _ (BB j)) hm⟩
theorem znN(a:Option Addr)(n c:Nat)(ps:List Pl)(l:List Cert)(w:World)(hn:l.length=n)(h:zbH w a c ps l)(A:∀x∈l,x.small)(hb:n<=10)(T:(l.map Cert.der).flatten.length<16777216):Sy.Fn Tryz.prog 15 [.slice a n c] w No (zbf (za3 l)):=by
 refine zt Tryz.func15 Tryz.ntmps15 ?_;repeat' first|refine s_t ?_|refine zA [0,1,2] ?_;refine zb ?_
 refine zbg (zaT 23 1) ?_;refine zL (γ:=Nat×List Bs×Option Addr×Nat) (λg=>[(0,.slice a n c),(4,.int .i64 (g.1:Int)),(3,.slice g.2.2.1 g.2.1.length g.2.2.2)])
  (λg=> .row (.slice g.2.2.1 g.2.1.length g.2.2.2) 23 1 g.2.1.length (g.2.1.reverse.map Bs.val)::zcZ 5 g.2.1)
  (λg=>g.1<=n/\g.2.1.reverse.map (·.l)=(l.take g.1).map Cert.der/\∀s∈g.2.1,s.l.length=s.n) (λg=>n-g.1) (0,[],none,0) ⟨AA _,rfl,λs A=>by cases A⟩ ?_ ?_ ?_
 ·exact q_h
 ·exact q_h
 rintro⟨i,m,V,Y⟩ ⟨hi,q,F⟩;dsimp only at hi q F ⊢;have J:m.length=i:=by have:=congrArg List.length q;simp at this;omega
 by_cases hlt:i<n
 ·obtain⟨W,ol,p,rfl,hp,N,hc⟩:=h.at (k:=11) q_e (λ_ _=>rfl) (i:=i) q_o;have P:l[i]∈l:=AX q_o;have S:l.take (i+1)=l.take i++[l[i]]:=zaE q_o;have Q:=A l[i] P;have hw:=λK (U:Keep No w K)=>zrD p l[i] K (N.keep U) Q;have Z:(zF p l[i]).length=11:=rfl;generalize l[i]=x at*;generalize zF p x=C at*;have g1:decide ((i:Int)<(n:Int))=true:=q_d;have g5:IntKind.i64.wrap ((i:Int)+1)=((i+1:Nat):Int):=q_w;repeat' first|refine s_t ?_|refine q_k 3 ?_;refine q_v (zn (hr:=g1)) ?_|refine q_k 5 ?_;refine q_v (zal (j:=i)) ?_;refine q_v (zW (hv:=hc) (hz:=Z.symm)) ?_;(refine q_s (zi (hc:=zr hw)) ?_;rintro _ _ ⟨R,rfl,G,H,rfl,rfl⟩);(refine q_s zz ?_;rintro _ _ ⟨_,rfl,rfl⟩);(refine q_s (zaz (hys:=zjN m ⟨G,x.der.length,H,x.der⟩) (hkm:=rfl)) ?_;rintro _ _ ⟨rfl,L,M,rfl⟩);refine zb ?_
  refine FJ (fr':=[(0,.slice (some ⟨W,ol,none⟩) n c),(4,.int .i64 (i:Int)),(3,.slice L (m.length+1) M)]) (L':=.row (.slice L (m.length+1) M) 23 1 (m.length+1) ((⟨G,x.der.length,H,x.der⟩::m).reverse.map Bs.val)::zcZ 5 (⟨G,x.der.length,H,x.der⟩::m)) ?_ q_h ?_;rotate_left
  ·show SubR (_::zjG 5 ⟨G,x.der.length,H,x.der⟩::zcZ 5 m) _
   (repeat' (first|exact Ev|apply F3;with_reducible (focus ((repeat (first|exact Eu|apply Ew));done))|apply F9;(focus ((repeat (first|exact Eu|apply Ew));done))|apply F3;(focus ((repeat (first|exact Eu|apply Ew));done))|apply F6;(focus ((repeat (first|exact Eu|apply Ew));done))|rfl))
   all_goals (repeat (first|exact Ez|apply F7))
  repeat' first|refine zap ?_|refine zao ?_|refine q_k 4 ?_;refine q_x (zD (hr:=g5)) ?_
  refine zC (i+1,⟨G,x.der.length,H,x.der⟩::m,L,M) ⟨hlt,?_,?_⟩ ?_ ?_ ?_
  ·show((⟨G,x.der.length,H,x.der⟩::m).reverse).map (·.l)=_;rw[znC,q,S,Ar];rfl
  ·intro s A;rcases AV.1 A with rfl|A
   ·rfl
   ·exact F s A
  ·show n-(i+1)<n-i;omega
  ·exact q_h
  ·exact Ez
 obtain rfl:i=n:=q_o;rw[A6 q_o] at q;have B:Bs.cat m.reverse=(l.map Cert.der).flatten:=by rw[zjL,q]
 have g1:decide ((i:Int)<(i:Int))=false:=q_f;have I:za3 l=tlv 0x30 (Bs.cat m.reverse):=by rw[B];rfl
 rw[<-B] at T;rw[I,J];repeat' first|refine s_0 ?_|refine q_k 3 ?_;refine q_v (zn (hr:=g1)) ?_|refine q_k 6 ?_;(refine q_s (zi (hc:=λK X U O=>zml V i Y m.reverse _ K (by rw[Bd];exact J) q_o (FF O q_h) ((Fc (Mi:=No) O q_h (λ_ h=>h.elim)).sla) (λs A=>zj1 (E:=5) O F (λr hr=>AH _ (A1 _ hr)) s (CQ.1 A)) T rfl)) ?_;rintro _ _ ⟨R,rfl,aS,cS,rfl,rfl⟩);refine zb ?_
 exact zar rfl (zh rfl) (F6 Eu rfl Ev) ⟨_,_,rfl,rfl⟩
theorem zpT(s:Bs)(w:World)(hG:GT w)(hs:s.ok w)(hb:s.n<1000000):Sy.Fn Tryz.prog 17 [s.val] w No (DecCR s.l):=by
 refine zt Tryz.func17 Tryz.ntmps17 ?_;have hv:s.val= .slice s.a s.n s.c:=rfl;have b0:=hs.len;have b2:=hs.sla;have P:=λq (F:Keep No w q)=>zds s q (hs.keep F) q_o;unfold zdS at P;rw[hv] at P ⊢;repeat' first|refine s_0 ?_|refine zA [0,1] ?_;refine zb ?_|fail
 repeat' first|refine q_k 2 ?_;(refine q_s (zi (hc:=zr P)) ?_;rintro _ _ ⟨R,rfl,s2,rfl,b7,Y,c9,rfl⟩)
 have W:=Y w hs;have he:=λq (F:Keep No w q)=>zjw s2 q (W.keep F) q_o;unfold zrO at he;have c0:s2.val= .slice s2.a s2.n s2.c:=rfl;rw[c0] at he ⊢;repeat' first|refine s_t ?_|refine q_k 3 ?_|(refine zx ?_;first|refine q_s (zi (hc:=zr he)) ?_;rintro _ _ ⟨R,rfl,aE,cE,xs,rfl,rfl,c4,e2,b5⟩|refine zw ?_|fail)|fail
 obtain⟨K,hK⟩:∃K,K=xs.map (λx=>zhJ x.l):=⟨_,rfl⟩;have a8:zfS s.l=K.take 6:=by rw[zfS,<-b7,<-c4,hK,<-C0,<-C0,CY];rfl
 have c7:K.length=xs.length:=by rw[hK,A0]
 have B:∀c∈K,c.got s.n:=by
  intro c hc;rw[hK] at hc;obtain⟨x,Z,rfl⟩:=Bv.1 hc;obtain⟨c2,d9,e0⟩:=b5 x Z;have h1:=zvY x.l;have h2:=(c2 w W).len;exact⟨h1.rng,⟨by have:=h1.iss.1;omega,by have:=h1.iss.2.1;omega,λy hy=>by have:=h1.iss.2.2 y hy;omega⟩,⟨by have:=h1.sub.1;omega,by have:=h1.sub.2.1;omega,λy hy=>by have:=h1.sub.2.2 y hy;omega⟩⟩
 obtain⟨m,hm⟩:∃m,m=xs.length:=⟨_,rfl⟩;rw[<-hm];refine zgh (a:=aE) (cp:=cE) (E:=23) (s:=1) (n:=m) (xs:=xs.map Bs.val) (by exact Eu) λr hr=>?_;refine zbg (zaT 45 11) ?_;refine zL (γ:=Nat×List Pl×Option Addr×Nat) (λg=>[(0,.slice s.a s.n s.c),(4,.slice g.2.2.1 g.1 g.2.2.2),(5,.slice aE m cE),(6,.int .i64 (g.1:Int))])
  (λg=> .row (.slice g.2.2.1 g.1 g.2.2.2) 45 11 g.1 (List.zipWith zF g.2.1 (K.take g.1)).flatten::r::allRows g.2.1.reverse (K.take g.1).reverse)
  (λg=>g.1<=m/\g.1<=6/\g.2.1.length=g.1) (λg=>m-g.1) (0,[],none,0) ⟨AA _,AA _,rfl⟩ ?_ ?_ ?_
 ·exact q_h
 ·exact q_h
 rintro⟨i,G,aP,cP⟩ ⟨hi,b6,H⟩;dsimp only at hi b6 H ⊢;have A:(K.take i).length=i:=by rw[List.length_take];omega
 by_cases U:i<m/\i<6
 ·obtain⟨U,b8⟩:=U;have g1:decide ((i:Int)<(m:Int))=true:=q_d;have g2:decide ((i:Int)<=5)=true:=q_d;have g5:IntKind.i64.wrap ((i:Int)+1)=((i+1:Nat):Int):=q_w;obtain⟨x,Z⟩:∃x,x=xs[i]'q_o:=⟨_,rfl⟩;have c5:x∈xs:=by rw[Z];exact AX _
  obtain⟨c6,d8,e1⟩:=b5 x c5;have b4:=c6 w W;obtain⟨bE,J,rfl,rfl⟩:=hr q_o;have c3:(xs.map Bs.val++J)[0+i]?=some (.slice x.a x.n x.c):=by rw[Aa,BH (by rw[A0];omega),AW,A2 q_o,<-Z];rfl
  have Q:=λq (F:Keep No w q)=>zxU x q (b4.keep F) q_o;unfold zhw at Q;have c1:x.val= .slice x.a x.n x.c:=rfl;rw[c1] at Q;have b3:K.take (i+1)=K.take i++[zhJ x.l]:=by
   rw[zaE q_o];congr 2;simp only[hK,Da,<-Z]
  generalize zhJ x.l=y at*;have hys:∀p,(List.zipWith zF G (K.take i)).flatten++zF p y=(List.zipWith zF (G++[p]) (K.take (i+1))).flatten:=λp=>by
   rw[b3,El q_o,DC];simp
  have b9:∀p,allRows (G++[p]).reverse (K.take (i+1)).reverse=zaD p y++allRows G.reverse (K.take i).reverse:=λp=>by rw[b3];simp[allRows]
  repeat' first|refine s_t ?_|refine q_k 4 ?_;refine q_x (zn (hr:=g1)) ?_;refine q_x (zaA (hr:=g2)) ?_|refine q_k 6 ?_;refine q_v (zq (j:=i)) ?_;refine q_v (zM (hv:=c3)) ?_
  refine q_s (zi (hc:=zr Q)) ?_;rintro _ _ ⟨R,rfl,p,rfl,rfl⟩;obtain⟨CC,O⟩:∃CC,CC=zF p y:=⟨_,rfl⟩;have hC:CC.length=11:=by rw[O];rfl
  have b1:CC.all (·.oneCell')=true:=by rw[O];rfl
  have N:=hys p;rw[<-O] at N ⊢;refine q_s (zb3 (vs:=[.agg CC.toArray]) (zeL hC rfl)) ?_;rintro _ _ ⟨bL,rfl,rfl⟩;refine q_s (zaz (size:=11) (news:=CC) (m:=1) (hn:=hC) (h1:=b1) (hys:=N) (hkm:=rfl)) ?_;rintro _ _ ⟨rfl,aN,cN,rfl⟩;refine q_v za6 ?_;repeat' first|refine s_0 ?_|refine q_k 5 ?_;refine q_x (zD (hr:=g5)) ?_
  refine zC (i+1,G++[p],aN,cN) ⟨U,b8,by rw[A4,H];rfl⟩ ?_ ?_ ?_
  ·show m-(i+1)<m-i;omega
  ·exact q_h
  ·dsimp only;rw[b9];simp only[zaD,Ae,Ag]
   (repeat' (first|exact Ev|apply F3;with_reducible (focus ((repeat (first|exact Eu|apply Ew));done))|apply F9;(focus ((repeat (first|exact Eu|apply Ew));done))|apply F3;(focus ((repeat (first|exact Eu|apply Ew));done))|apply F6;(focus ((repeat (first|exact Eu|apply Ew));done))|rfl))
   all_goals (repeat (first|exact Ez|apply F7))
 have L:i=m\/(i<m/\i=6):=q_o;have a6:K.take i=zfS s.l:=by
  rw[a8];rcases L with h|⟨h1,h2⟩
  ·rw[A6 q_o,A6 q_o]
  ·rw[h2]
 rw[a6] at A ⊢;have B:∀c∈zfS s.l,c.got s.n:=λc hc=>B c (by rw[a8] at hc;exact Cb hc);have V:∀cs,zbX svK s.l=some cs->∀c∈cs,c.rd s.l.length:=λcs h=>zkr h;have hR:zbX svK s.l=if zay svK (zfS s.l)=true/\za3 (zfS s.l)=s.l then some (zfS s.l) else none:=by rw[zx3 zcC];rfl
 unfold DecCR;rw[hR] at V ⊢;generalize zfS s.l=T at*;have S:∀c∈T,c.fine:=λc hc=>Cert.got_fine (B c hc) hb;have I:=λq (F:Keep No w q) (hA:zbH q aP cP G T)=>zlb aP i cP G T q (hG.to F) A hA S q_o;have a9:(∃g:Unit,decide ((i:Int)<(m:Int))=false)\/(∃g:Unit,decide ((i:Int)<(m:Int))=true/\decide ((i:Int)<=5)=false):=by
  rcases L with h|⟨h1,h2⟩
  ·exact .inl ⟨(),decide_eq_false q_o⟩
  ·exact .inr ⟨(),decide_eq_true q_o,decide_eq_false q_o⟩
 by_cases hok:zay svK T=true
 ·rw[hok] at I;have M:=hok;simp only[zay,A8,decide_eq_true_eq,AF] at M;have c8:=zeX zcC hok;have a7:=λq (hA:zbH q aP cP G T)=>znN aP i cP G T q A hA (λx Z=>FA zcC (M.2 x Z)) q_o q_o;unfold zbf at a7;rcases a9 with ⟨-,g1⟩|⟨-,g1,g2⟩
  all_goals repeat' first|refine s_0 ?_|refine q_k 4 ?_;refine q_x (zn (hr:=g1)) ?_;(first|refine q_v (zaA (hr:=g2)) ?_|skip|fail);(try refine zb ?_)
  all_goals (refine zdm (id:=7) [] false [] [0] [(1,[2]),(3,[4,7,8]),(5,[]),(6,[9,10])] mixed q_h ?_ ?_;kernel_rfl;refine ygv zV (k:=?_);refine yg0 ?_;refine yhv (za (hc:=λq X F hh=>I q F (zjc hh F5 A q_o (λr hr=>A1 _ (A1 _ hr)) B hb))) (k:=?_);refine ygv zh2 (k:=?_);try refine yg0 ?_;refine yhv zV (k:=?_);refine ygv zV (k:=?_);refine ygv zV (k:=?_);refine ygv (zcn (l:=s.l) (hr:=FQ b2 (λ_ _ h=>h)) (hn:=b0)) (k:=?_);try refine yg0 ?_;try refine yg0 ?_;try refine yg0 ?_;try refine yh0 (k:=?_))
  all_goals (refine yhs (zi (hc:=λq X F hh=>a7 q (zjc hh F5 A q_o (λr hr=>A1 _ (A1 _ hr)) B hb))) (k:=?_);rintro _ _ ⟨R,rfl,aE,cE,rfl,rfl⟩;refine yg0 ?_)
  all_goals refine yhv (zcn (l:=za3 T) (hr:=GA (by exact Ey)) (hn:=rfl)) (k:=?_)
  ·by_cases hd:za3 T=s.l
   ·refine ygv (zco (hr:=decide_eq_false (λh=>h hd))) (k:=?_);refine ygv zcz (k:=?_);refine yg0 ?_;refine yh0 (k:=?_);repeat' first|refine s_0 ?_|refine q_k 9 ?_
    subst A;exact zU rfl (zh rfl) (zh rfl) (F7 (F3 Eu (F7 Ez))) (.inl ⟨T,aP,cP,G,by rw[if_pos ⟨hok,hd⟩],V T (by rw[if_pos ⟨hok,hd⟩]),H,rfl,rfl⟩)
   ·refine ygv (zco (hr:=decide_eq_true hd)) (k:=?_);refine ygv zcz (k:=?_);refine yg0 ?_;refine yh0 (k:=?_);repeat' first|refine s_0 ?_|refine q_k 8 ?_
    exact zU rfl (zh rfl) (zh rfl) Ev (.inr ⟨by rw[if_neg (λh=>hd h.2)],rfl,rfl⟩)
  ·by_cases hd:za3 T=s.l
   ·refine ygv (zco (hr:=decide_eq_false (λh=>h hd))) (k:=?_);refine ygv zcz (k:=?_);refine yg0 ?_;refine yh0 (k:=?_);repeat' first|refine s_0 ?_|refine q_k 9 ?_
    subst A;exact zU rfl (zh rfl) (zh rfl) (F7 (F3 Eu (F7 Ez))) (.inl ⟨T,aP,cP,G,by rw[if_pos ⟨hok,hd⟩],V T (by rw[if_pos ⟨hok,hd⟩]),H,rfl,rfl⟩)
   ·refine ygv (zco (hr:=decide_eq_true hd)) (k:=?_);refine ygv zcz (k:=?_);refine yg0 ?_;refine yh0 (k:=?_);repeat' first|refine s_0 ?_|refine q_k 8 ?_
    exact zU rfl (zh rfl) (zh rfl) Ev (.inr ⟨by rw[if_neg (λh=>hd h.2)],rfl,rfl⟩)
 ·rw[Br] at hok;rw[hok] at I;rcases a9 with ⟨-,g1⟩|⟨-,g1,g2⟩
  all_goals repeat' first|refine s_0 ?_|refine q_k 4 ?_;refine q_x (zn (hr:=g1)) ?_;(first|refine q_v (zaA (hr:=g2)) ?_|skip|fail);(try refine zb ?_)
  all_goals (refine zdm (id:=7) [] false [] [0] [(1,[2]),(3,[4,5,6,7,8,9,10])] mixed q_h ?_ ?_;kernel_rfl;refine ygv zV (k:=?_);refine yg0 ?_;refine yhv (za (hc:=λq X F hh=>I q F (zjc hh F5 A q_o (λr hr=>A1 _ (A1 _ hr)) B hb))) (k:=?_);refine ygv zh2 (k:=?_);try refine yg0 ?_;refine yhv zV (k:=?_);refine ygn (k:=?_);refine ygn (k:=?_);refine ygn (k:=?_);refine ygn (k:=?_);refine ygn (k:=?_);refine ygn (k:=?_);refine ygv zcz (k:=?_);try refine yg0 ?_;try refine yh0 (k:=?_))
  all_goals repeat' first|refine s_0 ?_|refine q_k 8 ?_
  all_goals exact zU rfl (zh rfl) (zh rfl) Ev (.inr ⟨by rw[if_neg (λh=>(by rw[h.1] at hok;cases hok))],rfl,rfl⟩)
def chained(l:List Cert):Bool:=l.all Cert.tiny&&decide (l.length<=7)
theorem zoV{l:List Cert}(h:chained l=true):l.length<=7/\∀x∈l,x.fine:=by
 simp only[chained,A8,decide_eq_true_eq,AF] at h;exact⟨h.2,λx j=>(Cert.tiny_fine (h.1 x j)).1⟩
theorem zq7(a:Option Addr)(n c:Nat)(ps:List Pl)(l:List Cert)(w:World)(hn:l.length=n)(h:zbH w a c ps l)(hb:n<=maxLen):q_G 10 [.slice a n c] w (.bool (chained l)):=by
 refine zt Tryz.func10 Tryz.ntmps10 ?_;unfold maxLen at hb;unfold chained;repeat' first|refine s_t ?_|refine zA [0,1] ?_;refine zb ?_
 refine zL (γ:=Nat) (λi=>[(0,.slice a n c),(2,.bool false),(3,.int .i64 (i:Int))]) (λ_=>[]) (λi=>i<=n/\(l.take i).all Cert.tiny=true) (λi=>n-i) 0 ⟨AA _,rfl⟩ ?_ ?_ ?_
 ·exact q_h
 ·exact q_h
 rintro i ⟨I,m⟩;by_cases hlt:i<n
 ·obtain⟨H,K,p,rfl,J,r,hc⟩:=h.at (k:=11) q_e (λ_ _=>rfl) (i:=i) q_o;have A:l[i]∈l:=AX q_o;have B:l.take (i+1)=l.take i++[l[i]]:=zaE q_o;have hv:=λF (G:Keep No w F)=>zvR p l[i] F (r.keep G);have E:(zF p l[i]).length=11:=rfl;generalize l[i]=x at*;generalize zF p x=C at*;have g1:decide ((i:Int)<(n:Int))=true:=q_d;have g5:IntKind.i64.wrap ((i:Int)+1)=((i+1:Nat):Int):=q_w;by_cases hx:x.tiny=true
  ·rw[hx] at hv;repeat' first|refine s_t ?_|refine q_k 2 ?_;refine q_v (zn (hr:=g1)) ?_|refine q_k 4 ?_;refine q_v (zal (j:=i)) ?_;refine q_v (zW (hv:=hc) (hz:=E.symm)) ?_;refine q_v (za (hc:=zr hv)) ?_;refine zI ?_|refine q_k 3 ?_;refine q_x (zD (hr:=g5)) ?_
   refine zC (i+1) ⟨hlt,by rw[B,BQ,m];simp[hx]⟩ ?_ ?_ ?_
   ·show n-(i+1)<n-i;omega
   ·exact q_h
   ·exact q_h
  ·rw[Br] at hx;rw[hx] at hv;have q:l.all Cert.tiny=false:=by rw[BW];exact⟨x,A,by rw[hx];decide⟩
   rw[q,BX];repeat' first|refine s_t ?_|refine q_k 2 ?_;refine q_v (zn (hr:=g1)) ?_|refine q_k 4 ?_;refine q_v (zal (j:=i)) ?_;refine q_v (zW (hv:=hc) (hz:=E.symm)) ?_;refine q_v (za (hc:=zr hv)) ?_;refine zI ?_|refine q_k 5 ?_
   exact q_r
 obtain rfl:i=n:=q_o;rw[A6 q_o] at m;rw[m,B2,hn];have g1:decide ((i:Int)<(i:Int))=false:=q_f;have g2:decide ((i:Int)<=7)=decide (i<=7):=decide_eq_decide.2 q_o;repeat' first|refine s_0 ?_|refine q_k 2 ?_;refine q_v (zn (hr:=g1)) ?_|refine q_k 6 ?_;refine q_x (zaA (hr:=g2)) ?_
 exact q_r
theorem zf1{w:World} :zbH w none 0 [] []:=⟨rfl,A7 _,λ_=>rfl,.inl rfl,λ_ _ _ h=>by cases h⟩
theorem zhf(a b:Option Addr)(n c d:Nat)(ps O:List Pl)(l:List Cert)(w:World)(hn:l.length=n)(h:zbH w a c ps l)(J:zbH w b d O l)(L:∀x∈l,x.fine)(hb:n<1000000000):q_G 18 [.slice a n c,.slice b n d] w (.bool true):=by
 refine zt Tryz.func18 Tryz.ntmps18 ?_;have g0:decide ((n:Int)≠(n:Int))=false:=decide_eq_false (λh=>h rfl);repeat' first|refine s_t ?_|refine zA [0,3] ?_;refine zb ?_|refine q_k 1 ?_;refine q_v (zad (hr:=g0)) ?_
 refine zL (γ:=Nat) (λi=>[(0,.slice a n c),(1,.slice b n d),(5,.int .i64 (i:Int))]) (λ_=>[]) (λi=>i<=n) (λi=>n-i) 0 (AA _) ?_ ?_ ?_
 ·exact q_h
 ·exact q_h
 intro i R;by_cases hlt:i<n
 ·obtain⟨Q,T,p,rfl,S,A,hc⟩:=h.at (k:=11) q_e (λ_ _=>rfl) (i:=i) q_o;obtain⟨I,N,F,rfl,M,m,B⟩:=J.at (k:=11) q_e (λ_ _=>rfl) (i:=i) q_o;have E:=L l[i] (AX q_o);have q:=λH (G:Keep No w H)=>zuE p F l[i] l[i] H (A.keep G) (m.keep G) E;rw[Cert.same_iff.2 rfl] at q;have K:(zF p l[i]).length=11:=rfl;have r:(zF F l[i]).length=11:=rfl;generalize l[i]=x,zF F l[i]=P at*;generalize zF p x=C at*;have g1:decide ((i:Int)<(n:Int))=true:=q_d;have g5:IntKind.i64.wrap ((i:Int)+1)=((i+1:Nat):Int):=q_w;repeat' first|refine s_t ?_|refine q_k 4 ?_;refine q_v (zn (hr:=g1)) ?_
  (refine zdp (id:=6) [0,1,2,3,4,5,6,7] [8,9] mixed ?_ ?_;kernel_rfl;refine yfv zV (k:=?_);refine yfv zV (k:=?_);refine yfv (zal (j:=i)) (k:=?_);refine yfv (zW (hv:=hc) (hz:=K.symm)) (k:=?_);refine yfv zV (k:=?_);refine yfv zV (k:=?_);refine yfv (zal (j:=i)) (k:=?_);refine yfv (zW (hv:=B) (hz:=r.symm)) (k:=?_);refine yf0 ?_;refine ycv (za (hc:=zr q)) (k:=?_);refine ycv zh2 (k:=?_);try refine yc0 (k:=?_))
  repeat' first|refine s_0 ?_|refine q_k 5 ?_;refine q_x (zD (hr:=g5)) ?_
  refine zC (i+1) hlt ?_ ?_ ?_
  ·show n-(i+1)<n-i;omega
  ·exact q_h
  ·exact q_h
 obtain rfl:i=n:=q_o;have g1:decide ((i:Int)<(i:Int))=false:=q_f;repeat' first|refine s_0 ?_|refine q_k 4 ?_;refine q_v (zn (hr:=g1)) ?_|refine q_k 8 ?_
 exact q_r
def zrW(cs:List Cert)(v:Value)(R:List Res):Prop:=∃a k ps,ps.length=cs.length/\v= .tuple #[.slice a cs.length k,.int .i64 0]/\R= .row (.slice a cs.length k) 45 11 cs.length (List.zipWith zF ps cs).flatten::allRows ps.reverse cs.reverse
theorem DecCR.some{l:List UInt8}{d:List Cert}(h:zbX svK l=some d){v:Value}{R:List Res}(hv:DecCR l v R):zrW d v R:=by
 rcases hv with ⟨A,a,k,w,j,-,m,q,r⟩|⟨j,-,-⟩
 ·rw[h] at j;cases j;exact⟨a,k,w,m,q,r⟩
 ·rw[h] at j;cases j
def Fu:=@DecCR.some
theorem DecCR.none{l:List UInt8}(h:zbX svK l=none){v:Value}{R:List Res}(hv:DecCR l v R):ziD (.tuple #[.slice none 0 0,.int .i64 6]) v R:=by
 rcases hv with ⟨c,a,k,r,j,-⟩|⟨-,m,q⟩
 ·rw[h] at j;cases j
 ·exact⟨m,q⟩
def Fv:=@DecCR.none
theorem zm3{sv:Int->List UInt8->Bool}{b:List UInt8}{l:List Cert}(h:zbX sv b=some l):l.length<=5:=by
 unfold zbX at h;split at h
 ·rename_i d j;split at h
  ·cases h;exact zkj j
  ·cases h
 ·cases h
theorem znm(a:Option Addr)(n c:Nat)(ps:List Pl)(l:List Cert)(s:Bs)(w:World)(hG:GT w)(hT:Tab w No)(hS:ST w)(hn:l.length=n)(h:zbH w a c ps l)(hb:n<=maxLen)(hs:s.ok w):q_G 3 [.slice a n c,s.val] w (.bool true):=by
 refine zt Tryz.func3 Tryz.ntmps3 ?_;have O:=λw' (j:Keep No w w')=>zrI w' (hG.to j) (hT.no j) (hS.to j);have H:=λw' (j:Keep No w w')=>zq7 a n c ps l w' hn (h.keep j (λp x A=>A.keep j)) hb;have a8:s.val= .slice s.a s.n s.c:=rfl;have b1:=hs.len;rw[a8];obtain⟨y1,g1⟩:∃y,decide ((s.n:Int)>1500)=y:=⟨_,rfl⟩;rcases(show chained l=false\/(chained l=true/\y1=true)\/(chained l=true/\y1=false) by cases chained l <;> cases y1 <;> simp) with e|⟨e,rfl⟩|⟨e,rfl⟩
 ·rw[e] at H;repeat' first|refine s_0 ?_|refine q_k 0 ?_|refine q_k 1 ?_;refine q_v (za (hc:=zr H)) ?_;refine zI ?_;refine zb ?_|refine zf 2 ?_;refine q_v (za (hc:=zr O)) ?_;refine zb ?_
  exact q_r
 ·rw[e] at H;repeat' first|refine s_0 ?_|refine q_k 0 ?_|refine q_k 1 ?_;refine q_v (za (hc:=zr H)) ?_;refine zI ?_;refine zb ?_;refine q_x (zH (hr:=g1)) ?_|refine zf 2 ?_;refine q_v (za (hc:=zr O)) ?_;refine zb ?_
  exact q_r
 rw[e] at H;have n1:=of_decide_eq_false g1;obtain⟨b3,hf⟩:=zoV e;have U:=λw' (j:Keep No w w')=>zlb a n c ps l w' (hG.to j) hn (h.keep j (λp x A=>A.keep j)) hf q_o;have F:=zkP;have I:=λw' (j:Keep No w w')=>zrH s w' (hG.to j) (hs.keep j) q_o;have J:=λw' (j:Keep No w w')=>zpT s w' (hG.to j) (hs.keep j) q_o;rw[a8] at I J;by_cases hok:zay svK l=true
 ·rw[hok] at U;have V:=hok;simp only[zay,A8,decide_eq_true_eq,AF] at V;have b2:=zeX zcC hok;have W:=λw' (j:Keep No w w')=>zwL a n c ps l w' (hG.to j) hn (h.keep j (λp x A=>A.keep j)) hf q_o hok;have a7:=λw' (j:Keep No w w')=>znN a n c ps l w' hn (h.keep j (λp x A=>A.keep j)) (λx A=>FA zcC (V.2 x A)) q_o q_o;unfold zbf at a7;generalize za3 l=D at*;have a9:decide (D≠D)=false:=decide_eq_false (λh=>h rfl);repeat' first|refine s_0 ?_|refine q_k 0 ?_|refine q_k 1 ?_;refine q_v (za (hc:=zr H)) ?_;refine zI ?_;refine zb ?_;refine q_x (zH (hr:=g1)) ?_|refine q_k 3 ?_;(refine q_s (zi (hc:=zr W)) ?_;rintro _ _ ⟨R,rfl,aE,kE,rfl,rfl⟩);refine zb ?_|refine q_k 4 ?_;refine q_v (za (hc:=zr U)) ?_;refine zI ?_
  (refine zdm (id:=7) [] false [] [0,1,2] [(3,[]),(4,[]),(5,[]),(6,[7]),(8,[9,10])] mixed q_h ?_ ?_;kernel_rfl;refine ygv zV (k:=?_);refine ygv (zcn (l:=D) (hr:=GA (by exact Ey)) (hn:=rfl)) (k:=?_);refine ygv zV (k:=?_);refine yg0 ?_;(refine yhs (zi (hc:=zr a7)) (k:=?_);rintro _ _ ⟨R,rfl,aF,kF,rfl,rfl⟩);try refine yg0 ?_;refine yhv (zcn (l:=D) (hr:=GA (by exact Ey)) (hn:=rfl)) (k:=?_);try refine yg0 ?_;refine yhv (zco (hr:=a9)) (k:=?_);try refine yg0 ?_;refine yhv zV (k:=?_);refine ygv zV (k:=?_);try refine yg0 ?_;refine yhv (za (hc:=λ_ _ _ _=>(F _ _))) (k:=?_);refine ygv zad (k:=?_);refine ygv zcz (k:=?_);try refine yg0 ?_;try refine yh0 (k:=?_))
  repeat' first|refine s_0 ?_|(refine zx ?_;first|refine zaU ?_|fail)|refine zdF ?_
  cases hdp:zbX svK s.l with
  |none=>
   have m:=λw' (j:Keep No w w')=>(I w' j).mono λv R N=>Fv hdp N;have q:=λw' (j:Keep No w w')=>(J w' j).mono λv R N=>Fv hdp N;have a6:=λw'=>zhf none none 0 0 0 [] [] [] w' rfl zf1 zf1 (λx A=>by cases A) q_e;repeat' first|refine s_0 ?_|refine q_k 10 ?_;refine q_v (za (hc:=zr q)) ?_;refine zb ?_|refine q_k 11 ?_;refine q_v (za (hc:=q_c a6)) ?_;refine zb ?_;refine q_v (za (hc:=λ_ _ _ _=>(F _ _))) ?_;refine zb ?_;refine zaH ?_;refine zb ?_;refine q_v (za (hc:=zr O)) ?_;refine zb ?_|(refine zx ?_;first|refine q_v (za (hc:=zr m)) ?_|refine zw ?_|refine zZ ?_|refine zaU ?_|fail)|fail
   exact q_r
  |some d=>
   have m:=λw' (j:Keep No w w')=>(I w' j).mono λv R N=>Fu hdp N;have q:=λw' (j:Keep No w w')=>(J w' j).mono λv R N=>Fu hdp N;unfold zrW at m q;have K:=zkr hdp;have b0:=zm3 hdp;have B:∀(a1 a2:Option Addr) (k1 k2:Nat) (G E:List Pl) {w':World}{X L:List Res},G.length=d.length->E.length=d.length->Keep No w w'->Holds w.heap.size No (L++X) w'->(∀x∈(.row (.slice a1 d.length k1) 45 11 d.length (List.zipWith zF G d).flatten::allRows G.reverse d.reverse:List Res),x∈L)->(∀x∈(.row (.slice a2 d.length k2) 45 11 d.length (List.zipWith zF E d).flatten::allRows E.reverse d.reverse:List Res),x∈L)->q_G 18 [.slice a1 d.length k1,.slice a2 d.length k2] w' (.bool true):=by
    intro a1 a2 k1 k2 G E w' X L e1 e2 j T m1 m2;exact zhf a1 a2 d.length k1 k2 G E d w' rfl (zfb T (m1 _ A3) e1 (λr hr=>m1 r (A1 _ hr)) K) (zfb T (m2 _ A3) e2 (λr hr=>m2 r (A1 _ hr)) K) (λx A=>Ft (K x A)) q_o
   clear I J;repeat' first|fail
   refine q_s (zi (hc:=zr m)) ?_;rintro _ _ ⟨R,rfl,a1,k1,G,Y,rfl,rfl⟩;obtain⟨Rq,P⟩:∃x:List Res,x= .row (.slice a1 d.length k1) 45 11 d.length (List.zipWith zF G d).flatten::allRows G.reverse d.reverse:=⟨_,rfl⟩;have M:=λa2 k2 E (w':World) (X L:List Res) h2=>B a1 a2 k1 k2 G E (w':=w') (X:=X) (L:=L) Y h2;rw[<-P];rw[<-P] at M;repeat' first|refine s_0 ?_|(refine zx ?_;first|refine zw ?_|refine zZ ?_|refine zaU ?_|fail)|fail
   refine FJ (fr':=[(8,.int .i64 0),(7,.slice a1 d.length k1),(1,.slice s.a s.n s.c)]) (L':=Rq) ?_ q_h ?_;rotate_left
   ·exact⟨_,Ay _⟩
   repeat' first|refine q_k 10 ?_
   refine q_s (zi (hc:=zr q)) ?_;rintro _ _ ⟨R,rfl,a2,k2,E,Z,rfl,rfl⟩;have S:=λ(w':World) (X L:List Res)=>M a2 k2 E w' X L Z;obtain⟨Rr,Q⟩:∃x:List Res,x= .row (.slice a2 d.length k2) 45 11 d.length (List.zipWith zF E d).flatten::allRows E.reverse d.reverse:=⟨_,rfl⟩;rw[<-Q];rw[<-Q] at S;clear B M m q;repeat' first|refine s_0 ?_|refine q_k 11 ?_;refine q_v (za (hc:=λw' X j T=>S w' X _ j T (λx A=>AY _ A) (λx A=>AH _ A))) ?_;refine zb ?_;refine q_v (za (hc:=λ_ _ _ _=>(F _ _))) ?_;refine zb ?_;refine zaH ?_;refine zb ?_;refine q_v (za (hc:=zr O)) ?_;refine zb ?_|(refine zx ?_;first|refine zw ?_|refine zZ ?_|refine zaU ?_|fail)|fail
   exact q_r
 ·rw[Br] at hok;rw[hok] at U;have W:=λw' (j:Keep No w w')=>zxN a n c ps l w' (hG.to j) hn (h.keep j (λp x A=>A.keep j)) hf q_o hok;repeat' first|refine s_0 ?_|refine q_k 0 ?_|refine q_k 1 ?_;refine q_v (za (hc:=zr H)) ?_;refine zI ?_;refine zb ?_;refine q_x (zH (hr:=g1)) ?_|refine q_k 3 ?_;refine q_v (za (hc:=zr W)) ?_;refine zb ?_|refine q_k 4 ?_;refine q_v (za (hc:=zr U)) ?_;refine zI ?_|refine q_k 5 ?_;refine zaJ ?_;refine zb ?_;refine q_v (za (hc:=λ_ _ _ _=>(F _ _))) ?_;refine zaJ ?_;refine zb ?_
  cases hdp:zbX svK s.l with
  |none=>
   have m:=λw' (j:Keep No w w')=>(I w' j).mono λv R N=>Fv hdp N;have q:=λw' (j:Keep No w w')=>(J w' j).mono λv R N=>Fv hdp N;have a6:=λw'=>zhf none none 0 0 0 [] [] [] w' rfl zf1 zf1 (λx A=>by cases A) q_e;repeat' first|refine s_0 ?_|refine q_k 9 ?_;refine q_v (za (hc:=zr m)) ?_;refine zb ?_|refine q_k 10 ?_;refine q_v (za (hc:=zr q)) ?_;refine zb ?_|refine q_k 11 ?_;refine q_v (za (hc:=q_c a6)) ?_;refine zb ?_;refine q_v (za (hc:=λ_ _ _ _=>(F _ _))) ?_;refine zb ?_;refine zaH ?_;refine zb ?_;refine q_v (za (hc:=zr O)) ?_;refine zb ?_
   exact q_r
  |some d=>
   have m:=λw' (j:Keep No w w')=>(I w' j).mono λv R N=>Fu hdp N;have q:=λw' (j:Keep No w w')=>(J w' j).mono λv R N=>Fu hdp N;unfold zrW at m q;have K:=zkr hdp;have b0:=zm3 hdp;have B:∀(a1 a2:Option Addr) (k1 k2:Nat) (G E:List Pl) {w':World}{X L:List Res},G.length=d.length->E.length=d.length->Keep No w w'->Holds w.heap.size No (L++X) w'->(∀x∈(.row (.slice a1 d.length k1) 45 11 d.length (List.zipWith zF G d).flatten::allRows G.reverse d.reverse:List Res),x∈L)->(∀x∈(.row (.slice a2 d.length k2) 45 11 d.length (List.zipWith zF E d).flatten::allRows E.reverse d.reverse:List Res),x∈L)->q_G 18 [.slice a1 d.length k1,.slice a2 d.length k2] w' (.bool true):=by
    intro a1 a2 k1 k2 G E w' X L e1 e2 j T m1 m2;exact zhf a1 a2 d.length k1 k2 G E d w' rfl (zfb T (m1 _ A3) e1 (λr hr=>m1 r (A1 _ hr)) K) (zfb T (m2 _ A3) e2 (λr hr=>m2 r (A1 _ hr)) K) (λx A=>Ft (K x A)) q_o
   clear I J;repeat' first|refine q_k 9 ?_
   refine q_s (zi (hc:=zr m)) ?_;rintro _ _ ⟨R,rfl,a1,k1,G,Y,rfl,rfl⟩;obtain⟨Rq,P⟩:∃x:List Res,x= .row (.slice a1 d.length k1) 45 11 d.length (List.zipWith zF G d).flatten::allRows G.reverse d.reverse:=⟨_,rfl⟩;have M:=λa2 k2 E (w':World) (X L:List Res) h2=>B a1 a2 k1 k2 G E (w':=w') (X:=X) (L:=L) Y h2;rw[<-P];rw[<-P] at M;repeat' first|refine s_0 ?_|(refine zx ?_;first|refine zw ?_|refine zZ ?_|refine zaU ?_|fail)|fail
   refine FJ (fr':=[(8,.int .i64 0),(7,.slice a1 d.length k1),(1,.slice s.a s.n s.c)]) (L':=Rq) ?_ q_h ?_;rotate_left
   ·exact⟨_,Ay _⟩
   repeat' first|refine q_k 10 ?_
   refine q_s (zi (hc:=zr q)) ?_;rintro _ _ ⟨R,rfl,a2,k2,E,Z,rfl,rfl⟩;have S:=λ(w':World) (X L:List Res)=>M a2 k2 E w' X L Z;obtain⟨Rr,Q⟩:∃x:List Res,x= .row (.slice a2 d.length k2) 45 11 d.length (List.zipWith zF E d).flatten::allRows E.reverse d.reverse:=⟨_,rfl⟩;rw[<-Q];rw[<-Q] at S;clear B M m q;repeat' first|refine s_0 ?_|refine q_k 11 ?_;refine q_v (za (hc:=λw' X j T=>S w' X _ j T (λx A=>AY _ A) (λx A=>AH _ A))) ?_;refine zb ?_;refine q_v (za (hc:=λ_ _ _ _=>(F _ _))) ?_;refine zb ?_;refine zaH ?_;refine zb ?_;refine q_v (za (hc:=zr O)) ?_;refine zb ?_|(refine zx ?_;first|refine zw ?_|refine zZ ?_|refine zaU ?_|fail)|fail
   exact q_r
end Go.Proofs.YtdnlngbjpdbffaaGreatDoor
