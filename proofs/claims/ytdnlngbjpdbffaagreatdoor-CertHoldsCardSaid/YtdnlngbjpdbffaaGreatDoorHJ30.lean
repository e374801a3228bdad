/- Lemmas of this proof. -/
import Derived.Test.YtdnlngbjpdbffaaGreatDoorHJ29
set_option maxHeartbeats 4000000
set_option maxRecDepth 10000
set_option linter.all false
namespace Go.Proofs.YtdnlngbjpdbffaaGreatDoor
open Go Go.Sy Go.Ct Go.RowKit
attribute [local irreducible] Sy SyL SyX Sy.Fn callFunc
theorem zeC(t b:Nat)(s:Bs)(w:World)(m:t<256)(j:s.ok w)(h2:w.rangeAt b 0 [s.val])(hb:s.l.length<16777216):
  Sy.Fn Tryz.prog 172 [.int .u8 (t:Int),.slice (some ⟨b,0,none⟩) 1 1] w No (zbT 5 (tlv t s.l).length ((tlv t s.l).map v8)):=by
 have h:=zmJ t (some ⟨b,0,none⟩) 1 1 [s] w m rfl q_e q_e (.inr ⟨b,0,rfl,h2⟩) (λx q=>by rw[AC.1 q];exact j) (by rw[Ct.cat1];exact hb);rwa[Ct.cat1] at h
theorem zo2(v:Int)(w:World)(h1: -zbQ<=v)(h2:v<=zbQ):Sy.Fn Tryz.prog 111 [.int .i64 v] w No (zbT 5 (tlv 2 (beZ v (zba v))).length ((tlv 2 (beZ v (zba v))).map v8)):=by
 have G:=zlA h1 h2;unfold zbQ at h1 h2;refine zz Tryz.func111 Tryz.ntmps111 ?_;have J:=λm=>zoS v (zba v) m G;have j:(beZ v (zba v)).length=zba v:=zi0 v _;repeat' (first|refine s_t ?_|refine zL [0,3,4] ?_;refine zf ?_|refine q_k 1 ?_;refine q_x zm ?_;refine q_x zF ?_)
 refine zX (γ:=Nat×Int) (λg=>[(0,.int .i64 v),(3,.int .i64 (g.1:Int)),(4,.int .i64 g.2)]) (λ_=>[]) (λg=>g.1+zba g.2=zba v+1/\ -4611686018427387904<=g.2/\g.2<=4611686018427387904) (λg=>zba g.2) (1,v) ⟨by dsimp only;omega,h1,h2⟩ ?_ ?_ ?_
 ·exact q_h
 ·exact q_h
 rintro⟨s,r⟩ ⟨B,K,L⟩;dsimp only at B K L ⊢;by_cases hr: -128<=r/\r<=127
 ·rw[zju hr] at B;obtain rfl:s=zba v:=q_o;repeat' (first|refine s_0 ?_|refine q_k 5 ?_;refine q_x zm ?_;refine q_x zF ?_|refine q_k 8 ?_;(refine q_s (zn (hc:=λm X I q=>J m)) ?_;rintro _ _ ⟨R,rfl,F,rfl,rfl⟩);(refine q_s zD ?_;rintro _ _ ⟨E,rfl,rfl⟩);(refine q_s (zn (hc:=λm X I q=>zeC 2 E ⟨some ⟨F,0,none⟩,zba v,zba v,beZ v (zba v)⟩ m q_e (zhO q j q_h) (zq (q.has q_h) Em) (by show(beZ v (zba v)).length<16777216;omega))) ?_;rintro _ _ ⟨R,rfl,M,N,rfl,rfl⟩);refine zf ?_)
  exact q_r
 ·have H:=znh hr;have g1:IntKind.i64.wrap ((s:Int)+1)=((s+1:Nat):Int):=q_w;have g2:∀A,Op.shift .shr .i64 r A 8=pure (.int .i64 (r/256)):=λA=>zxo r 8 A q_e;have hc:r < -128\/(-128<=r/\127<r):=q_o;rcases hc with h|⟨h,O⟩
  all_goals repeat' (first|refine s_t ?_|refine q_k 5 ?_;refine q_x zm ?_;(first|refine q_v zF ?_|skip|fail);(try refine zf ?_)|refine q_k 7 ?_;refine q_x (zN (hr:=g1)) ?_|refine q_k 6 ?_;refine q_x (zcq (hr:=g2 _)) ?_)
  all_goals refine zQ (s+1,r/256) ⟨by dsimp only;omega,by dsimp only;omega,by dsimp only;omega⟩ ?_ ?_ ?_
  all_goals first|show zba (r/256)<zba r;omega|exact Sub.go|exact q_h
theorem zng(v:Int)(w:World)(h1:0<=v)(h2:v<=1099511627776):Sy.Fn Tryz.prog 113 [.int .i64 v] w No (zbT 5 (zbC v.toNat).length ((zbC v.toNat).map v8)):=by
 refine zz Tryz.func113 Tryz.ntmps113 ?_;have r:=λm=>zoS v 6 m q_e;have e:beZ v 6=beN v.toNat 6:=by rw[<-ziT,AT h1]
 rw[e] at r;have j:(beN v.toNat 6).length=6:=zbw _ _;unfold zbC;repeat' (first|refine s_0 ?_|refine q_k 0 ?_|refine q_k 1 ?_;refine q_x zm ?_;refine q_x zF ?_|refine q_k 3 ?_;(refine q_s (zn (hc:=λm X E q=>r m)) ?_;rintro _ _ ⟨R,rfl,B,rfl,rfl⟩);(refine q_s zD ?_;rintro _ _ ⟨A,rfl,rfl⟩);(refine q_s (zn (hc:=λm X E q=>zeC 24 A ⟨some ⟨B,0,none⟩,6,6,beN v.toNat 6⟩ m q_e (zhO q j q_h) (zq (q.has q_h) Em) (by show(beN v.toNat 6).length<16777216;omega))) ?_;rintro _ _ ⟨R,rfl,F,G,rfl,rfl⟩);refine zf ?_)
 exact q_r
theorem zsE(v:Bool)(w:World):Sy.Fn Tryz.prog 114 [.bool v] w No (zbT 5 (zdc v).length ((zdc v).map v8)):=by
 refine zz Tryz.func114 Tryz.ntmps114 ?_;unfold zdc;have E: [Value.int .u8 0]= [(0:UInt8)].map v8:=rfl;have F: [Value.int .u8 255]= [(255:UInt8)].map v8:=rfl;cases v
 ·rw[show(if false=true then (255:UInt8) else 0)=0 from rfl];repeat' (first|refine s_0 ?_|refine zL [0,1] ?_;refine zf ?_|refine ze 3 ?_;(refine q_s zD ?_;rintro _ _ ⟨j,rfl,rfl⟩);(refine q_s zD ?_;rintro _ _ ⟨j,rfl,rfl⟩))
  rename_i q;rw[E];refine q_s (zn (hc:=λr X G m=>zeC 1 j ⟨some ⟨q,0,none⟩,1,1,[0]⟩ r q_e (zhO m rfl q_h) (zq (m.has q_h) Em) (by show 1<16777216;decide))) ?_;rintro _ _ ⟨R,rfl,A,B,rfl,rfl⟩;repeat' (first|refine s_0 ?_|(refine zx ?_;first|refine zo ?_|fail)|fail)
  exact q_r
 ·rw[show(if true=true then (255:UInt8) else 0)=255 from rfl];repeat' (first|refine s_0 ?_|refine zL [0,1] ?_;refine zf ?_|refine ze 2 ?_;(refine q_s zD ?_;rintro _ _ ⟨j,rfl,rfl⟩);(refine q_s zD ?_;rintro _ _ ⟨j,rfl,rfl⟩))
  rename_i q;rw[F];refine q_s (zn (hc:=λr X G m=>zeC 1 j ⟨some ⟨q,0,none⟩,1,1,[255]⟩ r q_e (zhO m rfl q_h) (zq (m.has q_h) Em) (by show 1<16777216;decide))) ?_;rintro _ _ ⟨R,rfl,A,B,rfl,rfl⟩;repeat' (first|refine s_0 ?_|(refine zx ?_;first|refine zo ?_|fail)|fail)
  exact q_r
theorem zoQ(s:Bs)(w:World)(r:s.ok w)(hb:s.l.length<16777216):Sy.Fn Tryz.prog 115 [s.val] w No (zbT 5 (zbz s.l).length ((zbz s.l).map v8)):=by
 refine zz Tryz.func115 Tryz.ntmps115 ?_;unfold zbz;repeat' (first|refine s_0 ?_|refine q_k 0 ?_|refine q_k 1 ?_;(refine q_s zD ?_;rintro _ _ ⟨j,rfl,rfl⟩);(refine q_s (zn (hc:=λA X q m=>zeC 4 j s A q_e (r.keep q) (zq (m.has q_h) Em) hb)) ?_;rintro _ _ ⟨R,rfl,B,E,rfl,rfl⟩);refine zf ?_)
 exact q_r
theorem zpu(l:List UInt8)(w:World)(hb:l.length<16777216):Sy.Fn Tryz.prog 253 [zW l] w No (zbT 5 (zav l).length ((zav l).map v8)):=by
 refine zz Tryz.func253 Tryz.ntmps253 ?_;unfold zav zW;repeat' (first|refine s_0 ?_|refine zL [0,1] ?_;refine zf ?_|refine q_s (zjm (l:=l)) ?_;rintro _ _ ⟨q,J,rfl,rfl⟩|(refine zx ?_;first|refine q_s zD ?_;rintro _ _ ⟨m,rfl,rfl⟩|refine q_s (zn (hc:=λA X r j=>zeC 27 m ⟨some ⟨q,0,none⟩,l.length,l.length+J.length,l⟩ A q_e (zuL r j rfl (E7 _ _) (Ey Ev)) (zq (j.has q_h) Em) hb)) ?_;rintro _ _ ⟨R,rfl,B,E,rfl,rfl⟩|refine zo ?_|fail)|fail)
 exact q_r
theorem zkO(a:Option Addr)(m d:Nat)(xs:List Bs)(w:World)(hm:xs.length=m)(j:m<1000)(q:m<=d)(A:SlA w a (xs.map Bs.val))(r:∀s∈xs,s.ok w)(hb:(Bs.cat xs).length<16777216):
  Sy.Fn Tryz.prog 84 [.slice a m d] w No (zbT 5 (tlv 0x30 (Bs.cat xs)).length ((tlv 0x30 (Bs.cat xs)).map v8)):=by
 refine zz Tryz.func84 Tryz.ntmps84 ?_;have F:=λE (B:Keep No w E)=>zmJ 0x30 a m d xs E q_e hm j q ((FY A).to (Mi:=No) B (λ_ h=> .inr h)).sla (λs G=>(r s G).keep B) hb;repeat' (first|refine s_0 ?_|refine q_k 0 ?_|refine q_k 1 ?_;(refine q_s (zn (hc:=zr F)) ?_;rintro _ _ ⟨R,rfl,H,I,rfl,rfl⟩);refine zf ?_)
 exact q_r
theorem ztC(t n:Nat)(s:Bs)(w:World)(hn:n<=30)(F:t+n<256)(r:s.ok w)(h0:0<s.l.length)(hb:s.l.length<16777216):Sy.Fn Tryz.prog 193 [.int .i64 (t:Int),.int .i64 (n:Int),s.val] w No (zbT 5 (tlv (t+n) s.l).length ((tlv (t+n) s.l).map v8)):=by
 refine zz Tryz.func193 Tryz.ntmps193 ?_;have g1:IntKind.i64.wrap ((t:Int)+(n:Int))=((t+n:Nat):Int):=q_w;have g2:IntKind.u8.wrap ((t+n:Nat):Int)=((t+n:Nat):Int):=IntWalk.u8_in _ q_o;have I:=r.len;have E:=λj (m:Keep No w j)=>r.keep m;have q:s.val= .slice s.a s.n s.c:=rfl;rw[q];repeat' (first|refine s_0 ?_|refine q_k 0 ?_|refine q_k 1 ?_;refine q_x zm ?_;refine q_x zF ?_;refine zaH ?_;refine zf ?_|refine q_k 3 ?_;refine q_v (zN (hr:=g1)) ?_;refine q_x (zaw (hr:=g2)) ?_;(refine q_s zD ?_;rintro _ _ ⟨A,rfl,rfl⟩);(refine q_s (zn (hc:=λj X m B=>zeC (t+n) A s j F (E j m) (zq (B.has q_h) Em) hb)) ?_;rintro _ _ ⟨R,rfl,G,H,rfl,rfl⟩);refine zf ?_)
 exact q_r
theorem zu1(n:Nat)(s:Bs)(w:World)(hn:n<=30)(A:s.ok w)(h0:0<s.l.length)(hb:s.l.length<16777216):Sy.Fn Tryz.prog 110 [.int .i64 (n:Int),s.val] w No (zbT 5 (zap n s.l).length ((zap n s.l).map v8)):=by
 refine zz Tryz.func110 Tryz.ntmps110 ?_;have m:=λq (r:Keep No w q)=>ztC 0xa0 n s q hn q_o (A.keep r) h0 hb;have j:s.val= .slice s.a s.n s.c:=rfl;rw[j] at m ⊢;unfold zap;repeat' (first|refine s_0 ?_|refine q_k 0 ?_|refine q_k 1 ?_;(refine q_s (zn (hc:=zr m)) ?_;rintro _ _ ⟨R,rfl,B,E,rfl,rfl⟩);refine zf ?_)
 exact q_r
end Go.Proofs.YtdnlngbjpdbffaaGreatDoor
namespace Go.Ct
open Go Go.Sy
def zkE(E:Nat)(s:Bs):Res:=.row (.slice s.a s.n s.c) E 1 s.n (s.l.map v8)
def zdD(E:Nat)(xs:List Bs):List Res:=xs.map (zkE E)
theorem zk6{m:Nat}{w:World}{M:Nat->Prop}{E:Nat}{L:List Res}{xs:List Bs}(hh:Holds m M L w)(q:∀s∈xs,s.l.length=s.n)(hL:∀r∈zdD E xs,r∈L):∀s∈xs,s.ok w:=λs j=>
 zau (E:=E) hh (q s j) (hL _ (C9.2 ⟨s,j,rfl⟩))
theorem zkU(xs:List Bs):Bs.cat xs=(xs.map (·.l)).flatten:=by unfold Bs.cat;rw[E8]
theorem znx{l:List UInt8}{k:Nat}(h:l.length<=k):(zav l).length<=k+5:=zcv h
theorem zk7(xs:List Bs)(s:Bs):xs.reverse.map Bs.val++[.slice s.a s.n s.c]=((s::xs).reverse).map Bs.val:=by rw[Ck,B2];rfl
theorem zp8(xs:List Bs)(s:Bs):((s::xs).reverse).map (·.l)=xs.reverse.map (·.l)++[s.l]:=by rw[Ck,B2];rfl
end Go.Ct
namespace Go.Proofs.YtdnlngbjpdbffaaGreatDoor
open Go Go.Sy Go.Ct Go.RowKit
attribute [local irreducible] Sy SyL SyX SyC SyF Sy.Fn callFunc
abbrev zbA(l:List UInt8):Value->List Res->Prop:=zbT 5 l.length (l.map v8)
theorem zjA(b m:Nat)(xs:List Bs)(w:World)(hm:xs.length=m)(j:m<1000)(h:w.rangeAt b 0 (xs.map Bs.val))(q:∀s∈xs,s.ok w)(hb:(Bs.cat xs).length<16777216)(D:List UInt8)(r:D=tlv 0x30 (Bs.cat xs)):
  Sy.Fn Tryz.prog 84 [.slice (some ⟨b,0,none⟩) m m] w No (zbA D):=by
 subst r;exact zkO (some ⟨b,0,none⟩) m m xs w hm j (A8 _) (.inr ⟨b,0,rfl,h⟩) q hb
theorem zcl(n:Nat)(a:Option Addr)(m c:Nat)(l D:List UInt8)(w:World)(hn:n<=30)(q:(⟨a,m,c,l⟩:Bs).ok w)(h0:0<l.length)(hb:l.length<16777216)(j:D=zap n l):Sy.Fn Tryz.prog 110 [.int .i64 (n:Int),.slice a m c] w No (zbA D):=by
 subst j;exact zu1 n ⟨a,m,c,l⟩ w hn q h0 hb
theorem zbJ{t:Nat}{l:List UInt8} :0<(tlv t l).length:=by have:=(zae t l).1;omega
theorem zu2(C:List Value)(p:Prin)(w:World)(h:PrinIn w C p)(G:p.ok=true):Sy.Fn Tryz.prog 195 [.agg C.toArray] w No (λv R=>∃a c,v= .tuple #[.slice a p.der.length c,.int .i64 0]/\R= [.row (.slice a p.der.length c) 5 1 p.der.length (p.der.map v8)]):=by
 obtain⟨b8,I,V⟩:=F0 G;have hv:=λm (K:Keep No w m)=>zfF C p m (h.keep K) q_o q_o (λx Y=>by have:=I x Y;omega);rw[G] at hv;obtain⟨⟨a1,c1,rfl,n1,m1,s1,z1⟩,-⟩:=h;refine zz Tryz.func195 Tryz.ntmps195 ?_;have W:=λx (Y:x∈p.parts) m=>zpu x m (by have:=I x Y;omega);have L:=λm=>zpu p.realm m q_o;have b0:=FT G;have b7:=F6 G;have H:p.der=tlv 0x30 (zap 0 (tlv 0x30 (p.parts.map zav).flatten)++zap 1 (zav p.realm)):=by simp[Prin.der,zdt]
 have b9:=znx V;unfold zW at*;generalize p.der=D at*;obtain⟨parts,realm⟩:=p;dsimp only at*;generalize hn:parts.length=n at*;repeat' (first|refine s_t ?_|refine ze 0 ?_;refine z9 ?_;intro _|refine ze 1 ?_;refine zl ?_;refine q_v (za (hc:=zr hv)) ?_;refine zI ?_|refine q_k 3 ?_|refine q_k 4 ?_;refine zl ?_;refine zf ?_)
 rename_i b1;refine zcN (zbZ 23 1) ?_;refine zX (γ:=Nat×List Bs×Option Addr×Nat) (λg=>[(1,.pointer (some ⟨b1,0,none⟩)),(11,.slice a1 n c1),(12,.int .i64 (n:Int)),(13,.int .i64 (g.1:Int)),(4,.slice g.2.2.1 g.2.1.length g.2.2.2)])
  (λg=> .row (.slice g.2.2.1 g.2.1.length g.2.2.2) 23 1 g.2.1.length (g.2.1.reverse.map Bs.val):: .blk b1 43 [.slice a1 n c1,.string (str realm)]::zdD 5 g.2.1)
  (λg=>g.1<=n/\g.2.1.reverse.map (·.l)=(parts.take g.1).map zav/\∀s∈g.2.1,s.l.length=s.n) (λg=>n-g.1) (0,[],none,0) ⟨AE _,rfl,λs F=>by cases F⟩ ?_ ?_ ?_
 ·exact q_h
 ·exact q_h
 rintro⟨i,q,aP,cP⟩ ⟨hi,B,M⟩;dsimp only at hi B M ⊢;have Z:q.length=i:=by have:=congrArg List.length B;simp at this;omega
 by_cases hlt:i<n
 ·obtain⟨bl,ol,rfl,J⟩:=zdb s1 (i:=i) (by rw[List.length_map];omega);have hc:=J i _ (zdw _ q_o);have g1:decide ((i:Int)<(n:Int))=true:=q_d;have g5:IntKind.i64.wrap ((i:Int)+1)=((i+1:Nat):Int):=q_w;have b2:parts.take (i+1)=parts.take i++[parts[i]]:=zaI q_o;have a9:parts[i]∈parts:=AX q_o;have Y:=W parts[i] a9;generalize parts[i]=x at*;repeat' (first|refine s_t ?_|refine ze 5 ?_;refine q_v (zm (hr:=g1)) ?_|refine ze 6 ?_;refine q_v (zG (j:=i)) ?_;refine q_x (zp (hv:=hc)) ?_|refine q_k 7 ?_;(refine q_s (zn (hc:=λm X K A=>Y m)) ?_;rintro _ _ ⟨R,rfl,N,O,rfl,rfl⟩);(refine q_s zD ?_;rintro _ _ ⟨_,rfl,rfl⟩);(refine q_s (zaB (hys:=zk7 q ⟨N,(zav x).length,O,zav x⟩) (hkm:=rfl)) ?_;rintro _ _ ⟨rfl,aN,cN,rfl⟩);refine zf ?_)
  refine F8 (fr':=[(1,.pointer (some ⟨b1,0,none⟩)),(11,.slice (some ⟨bl,ol,none⟩) n c1),(12,.int .i64 (n:Int)),(13,.int .i64 (i:Int)),(4,.slice aN (q.length+1) cN)]) (L':=.row (.slice aN (q.length+1) cN) 23 1 (q.length+1) ((⟨N,(zav x).length,O,zav x⟩::q).reverse.map Bs.val):: .blk b1 43 [.slice (some ⟨bl,ol,none⟩) n c1,.string (str realm)]::zdD 5 (⟨N,(zav x).length,O,zav x⟩::q)) ?_ q_h ?_;rotate_left
  ·show SubR (_::_::zkE 5 ⟨N,(zav x).length,O,zav x⟩::zdD 5 q) _
   (repeat' (first|exact El|apply Es;with_reducible (focus ((repeat (first|exact Ej|apply Ek));done))|apply Ez;(focus ((repeat (first|exact Ej|apply Ek));done))|apply Es;(focus ((repeat (first|exact Ej|apply Ek));done))|apply Ew;(focus ((repeat (first|exact Ej|apply Ek));done))|rfl))
   all_goals exact Ex Ep
  repeat' (first|refine zaC ?_|refine zaD ?_|refine ze 8 ?_;refine q_x (zN (hr:=g5)) ?_)
  refine zQ (i+1,⟨N,(zav x).length,O,zav x⟩::q,aN,cN) ⟨hlt,?_,?_⟩ ?_ ?_ ?_
  ·show((⟨N,(zav x).length,O,zav x⟩::q).reverse).map (·.l)=_;rw[zp8,B,b2,B2];rfl
  ·intro s F;rcases AQ.1 F with rfl|F
   ·rfl
   ·exact M s F
  ·show n-(i+1)<n-i;omega
  ·exact q_h
  ·exact Ep
 obtain rfl:i=n:=q_o;rw[A9 q_o] at B;have T:Bs.cat q.reverse=(parts.map zav).flatten:=by rw[zkU,B]
 have g1:decide ((i:Int)<(i:Int))=false:=q_f;rw[<-T] at b0 H;have hQ:=(zae 0x30 (Bs.cat q.reverse)).2;have b3:=(zae 0xa0 (tlv 0x30 (Bs.cat q.reverse))).2;have b4:=(zae 0xa1 (zav realm)).2;repeat' (first|refine s_0 ?_|refine ze 5 ?_;refine q_v (zm (hr:=g1)) ?_)
 rw[Z]
 (refine zdq (id:=9) [0,3,4] [1,2,5,6,7,8,9,10] mixed ?_ ?_;kernel_rfl;refine yfv zar (k:=?_);refine yfv zP (k:=?_);refine yfv zM (k:=?_);refine yf0 ?_;try refine yc0 (k:=?_))
 refine ycs (zn (hc:=λm X K A=>zkO aP i cP q.reverse m (by rw[CE];exact Z) q_o (FD A q_h) ((GZ (Mi:=No) A q_h (λ_ h=>h.elim)).sla) (λs F=>zk6 (E:=5) A M (λr hr=>A7 _ (A0 _ (A0 _ hr))) s (Cv.1 F)) q_o)) (k:=?_);rintro _ _ ⟨R,rfl,aS,cS,rfl,rfl⟩;generalize a6:tlv 0x30 (Bs.cat q.reverse)=Q at*;have a7:0<Q.length:=by rw[<-a6];exact zbJ
 have a8:0<(zav realm).length:=zbJ;refine ycs (zn (hc:=λm X K A=>zcl 0 aS Q.length cS Q _ m q_e (zau A rfl q_h) a7 q_o rfl)) (k:=?_);rintro _ _ ⟨R,rfl,aT,cT,rfl,rfl⟩;refine ycs (zn (hc:=λm X K A=>L m)) (k:=?_);rintro _ _ ⟨R,rfl,aU,cU,rfl,rfl⟩;generalize zav realm=U at*;refine ycs (zn (hc:=λm X K A=>zcl 1 aU U.length cU U _ m q_e (zau A rfl q_h) a8 q_o rfl)) (k:=?_);rintro _ _ ⟨R,rfl,aV,cV,rfl,rfl⟩;refine ycs zD (k:=?_);rintro _ _ ⟨bL,rfl,rfl⟩;have b5:(zap 0 Q).length<=300:=by show(tlv 160 Q).length<=300;omega
 have b6:(zap 1 U).length<=300:=by show(tlv 161 U).length<=300;omega
 generalize zap 1 U=S,zap 0 Q=P at*;refine ycs (zn (hc:=λm X K A=>zjA bL 2 [⟨aT,P.length,cT,P⟩,⟨aV,S.length,cV,S⟩] m rfl q_e (zq (A.has q_h) Em) (λs F=>by
  simp only[AQ,BB,or_false] at F;rcases F with rfl|rfl
  ·exact zau A rfl q_h
  ·exact zau A rfl q_h) (by rw[show Bs.cat [⟨aT,P.length,cT,P⟩,⟨aV,S.length,cV,S⟩]=P++S by simp[Bs.cat],A3];omega) D (by rw[H];simp[Bs.cat]))) (k:=?_)
 rintro _ _ ⟨R,rfl,aW,cW,rfl,rfl⟩;refine ycv zbl (k:=?_);refine ycv zbl (k:=?_);refine yc0 (k:=?_);repeat' (first|refine s_0 ?_|fail)
 exact zT rfl (zj rfl) (zj rfl) (Ew Ej rfl El) ⟨_,_,rfl,rfl⟩
end Go.Proofs.YtdnlngbjpdbffaaGreatDoor
namespace Go.Ct
open Go Go.Sy
structure Pl where
 a1:Option Addr
 k1:Nat
 a2:Option Addr
 k2:Nat
 a3:Option Addr
 k3:Nat
 a4:Option Addr
 k4:Nat
def za1(a:Option Addr)(k:Nat)(p:Prin):List Value:=[.slice a p.parts.length k,zW p.realm]
def zE(p:Pl)(c:Cert):List Value:=[.int .i64 c.serial,.slice p.a1 c.issuer.parts.length p.k1,zW c.issuer.realm,.slice p.a2 c.subject.parts.length p.k2,zW c.subject.realm,.int .i64 c.fr,.int .i64 c.til,.bool c.auth,.int .i64 c.group,.slice p.a3 c.pub.length p.k3,.slice p.a4 c.sig.length p.k4]
structure CertAt(w:World)(p:Pl)(c:Cert):Prop where
 iss:PrinIn w (za1 p.a1 p.k1 c.issuer) c.issuer
 sub:PrinIn w (za1 p.a2 p.k2 c.subject) c.subject
 pub:(⟨p.a3,c.pub.length,p.k3,c.pub⟩:Bs).ok w
 sig:(⟨p.a4,c.sig.length,p.k4,c.sig⟩:Bs).ok w
 rng:((Lit.int .i64 c.serial).wf=true/\(Lit.int .i64 c.fr).wf=true/\(Lit.int .i64 c.til).wf=true/\(Lit.int .i64 c.group).wf=true)
theorem CertAt.keep{w w':World}{p:Pl}{c:Cert}(h:CertAt w p c)(hk:Keep No w w'):CertAt w' p c:=⟨h.iss.keep hk,h.sub.keep hk,h.pub.keep hk,h.sig.keep hk,h.rng⟩
theorem BytIn.bs{w:World}{v:Value}{l:List UInt8}(h:BytIn w v l):∃a c,v= .slice a l.length c/\(⟨a,l.length,c,l⟩:Bs).ok w:=by
 obtain⟨a,c,j,m,A,q,r⟩:=h;exact⟨a,c,j,rfl,m,q,r⟩
theorem CertIn.at{w:World}{C:List Value}{c:Cert}(h:CertIn w C c):∃p,C=zE p c/\CertAt w p c:=by
 obtain⟨⟨I,S,K,L,rfl,q,r,G,J⟩,H⟩:=h;obtain⟨⟨a1,A,rfl,_⟩,_⟩:=id q;obtain⟨⟨a2,B,rfl,_⟩,_⟩:=id r;obtain⟨a3,E,rfl,j⟩:=G.bs;obtain⟨a4,F,rfl,m⟩:=J.bs;exact⟨⟨a1,A,a2,B,a3,E,a4,F⟩,rfl,q,r,j,m,H⟩
def zdH(t:Int):Bool:=decide (0<=t)&&decide (t<=1099511627776)
structure Cert.fine(c:Cert):Prop where
 i:c.issuer.parts.length<1000000/\c.issuer.realm.length<1000000000/\∀x∈c.issuer.parts,x.length<1000000000
 s:c.subject.parts.length<1000000/\c.subject.realm.length<1000000000/\∀x∈c.subject.parts,x.length<1000000000
theorem Cert.ok_prog(sv:Int->List UInt8->Bool)(c:Cert):c.ok sv=(decide (0<=c.serial)&&decide (c.serial<=4611686018427387904)&&c.issuer.ok&&c.subject.ok&&zdH c.fr&&zdH c.til&&decide (c.fr<=c.til)&&decide (c.sig.length<=192)&&sv c.group c.pub):=by
 rw[CO];simp only[Cert.ok,zdH,A5,decide_eq_true_eq];constructor
 ·rintro⟨⟨⟨⟨⟨⟨⟨⟨j,m⟩,q⟩,r⟩,w⟩,A⟩,B⟩,E⟩,F⟩;exact⟨⟨⟨⟨⟨⟨⟨⟨j,m⟩,q⟩,r⟩,w,by omega⟩,by omega,B⟩,A⟩,E⟩,F⟩
 ·rintro⟨⟨⟨⟨⟨⟨⟨⟨j,m⟩,q⟩,r⟩,w,_⟩,_,B⟩,A⟩,E⟩,F⟩;exact⟨⟨⟨⟨⟨⟨⟨⟨j,m⟩,q⟩,r⟩,w⟩,A⟩,B⟩,E⟩,F⟩
end Go.Ct
namespace Go.Proofs.YtdnlngbjpdbffaaGreatDoor
open Go Go.Sy Go.Ct Go.Nt Go.RowKit
attribute [local irreducible] Sy SyL SyX SyC SyF Sy.Fn callFunc
def svK(z:Int)(l:List UInt8):Bool:=decide ((gel z l).2=0)
theorem svK_law:KeyLaw svK:=by
 have key:∀g p,svK g p=true->(1<=g/\g<=4)/\p.length<=96:=λg p h=>by
  have j:=zj2 (of_decide_eq_true h);refine⟨j.1,?_⟩;rw[j.2.1];have:=zf2 g;unfold zbd at this;rwa[if_pos j.1] at this
 exact⟨λg p h=>by have:=key g p h;omega,λg p h=>by have:=key g p h;omega,λg p h=>by have:=key g p h;omega⟩
theorem zp3(t:Int)(w:World):q_G 140 [.int .i64 t,.int .i64 t,.int .i64 0] w (.bool (zdH t)):=by
 refine zz Tryz.func140 Tryz.ntmps140 ?_;have r:=λj=>zqR t j;have A:=λj=>zrv 0 j;have h0:=λj=>zia 0 0 0 j;rw[show btw t 0 1099511627776=zdH t from rfl] at r;rw[show btw 0 0 86400=true from rfl] at A;rw[show btw 0 0 0=true from rfl] at h0;have m:=λj b (h:j.rangeAt b 0 [.bool (zdH t),.bool (zdH t),.bool true])=>zvE b 3 [zdH t,zdH t,true] j rfl q_e h;have q:IntKind.i64.wrap (t-t)=0:=by rw[Int.sub_self];rfl
 generalize zdH t=u at*;have e: [u,u,true].all id=u:=by cases u <;> rfl
 rw[e] at m;cases u;all_goals repeat' (first|refine s_0 ?_|refine q_k 0 ?_|refine q_k 1 ?_;refine q_v (za (hc:=q_c r)) ?_;refine zf ?_;refine q_v (za (hc:=q_c r)) ?_;refine zf ?_;refine q_v (za (hc:=q_c A)) ?_;(refine q_s zD ?_;rintro _ _ ⟨B,rfl,rfl⟩);refine q_v (za (hc:=λj X F E=>m j B (zq (E.has q_h) Em))) ?_;refine zf ?_;(first|refine q_v (zab (hr:=q)) ?_|skip|fail);(try refine zf ?_);(first|refine zI ?_|skip|fail);(try refine zf ?_);(first|refine q_v (za (hc:=q_c h0)) ?_|skip|fail);(try refine zf ?_))
 all_goals exact q_r
theorem zjO(t:Int)(w:World):q_G 58 [.int .i64 t] w (.bool (zdH t)):=by
 refine zz Tryz.func58 Tryz.ntmps58 ?_;repeat' (first|refine s_0 ?_|refine q_k 0 ?_|refine q_k 1 ?_;refine q_v (za (hc:=λ_ _ _ _=>(zp3 t _))) ?_;refine zf ?_)
 exact q_r
theorem zez(p:Pl)(c:Cert)(w:World)(R:GT w)(h:CertAt w p c)(A:c.fine):q_G 34 [.agg (zE p c).toArray] w (.bool (c.ok svK)):=by
 refine zz Tryz.func34 Tryz.ntmps34 ?_;have T:=λj (F:Keep No w j)=>zfF _ _ j (h.iss.keep F) A.i.1 A.i.2.1 A.i.2.2;have U:=λj (F:Keep No w j)=>zfF _ _ j (h.sub.keep F) A.s.1 A.s.2.1 A.s.2.2;have V:=λj=>zjO c.fr j;have W:=λj=>zjO c.til j;have S:=λj (F:Keep No w j)=>zjS c.group p.a3 c.pub.length p.k3 c.pub j (R.to F) rfl h.pub.cap (h.pub.keep F).sla;rw[show decide ((gel c.group c.pub).2=0)=svK c.group c.pub from rfl] at S;rw[Cert.ok_prog];have g4:decide ((c.sig.length:Int)<=192)=decide (c.sig.length<=192):=decide_eq_decide.2 q_o;unfold zE za1 at*;clear h A R;obtain⟨serial,⟨H,I⟩,⟨J,K⟩,fr,til,auth,group,pub,sig⟩:=c;dsimp only at*;generalize P:decide (fr<=til)=M,svK group pub=X,decide (sig.length<=192)=Q,zdH til=L,zdH fr=G,Prin.ok ⟨J,K⟩=E,Prin.ok ⟨H,I⟩=r,O:decide (serial<=4611686018427387904)=q,N:decide (0<=serial)=m at*;have hc:m=false\/(m=true/\q=false)\/(m=true/\q=true/\r=false)\/(m=true/\q=true/\r=true/\E=false)\/(m=true/\q=true/\r=true/\E=true/\G=false)\/(m=true/\q=true/\r=true/\E=true/\G=true/\L=false)\/(m=true/\q=true/\r=true/\E=true/\G=true/\L=true/\M=false)\/(m=true/\q=true/\r=true/\E=true/\G=true/\L=true/\M=true/\Q=false)\/(m=true/\q=true/\r=true/\E=true/\G=true/\L=true/\M=true/\Q=true):=by
  cases m <;> cases q <;> cases r <;> cases E <;> cases G <;> cases L <;> cases M <;> cases Q <;> simp
 rcases hc with rfl|⟨rfl,rfl⟩|⟨rfl,rfl,rfl⟩|⟨rfl,rfl,rfl,rfl⟩|⟨rfl,rfl,rfl,rfl,rfl⟩|⟨rfl,rfl,rfl,rfl,rfl,rfl⟩|⟨rfl,rfl,rfl,rfl,rfl,rfl,rfl⟩|⟨rfl,rfl,rfl,rfl,rfl,rfl,rfl,rfl⟩|⟨rfl,rfl,rfl,rfl,rfl,rfl,rfl,rfl⟩;all_goals repeat' (first|refine s_0 ?_|refine ze 0 ?_;refine z9 ?_;intro _|refine q_k 1 ?_;refine zl ?_;refine q_x (zaP (hr:=N)) ?_;(first|refine zl ?_|skip|fail);(first|refine q_v (zaP (hr:=O)) ?_|refine zt rfl rfl rfl ?_|skip);(try refine zf ?_);(first|refine q_v (zd (B:=[.slice p.a1 H.length p.k1,zW I]) (hv:=FB rfl)) ?_|skip|fail);(first|refine q_v (za (hc:=zr T)) ?_|refine zt rfl rfl rfl ?_|skip);(try refine zf ?_);(first|refine q_v (zd (B:=[.slice p.a2 J.length p.k2,zW K]) (hv:=FB rfl)) ?_|skip|fail);(first|refine q_v (za (hc:=zr U)) ?_|refine zt rfl rfl rfl ?_|skip);(try refine zf ?_);(first|refine zl ?_|skip|fail);(first|refine q_v (za (hc:=q_c V)) ?_|refine zt rfl rfl rfl ?_|skip);(try refine zf ?_);(first|refine zl ?_|skip|fail);(first|refine q_v (za (hc:=q_c W)) ?_|refine zt rfl rfl rfl ?_|skip);(try refine zf ?_);(first|refine zl ?_|skip|fail);(try refine zf ?_);(first|refine zl ?_|skip|fail);(first|refine q_v (zaP (hr:=P)) ?_|refine zt rfl rfl rfl ?_|skip);(try refine zf ?_);(first|refine zl ?_|skip|fail);(try refine zf ?_);(first|refine q_v (zaP (hr:=g4)) ?_|skip|fail);(try refine zf ?_);(first|refine zl ?_|skip|fail);(try refine zf ?_);(first|refine zl ?_|skip|fail);(first|refine q_v (za (hc:=zr S)) ?_|refine zt rfl rfl rfl ?_|skip);(try refine zf ?_))
 all_goals exact q_r
end Go.Proofs.YtdnlngbjpdbffaaGreatDoor
namespace Go.Ct
theorem zwT{v:Int}(h:0<=v):tlv 2 (beZ v (zba v))=zbv v.toNat:=by
 obtain⟨n,rfl⟩:∃n:Nat,v=(n:Int):=⟨v.toNat,by omega⟩;rw[zlD,ziT];rfl
theorem Prin.der_pos(p:Prin):0<p.der.length:=by have:=(zae 0x30 [zap 0 (zdt (p.parts.map zav)),zap 1 (zav p.realm)].flatten).1;show 0<(tlv 0x30 _).length;omega
def FX:=@Prin.der_pos
end Go.Ct
namespace Go.Proofs.YtdnlngbjpdbffaaGreatDoor
open Go Go.Sy Go.Ct Go.Nt Go.RowKit
attribute [local irreducible] Sy SyL SyX SyC SyF Sy.Fn callFunc
theorem zni(v:Int)(w:World)(h1:0<=v)(h2:v<=4611686018427387904):Sy.Fn Tryz.prog 111 [.int .i64 v] w No (zbA (zbv v.toNat)):=by
 have:=zo2 v w (by unfold zbQ;omega) h2;rwa[zwT h1] at this
theorem znT(C:List Value)(p:Prin)(w:World)(h:PrinIn w C p)(j:p.ok=true):Sy.Fn Tryz.prog 112 [.agg C.toArray] w No (zbA p.der):=by
 have r:=λm (q:Keep No w m)=>zu2 C p m (h.keep q) j;obtain⟨⟨a1,B,rfl,G,F,s1,H⟩,-⟩:=h;refine zz Tryz.func112 Tryz.ntmps112 ?_;repeat' (first|refine s_0 ?_|refine ze 0 ?_;refine z9 ?_;intro _|refine ze 1 ?_;refine zl ?_;(refine q_s (zn (hc:=zr r)) ?_;rintro _ _ ⟨R,rfl,A,E,rfl,rfl⟩);refine zf ?_|refine q_k 2 ?_)
 exact q_r
theorem ziY(p:Pl)(c:Cert)(w:World)(h:CertAt w p c)(r:c.small):Sy.Fn Tryz.prog 50 [.agg (zE p c).toArray] w No (zbA c.body):=by
 refine zz Tryz.func50 Tryz.ntmps50 ?_;have h0:=λj=>zni c.serial j r.s0 r.s1;have h1:=λj (q:Keep No w j)=>znT _ _ j (h.iss.keep q) r.iss;have h2:=λj (q:Keep No w j)=>znT _ _ j (h.sub.keep q) r.sub;have h3:=λj=>zng c.fr j r.f0 r.f1;have h4:=λj=>zng c.til j r.t0 r.t1;have h5:=λj=>zsE c.auth j;have h6:=λj=>zni c.group j r.g0 r.g1;have a8:=r.pub;have h7:=λj (q:Keep No w j)=>zoQ ⟨p.a3,c.pub.length,p.k3,c.pub⟩ j (h.pub.keep q) (by show c.pub.length<16777216;omega);have p0:0<(zbv c.serial.toNat).length:=zbJ;have p1:=FX c.issuer;have p2:=FX c.subject;have p3:0<(zbC c.fr.toNat).length:=zbJ;have p4:0<(zbC c.til.toNat).length:=zbJ;have p5:0<(zdc c.auth).length:=zbJ;have p6:0<(zbv c.group.toNat).length:=zbJ;have p7:0<(zbz c.pub).length:=zbJ;have m0:=(zel (v:=c.serial.toNat) (by have:=r.s1;omega)).2;have m1:=F6 r.iss;have m2:=F6 r.sub;have m3:(zbC c.fr.toNat).length<=11:=zcv (by rw[zbw];decide);have m4:(zbC c.til.toNat).length<=11:=zcv (by rw[zbw];decide);have m5:(zdc c.auth).length<=6:=zcv (A8 1);have m6:=(zel (v:=c.group.toNat) (by have:=r.g1;omega)).2;have m7:(zbz c.pub).length<=c.pub.length+5:=zcv (A8 _);obtain⟨A,W⟩:∃G,G=zap 0 (zbv c.serial.toNat):=⟨_,rfl⟩;obtain⟨E,Y⟩:∃G,G=zap 1 (c.issuer.der):=⟨_,rfl⟩;obtain⟨F,Z⟩:∃G,G=zap 2 (c.subject.der):=⟨_,rfl⟩;obtain⟨H,e3⟩:∃G,G=zap 3 (zbC c.fr.toNat):=⟨_,rfl⟩;obtain⟨I,e4⟩:∃G,G=zap 4 (zbC c.til.toNat):=⟨_,rfl⟩;obtain⟨J,e5⟩:∃G,G=zap 5 (zdc c.auth):=⟨_,rfl⟩;obtain⟨K,e6⟩:∃G,G=zap 6 (zbv c.group.toNat):=⟨_,rfl⟩;obtain⟨L,e7⟩:∃G,G=zap 7 (zbz c.pub):=⟨_,rfl⟩;have M:c.body=tlv 0x30 (A++(E++(F++(H++(I++(J++(K++L))))))):=by rw[W,Y,Z,e3,e4,e5,e6,e7];simp[Cert.body,zdt]
 generalize c.body=BD at*;unfold zE za1 at*;clear h r;obtain⟨serial,iss,sub,fr,til,auth,group,pub,sig⟩:=c;dsimp only at*;generalize zbz pub=V,zbv group.toNat=U,zdc auth=T,zbC til.toNat=S,zbC fr.toNat=Q,sub.der=P,iss.der=O,zbv serial.toNat=N at*;have l0:A.length<=N.length+5:=by rw[W];exact(zae (0xa0+0) N).2
 have l1:E.length<=O.length+5:=by rw[Y];exact(zae (0xa0+1) O).2
 have l2:F.length<=P.length+5:=by rw[Z];exact(zae (0xa0+2) P).2
 have l3:H.length<=Q.length+5:=by rw[e3];exact(zae (0xa0+3) Q).2
 have l4:I.length<=S.length+5:=by rw[e4];exact(zae (0xa0+4) S).2
 have l5:J.length<=T.length+5:=by rw[e5];exact(zae (0xa0+5) T).2
 have l6:K.length<=U.length+5:=by rw[e6];exact(zae (0xa0+6) U).2
 have l7:L.length<=V.length+5:=by rw[e7];exact(zae (0xa0+7) V).2
 repeat' (first|refine s_0 ?_|refine ze 0 ?_;refine z9 ?_;intro _)
 (refine zdq (id:=1) [0,1,4,5,8,9,12,13,16,17,20,21,24,25,28,29] [2,3,6,7,10,11,14,15,18,19,22,23,26,27,30,31,32,33,34] mixed ?_ ?_;kernel_rfl;refine yfv zP (k:=?_);refine yfv zM (k:=?_);refine yfv zP (k:=?_);refine yfv (zd (B:=[.slice p.a1 iss.parts.length p.k1,zW iss.realm]) (hv:=FB rfl)) (k:=?_);refine yfv zP (k:=?_);refine yfv (zd (B:=[.slice p.a2 sub.parts.length p.k2,zW sub.realm]) (hv:=FB rfl)) (k:=?_);refine yfv zP (k:=?_);refine yfv zM (k:=?_);refine yfv zP (k:=?_);refine yfv zM (k:=?_);refine yfv zP (k:=?_);refine yfv zM (k:=?_);refine yfv zP (k:=?_);refine yfv zM (k:=?_);refine yfv zP (k:=?_);refine yfv zM (k:=?_);refine yf0 ?_;try refine yc0 (k:=?_))
 refine ycs (zn (hc:=λj X q m=>h0 j)) (k:=?_);rintro _ _ ⟨R,rfl,a0,c0,rfl,rfl⟩;refine ycs (zn (hc:=λj X q m=>zcl 0 a0 N.length c0 N A j q_e (zau m rfl q_h) p0 q_o W)) (k:=?_);rintro _ _ ⟨R,rfl,b0,d0,rfl,rfl⟩;refine ycs (zn (hc:=zr h1)) (k:=?_);rintro _ _ ⟨R,rfl,a1,c1,rfl,rfl⟩;refine ycs (zn (hc:=λj X q m=>zcl 1 a1 O.length c1 O E j q_e (zau m rfl q_h) p1 q_o Y)) (k:=?_);rintro _ _ ⟨R,rfl,b1,d1,rfl,rfl⟩;refine ycs (zn (hc:=zr h2)) (k:=?_);rintro _ _ ⟨R,rfl,a2,c2,rfl,rfl⟩;refine ycs (zn (hc:=λj X q m=>zcl 2 a2 P.length c2 P F j q_e (zau m rfl q_h) p2 q_o Z)) (k:=?_);rintro _ _ ⟨R,rfl,b2,d2,rfl,rfl⟩;refine ycs (zn (hc:=λj X q m=>h3 j)) (k:=?_);rintro _ _ ⟨R,rfl,a3,c3,rfl,rfl⟩;refine ycs (zn (hc:=λj X q m=>zcl 3 a3 Q.length c3 Q H j q_e (zau m rfl q_h) p3 q_o e3)) (k:=?_);rintro _ _ ⟨R,rfl,b3,d3,rfl,rfl⟩;refine ycs (zn (hc:=λj X q m=>h4 j)) (k:=?_);rintro _ _ ⟨R,rfl,a4,c4,rfl,rfl⟩;refine ycs (zn (hc:=λj X q m=>zcl 4 a4 S.length c4 S I j q_e (zau m rfl q_h) p4 q_o e4)) (k:=?_);rintro _ _ ⟨R,rfl,b4,d4,rfl,rfl⟩;refine ycs (zn (hc:=λj X q m=>h5 j)) (k:=?_);rintro _ _ ⟨R,rfl,a5,c5,rfl,rfl⟩;refine ycs (zn (hc:=λj X q m=>zcl 5 a5 T.length c5 T J j q_e (zau m rfl q_h) p5 q_o e5)) (k:=?_);rintro _ _ ⟨R,rfl,b5,d5,rfl,rfl⟩;refine ycs (zn (hc:=λj X q m=>h6 j)) (k:=?_);rintro _ _ ⟨R,rfl,a6,c6,rfl,rfl⟩;refine ycs (zn (hc:=λj X q m=>zcl 6 a6 U.length c6 U K j q_e (zau m rfl q_h) p6 q_o e6)) (k:=?_);rintro _ _ ⟨R,rfl,b6,d6,rfl,rfl⟩;refine ycs (zn (hc:=zr h7)) (k:=?_);rintro _ _ ⟨R,rfl,a7,c7,rfl,rfl⟩;refine ycs (zn (hc:=λj X q m=>zcl 7 a7 V.length c7 V L j q_e (zau m rfl q_h) p7 q_o e7)) (k:=?_);rintro _ _ ⟨R,rfl,b7,d7,rfl,rfl⟩;refine ycs zD (k:=?_);rintro _ _ ⟨bL,rfl,rfl⟩;refine ycs (zn (hc:=λj X q m=>zjA bL 8 [⟨b0,A.length,d0,A⟩,⟨b1,E.length,d1,E⟩,⟨b2,F.length,d2,F⟩,⟨b3,H.length,d3,H⟩,⟨b4,I.length,d4,I⟩,⟨b5,J.length,d5,J⟩,⟨b6,K.length,d6,K⟩,⟨b7,L.length,d7,L⟩] j rfl q_e (zq (m.has q_h) Em) (λs r=>by
   simp only[AQ,BB,or_false] at r;rcases r with rfl|rfl|rfl|rfl|rfl|rfl|rfl|rfl
   ·exact zau m rfl q_h
   ·exact zau m rfl q_h
   ·exact zau m rfl q_h
   ·exact zau m rfl q_h
   ·exact zau m rfl q_h
   ·exact zau m rfl q_h
   ·exact zau m rfl q_h
   ·exact zau m rfl q_h) (by rw[show Bs.cat [⟨b0,A.length,d0,A⟩,⟨b1,E.length,d1,E⟩,⟨b2,F.length,d2,F⟩,⟨b3,H.length,d3,H⟩,⟨b4,I.length,d4,I⟩,⟨b5,J.length,d5,J⟩,⟨b6,K.length,d6,K⟩,⟨b7,L.length,d7,L⟩]=A++(E++(F++(H++(I++(J++(K++L)))))) by simp[Bs.cat]];simp only[A3];omega) BD (by rw[M];simp[Bs.cat]))) (k:=?_)
 rintro _ _ ⟨R,rfl,aW,cW,rfl,rfl⟩;refine ycv zbl (k:=?_);refine yc0 (k:=?_);repeat' (first|refine s_0 ?_|fail)
 exact zaq rfl (zj rfl) (Ew Ej rfl El) ⟨_,_,rfl,rfl⟩
end Go.Proofs.YtdnlngbjpdbffaaGreatDoor
