/- Lemmas of this proof. -/
import Derived.Test.YtdnlngbjpdbffaaGreatDoorWJ30
set_option maxHeartbeats 4000000
set_option maxRecDepth 10000
set_option linter.all false
namespace Go.Proofs.YtdnlngbjpdbffaaGreatDoor
open Go Go.Sy Go.Ct Go.RowKit
attribute [local irreducible] Sy SyL SyX Sy.Fn callFunc
theorem zeU(t b:Nat)(s:Bs)(w:World)(m:t<256)(j:s.ok w)(h2:w.rangeAt b 0 [s.val])(hb:s.l.length<16777216):
  Sy.Fn Tryz.prog 172 [.int .u8 (t:Int),.slice (some ⟨b,0,none⟩) 1 1] w No (zbG 5 (tlv t s.l).length ((tlv t s.l).map v8)):=by
 have h:=znX t (some ⟨b,0,none⟩) 1 1 [s] w m rfl q_e q_e (.inr ⟨b,0,rfl,h2⟩) (λx q=>by rw[AE.1 q];exact j) (by rw[Ct.cat1];exact hb);rwa[Ct.cat1] at h
theorem zp4(v:Int)(w:World)(h1: -zbV<=v)(h2:v<=zbV):Sy.Fn Tryz.prog 111 [.int .i64 v] w No (zbG 5 (tlv 2 (beZ v (zbg v))).length ((tlv 2 (beZ v (zbg v))).map v8)):=by
 have F:=zl4 h1 h2;unfold zbV at h1 h2;refine zt Tryz.func111 Tryz.ntmps111 ?_;have I:=λm=>zqt v (zbg v) m F;have j:(beZ v (zbg v)).length=zbg v:=zjz v _;repeat' (first|refine s_t ?_|refine zD [0,3,4] ?_;refine zb ?_|refine q_k 1 ?_;refine zag ?_;refine zb ?_;refine q_x zH ?_)
 refine zN (γ:=Nat×Int) (λg=>[(0,.int .i64 v),(3,.int .i64 (g.1:Int)),(4,.int .i64 g.2)]) (λ_=>[]) (λg=>g.1+zbg g.2=zbg v+1/\ -4611686018427387904<=g.2/\g.2<=4611686018427387904) (λg=>zbg g.2) (1,v) ⟨by dsimp only;omega,h1,h2⟩ ?_ ?_ ?_
 ·exact q_h
 ·exact q_h
 rintro⟨s,r⟩ ⟨B,J,K⟩;dsimp only at B J K ⊢;by_cases hr: -128<=r/\r<=127
 ·rw[zkn hr] at B;obtain rfl:s=zbg v:=q_o;repeat' (first|refine s_0 ?_|refine q_k 5 ?_;refine zag ?_;refine zb ?_;refine q_x zH ?_|refine q_k 8 ?_;(refine q_s (zi (hc:=λm X H q=>I m)) ?_;rintro _ _ ⟨R,rfl,E,rfl,rfl⟩);(refine q_s zz ?_;rintro _ _ ⟨C,rfl,rfl⟩);(refine q_s (zi (hc:=λm X H q=>zeU 2 C ⟨some ⟨E,0,none⟩,zbg v,zbg v,beZ v (zbg v)⟩ m q_e (zjL q j q_h) (zp (q.has q_h) Et) (by show(beZ v (zbg v)).length<16777216;omega))) ?_;rintro _ _ ⟨R,rfl,L,M,rfl,rfl⟩);refine zb ?_)
  exact q_r
 ·have G:=zn6 hr;have g1:IntKind.i64.wrap ((s:Int)+1)=((s+1:Nat):Int):=q_w;have g2:∀A,Op.shift .shr .i64 r A 8=pure (.int .i64 (r/256)):=λA=>zzd r 8 A q_e;have hc:r < -128\/(-128<=r/\127<r):=q_o;rcases hc with h|⟨h,N⟩
  all_goals repeat' (first|refine s_t ?_|refine q_k 5 ?_;refine zag ?_;refine zb ?_;(first|refine q_v zH ?_|skip|fail);(try refine zb ?_)|refine q_k 7 ?_;refine q_x (zF (hr:=g1)) ?_|refine q_k 6 ?_;refine q_x (zce (hr:=g2 _)) ?_)
  all_goals refine zE (s+1,r/256) ⟨by dsimp only;omega,by dsimp only;omega,by dsimp only;omega⟩ ?_ ?_ ?_
  all_goals first|show zbg (r/256)<zbg r;omega|exact Sub.go|exact q_h
theorem zop(v:Int)(w:World)(h1:0<=v)(h2:v<=1099511627776):Sy.Fn Tryz.prog 113 [.int .i64 v] w No (zbG 5 (zbq v.toNat).length ((zbq v.toNat).map v8)):=by
 refine zt Tryz.func113 Tryz.ntmps113 ?_;have r:=λm=>zqt v 6 m q_e;have e:beZ v 6=beN v.toNat 6:=by rw[<-zjD,AT h1]
 rw[e] at r;have j:(beN v.toNat 6).length=6:=zbp _ _;unfold zbq;repeat' (first|refine s_0 ?_|refine q_k 0 ?_|refine q_k 1 ?_;refine zag ?_;refine zb ?_;refine q_x zH ?_|refine q_k 3 ?_;(refine q_s (zi (hc:=λm X C q=>r m)) ?_;rintro _ _ ⟨R,rfl,B,rfl,rfl⟩);(refine q_s zz ?_;rintro _ _ ⟨A,rfl,rfl⟩);(refine q_s (zi (hc:=λm X C q=>zeU 24 A ⟨some ⟨B,0,none⟩,6,6,beN v.toNat 6⟩ m q_e (zjL q j q_h) (zp (q.has q_h) Et) (by show(beN v.toNat 6).length<16777216;omega))) ?_;rintro _ _ ⟨R,rfl,E,F,rfl,rfl⟩);refine zb ?_)
 exact q_r
theorem zuk(v:Bool)(w:World):Sy.Fn Tryz.prog 114 [.bool v] w No (zbG 5 (zcF v).length ((zcF v).map v8)):=by
 refine zt Tryz.func114 Tryz.ntmps114 ?_;unfold zcF;have C: [Value.int .u8 0]= [(0:UInt8)].map v8:=rfl;have E: [Value.int .u8 255]= [(255:UInt8)].map v8:=rfl;cases v
 ·rw[show(if false=true then (255:UInt8) else 0)=0 from rfl];repeat' (first|refine s_0 ?_|refine zD [0,1] ?_;refine zb ?_|refine zf 3 ?_;(refine q_s zz ?_;rintro _ _ ⟨j,rfl,rfl⟩);(refine q_s zz ?_;rintro _ _ ⟨j,rfl,rfl⟩))
  rename_i q;rw[C];refine q_s (zi (hc:=λr X F m=>zeU 1 j ⟨some ⟨q,0,none⟩,1,1,[0]⟩ r q_e (zjL m rfl q_h) (zp (m.has q_h) Et) (by show 1<16777216;decide))) ?_;rintro _ _ ⟨R,rfl,A,B,rfl,rfl⟩;repeat' (first|refine s_0 ?_|(refine zy ?_;first|refine zw ?_|fail)|fail)
  exact q_r
 ·rw[show(if true=true then (255:UInt8) else 0)=255 from rfl];repeat' (first|refine s_0 ?_|refine zD [0,1] ?_;refine zb ?_|refine zf 2 ?_;(refine q_s zz ?_;rintro _ _ ⟨j,rfl,rfl⟩);(refine q_s zz ?_;rintro _ _ ⟨j,rfl,rfl⟩))
  rename_i q;rw[E];refine q_s (zi (hc:=λr X F m=>zeU 1 j ⟨some ⟨q,0,none⟩,1,1,[255]⟩ r q_e (zjL m rfl q_h) (zp (m.has q_h) Et) (by show 1<16777216;decide))) ?_;rintro _ _ ⟨R,rfl,A,B,rfl,rfl⟩;repeat' (first|refine s_0 ?_|(refine zy ?_;first|refine zw ?_|fail)|fail)
  exact q_r
theorem zp1(s:Bs)(w:World)(r:s.ok w)(hb:s.l.length<16777216):Sy.Fn Tryz.prog 115 [s.val] w No (zbG 5 (za8 s.l).length ((za8 s.l).map v8)):=by
 refine zt Tryz.func115 Tryz.ntmps115 ?_;unfold za8;repeat' (first|refine s_0 ?_|refine q_k 0 ?_|refine q_k 1 ?_;(refine q_s zz ?_;rintro _ _ ⟨j,rfl,rfl⟩);(refine q_s (zi (hc:=λA X q m=>zeU 4 j s A q_e (r.keep q) (zp (m.has q_h) Et) hb)) ?_;rintro _ _ ⟨R,rfl,B,C,rfl,rfl⟩);refine zb ?_)
 exact q_r
theorem zqr(l:List UInt8)(w:World)(hb:l.length<16777216):Sy.Fn Tryz.prog 253 [zT l] w No (zbG 5 (zav l).length ((zav l).map v8)):=by
 refine zt Tryz.func253 Tryz.ntmps253 ?_;unfold zav zT;repeat' (first|refine s_0 ?_|refine zD [0,1] ?_;refine zb ?_|refine q_s (zj3 (l:=l)) ?_;rintro _ _ ⟨q,J,rfl,rfl⟩|(refine zy ?_;first|refine q_s zz ?_;rintro _ _ ⟨m,rfl,rfl⟩|refine q_s (zi (hc:=λA X r j=>zeU 27 m ⟨some ⟨q,0,none⟩,l.length,l.length+J.length,l⟩ A q_e (zv3 r j rfl (EC _ _) (F4 F1)) (zp (j.has q_h) Et) hb)) ?_;rintro _ _ ⟨R,rfl,B,C,rfl,rfl⟩|refine zw ?_|fail)|fail)
 exact q_r
theorem zp9(a:Option Addr)(m d:Nat)(xs:List Bs)(w:World)(hm:xs.length=m)(j:m<1000)(q:m<=d)(A:SlA w a (xs.map Bs.val))(r:∀s∈xs,s.ok w)(hb:(Bs.cat xs).length<16777216):
  Sy.Fn Tryz.prog 84 [.slice a m d] w No (zbG 5 (tlv 0x30 (Bs.cat xs)).length ((tlv 0x30 (Bs.cat xs)).map v8)):=by
 refine zt Tryz.func84 Tryz.ntmps84 ?_;have E:=λC (B:Keep No w C)=>znX 0x30 a m d xs C q_e hm j q ((Fc A).to (Mi:=No) B (λ_ h=> .inr h)).sla (λs F=>(r s F).keep B) hb;repeat' (first|refine s_0 ?_|refine q_k 0 ?_|refine q_k 1 ?_;(refine q_s (zi (hc:=zu E)) ?_;rintro _ _ ⟨R,rfl,G,H,rfl,rfl⟩);refine zb ?_)
 exact q_r
theorem zup(t n:Nat)(s:Bs)(w:World)(hn:n<=30)(E:t+n<256)(r:s.ok w)(h0:0<s.l.length)(hb:s.l.length<16777216):Sy.Fn Tryz.prog 193 [.int .i64 (t:Int),.int .i64 (n:Int),s.val] w No (zbG 5 (tlv (t+n) s.l).length ((tlv (t+n) s.l).map v8)):=by
 refine zt Tryz.func193 Tryz.ntmps193 ?_;have g1:IntKind.i64.wrap ((t:Int)+(n:Int))=((t+n:Nat):Int):=q_w;have g2:IntKind.u8.wrap ((t+n:Nat):Int)=((t+n:Nat):Int):=IntWalk.u8_in _ q_o;have H:=r.len;have C:=λj (m:Keep No w j)=>r.keep m;have q:s.val= .slice s.a s.n s.c:=rfl;rw[q];repeat' (first|refine s_0 ?_|refine q_k 0 ?_|refine q_k 1 ?_;refine zag ?_;refine zb ?_;refine q_x zH ?_;refine zaD ?_;refine zb ?_|refine q_k 3 ?_;refine q_v (zF (hr:=g1)) ?_;refine q_x (zam (hr:=g2)) ?_;(refine q_s zz ?_;rintro _ _ ⟨A,rfl,rfl⟩);(refine q_s (zi (hc:=λj X m B=>zeU (t+n) A s j E (C j m) (zp (B.has q_h) Et) hb)) ?_;rintro _ _ ⟨R,rfl,F,G,rfl,rfl⟩);refine zb ?_)
 exact q_r
theorem zww(n:Nat)(s:Bs)(w:World)(hn:n<=30)(A:s.ok w)(h0:0<s.l.length)(hb:s.l.length<16777216):Sy.Fn Tryz.prog 110 [.int .i64 (n:Int),s.val] w No (zbG 5 (zaw n s.l).length ((zaw n s.l).map v8)):=by
 refine zt Tryz.func110 Tryz.ntmps110 ?_;have m:=λq (r:Keep No w q)=>zup 0xa0 n s q hn q_o (A.keep r) h0 hb;have j:s.val= .slice s.a s.n s.c:=rfl;rw[j] at m ⊢;unfold zaw;repeat' (first|refine s_0 ?_|refine q_k 0 ?_|refine q_k 1 ?_;(refine q_s (zi (hc:=zu m)) ?_;rintro _ _ ⟨R,rfl,B,C,rfl,rfl⟩);refine zb ?_)
 exact q_r
end Go.Proofs.YtdnlngbjpdbffaaGreatDoor
namespace Go.Ct
open Go Go.Sy
def zo0(E:Nat)(s:Bs):Res:=.row (.slice s.a s.n s.c) E 1 s.n (s.l.map v8)
def zfP(E:Nat)(xs:List Bs):List Res:=xs.map (zo0 E)
theorem zqu{m:Nat}{w:World}{M:Nat->Prop}{E:Nat}{L:List Res}{xs:List Bs}(hh:Holds m M L w)(q:∀s∈xs,s.l.length=s.n)(hL:∀r∈zfP E xs,r∈L):∀s∈xs,s.ok w:=λs j=>
 zaz (E:=E) hh (q s j) (hL _ (C4.2 ⟨s,j,rfl⟩))
theorem zpE(xs:List Bs):Bs.cat xs=(xs.map (·.l)).flatten:=by unfold Bs.cat;rw[List.flatMap_def]
theorem zn5{l:List UInt8}{k:Nat}(h:l.length<=k):(zav l).length<=k+5:=zco h
theorem zp7(xs:List Bs)(s:Bs):xs.reverse.map Bs.val++[.slice s.a s.n s.c]=((s::xs).reverse).map Bs.val:=by rw[Cj,Aq];rfl
theorem zvT(xs:List Bs)(s:Bs):((s::xs).reverse).map (·.l)=xs.reverse.map (·.l)++[s.l]:=by rw[Cj,Aq];rfl
end Go.Ct
namespace Go.Proofs.YtdnlngbjpdbffaaGreatDoor
open Go Go.Sy Go.Ct Go.RowKit
attribute [local irreducible] Sy SyL SyX SyC SyF Sy.Fn callFunc
abbrev zbi(l:List UInt8):Value->List Res->Prop:=zbG 5 l.length (l.map v8)
theorem zkt(b m:Nat)(xs:List Bs)(w:World)(hm:xs.length=m)(j:m<1000)(h:w.rangeAt b 0 (xs.map Bs.val))(q:∀s∈xs,s.ok w)(hb:(Bs.cat xs).length<16777216)(D:List UInt8)(r:D=tlv 0x30 (Bs.cat xs)):
  Sy.Fn Tryz.prog 84 [.slice (some ⟨b,0,none⟩) m m] w No (zbi D):=by
 subst r;exact zp9 (some ⟨b,0,none⟩) m m xs w hm j (A6 _) (.inr ⟨b,0,rfl,h⟩) q hb
theorem zcz(n:Nat)(a:Option Addr)(m c:Nat)(l D:List UInt8)(w:World)(hn:n<=30)(q:(⟨a,m,c,l⟩:Bs).ok w)(h0:0<l.length)(hb:l.length<16777216)(j:D=zaw n l):Sy.Fn Tryz.prog 110 [.int .i64 (n:Int),.slice a m c] w No (zbi D):=by
 subst j;exact zww n ⟨a,m,c,l⟩ w hn q h0 hb
theorem zbC{t:Nat}{l:List UInt8} :0<(tlv t l).length:=by have:=(zX t l).1;omega
theorem zwK(C:List Value)(p:Prin)(w:World)(h:PrinIn w C p)(G:p.ok=true):Sy.Fn Tryz.prog 195 [.agg C.toArray] w No (λv R=>∃a c,v= .tuple #[.slice a p.der.length c,.int .i64 0]/\R= [.row (.slice a p.der.length c) 5 1 p.der.length (p.der.map v8)]):=by
 obtain⟨b8,I,V⟩:=F6 G;have hv:=λm (K:Keep No w m)=>zge C p m (h.keep K) q_o q_o (λx Y=>by have:=I x Y;omega);rw[G] at hv;obtain⟨⟨a1,c1,rfl,n1,m1,s1,z1⟩,-⟩:=h;refine zt Tryz.func195 Tryz.ntmps195 ?_;have W:=λx (Y:x∈p.parts) m=>zqr x m (by have:=I x Y;omega);have L:=λm=>zqr p.realm m q_o;have b0:=FV G;have b7:=F8 G;have H:p.der=tlv 0x30 (zaw 0 (tlv 0x30 (p.parts.map zav).flatten)++zaw 1 (zav p.realm)):=by simp[Prin.der,zdv]
 have b9:=zn5 V;unfold zT at*;generalize p.der=D at*;obtain⟨parts,realm⟩:=p;dsimp only at*;generalize hn:parts.length=n at*;repeat' (first|refine s_t ?_|refine zf 0 ?_;refine zW ?_;intro _|refine zf 1 ?_;refine zm ?_;refine q_v (za (hc:=zu hv)) ?_;refine zJ ?_|refine q_k 3 ?_|refine q_k 4 ?_;refine zm ?_;refine zb ?_)
 rename_i b1;refine zbz (za3 23 1) ?_;refine zN (γ:=Nat×List Bs×Option Addr×Nat) (λg=>[(1,.pointer (some ⟨b1,0,none⟩)),(11,.slice a1 n c1),(12,.int .i64 (n:Int)),(13,.int .i64 (g.1:Int)),(4,.slice g.2.2.1 g.2.1.length g.2.2.2)])
  (λg=> .row (.slice g.2.2.1 g.2.1.length g.2.2.2) 23 1 g.2.1.length (g.2.1.reverse.map Bs.val):: .blk b1 43 [.slice a1 n c1,.string (str realm)]::zfP 5 g.2.1)
  (λg=>g.1<=n/\g.2.1.reverse.map (·.l)=(parts.take g.1).map zav/\∀s∈g.2.1,s.l.length=s.n) (λg=>n-g.1) (0,[],none,0) ⟨A9 _,rfl,λs F=>by cases F⟩ ?_ ?_ ?_
 ·exact q_h
 ·exact q_h
 rintro⟨i,q,aP,cP⟩ ⟨hi,B,M⟩;dsimp only at hi B M ⊢;have Z:q.length=i:=by have:=congrArg List.length B;simp at this;omega
 by_cases hlt:i<n
 ·obtain⟨bl,ol,rfl,J⟩:=zb2 s1 (i:=i) (by rw[List.length_map];omega);have hc:=J i _ (zcM _ q_o);have g1:decide ((i:Int)<(n:Int))=true:=q_d;have g5:IntKind.i64.wrap ((i:Int)+1)=((i+1:Nat):Int):=q_w;have b2:parts.take (i+1)=parts.take i++[parts[i]]:=zaO q_o;have a9:parts[i]∈parts:=Ad q_o;have Y:=W parts[i] a9;generalize parts[i]=x at*;repeat' (first|refine s_t ?_|refine zf 5 ?_;refine q_v (zo (hr:=g1)) ?_|refine zf 6 ?_;refine q_v (zq (j:=i)) ?_;refine q_x (zn (hv:=hc)) ?_|refine q_k 7 ?_;(refine q_s (zi (hc:=λm X K A=>Y m)) ?_;rintro _ _ ⟨R,rfl,N,O,rfl,rfl⟩);(refine q_s zz ?_;rintro _ _ ⟨_,rfl,rfl⟩);(refine q_s (zaE (hys:=zp7 q ⟨N,(zav x).length,O,zav x⟩) (hkm:=rfl)) ?_;rintro _ _ ⟨rfl,aN,cN,rfl⟩);refine zb ?_)
  refine FE (fr':=[(1,.pointer (some ⟨b1,0,none⟩)),(11,.slice (some ⟨bl,ol,none⟩) n c1),(12,.int .i64 (n:Int)),(13,.int .i64 (i:Int)),(4,.slice aN (q.length+1) cN)]) (L':=.row (.slice aN (q.length+1) cN) 23 1 (q.length+1) ((⟨N,(zav x).length,O,zav x⟩::q).reverse.map Bs.val):: .blk b1 43 [.slice (some ⟨bl,ol,none⟩) n c1,.string (str realm)]::zfP 5 (⟨N,(zav x).length,O,zav x⟩::q)) ?_ q_h ?_;rotate_left
  ·show SubR (_::_::zo0 5 ⟨N,(zav x).length,O,zav x⟩::zfP 5 q) _
   (repeat' (first|exact Er|apply F2;with_reducible (focus ((repeat (first|exact Es|apply Eu));done))|apply F7;(focus ((repeat (first|exact Es|apply Eu));done))|apply F2;(focus ((repeat (first|exact Es|apply Eu));done))|apply F3;(focus ((repeat (first|exact Es|apply Eu));done))|rfl))
   all_goals exact F5 Ex
  repeat' (first|refine zaq ?_|refine zat ?_|refine zf 8 ?_;refine q_x (zF (hr:=g5)) ?_)
  refine zE (i+1,⟨N,(zav x).length,O,zav x⟩::q,aN,cN) ⟨hlt,?_,?_⟩ ?_ ?_ ?_
  ·show((⟨N,(zav x).length,O,zav x⟩::q).reverse).map (·.l)=_;rw[zvT,B,b2,Aq];rfl
  ·intro s F;rcases AS.1 F with rfl|F
   ·rfl
   ·exact M s F
  ·show n-(i+1)<n-i;omega
  ·exact q_h
  ·exact Ex
 obtain rfl:i=n:=q_o;rw[A8 q_o] at B;have T:Bs.cat q.reverse=(parts.map zav).flatten:=by rw[zpE,B]
 have g1:decide ((i:Int)<(i:Int))=false:=q_f;rw[<-T] at b0 H;have hQ:=(zX 0x30 (Bs.cat q.reverse)).2;have b3:=(zX 0xa0 (tlv 0x30 (Bs.cat q.reverse))).2;have b4:=(zX 0xa1 (zav realm)).2;repeat' (first|refine s_0 ?_|refine zf 5 ?_;refine q_v (zo (hr:=g1)) ?_)
 rw[Z]
 (refine zdC (id:=9) [0,3,4] [1,2,5,6,7,8,9,10] mixed ?_ ?_;kernel_rfl;refine yfv zZ (k:=?_);refine yfv zM (k:=?_);refine yfv zL (k:=?_);refine yf0 ?_;try refine yc0 (k:=?_))
 refine ycs (zi (hc:=λm X K A=>zp9 aP i cP q.reverse m (by rw[Bz];exact Z) q_o (FJ A q_h) ((Sy.Fd (Mi:=No) A q_h (λ_ h=>h.elim)).sla) (λs F=>zqu (E:=5) A M (λr hr=>AM _ (A4 _ (A4 _ hr))) s (Da.1 F)) q_o)) (k:=?_);rintro _ _ ⟨R,rfl,aS,cS,rfl,rfl⟩;generalize a6:tlv 0x30 (Bs.cat q.reverse)=Q at*;have a7:0<Q.length:=by rw[<-a6];exact zbC
 have a8:0<(zav realm).length:=zbC;refine ycs (zi (hc:=λm X K A=>zcz 0 aS Q.length cS Q _ m q_e (zaz A rfl q_h) a7 q_o rfl)) (k:=?_);rintro _ _ ⟨R,rfl,aT,cT,rfl,rfl⟩;refine ycs (zi (hc:=λm X K A=>L m)) (k:=?_);rintro _ _ ⟨R,rfl,aU,cU,rfl,rfl⟩;generalize zav realm=U at*;refine ycs (zi (hc:=λm X K A=>zcz 1 aU U.length cU U _ m q_e (zaz A rfl q_h) a8 q_o rfl)) (k:=?_);rintro _ _ ⟨R,rfl,aV,cV,rfl,rfl⟩;refine ycs zz (k:=?_);rintro _ _ ⟨bL,rfl,rfl⟩;have b5:(zaw 0 Q).length<=300:=by show(tlv 160 Q).length<=300;omega
 have b6:(zaw 1 U).length<=300:=by show(tlv 161 U).length<=300;omega
 generalize zaw 1 U=S,zaw 0 Q=P at*;refine ycs (zi (hc:=λm X K A=>zkt bL 2 [⟨aT,P.length,cT,P⟩,⟨aV,S.length,cV,S⟩] m rfl q_e (zp (A.has q_h) Et) (λs F=>by
  simp only[AS,BC,or_false] at F;rcases F with rfl|rfl
  ·exact zaz A rfl q_h
  ·exact zaz A rfl q_h) (by rw[show Bs.cat [⟨aT,P.length,cT,P⟩,⟨aV,S.length,cV,S⟩]=P++S by simp[Bs.cat],A2];omega) D (by rw[H];simp[Bs.cat]))) (k:=?_)
 rintro _ _ ⟨R,rfl,aW,cW,rfl,rfl⟩;refine ycv za6 (k:=?_);refine ycv za6 (k:=?_);refine yc0 (k:=?_);repeat' (first|refine s_0 ?_|fail)
 exact zU rfl (zh rfl) (zh rfl) (F3 Es rfl Er) ⟨_,_,rfl,rfl⟩
end Go.Proofs.YtdnlngbjpdbffaaGreatDoor
namespace Go.Ct
open Go Go.Sy
structure Pl where
 a1:Option Addr
 k1:Nat
 a2:Option Addr
 k2:Nat
 a3:Option Addr
 k3:Nat
 a4:Option Addr
 k4:Nat
def zba(a:Option Addr)(k:Nat)(p:Prin):List Value:=[.slice a p.parts.length k,zT p.realm]
def zG(p:Pl)(c:Cert):List Value:=[.int .i64 c.serial,.slice p.a1 c.issuer.parts.length p.k1,zT c.issuer.realm,.slice p.a2 c.subject.parts.length p.k2,zT c.subject.realm,.int .i64 c.fr,.int .i64 c.til,.bool c.auth,.int .i64 c.group,.slice p.a3 c.pub.length p.k3,.slice p.a4 c.sig.length p.k4]
structure CertAt(w:World)(p:Pl)(c:Cert):Prop where
 iss:PrinIn w (zba p.a1 p.k1 c.issuer) c.issuer
 sub:PrinIn w (zba p.a2 p.k2 c.subject) c.subject
 pub:(⟨p.a3,c.pub.length,p.k3,c.pub⟩:Bs).ok w
 sig:(⟨p.a4,c.sig.length,p.k4,c.sig⟩:Bs).ok w
 rng:((Lit.int .i64 c.serial).wf=true/\(Lit.int .i64 c.fr).wf=true/\(Lit.int .i64 c.til).wf=true/\(Lit.int .i64 c.group).wf=true)
theorem CertAt.keep{w w':World}{p:Pl}{c:Cert}(h:CertAt w p c)(hk:Keep No w w'):CertAt w' p c:=⟨h.iss.keep hk,h.sub.keep hk,h.pub.keep hk,h.sig.keep hk,h.rng⟩
theorem BytIn.bs{w:World}{v:Value}{l:List UInt8}(h:BytIn w v l):∃a c,v= .slice a l.length c/\(⟨a,l.length,c,l⟩:Bs).ok w:=by
 obtain⟨a,c,j,m,A,q,r⟩:=h;exact⟨a,c,j,rfl,m,q,r⟩
theorem CertIn.at{w:World}{C:List Value}{c:Cert}(h:CertIn w C c):∃p,C=zG p c/\CertAt w p c:=by
 obtain⟨⟨I,S,K,L,rfl,q,r,G,J⟩,H⟩:=h;obtain⟨⟨a1,A,rfl,_⟩,_⟩:=id q;obtain⟨⟨a2,B,rfl,_⟩,_⟩:=id r;obtain⟨a3,E,rfl,j⟩:=G.bs;obtain⟨a4,F,rfl,m⟩:=J.bs;exact⟨⟨a1,A,a2,B,a3,E,a4,F⟩,rfl,q,r,j,m,H⟩
def zdY(t:Int):Bool:=decide (0<=t)&&decide (t<=1099511627776)
structure Cert.fine(c:Cert):Prop where
 i:c.issuer.parts.length<1000000/\c.issuer.realm.length<1000000000/\∀x∈c.issuer.parts,x.length<1000000000
 s:c.subject.parts.length<1000000/\c.subject.realm.length<1000000000/\∀x∈c.subject.parts,x.length<1000000000
theorem Cert.ok_prog(sv:Int->List UInt8->Bool)(c:Cert):c.ok sv=(decide (0<=c.serial)&&decide (c.serial<=4611686018427387904)&&c.issuer.ok&&c.subject.ok&&zdY c.fr&&zdY c.til&&decide (c.fr<=c.til)&&decide (c.sig.length<=192)&&sv c.group c.pub):=by
 rw[CJ];simp only[Cert.ok,zdY,AA,decide_eq_true_eq];constructor
 ·rintro⟨⟨⟨⟨⟨⟨⟨⟨j,m⟩,q⟩,r⟩,w⟩,A⟩,B⟩,C⟩,E⟩;exact⟨⟨⟨⟨⟨⟨⟨⟨j,m⟩,q⟩,r⟩,w,by omega⟩,by omega,B⟩,A⟩,C⟩,E⟩
 ·rintro⟨⟨⟨⟨⟨⟨⟨⟨j,m⟩,q⟩,r⟩,w,_⟩,_,B⟩,A⟩,C⟩,E⟩;exact⟨⟨⟨⟨⟨⟨⟨⟨j,m⟩,q⟩,r⟩,w⟩,A⟩,B⟩,C⟩,E⟩
end Go.Ct
namespace Go.Proofs.YtdnlngbjpdbffaaGreatDoor
open Go Go.Sy Go.Ct Go.Nt Go.RowKit
attribute [local irreducible] Sy SyL SyX SyC SyF Sy.Fn callFunc
def svK(z:Int)(l:List UInt8):Bool:=decide ((gel z l).2=0)
theorem zef:KeyLaw svK:=by
 have key:∀g p,svK g p=true->(1<=g/\g<=4)/\p.length<=96:=λg p h=>by
  have j:=zkT (of_decide_eq_true h);refine⟨j.1,?_⟩;rw[j.2.1];have:=zgu g;unfold zbh at this;rwa[if_pos j.1] at this
 exact⟨λg p h=>by have:=key g p h;omega,λg p h=>by have:=key g p h;omega,λg p h=>by have:=key g p h;omega⟩
theorem zqI(t:Int)(w:World):q_G 140 [.int .i64 t,.int .i64 t,.int .i64 0] w (.bool (zdY t)):=by
 refine zt Tryz.func140 Tryz.ntmps140 ?_;have r:=λj=>ztp t j;have A:=λj=>ztc 0 j;have h0:=λj=>zi0 0 0 0 j;rw[show btw t 0 1099511627776=zdY t from rfl] at r;rw[show btw 0 0 86400=true from rfl] at A;rw[show btw 0 0 0=true from rfl] at h0;have m:=λj b (h:j.rangeAt b 0 [.bool (zdY t),.bool (zdY t),.bool true])=>zwk b 3 [zdY t,zdY t,true] j rfl q_e h;have q:IntKind.i64.wrap (t-t)=0:=by rw[Int.sub_self];rfl
 generalize zdY t=u at*;have e: [u,u,true].all id=u:=by cases u <;> rfl
 rw[e] at m;cases u;all_goals repeat' (first|refine s_0 ?_|refine q_k 0 ?_|refine q_k 1 ?_;refine q_v (za (hc:=q_c r)) ?_;refine zb ?_;refine q_v (za (hc:=q_c r)) ?_;refine zb ?_;refine q_v (za (hc:=q_c A)) ?_;(refine q_s zz ?_;rintro _ _ ⟨B,rfl,rfl⟩);refine q_v (za (hc:=λj X E C=>m j B (zp (C.has q_h) Et))) ?_;refine zb ?_;(first|refine q_v (zI (hr:=q)) ?_|skip|fail);(try refine zb ?_);(first|refine zJ ?_|skip|fail);(try refine zb ?_);(first|refine q_v (za (hc:=q_c h0)) ?_|skip|fail);(try refine zb ?_))
 all_goals exact q_r
theorem zkx(t:Int)(w:World):q_G 58 [.int .i64 t] w (.bool (zdY t)):=by
 refine zt Tryz.func58 Tryz.ntmps58 ?_;repeat' (first|refine s_0 ?_|refine q_k 0 ?_|refine q_k 1 ?_;refine q_v (za (hc:=λ_ _ _ _=>(zqI t _))) ?_;refine zb ?_)
 exact q_r
theorem zd9(p:Pl)(c:Cert)(w:World)(Q:GT w)(h:CertAt w p c)(A:c.fine):q_G 34 [.agg (zG p c).toArray] w (.bool (c.ok svK)):=by
 refine zt Tryz.func34 Tryz.ntmps34 ?_;have S:=λj (E:Keep No w j)=>zge _ _ j (h.iss.keep E) A.i.1 A.i.2.1 A.i.2.2;have T:=λj (E:Keep No w j)=>zge _ _ j (h.sub.keep E) A.s.1 A.s.2.1 A.s.2.2;have U:=λj=>zkx c.fr j;have V:=λj=>zkx c.til j;have R:=λj (E:Keep No w j)=>zkd c.group p.a3 c.pub.length p.k3 c.pub j (Q.to E) rfl h.pub.cap (h.pub.keep E).sla;rw[show decide ((gel c.group c.pub).2=0)=svK c.group c.pub from rfl] at R;rw[Cert.ok_prog];have g4:decide ((c.sig.length:Int)<=192)=decide (c.sig.length<=192):=decide_eq_decide.2 q_o;unfold zG zba at*;clear h A Q;obtain⟨serial,⟨G,H⟩,⟨I,J⟩,fr,til,auth,group,pub,sig⟩:=c;dsimp only at*;generalize O:decide (fr<=til)=L,svK group pub=W,decide (sig.length<=192)=P,zdY til=K,zdY fr=F,Prin.ok ⟨I,J⟩=C,Prin.ok ⟨G,H⟩=r,N:decide (serial<=4611686018427387904)=q,M:decide (0<=serial)=m at*;have hc:m=false\/(m=true/\q=false)\/(m=true/\q=true/\r=false)\/(m=true/\q=true/\r=true/\C=false)\/(m=true/\q=true/\r=true/\C=true/\F=false)\/(m=true/\q=true/\r=true/\C=true/\F=true/\K=false)\/(m=true/\q=true/\r=true/\C=true/\F=true/\K=true/\L=false)\/(m=true/\q=true/\r=true/\C=true/\F=true/\K=true/\L=true/\P=false)\/(m=true/\q=true/\r=true/\C=true/\F=true/\K=true/\L=true/\P=true):=by
  cases m <;> cases q <;> cases r <;> cases C <;> cases F <;> cases K <;> cases L <;> cases P <;> simp
 rcases hc with rfl|⟨rfl,rfl⟩|⟨rfl,rfl,rfl⟩|⟨rfl,rfl,rfl,rfl⟩|⟨rfl,rfl,rfl,rfl,rfl⟩|⟨rfl,rfl,rfl,rfl,rfl,rfl⟩|⟨rfl,rfl,rfl,rfl,rfl,rfl,rfl⟩|⟨rfl,rfl,rfl,rfl,rfl,rfl,rfl,rfl⟩|⟨rfl,rfl,rfl,rfl,rfl,rfl,rfl,rfl⟩;all_goals repeat' (first|refine s_0 ?_|refine zf 0 ?_;refine zW ?_;intro _|refine q_k 1 ?_;refine zm ?_;refine q_x (zaF (hr:=M)) ?_;(first|refine zm ?_|skip|fail);(first|refine q_v (zaF (hr:=N)) ?_|refine zaC rfl rfl rfl ?_|skip);(try refine zb ?_);(first|refine q_v (ze (B:=[.slice p.a1 G.length p.k1,zT H]) (hv:=FF rfl)) ?_|skip|fail);(first|refine q_v (za (hc:=zu S)) ?_|refine zaC rfl rfl rfl ?_|skip);(try refine zb ?_);(first|refine q_v (ze (B:=[.slice p.a2 I.length p.k2,zT J]) (hv:=FF rfl)) ?_|skip|fail);(first|refine q_v (za (hc:=zu T)) ?_|refine zaC rfl rfl rfl ?_|skip);(try refine zb ?_);(first|refine zm ?_|skip|fail);(first|refine q_v (za (hc:=q_c U)) ?_|refine zaC rfl rfl rfl ?_|skip);(try refine zb ?_);(first|refine zm ?_|skip|fail);(first|refine q_v (za (hc:=q_c V)) ?_|refine zaC rfl rfl rfl ?_|skip);(try refine zb ?_);(first|refine zm ?_|skip|fail);(try refine zb ?_);(first|refine zm ?_|skip|fail);(first|refine q_v (zaF (hr:=O)) ?_|refine zaC rfl rfl rfl ?_|skip);(try refine zb ?_);(first|refine zm ?_|skip|fail);(try refine zb ?_);(first|refine q_v (zaF (hr:=g4)) ?_|skip|fail);(try refine zb ?_);(first|refine zm ?_|skip|fail);(try refine zb ?_);(first|refine zm ?_|skip|fail);(first|refine q_v (za (hc:=zu R)) ?_|refine zaC rfl rfl rfl ?_|skip);(try refine zb ?_))
 all_goals exact q_r
end Go.Proofs.YtdnlngbjpdbffaaGreatDoor
namespace Go.Ct
theorem zym{v:Int}(h:0<=v):tlv 2 (beZ v (zbg v))=zbf v.toNat:=by
 obtain⟨n,rfl⟩:∃n:Nat,v=(n:Int):=⟨v.toNat,by omega⟩;rw[zml,zjD];rfl
theorem Prin.der_pos(p:Prin):0<p.der.length:=by have:=(zX 0x30 [zaw 0 (zdv (p.parts.map zav)),zaw 1 (zav p.realm)].flatten).1;show 0<(tlv 0x30 _).length;omega
def Fe:=@Prin.der_pos
end Go.Ct
namespace Go.Proofs.YtdnlngbjpdbffaaGreatDoor
open Go Go.Sy Go.Ct Go.Nt Go.RowKit
attribute [local irreducible] Sy SyL SyX SyC SyF Sy.Fn callFunc
theorem zoL(v:Int)(w:World)(h1:0<=v)(h2:v<=4611686018427387904):Sy.Fn Tryz.prog 111 [.int .i64 v] w No (zbi (zbf v.toNat)):=by
 have:=zp4 v w (by unfold zbV;omega) h2;rwa[zym h1] at this
theorem znu(C:List Value)(p:Prin)(w:World)(h:PrinIn w C p)(j:p.ok=true):Sy.Fn Tryz.prog 112 [.agg C.toArray] w No (zbi p.der):=by
 have r:=λm (q:Keep No w m)=>zwK C p m (h.keep q) j;obtain⟨⟨a1,B,rfl,G,F,s1,H⟩,-⟩:=h;refine zt Tryz.func112 Tryz.ntmps112 ?_;repeat' (first|refine s_0 ?_|refine zf 0 ?_;refine zW ?_;intro _|refine zf 1 ?_;refine zm ?_;(refine q_s (zi (hc:=zu r)) ?_;rintro _ _ ⟨R,rfl,A,E,rfl,rfl⟩);refine zb ?_|refine q_k 2 ?_)
 exact q_r
theorem zlF(p:Pl)(c:Cert)(w:World)(h:CertAt w p c)(r:c.small):Sy.Fn Tryz.prog 50 [.agg (zG p c).toArray] w No (zbi c.body):=by
 refine zt Tryz.func50 Tryz.ntmps50 ?_;have h0:=λj=>zoL c.serial j r.s0 r.s1;have h1:=λj (q:Keep No w j)=>znu _ _ j (h.iss.keep q) r.iss;have h2:=λj (q:Keep No w j)=>znu _ _ j (h.sub.keep q) r.sub;have h3:=λj=>zop c.fr j r.f0 r.f1;have h4:=λj=>zop c.til j r.t0 r.t1;have h5:=λj=>zuk c.auth j;have h6:=λj=>zoL c.group j r.g0 r.g1;have a8:=r.pub;have h7:=λj (q:Keep No w j)=>zp1 ⟨p.a3,c.pub.length,p.k3,c.pub⟩ j (h.pub.keep q) (by show c.pub.length<16777216;omega);have p0:0<(zbf c.serial.toNat).length:=zbC;have p1:=Fe c.issuer;have p2:=Fe c.subject;have p3:0<(zbq c.fr.toNat).length:=zbC;have p4:0<(zbq c.til.toNat).length:=zbC;have p5:0<(zcF c.auth).length:=zbC;have p6:0<(zbf c.group.toNat).length:=zbC;have p7:0<(za8 c.pub).length:=zbC;have m0:=(zdI (v:=c.serial.toNat) (by have:=r.s1;omega)).2;have m1:=F8 r.iss;have m2:=F8 r.sub;have m3:(zbq c.fr.toNat).length<=11:=zco (by rw[zbp];decide);have m4:(zbq c.til.toNat).length<=11:=zco (by rw[zbp];decide);have m5:(zcF c.auth).length<=6:=zco (A6 1);have m6:=(zdI (v:=c.group.toNat) (by have:=r.g1;omega)).2;have m7:(za8 c.pub).length<=c.pub.length+5:=zco (A6 _);obtain⟨A,V⟩:∃G,G=zaw 0 (zbf c.serial.toNat):=⟨_,rfl⟩;obtain⟨C,W⟩:∃G,G=zaw 1 (c.issuer.der):=⟨_,rfl⟩;obtain⟨E,Y⟩:∃G,G=zaw 2 (c.subject.der):=⟨_,rfl⟩;obtain⟨F,Z⟩:∃G,G=zaw 3 (zbq c.fr.toNat):=⟨_,rfl⟩;obtain⟨H,e4⟩:∃G,G=zaw 4 (zbq c.til.toNat):=⟨_,rfl⟩;obtain⟨I,e5⟩:∃G,G=zaw 5 (zcF c.auth):=⟨_,rfl⟩;obtain⟨J,e6⟩:∃G,G=zaw 6 (zbf c.group.toNat):=⟨_,rfl⟩;obtain⟨K,e7⟩:∃G,G=zaw 7 (za8 c.pub):=⟨_,rfl⟩;have L:c.body=tlv 0x30 (A++(C++(E++(F++(H++(I++(J++K))))))):=by rw[V,W,Y,Z,e4,e5,e6,e7];simp[Cert.body,zdv]
 generalize c.body=BD at*;unfold zG zba at*;clear h r;obtain⟨serial,iss,sub,fr,til,auth,group,pub,sig⟩:=c;dsimp only at*;generalize za8 pub=U,zbf group.toNat=T,zcF auth=S,zbq til.toNat=Q,zbq fr.toNat=P,sub.der=O,iss.der=N,zbf serial.toNat=M at*;have l0:A.length<=M.length+5:=by rw[V];exact(zX (0xa0+0) M).2
 have l1:C.length<=N.length+5:=by rw[W];exact(zX (0xa0+1) N).2
 have l2:E.length<=O.length+5:=by rw[Y];exact(zX (0xa0+2) O).2
 have l3:F.length<=P.length+5:=by rw[Z];exact(zX (0xa0+3) P).2
 have l4:H.length<=Q.length+5:=by rw[e4];exact(zX (0xa0+4) Q).2
 have l5:I.length<=S.length+5:=by rw[e5];exact(zX (0xa0+5) S).2
 have l6:J.length<=T.length+5:=by rw[e6];exact(zX (0xa0+6) T).2
 have l7:K.length<=U.length+5:=by rw[e7];exact(zX (0xa0+7) U).2
 repeat' (first|refine s_0 ?_|refine zf 0 ?_;refine zW ?_;intro _)
 (refine zdC (id:=1) [0,1,4,5,8,9,12,13,16,17,20,21,24,25,28,29] [2,3,6,7,10,11,14,15,18,19,22,23,26,27,30,31,32,33,34] mixed ?_ ?_;kernel_rfl;refine yfv zM (k:=?_);refine yfv zL (k:=?_);refine yfv zM (k:=?_);refine yfv (ze (B:=[.slice p.a1 iss.parts.length p.k1,zT iss.realm]) (hv:=FF rfl)) (k:=?_);refine yfv zM (k:=?_);refine yfv (ze (B:=[.slice p.a2 sub.parts.length p.k2,zT sub.realm]) (hv:=FF rfl)) (k:=?_);refine yfv zM (k:=?_);refine yfv zL (k:=?_);refine yfv zM (k:=?_);refine yfv zL (k:=?_);refine yfv zM (k:=?_);refine yfv zL (k:=?_);refine yfv zM (k:=?_);refine yfv zL (k:=?_);refine yfv zM (k:=?_);refine yfv zL (k:=?_);refine yf0 ?_;try refine yc0 (k:=?_))
 refine ycs (zi (hc:=λj X q m=>h0 j)) (k:=?_);rintro _ _ ⟨R,rfl,a0,c0,rfl,rfl⟩;refine ycs (zi (hc:=λj X q m=>zcz 0 a0 M.length c0 M A j q_e (zaz m rfl q_h) p0 q_o V)) (k:=?_);rintro _ _ ⟨R,rfl,b0,d0,rfl,rfl⟩;refine ycs (zi (hc:=zu h1)) (k:=?_);rintro _ _ ⟨R,rfl,a1,c1,rfl,rfl⟩;refine ycs (zi (hc:=λj X q m=>zcz 1 a1 N.length c1 N C j q_e (zaz m rfl q_h) p1 q_o W)) (k:=?_);rintro _ _ ⟨R,rfl,b1,d1,rfl,rfl⟩;refine ycs (zi (hc:=zu h2)) (k:=?_);rintro _ _ ⟨R,rfl,a2,c2,rfl,rfl⟩;refine ycs (zi (hc:=λj X q m=>zcz 2 a2 O.length c2 O E j q_e (zaz m rfl q_h) p2 q_o Y)) (k:=?_);rintro _ _ ⟨R,rfl,b2,d2,rfl,rfl⟩;refine ycs (zi (hc:=λj X q m=>h3 j)) (k:=?_);rintro _ _ ⟨R,rfl,a3,c3,rfl,rfl⟩;refine ycs (zi (hc:=λj X q m=>zcz 3 a3 P.length c3 P F j q_e (zaz m rfl q_h) p3 q_o Z)) (k:=?_);rintro _ _ ⟨R,rfl,b3,d3,rfl,rfl⟩;refine ycs (zi (hc:=λj X q m=>h4 j)) (k:=?_);rintro _ _ ⟨R,rfl,a4,c4,rfl,rfl⟩;refine ycs (zi (hc:=λj X q m=>zcz 4 a4 Q.length c4 Q H j q_e (zaz m rfl q_h) p4 q_o e4)) (k:=?_);rintro _ _ ⟨R,rfl,b4,d4,rfl,rfl⟩;refine ycs (zi (hc:=λj X q m=>h5 j)) (k:=?_);rintro _ _ ⟨R,rfl,a5,c5,rfl,rfl⟩;refine ycs (zi (hc:=λj X q m=>zcz 5 a5 S.length c5 S I j q_e (zaz m rfl q_h) p5 q_o e5)) (k:=?_);rintro _ _ ⟨R,rfl,b5,d5,rfl,rfl⟩;refine ycs (zi (hc:=λj X q m=>h6 j)) (k:=?_);rintro _ _ ⟨R,rfl,a6,c6,rfl,rfl⟩;refine ycs (zi (hc:=λj X q m=>zcz 6 a6 T.length c6 T J j q_e (zaz m rfl q_h) p6 q_o e6)) (k:=?_);rintro _ _ ⟨R,rfl,b6,d6,rfl,rfl⟩;refine ycs (zi (hc:=zu h7)) (k:=?_);rintro _ _ ⟨R,rfl,a7,c7,rfl,rfl⟩;refine ycs (zi (hc:=λj X q m=>zcz 7 a7 U.length c7 U K j q_e (zaz m rfl q_h) p7 q_o e7)) (k:=?_);rintro _ _ ⟨R,rfl,b7,d7,rfl,rfl⟩;refine ycs zz (k:=?_);rintro _ _ ⟨bL,rfl,rfl⟩;refine ycs (zi (hc:=λj X q m=>zkt bL 8 [⟨b0,A.length,d0,A⟩,⟨b1,C.length,d1,C⟩,⟨b2,E.length,d2,E⟩,⟨b3,F.length,d3,F⟩,⟨b4,H.length,d4,H⟩,⟨b5,I.length,d5,I⟩,⟨b6,J.length,d6,J⟩,⟨b7,K.length,d7,K⟩] j rfl q_e (zp (m.has q_h) Et) (λs r=>by
   simp only[AS,BC,or_false] at r;rcases r with rfl|rfl|rfl|rfl|rfl|rfl|rfl|rfl
   ·exact zaz m rfl q_h
   ·exact zaz m rfl q_h
   ·exact zaz m rfl q_h
   ·exact zaz m rfl q_h
   ·exact zaz m rfl q_h
   ·exact zaz m rfl q_h
   ·exact zaz m rfl q_h
   ·exact zaz m rfl q_h) (by rw[show Bs.cat [⟨b0,A.length,d0,A⟩,⟨b1,C.length,d1,C⟩,⟨b2,E.length,d2,E⟩,⟨b3,F.length,d3,F⟩,⟨b4,H.length,d4,H⟩,⟨b5,I.length,d5,I⟩,⟨b6,J.length,d6,J⟩,⟨b7,K.length,d7,K⟩]=A++(C++(E++(F++(H++(I++(J++K)))))) by simp[Bs.cat]];simp only[A2];omega) BD (by rw[L];simp[Bs.cat]))) (k:=?_)
 rintro _ _ ⟨R,rfl,aW,cW,rfl,rfl⟩;refine ycv za6 (k:=?_);refine yc0 (k:=?_);repeat' (first|refine s_0 ?_|fail)
 exact zap rfl (zh rfl) (F3 Es rfl Er) ⟨_,_,rfl,rfl⟩
end Go.Proofs.YtdnlngbjpdbffaaGreatDoor
