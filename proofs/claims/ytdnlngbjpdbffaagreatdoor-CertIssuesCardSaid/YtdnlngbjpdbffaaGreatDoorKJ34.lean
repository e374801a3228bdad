/- Lemmas of this proof. -/
import Derived.Test.YtdnlngbjpdbffaaGreatDoorKJ33
set_option maxHeartbeats 4000000
set_option maxRecDepth 10000
set_option linter.all false
namespace Go.Proofs.YtdnlngbjpdbffaaGreatDoor
open Go Go.Sy Go.Ct Go.RowKit
attribute [local irreducible] Sy SyL SyX Sy.Fn callFunc
theorem zeW(t b:Nat)(s:Bs)(w:World)(m:t<256)(j:s.ok w)(h2:w.rangeAt b 0 [s.val])(hb:s.l.length<16777216):
  Sy.Fn Tryz.prog 172 [.int .u8 (t:Int),.slice (some ⟨b,0,none⟩) 1 1] w No (zcK 5 (tlv t s.l).length ((tlv t s.l).map v8)):=by
 have h:=zmr t (some ⟨b,0,none⟩) 1 1 [s] w m rfl q_e q_e (.inr ⟨b,0,rfl,h2⟩) (λx q=>by rw[AF.1 q];exact j) (by rw[Ct.cat1];exact hb);rwa[Ct.cat1] at h
theorem zun(v:Int)(w:World)(h1: -ziC<=v)(h2:v<=ziC):Sy.Fn Tryz.prog 111 [.int .i64 v] w No (zcK 5 (tlv 2 (beZ v (zbD v))).length ((tlv 2 (beZ v (zbD v))).map v8)):=by
 have E:=zqV h1 h2;unfold ziC at h1 h2;refine zo Tryz.func111 Tryz.ntmps111 ?_;have H:=λm=>zoA v (zbD v) m E;have j:(beZ v (zbD v)).length=zbD v:=zkZ v _;repeat' (first|refine s_t ?_|refine zK [0,3,4] ?_;refine zb ?_|refine q_k 1 ?_;refine zR ?_;refine zb ?_;refine q_x zF ?_)
 refine zE (γ:=Nat×Int) (λg=>[(0,.int .i64 v),(3,.int .i64 (g.1:Int)),(4,.int .i64 g.2)]) (λ_=>[]) (λg=>g.1+zbD g.2=zbD v+1/\ -4611686018427387904<=g.2/\g.2<=4611686018427387904) (λg=>zbD g.2) (1,v) ⟨by dsimp only;omega,h1,h2⟩ ?_ ?_ ?_
 ·exact q_h
 ·exact q_h
 rintro⟨s,r⟩ ⟨A,I,J⟩;dsimp only at A I J ⊢;by_cases hr: -128<=r/\r<=127
 ·rw[zjF hr] at A;obtain rfl:s=zbD v:=q_o;repeat' (first|refine s_0 ?_|refine q_k 5 ?_;refine zR ?_;refine zb ?_;refine q_x zF ?_|refine q_k 8 ?_;(refine q_s (zh (hc:=λm X G q=>H m)) ?_;rintro _ _ ⟨R,rfl,C,rfl,rfl⟩);(refine q_s zw ?_;rintro _ _ ⟨B,rfl,rfl⟩);(refine q_s (zh (hc:=λm X G q=>zeW 2 B ⟨some ⟨C,0,none⟩,zbD v,zbD v,beZ v (zbD v)⟩ m q_e (zi9 q j q_h) (zp (q.has q_h) F0) (by show(beZ v (zbD v)).length<16777216;omega))) ?_;rintro _ _ ⟨R,rfl,K,L,rfl,rfl⟩);refine zb ?_)
  exact q_r
 ·have F:=zme hr;have g1:IntKind.i64.wrap ((s:Int)+1)=((s+1:Nat):Int):=q_w;have g2:∀t,Op.shift .shr .i64 r t 8=pure (.int .i64 (r/256)):=λt=>zwy r 8 t q_e;have hc:r < -128\/(-128<=r/\127<r):=q_o;rcases hc with h|⟨h,M⟩
  all_goals repeat' (first|refine s_t ?_|refine q_k 5 ?_;refine zR ?_;refine zb ?_;(first|refine q_v zF ?_|skip|fail);(try refine zb ?_)|refine q_k 7 ?_;refine q_x (zA (hr:=g1)) ?_|refine q_k 6 ?_;refine q_x (zbp (hr:=g2 _)) ?_)
  all_goals refine zy (s+1,r/256) ⟨by dsimp only;omega,by dsimp only;omega,by dsimp only;omega⟩ ?_ ?_ ?_
  all_goals first|show zbD (r/256)<zbD r;omega|exact Sub.go|exact q_h
theorem znA(v:Int)(w:World)(h1:0<=v)(h2:v<=1099511627776):Sy.Fn Tryz.prog 113 [.int .i64 v] w No (zcK 5 (zbA v.toNat).length ((zbA v.toNat).map v8)):=by
 refine zo Tryz.func113 Tryz.ntmps113 ?_;have r:=λm=>zoA v 6 m q_e;have e:beZ v 6=beN v.toNat 6:=by rw[<-zkW,Ae h1]
 rw[e] at r;have j:(beN v.toNat 6).length=6:=zcg _ _;unfold zbA;repeat' (first|refine s_0 ?_|refine q_k 0 ?_|refine q_k 1 ?_;refine zR ?_;refine zb ?_;refine q_x zF ?_|refine q_k 3 ?_;(refine q_s (zh (hc:=λm X B q=>r m)) ?_;rintro _ _ ⟨R,rfl,A,rfl,rfl⟩);(refine q_s zw ?_;rintro _ _ ⟨t,rfl,rfl⟩);(refine q_s (zh (hc:=λm X B q=>zeW 24 t ⟨some ⟨A,0,none⟩,6,6,beN v.toNat 6⟩ m q_e (zi9 q j q_h) (zp (q.has q_h) F0) (by show(beN v.toNat 6).length<16777216;omega))) ?_;rintro _ _ ⟨R,rfl,C,E,rfl,rfl⟩);refine zb ?_)
 exact q_r
theorem zsZ(v:Bool)(w:World):Sy.Fn Tryz.prog 114 [.bool v] w No (zcK 5 (zdf v).length ((zdf v).map v8)):=by
 refine zo Tryz.func114 Tryz.ntmps114 ?_;unfold zdf;have B: [Value.int .u8 0]= [(0:UInt8)].map v8:=rfl;have C: [Value.int .u8 255]= [(255:UInt8)].map v8:=rfl;cases v
 ·rw[show(if false=true then (255:UInt8) else 0)=0 from rfl];repeat' (first|refine s_0 ?_|refine zK [0,1] ?_;refine zb ?_|refine zg 3 ?_;(refine q_s zw ?_;rintro _ _ ⟨j,rfl,rfl⟩);(refine q_s zw ?_;rintro _ _ ⟨j,rfl,rfl⟩))
  rename_i q;rw[B];refine q_s (zh (hc:=λr X E m=>zeW 1 j ⟨some ⟨q,0,none⟩,1,1,[0]⟩ r q_e (zi9 m rfl q_h) (zp (m.has q_h) F0) (by show 1<16777216;decide))) ?_;rintro _ _ ⟨R,rfl,t,A,rfl,rfl⟩;repeat' (first|refine s_0 ?_|(refine zW ?_;first|refine zB ?_|fail)|fail)
  exact q_r
 ·rw[show(if true=true then (255:UInt8) else 0)=255 from rfl];repeat' (first|refine s_0 ?_|refine zK [0,1] ?_;refine zb ?_|refine zg 2 ?_;(refine q_s zw ?_;rintro _ _ ⟨j,rfl,rfl⟩);(refine q_s zw ?_;rintro _ _ ⟨j,rfl,rfl⟩))
  rename_i q;rw[C];refine q_s (zh (hc:=λr X E m=>zeW 1 j ⟨some ⟨q,0,none⟩,1,1,[255]⟩ r q_e (zi9 m rfl q_h) (zp (m.has q_h) F0) (by show 1<16777216;decide))) ?_;rintro _ _ ⟨R,rfl,t,A,rfl,rfl⟩;repeat' (first|refine s_0 ?_|(refine zW ?_;first|refine zB ?_|fail)|fail)
  exact q_r
theorem zoL(s:Bs)(w:World)(r:s.ok w)(hb:s.l.length<16777216):Sy.Fn Tryz.prog 115 [s.val] w No (zcK 5 (zbQ s.l).length ((zbQ s.l).map v8)):=by
 refine zo Tryz.func115 Tryz.ntmps115 ?_;unfold zbQ;repeat' (first|refine s_0 ?_|refine q_k 0 ?_|refine q_k 1 ?_;(refine q_s zw ?_;rintro _ _ ⟨j,rfl,rfl⟩);(refine q_s (zh (hc:=λt X q m=>zeW 4 j s t q_e (r.keep q) (zp (m.has q_h) F0) hb)) ?_;rintro _ _ ⟨R,rfl,A,B,rfl,rfl⟩);refine zb ?_)
 exact q_r
theorem zoI(l:List UInt8)(w:World)(hb:l.length<16777216):Sy.Fn Tryz.prog 253 [zX l] w No (zcK 5 (zaD l).length ((zaD l).map v8)):=by
 refine zo Tryz.func253 Tryz.ntmps253 ?_;unfold zaD zX;repeat' (first|refine s_0 ?_|refine zK [0,1] ?_;refine zb ?_|refine q_s (zjb (l:=l)) ?_;rintro _ _ ⟨q,J,rfl,rfl⟩|(refine zW ?_;first|refine q_s zw ?_;rintro _ _ ⟨m,rfl,rfl⟩|refine q_s (zh (hc:=λt X r j=>zeW 27 m ⟨some ⟨q,0,none⟩,l.length,l.length+J.length,l⟩ t q_e (zt7 r j rfl (EU _ _) (FB F6)) (zp (j.has q_h) F0) hb)) ?_;rintro _ _ ⟨R,rfl,A,B,rfl,rfl⟩|refine zB ?_|fail)|fail)
 exact q_r
theorem zoG(a:Option Addr)(m d:Nat)(xs:List Bs)(w:World)(hm:xs.length=m)(j:m<1000)(q:m<=d)(t:SlA w a (xs.map Bs.val))(r:∀s∈xs,s.ok w)(hb:(Bs.cat xs).length<16777216):
  Sy.Fn Tryz.prog 84 [.slice a m d] w No (zcK 5 (tlv 0x30 (Bs.cat xs)).length ((tlv 0x30 (Bs.cat xs)).map v8)):=by
 refine zo Tryz.func84 Tryz.ntmps84 ?_;have C:=λB (A:Keep No w B)=>zmr 0x30 a m d xs B q_e hm j q ((Fk t).to (Mi:=No) A (λ_ h=> .inr h)).sla (λs E=>(r s E).keep A) hb;repeat' (first|refine s_0 ?_|refine q_k 0 ?_|refine q_k 1 ?_;(refine q_s (zh (hc:=zq C)) ?_;rintro _ _ ⟨R,rfl,F,G,rfl,rfl⟩);refine zb ?_)
 exact q_r
theorem zsO(t n:Nat)(s:Bs)(w:World)(hn:n<=30)(E:t+n<256)(r:s.ok w)(h0:0<s.l.length)(hb:s.l.length<16777216):Sy.Fn Tryz.prog 193 [.int .i64 (t:Int),.int .i64 (n:Int),s.val] w No (zcK 5 (tlv (t+n) s.l).length ((tlv (t+n) s.l).map v8)):=by
 refine zo Tryz.func193 Tryz.ntmps193 ?_;have g1:IntKind.i64.wrap ((t:Int)+(n:Int))=((t+n:Nat):Int):=q_w;have g2:IntKind.u8.wrap ((t+n:Nat):Int)=((t+n:Nat):Int):=IntWalk.u8_in _ q_o;have H:=r.len;have C:=λj (m:Keep No w j)=>r.keep m;have q:s.val= .slice s.a s.n s.c:=rfl;rw[q];repeat' (first|refine s_0 ?_|refine q_k 0 ?_|refine q_k 1 ?_;refine zR ?_;refine zb ?_;refine q_x zF ?_;refine zaH ?_;refine zb ?_|refine q_k 3 ?_;refine q_v (zA (hr:=g1)) ?_;refine q_x (zal (hr:=g2)) ?_;(refine q_s zw ?_;rintro _ _ ⟨A,rfl,rfl⟩);(refine q_s (zh (hc:=λj X m B=>zeW (t+n) A s j E (C j m) (zp (B.has q_h) F0) hb)) ?_;rintro _ _ ⟨R,rfl,F,G,rfl,rfl⟩);refine zb ?_)
 exact q_r
theorem zuU(n:Nat)(s:Bs)(w:World)(hn:n<=30)(t:s.ok w)(h0:0<s.l.length)(hb:s.l.length<16777216):Sy.Fn Tryz.prog 110 [.int .i64 (n:Int),s.val] w No (zcK 5 (zan n s.l).length ((zan n s.l).map v8)):=by
 refine zo Tryz.func110 Tryz.ntmps110 ?_;have m:=λq (r:Keep No w q)=>zsO 0xa0 n s q hn q_o (t.keep r) h0 hb;have j:s.val= .slice s.a s.n s.c:=rfl;rw[j] at m ⊢;unfold zan;repeat' (first|refine s_0 ?_|refine q_k 0 ?_|refine q_k 1 ?_;(refine q_s (zh (hc:=zq m)) ?_;rintro _ _ ⟨R,rfl,A,B,rfl,rfl⟩);refine zb ?_)
 exact q_r
end Go.Proofs.YtdnlngbjpdbffaaGreatDoor
namespace Go.Ct
open Go Go.Sy
def zn3(E:Nat)(s:Bs):Res:=.row (.slice s.a s.n s.c) E 1 s.n (s.l.map v8)
def zfa(E:Nat)(xs:List Bs):List Res:=xs.map (zn3 E)
theorem zpb{m:Nat}{w:World}{M:Nat->Prop}{E:Nat}{L:List Res}{xs:List Bs}(hh:Holds m M L w)(q:∀s∈xs,s.l.length=s.n)(hL:∀r∈zfa E xs,r∈L):∀s∈xs,s.ok w:=λs j=>
 zaq (E:=E) hh (q s j) (hL _ (C0.2 ⟨s,j,rfl⟩))
theorem zoM(xs:List Bs):Bs.cat xs=(xs.map (·.l)).flatten:=by unfold Bs.cat;rw[List.flatMap_def]
theorem zmC{l:List UInt8}{k:Nat}(h:l.length<=k):(zaD l).length<=k+5:=zcA h
theorem zpg(xs:List Bs)(s:Bs):xs.reverse.map Bs.val++[.slice s.a s.n s.c]=((s::xs).reverse).map Bs.val:=by rw[EK,Aw];rfl
theorem ztY(xs:List Bs)(s:Bs):((s::xs).reverse).map (·.l)=xs.reverse.map (·.l)++[s.l]:=by rw[EK,Aw];rfl
end Go.Ct
namespace Go.Proofs.YtdnlngbjpdbffaaGreatDoor
open Go Go.Sy Go.Ct Go.RowKit
attribute [local irreducible] Sy SyL SyX SyC SyF Sy.Fn callFunc
abbrev zcw(l:List UInt8):Value->List Res->Prop:=zcK 5 l.length (l.map v8)
theorem zjJ(b m:Nat)(xs:List Bs)(w:World)(hm:xs.length=m)(j:m<1000)(h:w.rangeAt b 0 (xs.map Bs.val))(q:∀s∈xs,s.ok w)(hb:(Bs.cat xs).length<16777216)(D:List UInt8)(r:D=tlv 0x30 (Bs.cat xs)):
  Sy.Fn Tryz.prog 84 [.slice (some ⟨b,0,none⟩) m m] w No (zcw D):=by
 subst r;exact zoG (some ⟨b,0,none⟩) m m xs w hm j (A4 _) (.inr ⟨b,0,rfl,h⟩) q hb
theorem zcm(n:Nat)(a:Option Addr)(m c:Nat)(l D:List UInt8)(w:World)(hn:n<=30)(q:(⟨a,m,c,l⟩:Bs).ok w)(h0:0<l.length)(hb:l.length<16777216)(j:D=zan n l):Sy.Fn Tryz.prog 110 [.int .i64 (n:Int),.slice a m c] w No (zcw D):=by
 subst j;exact zuU n ⟨a,m,c,l⟩ w hn q h0 hb
theorem zbF{t:Nat}{l:List UInt8} :0<(tlv t l).length:=by have:=(zae t l).1;omega
theorem zuB(C:List Value)(p:Prin)(w:World)(h:PrinIn w C p)(F:p.ok=true):Sy.Fn Tryz.prog 195 [.agg C.toArray] w No (λv R=>∃a c,v= .tuple #[.slice a p.der.length c,.int .i64 0]/\R= [.row (.slice a p.der.length c) 5 1 p.der.length (p.der.map v8)]):=by
 obtain⟨b8,H,T⟩:=Ff F;have hv:=λm (J:Keep No w m)=>zgq C p m (h.keep J) q_o q_o (λx W=>by have:=H x W;omega);rw[F] at hv;obtain⟨⟨a1,c1,rfl,n1,m1,s1,z1⟩,-⟩:=h;refine zo Tryz.func195 Tryz.ntmps195 ?_;have V:=λx (W:x∈p.parts) m=>zoI x m (by have:=H x W;omega);have K:=λm=>zoI p.realm m q_o;have b0:=Fl F;have b7:=FT F;have G:p.der=tlv 0x30 (zan 0 (tlv 0x30 (p.parts.map zaD).flatten)++zan 1 (zaD p.realm)):=by simp[Prin.der,zdl]
 have b9:=zmC T;unfold zX at*;generalize p.der=D at*;obtain⟨parts,realm⟩:=p;dsimp only at*;generalize hn:parts.length=n at*;repeat' (first|refine s_t ?_|refine zg 0 ?_;refine zV ?_;intro _|refine zg 1 ?_;refine zk ?_;refine q_v (za (hc:=zq hv)) ?_;refine zJ ?_|refine q_k 3 ?_|refine q_k 4 ?_;refine zk ?_;refine zb ?_)
 rename_i Z;refine zbn (zaO 23 1) ?_;refine zE (γ:=Nat×List Bs×Option Addr×Nat) (λg=>[(1,.pointer (some ⟨Z,0,none⟩)),(11,.slice a1 n c1),(12,.int .i64 (n:Int)),(13,.int .i64 (g.1:Int)),(4,.slice g.2.2.1 g.2.1.length g.2.2.2)])
  (λg=> .row (.slice g.2.2.1 g.2.1.length g.2.2.2) 23 1 g.2.1.length (g.2.1.reverse.map Bs.val):: .blk Z 43 [.slice a1 n c1,.string (str realm)]::zfa 5 g.2.1)
  (λg=>g.1<=n/\g.2.1.reverse.map (·.l)=(parts.take g.1).map zaD/\∀s∈g.2.1,s.l.length=s.n) (λg=>n-g.1) (0,[],none,0) ⟨AE _,rfl,λs B=>by cases B⟩ ?_ ?_ ?_
 ·exact q_h
 ·exact q_h
 rintro⟨i,q,aP,cP⟩ ⟨hi,A,L⟩;dsimp only at hi A L ⊢;have Y:q.length=i:=by have:=congrArg List.length A;simp at this;omega
 by_cases hlt:i<n
 ·obtain⟨bl,ol,rfl,I⟩:=zdV s1 (i:=i) (by rw[List.length_map];omega);have hc:=I i _ (zdg _ q_o);have g1:decide ((i:Int)<(n:Int))=true:=q_d;have g5:IntKind.i64.wrap ((i:Int)+1)=((i+1:Nat):Int):=q_w;have b2:parts.take (i+1)=parts.take i++[parts[i]]:=zaP q_o;have a9:parts[i]∈parts:=Ah q_o;have W:=V parts[i] a9;generalize parts[i]=x at*;repeat' (first|refine s_t ?_|refine zg 5 ?_;refine q_v (zl (hr:=g1)) ?_|refine zg 6 ?_;refine q_v (zL (j:=i)) ?_;refine q_x (zn (hv:=hc)) ?_|refine q_k 7 ?_;(refine q_s (zh (hc:=λm X J t=>W m)) ?_;rintro _ _ ⟨R,rfl,M,N,rfl,rfl⟩);(refine q_s zw ?_;rintro _ _ ⟨_,rfl,rfl⟩);(refine q_s (zak (hys:=zpg q ⟨M,(zaD x).length,N,zaD x⟩) (hkm:=rfl)) ?_;rintro _ _ ⟨rfl,aN,cN,rfl⟩);refine zb ?_)
  refine FJ (fr':=[(1,.pointer (some ⟨Z,0,none⟩)),(11,.slice (some ⟨bl,ol,none⟩) n c1),(12,.int .i64 (n:Int)),(13,.int .i64 (i:Int)),(4,.slice aN (q.length+1) cN)]) (L':=.row (.slice aN (q.length+1) cN) 23 1 (q.length+1) ((⟨M,(zaD x).length,N,zaD x⟩::q).reverse.map Bs.val):: .blk Z 43 [.slice (some ⟨bl,ol,none⟩) n c1,.string (str realm)]::zfa 5 (⟨M,(zaD x).length,N,zaD x⟩::q)) ?_ q_h ?_;rotate_left
  ·show SubR (_::_::zn3 5 ⟨M,(zaD x).length,N,zaD x⟩::zfa 5 q) _
   (repeat' (first|exact F2|apply F9;with_reducible (focus ((repeat (first|exact F1|apply F3));done))|apply FC;(focus ((repeat (first|exact F1|apply F3));done))|apply F9;(focus ((repeat (first|exact F1|apply F3));done))|apply FA;(focus ((repeat (first|exact F1|apply F3));done))|rfl))
   all_goals exact FE F8
  repeat' (first|refine zav ?_|refine zai ?_|refine zg 8 ?_;refine q_x (zA (hr:=g5)) ?_)
  refine zy (i+1,⟨M,(zaD x).length,N,zaD x⟩::q,aN,cN) ⟨hlt,?_,?_⟩ ?_ ?_ ?_
  ·show((⟨M,(zaD x).length,N,zaD x⟩::q).reverse).map (·.l)=_;rw[ztY,A,b2,Aw];rfl
  ·intro s B;rcases Ag.1 B with rfl|B
   ·rfl
   ·exact L s B
  ·show n-(i+1)<n-i;omega
  ·exact q_h
  ·exact F8
 obtain rfl:i=n:=q_o;rw[A6 q_o] at A;have S:Bs.cat q.reverse=(parts.map zaD).flatten:=by rw[zoM,A]
 have g1:decide ((i:Int)<(i:Int))=false:=q_f;rw[<-S] at b0 G;have hQ:=(zae 0x30 (Bs.cat q.reverse)).2;have b3:=(zae 0xa0 (tlv 0x30 (Bs.cat q.reverse))).2;have b4:=(zae 0xa1 (zaD realm)).2;repeat' (first|refine s_0 ?_|refine zg 5 ?_;refine q_v (zl (hr:=g1)) ?_)
 rw[Y]
 (refine zdc (id:=9) [0,3,4] [1,2,5,6,7,8,9,10] mixed ?_ ?_;kernel_rfl;refine yfv zao (k:=?_);refine yfv zO (k:=?_);refine yfv zM (k:=?_);refine yf0 ?_;try refine yc0 (k:=?_))
 refine ycs (zh (hc:=λm X J t=>zoG aP i cP q.reverse m (by rw[CV];exact Y) q_o (FR t q_h) ((Fu (Mi:=No) t q_h (λ_ h=>h.elim)).sla) (λs B=>zpb (E:=5) t L (λr hr=>AX _ (A9 _ (A9 _ hr))) s (Dl.1 B)) q_o)) (k:=?_);rintro _ _ ⟨R,rfl,aS,cS,rfl,rfl⟩;generalize a6:tlv 0x30 (Bs.cat q.reverse)=Q at*;have a7:0<Q.length:=by rw[<-a6];exact zbF
 have a8:0<(zaD realm).length:=zbF;refine ycs (zh (hc:=λm X J t=>zcm 0 aS Q.length cS Q _ m q_e (zaq t rfl q_h) a7 q_o rfl)) (k:=?_);rintro _ _ ⟨R,rfl,aT,cT,rfl,rfl⟩;refine ycs (zh (hc:=λm X J t=>K m)) (k:=?_);rintro _ _ ⟨R,rfl,aU,cU,rfl,rfl⟩;generalize zaD realm=U at*;refine ycs (zh (hc:=λm X J t=>zcm 1 aU U.length cU U _ m q_e (zaq t rfl q_h) a8 q_o rfl)) (k:=?_);rintro _ _ ⟨R,rfl,aV,cV,rfl,rfl⟩;refine ycs zw (k:=?_);rintro _ _ ⟨bL,rfl,rfl⟩;have b5:(zan 0 Q).length<=300:=by show(tlv 160 Q).length<=300;omega
 have b6:(zan 1 U).length<=300:=by show(tlv 161 U).length<=300;omega
 generalize zan 1 U=P,zan 0 Q=O at*;refine ycs (zh (hc:=λm X J t=>zjJ bL 2 [⟨aT,O.length,cT,O⟩,⟨aV,P.length,cV,P⟩] m rfl q_e (zp (t.has q_h) F0) (λs B=>by
  simp only[Ag,Bm,or_false] at B;rcases B with rfl|rfl
  ·exact zaq t rfl q_h
  ·exact zaq t rfl q_h) (by rw[show Bs.cat [⟨aT,O.length,cT,O⟩,⟨aV,P.length,cV,P⟩]=O++P by simp[Bs.cat],A2];omega) D (by rw[G];simp[Bs.cat]))) (k:=?_)
 rintro _ _ ⟨R,rfl,aW,cW,rfl,rfl⟩;refine ycv zbM (k:=?_);refine ycv zbM (k:=?_);refine yc0 (k:=?_);repeat' (first|refine s_0 ?_|fail)
 exact zad rfl (zr rfl) (zr rfl) (FA F1 rfl F2) ⟨_,_,rfl,rfl⟩
end Go.Proofs.YtdnlngbjpdbffaaGreatDoor
namespace Go.Ct
open Go Go.Sy
structure Pl where
 a1:Option Addr
 k1:Nat
 a2:Option Addr
 k2:Nat
 a3:Option Addr
 k3:Nat
 a4:Option Addr
 k4:Nat
def za7(a:Option Addr)(k:Nat)(p:Prin):List Value:=[.slice a p.parts.length k,zX p.realm]
def zx(p:Pl)(c:Cert):List Value:=[.int .i64 c.serial,.slice p.a1 c.issuer.parts.length p.k1,zX c.issuer.realm,.slice p.a2 c.subject.parts.length p.k2,zX c.subject.realm,.int .i64 c.fr,.int .i64 c.til,.bool c.auth,.int .i64 c.group,.slice p.a3 c.pub.length p.k3,.slice p.a4 c.sig.length p.k4]
structure CertAt(w:World)(p:Pl)(c:Cert):Prop where
 iss:PrinIn w (za7 p.a1 p.k1 c.issuer) c.issuer
 sub:PrinIn w (za7 p.a2 p.k2 c.subject) c.subject
 pub:(⟨p.a3,c.pub.length,p.k3,c.pub⟩:Bs).ok w
 sig:(⟨p.a4,c.sig.length,p.k4,c.sig⟩:Bs).ok w
 rng:((Lit.int .i64 c.serial).wf=true/\(Lit.int .i64 c.fr).wf=true/\(Lit.int .i64 c.til).wf=true/\(Lit.int .i64 c.group).wf=true)
theorem CertAt.keep{w w':World}{p:Pl}{c:Cert}(h:CertAt w p c)(hk:Keep No w w'):CertAt w' p c:=⟨h.iss.keep hk,h.sub.keep hk,h.pub.keep hk,h.sig.keep hk,h.rng⟩
theorem BytIn.bs{w:World}{v:Value}{l:List UInt8}(h:BytIn w v l):∃a c,v= .slice a l.length c/\(⟨a,l.length,c,l⟩:Bs).ok w:=by
 obtain⟨a,c,j,m,t,q,r⟩:=h;exact⟨a,c,j,rfl,m,q,r⟩
theorem CertIn.at{w:World}{C:List Value}{c:Cert}(h:CertIn w C c):∃p,C=zx p c/\CertAt w p c:=by
 obtain⟨⟨I,S,J,K,rfl,q,r,F,H⟩,G⟩:=h;obtain⟨⟨a1,t,rfl,_⟩,_⟩:=id q;obtain⟨⟨a2,A,rfl,_⟩,_⟩:=id r;obtain⟨a3,B,rfl,j⟩:=F.bs;obtain⟨a4,E,rfl,m⟩:=H.bs;exact⟨⟨a1,t,a2,A,a3,B,a4,E⟩,rfl,q,r,j,m,G⟩
def zdm(t:Int):Bool:=decide (0<=t)&&decide (t<=1099511627776)
structure Cert.fine(c:Cert):Prop where
 i:c.issuer.parts.length<1000000/\c.issuer.realm.length<1000000000/\∀x∈c.issuer.parts,x.length<1000000000
 s:c.subject.parts.length<1000000/\c.subject.realm.length<1000000000/\∀x∈c.subject.parts,x.length<1000000000
theorem Cert.ok_prog(sv:Int->List UInt8->Bool)(c:Cert):c.ok sv=(decide (0<=c.serial)&&decide (c.serial<=4611686018427387904)&&c.issuer.ok&&c.subject.ok&&zdm c.fr&&zdm c.til&&decide (c.fr<=c.til)&&decide (c.sig.length<=192)&&sv c.group c.pub):=by
 rw[CR];simp only[Cert.ok,zdm,AB,decide_eq_true_eq];constructor
 ·rintro⟨⟨⟨⟨⟨⟨⟨⟨j,m⟩,q⟩,r⟩,t⟩,w⟩,A⟩,B⟩,C⟩;exact⟨⟨⟨⟨⟨⟨⟨⟨j,m⟩,q⟩,r⟩,t,by omega⟩,by omega,A⟩,w⟩,B⟩,C⟩
 ·rintro⟨⟨⟨⟨⟨⟨⟨⟨j,m⟩,q⟩,r⟩,t,_⟩,_,A⟩,w⟩,B⟩,C⟩;exact⟨⟨⟨⟨⟨⟨⟨⟨j,m⟩,q⟩,r⟩,t⟩,w⟩,A⟩,B⟩,C⟩
end Go.Ct
namespace Go.Proofs.YtdnlngbjpdbffaaGreatDoor
open Go Go.Sy Go.Ct Go.Nt Go.RowKit
attribute [local irreducible] Sy SyL SyX SyC SyF Sy.Fn callFunc
def svK(z:Int)(l:List UInt8):Bool:=decide ((gel z l).2=0)
theorem zdE:KeyLaw svK:=by
 have key:∀g p,svK g p=true->(1<=g/\g<=4)/\p.length<=96:=λg p h=>by
  have j:=zg1 (of_decide_eq_true h);refine⟨j.1,?_⟩;rw[j.2.1];have:=zfW g;unfold zaY at this;rwa[if_pos j.1] at this
 exact⟨λg p h=>by have:=key g p h;omega,λg p h=>by have:=key g p h;omega,λg p h=>by have:=key g p h;omega⟩
theorem zpY(t:Int)(w:World):q_G 140 [.int .i64 t,.int .i64 t,.int .i64 0] w (.bool (zdm t)):=by
 refine zo Tryz.func140 Tryz.ntmps140 ?_;have r:=λj=>zrI t j;have A:=λj=>zqC 0 j;have h0:=λj=>zid 0 0 0 j;rw[show btw t 0 1099511627776=zdm t from rfl] at r;rw[show btw 0 0 86400=true from rfl] at A;rw[show btw 0 0 0=true from rfl] at h0;have m:=λj b (h:j.rangeAt b 0 [.bool (zdm t),.bool (zdm t),.bool true])=>zuY b 3 [zdm t,zdm t,true] j rfl q_e h;have q:IntKind.i64.wrap (t-t)=0:=by rw[Int.sub_self];rfl
 generalize zdm t=u at*;have e: [u,u,true].all id=u:=by cases u <;> rfl
 rw[e] at m;cases u;all_goals repeat' (first|refine s_0 ?_|refine q_k 0 ?_|refine q_k 1 ?_;refine q_v (za (hc:=q_c r)) ?_;refine zb ?_;refine q_v (za (hc:=q_c r)) ?_;refine zb ?_;refine q_v (za (hc:=q_c A)) ?_;(refine q_s zw ?_;rintro _ _ ⟨B,rfl,rfl⟩);refine q_v (za (hc:=λj X E C=>m j B (zp (C.has q_h) F0))) ?_;refine zb ?_;(first|refine q_v (zH (hr:=q)) ?_|skip|fail);(try refine zb ?_);(first|refine zJ ?_|skip|fail);(try refine zb ?_);(first|refine q_v (za (hc:=q_c h0)) ?_|skip|fail);(try refine zb ?_))
 all_goals exact q_r
theorem zjn(t:Int)(w:World):q_G 58 [.int .i64 t] w (.bool (zdm t)):=by
 refine zo Tryz.func58 Tryz.ntmps58 ?_;repeat' (first|refine s_0 ?_|refine q_k 0 ?_|refine q_k 1 ?_;refine q_v (za (hc:=λ_ _ _ _=>(zpY t _))) ?_;refine zb ?_)
 exact q_r
theorem zfy(p:Pl)(c:Cert)(w:World)(P:GT w)(h:CertAt w p c)(t:c.fine):q_G 34 [.agg (zx p c).toArray] w (.bool (c.ok svK)):=by
 refine zo Tryz.func34 Tryz.ntmps34 ?_;have R:=λj (C:Keep No w j)=>zgq _ _ j (h.iss.keep C) t.i.1 t.i.2.1 t.i.2.2;have S:=λj (C:Keep No w j)=>zgq _ _ j (h.sub.keep C) t.s.1 t.s.2.1 t.s.2.2;have T:=λj=>zjn c.fr j;have U:=λj=>zjn c.til j;have Q:=λj (C:Keep No w j)=>zjv c.group p.a3 c.pub.length p.k3 c.pub j (P.to C) rfl h.pub.cap (h.pub.keep C).sla;rw[show decide ((gel c.group c.pub).2=0)=svK c.group c.pub from rfl] at Q;rw[Cert.ok_prog];have g4:decide ((c.sig.length:Int)<=192)=decide (c.sig.length<=192):=decide_eq_decide.2 q_o;unfold zx za7 at*;clear h t P;obtain⟨serial,⟨F,G⟩,⟨H,I⟩,fr,til,auth,group,pub,sig⟩:=c;dsimp only at*;generalize N:decide (fr<=til)=K,svK group pub=V,decide (sig.length<=192)=O,zdm til=J,zdm fr=E,Prin.ok ⟨H,I⟩=A,Prin.ok ⟨F,G⟩=r,M:decide (serial<=4611686018427387904)=q,L:decide (0<=serial)=m at*;have hc:m=false\/(m=true/\q=false)\/(m=true/\q=true/\r=false)\/(m=true/\q=true/\r=true/\A=false)\/(m=true/\q=true/\r=true/\A=true/\E=false)\/(m=true/\q=true/\r=true/\A=true/\E=true/\J=false)\/(m=true/\q=true/\r=true/\A=true/\E=true/\J=true/\K=false)\/(m=true/\q=true/\r=true/\A=true/\E=true/\J=true/\K=true/\O=false)\/(m=true/\q=true/\r=true/\A=true/\E=true/\J=true/\K=true/\O=true):=by
  cases m <;> cases q <;> cases r <;> cases A <;> cases E <;> cases J <;> cases K <;> cases O <;> simp
 rcases hc with rfl|⟨rfl,rfl⟩|⟨rfl,rfl,rfl⟩|⟨rfl,rfl,rfl,rfl⟩|⟨rfl,rfl,rfl,rfl,rfl⟩|⟨rfl,rfl,rfl,rfl,rfl,rfl⟩|⟨rfl,rfl,rfl,rfl,rfl,rfl,rfl⟩|⟨rfl,rfl,rfl,rfl,rfl,rfl,rfl,rfl⟩|⟨rfl,rfl,rfl,rfl,rfl,rfl,rfl,rfl⟩;all_goals repeat' (first|refine s_0 ?_|refine zg 0 ?_;refine zV ?_;intro _|refine q_k 1 ?_;refine zk ?_;refine q_x (zax (hr:=L)) ?_;(first|refine zk ?_|skip|fail);(first|refine q_v (zax (hr:=M)) ?_|refine zaf rfl rfl rfl ?_|skip);(try refine zb ?_);(first|refine q_v (ze (B:=[.slice p.a1 F.length p.k1,zX G]) (hv:=FG rfl)) ?_|skip|fail);(first|refine q_v (za (hc:=zq R)) ?_|refine zaf rfl rfl rfl ?_|skip);(try refine zb ?_);(first|refine q_v (ze (B:=[.slice p.a2 H.length p.k2,zX I]) (hv:=FG rfl)) ?_|skip|fail);(first|refine q_v (za (hc:=zq S)) ?_|refine zaf rfl rfl rfl ?_|skip);(try refine zb ?_);(first|refine zk ?_|skip|fail);(first|refine q_v (za (hc:=q_c T)) ?_|refine zaf rfl rfl rfl ?_|skip);(try refine zb ?_);(first|refine zk ?_|skip|fail);(first|refine q_v (za (hc:=q_c U)) ?_|refine zaf rfl rfl rfl ?_|skip);(try refine zb ?_);(first|refine zk ?_|skip|fail);(try refine zb ?_);(first|refine zk ?_|skip|fail);(first|refine q_v (zax (hr:=N)) ?_|refine zaf rfl rfl rfl ?_|skip);(try refine zb ?_);(first|refine zk ?_|skip|fail);(try refine zb ?_);(first|refine q_v (zax (hr:=g4)) ?_|skip|fail);(try refine zb ?_);(first|refine zk ?_|skip|fail);(try refine zb ?_);(first|refine zk ?_|skip|fail);(first|refine q_v (za (hc:=zq Q)) ?_|refine zaf rfl rfl rfl ?_|skip);(try refine zb ?_))
 all_goals exact q_r
end Go.Proofs.YtdnlngbjpdbffaaGreatDoor
namespace Go.Ct
theorem zvH{v:Int}(h:0<=v):tlv 2 (beZ v (zbD v))=zbs v.toNat:=by
 obtain⟨n,rfl⟩:∃n:Nat,v=(n:Int):=⟨v.toNat,by omega⟩;rw[zqr,zkW];rfl
theorem Prin.der_pos(p:Prin):0<p.der.length:=by have:=(zae 0x30 [zan 0 (zdl (p.parts.map zaD)),zan 1 (zaD p.realm)].flatten).1;show 0<(tlv 0x30 _).length;omega
def Fg:=@Prin.der_pos
end Go.Ct
namespace Go.Proofs.YtdnlngbjpdbffaaGreatDoor
open Go Go.Sy Go.Ct Go.Nt Go.RowKit
attribute [local irreducible] Sy SyL SyX SyC SyF Sy.Fn callFunc
theorem znx(v:Int)(w:World)(h1:0<=v)(h2:v<=4611686018427387904):Sy.Fn Tryz.prog 111 [.int .i64 v] w No (zcw (zbs v.toNat)):=by
 have:=zun v w (by unfold ziC;omega) h2;rwa[zvH h1] at this
theorem zmB(C:List Value)(p:Prin)(w:World)(h:PrinIn w C p)(j:p.ok=true):Sy.Fn Tryz.prog 112 [.agg C.toArray] w No (zcw p.der):=by
 have r:=λm (q:Keep No w m)=>zuB C p m (h.keep q) j;obtain⟨⟨a1,A,rfl,F,E,s1,G⟩,-⟩:=h;refine zo Tryz.func112 Tryz.ntmps112 ?_;repeat' (first|refine s_0 ?_|refine zg 0 ?_;refine zV ?_;intro _|refine zg 1 ?_;refine zk ?_;(refine q_s (zh (hc:=zq r)) ?_;rintro _ _ ⟨R,rfl,t,B,rfl,rfl⟩);refine zb ?_|refine q_k 2 ?_)
 exact q_r
theorem ziT(p:Pl)(c:Cert)(w:World)(h:CertAt w p c)(r:c.small):Sy.Fn Tryz.prog 50 [.agg (zx p c).toArray] w No (zcw c.body):=by
 refine zo Tryz.func50 Tryz.ntmps50 ?_;have h0:=λj=>znx c.serial j r.s0 r.s1;have h1:=λj (q:Keep No w j)=>zmB _ _ j (h.iss.keep q) r.iss;have h2:=λj (q:Keep No w j)=>zmB _ _ j (h.sub.keep q) r.sub;have h3:=λj=>znA c.fr j r.f0 r.f1;have h4:=λj=>znA c.til j r.t0 r.t1;have h5:=λj=>zsZ c.auth j;have h6:=λj=>znx c.group j r.g0 r.g1;have a8:=r.pub;have h7:=λj (q:Keep No w j)=>zoL ⟨p.a3,c.pub.length,p.k3,c.pub⟩ j (h.pub.keep q) (by show c.pub.length<16777216;omega);have p0:0<(zbs c.serial.toNat).length:=zbF;have p1:=Fg c.issuer;have p2:=Fg c.subject;have p3:0<(zbA c.fr.toNat).length:=zbF;have p4:0<(zbA c.til.toNat).length:=zbF;have p5:0<(zdf c.auth).length:=zbF;have p6:0<(zbs c.group.toNat).length:=zbF;have p7:0<(zbQ c.pub).length:=zbF;have m0:=(zeP (v:=c.serial.toNat) (by have:=r.s1;omega)).2;have m1:=FT r.iss;have m2:=FT r.sub;have m3:(zbA c.fr.toNat).length<=11:=zcA (by rw[zcg];decide);have m4:(zbA c.til.toNat).length<=11:=zcA (by rw[zcg];decide);have m5:(zdf c.auth).length<=6:=zcA (A4 1);have m6:=(zeP (v:=c.group.toNat) (by have:=r.g1;omega)).2;have m7:(zbQ c.pub).length<=c.pub.length+5:=zcA (A4 _);obtain⟨t,U⟩:∃G,G=zan 0 (zbs c.serial.toNat):=⟨_,rfl⟩;obtain⟨A,V⟩:∃G,G=zan 1 (c.issuer.der):=⟨_,rfl⟩;obtain⟨C,W⟩:∃G,G=zan 2 (c.subject.der):=⟨_,rfl⟩;obtain⟨E,Y⟩:∃G,G=zan 3 (zbA c.fr.toNat):=⟨_,rfl⟩;obtain⟨F,Z⟩:∃G,G=zan 4 (zbA c.til.toNat):=⟨_,rfl⟩;obtain⟨H,e5⟩:∃G,G=zan 5 (zdf c.auth):=⟨_,rfl⟩;obtain⟨I,e6⟩:∃G,G=zan 6 (zbs c.group.toNat):=⟨_,rfl⟩;obtain⟨J,e7⟩:∃G,G=zan 7 (zbQ c.pub):=⟨_,rfl⟩;have K:c.body=tlv 0x30 (t++(A++(C++(E++(F++(H++(I++J))))))):=by rw[U,V,W,Y,Z,e5,e6,e7];simp[Cert.body,zdl]
 generalize c.body=BD at*;unfold zx za7 at*;clear h r;obtain⟨serial,iss,sub,fr,til,auth,group,pub,sig⟩:=c;dsimp only at*;generalize zbQ pub=T,zbs group.toNat=S,zdf auth=Q,zbA til.toNat=P,zbA fr.toNat=O,sub.der=N,iss.der=M,zbs serial.toNat=L at*;have l0:t.length<=L.length+5:=by rw[U];exact(zae (0xa0+0) L).2
 have l1:A.length<=M.length+5:=by rw[V];exact(zae (0xa0+1) M).2
 have l2:C.length<=N.length+5:=by rw[W];exact(zae (0xa0+2) N).2
 have l3:E.length<=O.length+5:=by rw[Y];exact(zae (0xa0+3) O).2
 have l4:F.length<=P.length+5:=by rw[Z];exact(zae (0xa0+4) P).2
 have l5:H.length<=Q.length+5:=by rw[e5];exact(zae (0xa0+5) Q).2
 have l6:I.length<=S.length+5:=by rw[e6];exact(zae (0xa0+6) S).2
 have l7:J.length<=T.length+5:=by rw[e7];exact(zae (0xa0+7) T).2
 repeat' (first|refine s_0 ?_|refine zg 0 ?_;refine zV ?_;intro _)
 (refine zdc (id:=1) [0,1,4,5,8,9,12,13,16,17,20,21,24,25,28,29] [2,3,6,7,10,11,14,15,18,19,22,23,26,27,30,31,32,33,34] mixed ?_ ?_;kernel_rfl;refine yfv zO (k:=?_);refine yfv zM (k:=?_);refine yfv zO (k:=?_);refine yfv (ze (B:=[.slice p.a1 iss.parts.length p.k1,zX iss.realm]) (hv:=FG rfl)) (k:=?_);refine yfv zO (k:=?_);refine yfv (ze (B:=[.slice p.a2 sub.parts.length p.k2,zX sub.realm]) (hv:=FG rfl)) (k:=?_);refine yfv zO (k:=?_);refine yfv zM (k:=?_);refine yfv zO (k:=?_);refine yfv zM (k:=?_);refine yfv zO (k:=?_);refine yfv zM (k:=?_);refine yfv zO (k:=?_);refine yfv zM (k:=?_);refine yfv zO (k:=?_);refine yfv zM (k:=?_);refine yf0 ?_;try refine yc0 (k:=?_))
 refine ycs (zh (hc:=λj X q m=>h0 j)) (k:=?_);rintro _ _ ⟨R,rfl,a0,c0,rfl,rfl⟩;refine ycs (zh (hc:=λj X q m=>zcm 0 a0 L.length c0 L t j q_e (zaq m rfl q_h) p0 q_o U)) (k:=?_);rintro _ _ ⟨R,rfl,b0,d0,rfl,rfl⟩;refine ycs (zh (hc:=zq h1)) (k:=?_);rintro _ _ ⟨R,rfl,a1,c1,rfl,rfl⟩;refine ycs (zh (hc:=λj X q m=>zcm 1 a1 M.length c1 M A j q_e (zaq m rfl q_h) p1 q_o V)) (k:=?_);rintro _ _ ⟨R,rfl,b1,d1,rfl,rfl⟩;refine ycs (zh (hc:=zq h2)) (k:=?_);rintro _ _ ⟨R,rfl,a2,c2,rfl,rfl⟩;refine ycs (zh (hc:=λj X q m=>zcm 2 a2 N.length c2 N C j q_e (zaq m rfl q_h) p2 q_o W)) (k:=?_);rintro _ _ ⟨R,rfl,b2,d2,rfl,rfl⟩;refine ycs (zh (hc:=λj X q m=>h3 j)) (k:=?_);rintro _ _ ⟨R,rfl,a3,c3,rfl,rfl⟩;refine ycs (zh (hc:=λj X q m=>zcm 3 a3 O.length c3 O E j q_e (zaq m rfl q_h) p3 q_o Y)) (k:=?_);rintro _ _ ⟨R,rfl,b3,d3,rfl,rfl⟩;refine ycs (zh (hc:=λj X q m=>h4 j)) (k:=?_);rintro _ _ ⟨R,rfl,a4,c4,rfl,rfl⟩;refine ycs (zh (hc:=λj X q m=>zcm 4 a4 P.length c4 P F j q_e (zaq m rfl q_h) p4 q_o Z)) (k:=?_);rintro _ _ ⟨R,rfl,b4,d4,rfl,rfl⟩;refine ycs (zh (hc:=λj X q m=>h5 j)) (k:=?_);rintro _ _ ⟨R,rfl,a5,c5,rfl,rfl⟩;refine ycs (zh (hc:=λj X q m=>zcm 5 a5 Q.length c5 Q H j q_e (zaq m rfl q_h) p5 q_o e5)) (k:=?_);rintro _ _ ⟨R,rfl,b5,d5,rfl,rfl⟩;refine ycs (zh (hc:=λj X q m=>h6 j)) (k:=?_);rintro _ _ ⟨R,rfl,a6,c6,rfl,rfl⟩;refine ycs (zh (hc:=λj X q m=>zcm 6 a6 S.length c6 S I j q_e (zaq m rfl q_h) p6 q_o e6)) (k:=?_);rintro _ _ ⟨R,rfl,b6,d6,rfl,rfl⟩;refine ycs (zh (hc:=zq h7)) (k:=?_);rintro _ _ ⟨R,rfl,a7,c7,rfl,rfl⟩;refine ycs (zh (hc:=λj X q m=>zcm 7 a7 T.length c7 T J j q_e (zaq m rfl q_h) p7 q_o e7)) (k:=?_);rintro _ _ ⟨R,rfl,b7,d7,rfl,rfl⟩;refine ycs zw (k:=?_);rintro _ _ ⟨bL,rfl,rfl⟩;refine ycs (zh (hc:=λj X q m=>zjJ bL 8 [⟨b0,t.length,d0,t⟩,⟨b1,A.length,d1,A⟩,⟨b2,C.length,d2,C⟩,⟨b3,E.length,d3,E⟩,⟨b4,F.length,d4,F⟩,⟨b5,H.length,d5,H⟩,⟨b6,I.length,d6,I⟩,⟨b7,J.length,d7,J⟩] j rfl q_e (zp (m.has q_h) F0) (λs r=>by
   simp only[Ag,Bm,or_false] at r;rcases r with rfl|rfl|rfl|rfl|rfl|rfl|rfl|rfl
   ·exact zaq m rfl q_h
   ·exact zaq m rfl q_h
   ·exact zaq m rfl q_h
   ·exact zaq m rfl q_h
   ·exact zaq m rfl q_h
   ·exact zaq m rfl q_h
   ·exact zaq m rfl q_h
   ·exact zaq m rfl q_h) (by rw[show Bs.cat [⟨b0,t.length,d0,t⟩,⟨b1,A.length,d1,A⟩,⟨b2,C.length,d2,C⟩,⟨b3,E.length,d3,E⟩,⟨b4,F.length,d4,F⟩,⟨b5,H.length,d5,H⟩,⟨b6,I.length,d6,I⟩,⟨b7,J.length,d7,J⟩]=t++(A++(C++(E++(F++(H++(I++J)))))) by simp[Bs.cat]];simp only[A2];omega) BD (by rw[K];simp[Bs.cat]))) (k:=?_)
 rintro _ _ ⟨R,rfl,aW,cW,rfl,rfl⟩;refine ycv zbM (k:=?_);refine yc0 (k:=?_);repeat' (first|refine s_0 ?_|fail)
 exact zaw rfl (zr rfl) (FA F1 rfl F2) ⟨_,_,rfl,rfl⟩
end Go.Proofs.YtdnlngbjpdbffaaGreatDoor
