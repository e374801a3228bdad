/- Lemmas. -/
import Derived.Test.YtdnlngbjpdbffaaGreatDoorZJ45
set_option maxHeartbeats 4000000
set_option maxRecDepth 10000
set_option linter.all false
namespace Go.Proofs.YtdnlngbjpdbffaaGreatDoor
open Go Go.Sy Go.Ct Go.RowKit
attribute [local irreducible] Sy SyL SyX SyC SyF SyG SyH Sy.Fn Sy.FnP callFunc
theorem zxp(a:Option Addr)(n c:Nat)(l:List UInt8)(w:World):q_G 201 [.agg #[.slice a n c,zT l],.int .i64 0] w (.agg #[.slice a n c,zT l]):=by
 refine zt Tryz.func201 Tryz.ntmps201 ?_;unfold zT;repeat' first|refine s_0 ?_|refine zf 0 ?_;refine zk λ_=>?_;refine zk λ_=>?_|refine q_k 1 ?_;refine q_v (zS (hr:=rfl)) ?_;refine q_v (za (hc:=q_c zeb)) ?_|refine zf 2 ?_;refine q_v (ze (B:=[.slice a n c,.string (str l)]) (hv:=Ex)) ?_;refine zP ?_
 exact zar rfl (zE (B:=[.slice a n c,.string (str l)]) rfl (ty rfl) rfl Ey Ex rfl) Ev ⟨rfl,rfl⟩
theorem zyi(a:Option Addr)(n c:Nat)(l:List UInt8)(e:Int)(he:e≠0)(w:World):FnP Tryz.prog 201 [.agg #[.slice a n c,zT l],.int .i64 e] w No (λ_ _=>False) (λv R=>v=zcc/\R= []):=by
 refine zaI Tryz.func201 rfl Tryz.ntmps201 q_p FU ?_;unfold zT;have g:decide (e=0)=false:=decide_eq_false he;repeat' first|refine s_0 ?_|refine zf 0 ?_;refine zk λ_=>?_;refine zk λ_=>?_|refine q_k 1 ?_;refine q_v (zS (hr:=g)) ?_;(refine zbi (hc:=λj _ _ _=>zeh j) ?_)|refine zJ ?_|fail
 exact zau Ev ⟨rfl,rfl⟩
def zrS(b:Nat)(x:Prin)(R:List Res):Prop:=∃a k,R= [.blk b 43 [.slice a x.parts.length k,zT x.realm],.row (.slice a x.parts.length k) 9 1 x.parts.length (x.parts.map zT)]
def zzB(x:Prin)(v:Value)(R:List Res):Prop:=∃a k,v= .agg #[.slice a x.parts.length k,zT x.realm]/\R= [.row (.slice a x.parts.length k) 9 1 x.parts.length (x.parts.map zT)]
theorem zl6(b m:Nat)(hm:m<1000000):zhG 200 [.pointer (some ⟨b,0,none⟩)] (.blk b 43 [.slice none 0 0,.string ByteArray.empty]) rdP (zrS b) m:=by
 intro r s i w J M L N;refine zaI Tryz.func200 rfl Tryz.ntmps200 q_p J ?_;have h:=λj (E:Keep (OwnOf [zj r s i,.blk b 43 [.slice none 0 0,.string ByteArray.empty]]) w j) (F:∀x,OwnOf [zj r s i] x->w.heap.size<=x\/OwnOf [zj r s i,.blk b 43 [.slice none 0 0,.string ByteArray.empty]] x) (A:Holds j.heap.size (OwnOf [zj r s i]) [zj r s i] j)=>zuh r s i j A (M.to E F) L q_o;unfold zlO at h;unfold zrS;repeat' first|refine s_0 ?_|refine zf 0 ?_;refine zk λ_=>?_|refine q_k 1 ?_;refine zm ?_;(refine q_s (za2 (f:=202) (C:=[zj r s i]) (F0 (r':=zj r s i) (by repeat (first|exact Eu|apply Ew)) rfl F2) (hc:=λj E hm A=>h j E hm A)) ?_;rintro _ _ ⟨R,rfl,(⟨p,G,k,a,c,h1,H,I,rfl,rfl⟩|⟨h1,e,K,rfl,rfl⟩)⟩);refine zb ?_|(refine zx ?_;first|refine zZ ?_|fail)|fail
 ·have q:=λj=>zxp a p.parts.length c p.realm j;unfold zT at q ⊢;repeat' first|refine zap ?_|(refine zx ?_;first|refine q_v (za (hc:=q_c q)) ?_|refine q_n (zG (B:=[.slice a p.parts.length c,.string (str p.realm)]) (h1:=rfl)) ?_|fail)|fail
  exact zeG rfl q_h ⟨p,G,k,_,h1,H,I,⟨rfl,a,c,rfl⟩,rfl⟩
 ·have q:=λj=>zyi none 0 0 [] e K j;unfold zT at q ⊢;repeat' first|(refine zx ?_;first|refine zbi (hc:=λj _ _ _=>q j) ?_|fail)|fail
  exact zau Ev ⟨h1,rfl,rfl⟩
theorem zja(r:Nat)(s:Bs)(i n t:Nat)(w:World)(K:t=160+n)(hn:n<=30)(hL:Holds w.heap.size (OwnOf [zj r s i]) [zj r s i] w)(J:BsF w (OwnOf [zj r s i]) s)(I:i<=s.n)(hb:s.n<1000000):
  FnP Tryz.prog 122 [rdA r,.int .i64 (n:Int)] w (OwnOf [zj r s i]) (RP r s i (rdW t rdP) zzB) (RN s i (rdW t rdP)):=by
 subst K;refine zaI Tryz.func122 rfl Tryz.ntmps122 q_p hL ?_;have h:=λb m (E:Keep (OwnOf [zj r s i]) w m) (j:∀x,OwnOf [zj r s i,.blk b 43 [.slice none 0 0,.string ByteArray.empty]] x->w.heap.size<=x\/OwnOf [zj r s i] x) (A:Holds m.heap.size (OwnOf [zj r s i,.blk b 43 [.slice none 0 0,.string ByteArray.empty]]) [zj r s i,.blk b 43 [.slice none 0 0,.string ByteArray.empty]] m)=>zgF 200 [.pointer (some ⟨b,0,none⟩)] (.blk b 43 [.slice none 0 0,.string ByteArray.empty]) rdP (zrS b) s.n q_o (en rfl) (zl6 b s.n hb) r s i m A (J.to E j) I (A7 _) n hn;unfold zrS at h;repeat' first|refine s_0 ?_|refine zf 0 ?_;refine zk λ_=>?_;refine zk λ_=>?_
 rename_i _ q;repeat' first|refine zf 1 ?_;refine zm ?_;refine zb ?_;refine q_v zab ?_;(refine zaQ (f:=118) (C:=[zj r s i,.blk q 43 [.slice none 0 0,.string ByteArray.empty]]) (F0 (r':=zj r s i) (by repeat (first|exact Eu|apply Ew)) rfl (F0 (r':=.blk q 43 [.slice none 0 0,.string ByteArray.empty]) (by repeat (first|exact Eu|apply Ew)) rfl F2)) (hc:=λm E j A=>h q m E j A) ?_ ?_)
 ·rintro _ _ ⟨x,F,k,_,h1,G,H,⟨rfl,a,c,rfl⟩,rfl⟩;unfold zzB zT;repeat' first|refine s_0 ?_|refine zf 2 ?_;refine q_v (ze (B:=[.slice a x.parts.length c,.string (str x.realm)]) (hv:=Ex)) ?_;refine q_n (zG (B:=[.slice a x.parts.length c,.string (str x.realm)]) (h1:=rfl)) ?_
  exact zd8 rfl (zE (B:=[.slice a x.parts.length c,.string (str x.realm)]) rfl (ty rfl) rfl Ey Ex rfl) q_h ⟨x,F,k,_,h1,G,H,⟨a,c,rfl,rfl⟩,rfl⟩
 ·rintro _ _ ⟨h1,rfl,rfl⟩;repeat' first|refine zJ ?_|fail
  exact zau Ev ⟨h1,rfl,rfl⟩
theorem zsh(b m:Nat)(hm:m<1000000000)(z0 z5 U V:Int)(s1 S T B:Option Addr)(O K P L Q N A q:Nat)(t2 t4:ByteArray):zhG 124 [.pointer (some ⟨b,0,none⟩)] (.blk b 45 [.int .i64 z0,.slice s1 O K,.string t2,.slice S P L,.string t4,.int .i64 z5,.int .i64 U,.bool false,.int .i64 V,.slice T Q N,.slice B A q]) (rdV 1 Ct.rdB) (λt R=>R= [.blk b 45 [.int .i64 z0,.slice s1 O K,.string t2,.slice S P L,.string t4,.int .i64 z5,.int .i64 U,.bool t,.int .i64 V,.slice T Q N,.slice B A q]]) m:=by
 intro r s i w Y I hi hb;refine zaI Tryz.func124 rfl Tryz.ntmps124 q_p Y ?_;have h:=λM j (G:Keep M w j) (I:BsF w M s) (H:∀x,OwnOf [zj r s i] x->w.heap.size<=x\/M x) (F:Holds j.heap.size (OwnOf [zj r s i]) [zj r s i] j)=>zuk r s i j F (I.to G H) hi q_o;unfold zbC at h;repeat' first|refine s_0 ?_|refine zf 0 ?_;refine zk λ_=>?_|refine q_k 1 ?_;refine zm ?_;(refine q_s (za2 (f:=126) (C:=[zj r s i]) (F0 (r':=zj r s i) (by repeat (first|exact Eu|apply Ew)) rfl F2) (hc:=λj G hm F=>h _ j G I hm F)) ?_;rintro _ _ ⟨R,rfl,(⟨x,J,k,u,R',E,W,X,⟨rfl,rfl⟩,rfl,rfl⟩|⟨E,e,u,Z,rfl,rfl⟩)⟩);refine zb ?_|(refine zx ?_;first|refine zZ ?_|fail)|fail
 ·repeat' first|refine zap ?_|(refine zx ?_;first|refine q_v (za (hc:=λ_ _ _ _=>(zxP _ _))) ?_|refine q_n (zaO (v:=.bool x) (hC:=⟨A5 rfl,rfl⟩)) ?_|refine za7 ?_|fail)|fail
  exact zeG rfl q_h ⟨x,J,k,_,E,W,X,⟨rfl,rfl⟩,rfl⟩
 ·repeat' first|(refine zx ?_;first|refine zbi (hc:=λj _ _ _=>zxL u e Z j) ?_|fail)|fail
  exact zau Ev ⟨E,rfl,rfl⟩
abbrev zdR:List Value:=[.int .i64 0,.slice none 0 0,.string ByteArray.empty,.slice none 0 0,.string ByteArray.empty,.int .i64 0,.int .i64 0,.bool false,.int .i64 0,.slice none 0 0,.slice none 0 0]
def zmq(b:Nat)(x:Cert)(R:List Res):Prop:=∃a1 k1 a2 k2 a3 k3,x.sig= []/\R= [.blk b 45 (zF ⟨a1,k1,a2,k2,a3,k3,none,0⟩ x),.row (.slice a1 x.issuer.parts.length k1) 9 1 x.issuer.parts.length (x.issuer.parts.map zT),.row (.slice a2 x.subject.parts.length k2) 9 1 x.subject.parts.length (x.subject.parts.map zT),.row (.slice a3 x.pub.length k3) 5 1 x.pub.length (x.pub.map v8)]
theorem ztU(b m:Nat)(hm:m<1000000):zhG 120 [.pointer (some ⟨b,0,none⟩)] (.blk b 45 zdR) zbM (zmq b) m:=by
 intro r s i w hL K hi hb;refine zaI Tryz.func120 rfl Tryz.ntmps120 q_p hL ?_;have A:s.n<1000000000:=q_o;have P:s.n<1000000:=q_o;repeat' first|refine s_0 ?_|refine zf 0 ?_;refine zk λ_=>?_
 repeat' first|refine zf 1 ?_;refine zm ?_;(refine zaQ (f:=121) (C:=[zj r s i]) (F0 (r':=zj r s i) (by repeat (first|exact Eu|apply Ew)) rfl F2) (hc:=λG F j E=>zk4 r s i 0 160 G rfl q_e E (K.to F j) hi A) ?_ ?_)
 rotate_left
 ·rintro _ _ ⟨q,rfl,rfl⟩;repeat' first|refine zJ ?_|fail
  exact zau Ev ⟨by simp only[zbM,q,Ac,Bt],rfl,rfl⟩
 rintro _ _ ⟨Q,_,j0,_,J,Y,rfl,⟨rfl,rfl⟩,rfl⟩;repeat' first|refine s_0 ?_|(refine zx ?_;first|refine q_n (zaO (v:=.int .i64 Q) (hC:=⟨A5 rfl,rfl⟩)) ?_|refine za7 ?_|fail)|fail
 repeat' first|refine zf 2 ?_;refine zm ?_;(refine zaQ (f:=122) (C:=[zj r s j0]) (F0 (r':=zj r s j0) (by repeat (first|exact Eu|apply Ew)) rfl F2) (hc:=λG F j E=>zja r s j0 1 161 G rfl q_e E (K.to F j) Y P) ?_ ?_)
 rotate_left
 ·rintro _ _ ⟨q,rfl,rfl⟩;repeat' first|refine zJ ?_|fail
  exact zau Ev ⟨by simp only[zbM,J,q,Ac,Bt],rfl,rfl⟩
 rintro _ _ ⟨H,_,j1,_,L,Z,rfl,⟨a1,k1,rfl,rfl⟩,rfl⟩;repeat' first|refine s_0 ?_|(refine zx ?_;first|refine q_n (zdI (B:=[.slice a1 H.parts.length k1,.string (str H.realm)]) (hC:=A5 rfl)) ?_|refine za7 ?_|fail)|fail
 repeat' first|refine zf 3 ?_;refine zm ?_;(refine zaQ (f:=122) (C:=[zj r s j1]) (F0 (r':=zj r s j1) (by repeat (first|exact Eu|apply Ew)) rfl F2) (hc:=λG F j E=>zja r s j1 2 162 G rfl q_e E (K.to F j) Z P) ?_ ?_)
 rotate_left
 ·rintro _ _ ⟨q,rfl,rfl⟩;repeat' first|refine zJ ?_|fail
  exact zau Ev ⟨by simp only[zbM,J,L,q,Ac,Bt],rfl,rfl⟩
 rintro _ _ ⟨I,_,j2,_,M,a6,rfl,⟨a2,k2,rfl,rfl⟩,rfl⟩;repeat' first|refine s_0 ?_|(refine zx ?_;first|refine q_n (zdI (B:=[.slice a2 I.parts.length k2,.string (str I.realm)]) (hC:=A5 rfl)) ?_|refine za7 ?_|fail)|fail
 repeat' first|refine zf 4 ?_;refine zm ?_;(refine zaQ (f:=123) (C:=[zj r s j2]) (F0 (r':=zj r s j2) (by repeat (first|exact Eu|apply Ew)) rfl F2) (hc:=λG F j E=>zqW r s j2 3 163 G rfl q_e E (K.to F j) a6 A) ?_ ?_)
 rotate_left
 ·rintro _ _ ⟨q,rfl,rfl⟩;repeat' first|refine zJ ?_|fail
  exact zau Ev ⟨by simp only[zbM,J,L,M,q,Ac,Bt],rfl,rfl⟩
 rintro _ _ ⟨S,_,j3,_,O,a8,rfl,⟨rfl,rfl⟩,rfl⟩;repeat' first|refine s_0 ?_|(refine zx ?_;first|refine q_n (zaO (v:=.int .i64 S) (hC:=⟨A5 rfl,rfl⟩)) ?_|refine za7 ?_|fail)|fail
 repeat' first|refine zf 5 ?_;refine zm ?_;(refine zaQ (f:=123) (C:=[zj r s j3]) (F0 (r':=zj r s j3) (by repeat (first|exact Eu|apply Ew)) rfl F2) (hc:=λG F j E=>zqW r s j3 4 164 G rfl q_e E (K.to F j) a8 A) ?_ ?_)
 rotate_left
 ·rintro _ _ ⟨q,rfl,rfl⟩;repeat' first|refine zJ ?_|fail
  exact zau Ev ⟨by simp only[zbM,J,L,M,O,q,Ac,Bt],rfl,rfl⟩
 rintro _ _ ⟨T,_,j4,_,V,a9,rfl,⟨rfl,rfl⟩,rfl⟩;repeat' first|refine s_0 ?_|(refine zx ?_;first|refine q_n (zaO (v:=.int .i64 T) (hC:=⟨A5 rfl,rfl⟩)) ?_|refine za7 ?_|fail)|fail
 repeat' first|refine zf 6 ?_;refine zm ?_;refine q_v zab ?_;(refine zaQ (f:=118) (C:=[zj r s j4,.blk b 45 [.int .i64 Q,.slice a1 H.parts.length k1,.string (str H.realm),.slice a2 I.parts.length k2,.string (str I.realm),.int .i64 S,.int .i64 T,.bool false,.int .i64 0,.slice none 0 0,.slice none 0 0]]) (F0 (r':=zj r s j4) (by repeat (first|exact Eu|apply Ew)) rfl (F0 (r':=.blk b 45 [.int .i64 Q,.slice a1 H.parts.length k1,.string (str H.realm),.slice a2 I.parts.length k2,.string (str I.realm),.int .i64 S,.int .i64 T,.bool false,.int .i64 0,.slice none 0 0,.slice none 0 0]) (by repeat (first|exact Eu|apply Ew)) rfl F2)) (hc:=λG F j E=>zgF 124 [.pointer (some ⟨b,0,none⟩)] _ _ _ s.n A (en rfl) (zsh b s.n A _ _ _ _ _ _ _ _ _ _ _ _ _ _ _ _ _ _) r s j4 G E (K.to F j) a9 (A7 _) 5 q_e) ?_ ?_)
 rotate_left
 ·rintro _ _ ⟨q,rfl,rfl⟩;repeat' first|refine zJ ?_|fail
  exact zau Ev ⟨by simp only[zbM,J,L,M,O,V,q,Ac,Bt],rfl,rfl⟩
 rintro _ _ ⟨x5,_,j5,_,X,b0,rfl,⟨rfl,rfl⟩,rfl⟩;repeat' first|refine s_0 ?_|fail
 repeat' first|refine zf 7 ?_;refine zm ?_;(refine zaQ (f:=121) (C:=[zj r s j5]) (F0 (r':=zj r s j5) (by repeat (first|exact Eu|apply Ew)) rfl F2) (hc:=λG F j E=>zk4 r s j5 6 166 G rfl q_e E (K.to F j) b0 A) ?_ ?_)
 rotate_left
 ·rintro _ _ ⟨q,rfl,rfl⟩;repeat' first|refine zJ ?_|fail
  exact zau Ev ⟨by simp only[zbM,J,L,M,O,V,X,q,Ac,Bt],rfl,rfl⟩
 rintro _ _ ⟨x6,_,j6,_,e6,b1,rfl,⟨rfl,rfl⟩,rfl⟩;repeat' first|refine s_0 ?_|(refine zx ?_;first|refine q_n (zaO (v:=.int .i64 x6) (hC:=⟨A5 rfl,rfl⟩)) ?_|refine za7 ?_|fail)|fail
 repeat' first|refine zf 8 ?_;refine zm ?_;(refine zaQ (f:=127) (C:=[zj r s j6]) (F0 (r':=zj r s j6) (by repeat (first|exact Eu|apply Ew)) rfl F2) (hc:=λG F j E=>zmz r s j6 7 167 G rfl q_e E (K.to F j) b1 A) ?_ ?_)
 rotate_left
 ·rintro _ _ ⟨q,rfl,rfl⟩;repeat' first|fail
  exact zau Ev ⟨by simp only[zbM,J,L,M,O,V,X,e6,q,Ac,Bt],rfl,rfl⟩
 rintro _ _ ⟨N,_,j7,_,e7,b2,rfl,⟨U,W,rfl,rfl⟩,rfl⟩;repeat' first|refine zap ?_|(refine zx ?_;first|refine q_n (zaO (v:=.slice U N.length W) (hC:=⟨A5 rfl,rfl⟩)) ?_|refine za7 ?_|fail)|fail
 unfold zmq zT;refine zeG rfl (R:=zj r s j7::[.blk b 45 [.int .i64 Q,.slice a1 H.parts.length k1,.string (str H.realm),.slice a2 I.parts.length k2,.string (str I.realm),.int .i64 S,.int .i64 T,.bool x5,.int .i64 x6,.slice U N.length W,.slice none 0 0],.row (.slice a1 H.parts.length k1) 9 1 H.parts.length (H.parts.map zT),.row (.slice a2 I.parts.length k2) 9 1 I.parts.length (I.parts.map zT),.row (.slice U N.length W) 5 1 N.length (N.map v8)]) q_h ⟨⟨Q,H,I,S,T,x5,x6,N,[]⟩,_,j7,_,by simp only[zbM,J,L,M,O,V,X,e6,e7,Ac],b2,rfl,⟨rfl,a1,k1,a2,k2,U,W,rfl,rfl⟩,rfl⟩
theorem zsQ(b m:Nat)(hm:m<1000000):zhG 119 [.pointer (some ⟨b,0,none⟩)] (.blk b 45 zdR) (rdW 48 zbM) (zmq b) m:=by
 intro r s i w K B M L;refine zaI Tryz.func119 rfl Tryz.ntmps119 q_p K ?_;have h:=λF q B=>zhy 120 [.pointer (some ⟨b,0,none⟩)] (.blk b 45 zdR) zbM (zmq b) m q_o (en rfl) (ztU b m hm) r s i F q B M L;repeat' first|refine s_0 ?_|refine zf 0 ?_;refine zk λ_=>?_|refine zf 1 ?_;refine zm ?_;refine q_v zab ?_;(refine zaQ (f:=90) (C:=[zj r s i,.blk b 45 zdR]) (F0 (r':=zj r s i) (by repeat (first|exact Eu|apply Ew)) rfl (F0 (r':=.blk b 45 zdR) (by repeat (first|exact Eu|apply Ew)) rfl F2)) (hc:=λF N A q=>h F q (B.to N A)) ?_ ?_)
 ·rintro _ _ ⟨x,E,k,G,j,H,I,⟨rfl,J⟩,rfl⟩;repeat' first|refine zap ?_|fail
  exact zeG rfl ⟨_,Ay _⟩ ⟨x,E,k,G,j,H,I,⟨rfl,J⟩,rfl⟩
 ·rintro _ _ ⟨j,rfl,rfl⟩;repeat' first|fail
  exact zau Ev ⟨j,rfl,rfl⟩
def zwb(b:Nat)(x:Cert)(R:List Res):Prop:=∃p,R= .blk b 45 (zF p x)::zaD p x
theorem zth(b m:Nat)(hm:m<1000000):zhG 117 [.pointer (some ⟨b,0,none⟩)] (.blk b 45 zdR) ze9 (zwb b) m:=by
 intro r s i w W G Y X;refine zaI Tryz.func117 rfl Tryz.ntmps117 q_p W ?_;have h:=λF B G=>zgF 119 [.pointer (some ⟨b,0,none⟩)] (.blk b 45 zdR) (rdW 48 zbM) (zmq b) m q_o (en rfl) (zsQ b m hm) r s i F B G Y X 0 q_e;unfold zmq at h;repeat' first|refine s_0 ?_|refine zf 0 ?_;refine zk λ_=>?_|refine zf 1 ?_;refine zm ?_;refine q_v zab ?_;(refine zaQ (f:=118) (C:=[zj r s i,.blk b 45 zdR]) (F0 (r':=zj r s i) (by repeat (first|exact Eu|apply Ew)) rfl (F0 (r':=.blk b 45 zdR) (by repeat (first|exact Eu|apply Ew)) rfl F2)) (hc:=λF J q B=>h F B (G.to J q)) ?_ ?_)
 rotate_left
 ·rintro _ _ ⟨H,rfl,rfl⟩;repeat' first|refine zJ ?_|fail
  exact zau Ev ⟨by simp only[ze9,show rdW 160 (rdW 48 zbM) (s.l.drop i)=none from H,Bt],rfl,rfl⟩
 rintro _ _ ⟨x,_,j,_,U,Z,rfl,⟨rfl,a1,k1,a2,k2,a3,k3,E,rfl⟩,rfl⟩;have A:rdW 160 (rdW 48 zbM) (s.l.drop i)=some (x,s.l.drop j):=U;obtain⟨K,L,M,N,O,P,Q,S,x8⟩:=x;dsimp only at E;subst E;unfold zF zT;dsimp only;repeat' first|refine s_0 ?_|refine zf 2 ?_;refine zm ?_;(refine zaQ (f:=127) (C:=[zj r s j]) (F0 (r':=zj r s j) (by repeat (first|exact Eu|apply Ew)) rfl F2) (hc:=λF J q B=>zmz r s j 1 161 F rfl q_e B (G.to J q) Z q_o) ?_ ?_)
 rotate_left
 ·rintro _ _ ⟨H,rfl,rfl⟩;repeat' first|fail
  exact zau Ev ⟨by simp only[ze9,A,H,Ac,Bt],rfl,rfl⟩
 rintro _ _ ⟨y,_,T,_,V,I,rfl,⟨a4,k4,rfl,rfl⟩,rfl⟩;repeat' first|refine zap ?_|(refine zx ?_;first|refine q_n (zaO (v:=.slice a4 y.length k4) (hC:=⟨A5 rfl,rfl⟩)) ?_|refine za7 ?_|fail)|fail
 exact zeG rfl (R:=zj r s T::(.blk b 45 (zF ⟨a1,k1,a2,k2,a3,k3,a4,k4⟩ ⟨K,L,M,N,O,P,Q,S,y⟩)::zaD ⟨a1,k1,a2,k2,a3,k3,a4,k4⟩ ⟨K,L,M,N,O,P,Q,S,y⟩)) (by unfold zaD zF zT;exact FT) ⟨⟨K,L,M,N,O,P,Q,S,y⟩,_,T,_,by simp only[ze9,A,V,Ac],I,rfl,⟨rfl,⟨a1,k1,a2,k2,a3,k3,a4,k4⟩,rfl⟩,rfl⟩
theorem zvG(r:Nat)(s:Bs)(i:Nat)(w:World)(hL:Holds w.heap.size (OwnOf [zj r s i]) [zj r s i] w)(L:BsF w (OwnOf [zj r s i]) s)(K:i<=s.n)(hb:s.n<1000000):
  FnP Tryz.prog 53 [rdA r] w (OwnOf [zj r s i]) (RP r s i zel zhw) (RN s i zel):=by
 refine zaI Tryz.func53 rfl Tryz.ntmps53 q_p hL ?_;have h:=λb m (G:Keep (OwnOf [zj r s i]) w m) (j:∀x,OwnOf [zj r s i,.blk b 45 zdR] x->w.heap.size<=x\/OwnOf [zj r s i] x) (F:Holds m.heap.size (OwnOf [zj r s i,.blk b 45 zdR]) [zj r s i,.blk b 45 zdR] m)=>zhy 117 [.pointer (some ⟨b,0,none⟩)] (.blk b 45 zdR) ze9 (zwb b) s.n q_o (en rfl) (zth b s.n hb) r s i m F (L.to G j) K (A7 _);unfold zwb at h;repeat' first|refine s_0 ?_|refine zf 0 ?_;refine zk λ_=>?_;refine zk λ_=>?_
 rename_i _ A;repeat' first|refine zf 1 ?_;refine zm ?_;refine q_v zab ?_;(refine zaQ (f:=90) (C:=[zj r s i,.blk A 45 zdR]) (F0 (r':=zj r s i) (by repeat (first|exact Eu|apply Ew)) rfl (F0 (r':=.blk A 45 zdR) (by repeat (first|exact Eu|apply Ew)) rfl F2)) (hc:=λm G j F=>h A m G j F) ?_ ?_)
 ·rintro _ _ ⟨x,H,k,_,h1,I,J,⟨rfl,p,rfl⟩,rfl⟩;have hC:(zF p x).length=11:=rfl;have q:(zF p x).all (·.oneCell')=true:=rfl;unfold zhw zaD;generalize E:zF p x=C at*;repeat' first|refine s_0 ?_|refine zf 2 ?_;refine q_v (ze (B:=C) (hz:=hC.symm) (hv:=Ex)) ?_;refine q_n (zG (B:=C) (hv:=q) (h1:=hC.symm) (hC:=rfl)) ?_
  exact zd8 rfl (zE (B:=C) rfl (ty rfl) rfl Ey Ex hC.symm) q_h ⟨x,H,k,_,h1,I,J,⟨p,by rw[E],rfl⟩,rfl⟩
 ·rintro _ _ ⟨h1,rfl,rfl⟩;repeat' first|refine zJ ?_|fail
  exact zau Ev ⟨h1,rfl,rfl⟩
end Go.Proofs.YtdnlngbjpdbffaaGreatDoor
namespace Go.Ct
open Go Go.Sy
theorem zzm{α:Type}{t:Nat}{f:List UInt8->Option (α×List UInt8)}{b:List UInt8}{x:α}{r:List UInt8}(h:rdW t f b=some (x,r)):r.length<b.length:=by
 unfold rdW at h;cases h1:zaZ t b with
 |none=>rw[h1] at h;cases h
 |some p=>
  rw[h1] at h;dsimp only[Option.bind_some] at h;cases h2:f p.1 with
  |none=>rw[h2] at h;cases h
  |some y=>
   rw[h2] at h;dsimp only[Option.bind_some] at h;split at h
   ·cases h;exact(zfO h1).1
   ·cases h
theorem zng{b:List UInt8}{c:Cert}{r:List UInt8}(h:zel b=some (c,r)):r.length<b.length:=zzm h
theorem zhz(n:Nat):za8 [] n=some []:=by unfold za8;rw[if_pos rfl]
theorem zgR{b:List UInt8}(h:b≠[]):za8 b 0=none:=by unfold za8;rw[if_neg h]
theorem zii{b:List UInt8}{n:Nat}(h:b≠[])(hc:zel b=none):za8 b (n+1)=none:=by unfold za8;rw[if_neg h];simp only[hc,Bt]
theorem zg2{b:List UInt8}{n:Nat}{c:Cert}{r:List UInt8}(h:b≠[])(hc:zel b=some (c,r)):za8 b (n+1)=(za8 r n).map (c:: ·):=by
 rw[za8,if_neg h];simp only[hc,Ac]
end Go.Ct
namespace Go.Proofs.YtdnlngbjpdbffaaGreatDoor
open Go Go.Sy Go.Ct Go.RowKit
attribute [local irreducible] Sy SyL SyX SyC SyF SyG SyH Sy.Fn Sy.FnP callFunc
def allRows:List Pl->List Cert->List Res
 |p::ps,x::l=>zaD p x++allRows ps l
 |_,_=>[]
def zwe(b:Nat)(l:List Cert)(R:List Res):Prop:=∃a k ps,ps.length=l.length/\R= .blk b 22 [.slice a l.length k]:: .row (.slice a l.length k) 45 11 l.length (List.zipWith zF ps l).flatten::allRows ps.reverse l.reverse
theorem zrd(b m:Nat)(hm:m<1000000):zhG 91 [.pointer (some ⟨b,0,none⟩)] (.blk b 22 [.slice none 0 0]) (λx=>(za8 x 5).map λl=>(l,[])) (zwe b) m:=by
 intro r s i w hL hs hi hb;refine zaI Tryz.func91 rfl Tryz.ntmps91 q_p hL ?_;have A:=hs.len;repeat' first|refine s_t ?_|refine zf 0 ?_;refine zk λ_=>?_
 rename_i bx;refine zbg (zaT 45 11) ?_;refine zL (γ:=Nat×List Pl×List Cert×Option Addr×Nat) (λg=>[(1,.pointer (some ⟨b,0,none⟩)),(2,.pointer (some ⟨bx,0,none⟩))])
  (λg=> .row (.slice g.2.2.2.1 g.2.2.1.length g.2.2.2.2) 45 11 g.2.2.1.length (List.zipWith zF g.2.1.reverse g.2.2.1.reverse).flatten::zj r s g.1:: .blk b 22 [.slice g.2.2.2.1 g.2.2.1.length g.2.2.2.2]:: .blk bx 82 [.pointer (some ⟨r,0,none⟩)]::allRows g.2.1 g.2.2.1)
  (λg=>g.1<=s.n/\g.2.2.1.length<=5/\g.2.1.length=g.2.2.1.length/\za8 (s.l.drop i) 5=(za8 (s.l.drop g.1) (5-g.2.2.1.length)).map (g.2.2.1.reverse ++ ·)) (λg=>s.n-g.1) (i,[],[],none,0) ⟨hi,AA _,rfl,by simp⟩ ?_ ?_ ?_
 ·exact q_h
 ·exact q_h
 rintro⟨k,G,l,P,Q⟩ ⟨F,T,I,B⟩;dsimp only at F T I B ⊢;have J:=λj hr=>zdZ r s k j hr F hs.cap;by_cases hz:s.n-k=0
 ·have g:decide (((s.n-k:Nat):Int)>0)=false:=q_f;repeat' first|refine s_0 ?_|refine q_k 1 ?_;refine zm ?_;refine q_v (za (hc:=λj X L E=>J j (zp (E.has (r:=zj r s k) q_h) Ex))) ?_;refine q_v (zH (hr:=g)) ?_
  have hd:s.l.drop k= []:=(za4 A).2 hz;refine zeG rfl (R:=zj r s k::(.blk b 22 [.slice P l.length Q]:: .row (.slice P l.length Q) 45 11 l.length (List.zipWith zF G.reverse l.reverse).flatten::allRows G l)) ?_ ⟨l.reverse,[],k,_,?_,F,hd,⟨rfl,P,Q,G.reverse,by simp[I],by simp⟩,rfl⟩
  ·(repeat' (first|exact Ev|apply F3;with_reducible (focus ((repeat (first|exact Eu|apply Ew));done))|apply F9;(focus ((repeat (first|exact Eu|apply Ew));done))|apply F3;(focus ((repeat (first|exact Eu|apply Ew));done))|apply F6;(focus ((repeat (first|exact Eu|apply Ew));done))|rfl))
   all_goals (repeat (first|exact Ez|apply F7))
  ·show(za8 (s.l.drop i) 5).map (λl=>(l,([]:List UInt8)))=_;rw[B,hd,zhz];simp
 ·have g:decide (((s.n-k:Nat):Int)>0)=true:=q_d;have K:s.l.drop k≠[]:=λh=>hz ((za4 A).1 h);by_cases h5:l.length<5
  ·have g5:decide ((l.length:Int)<5)=true:=q_d;have a6:=λj (L:Keep (OwnOf [zj r s i,.blk b 22 [.slice none 0 0]]) w j) (Z:∀x,OwnOf [zj r s k] x->w.heap.size<=x\/OwnOf [zj r s i,.blk b 22 [.slice none 0 0]] x) (E:Holds j.heap.size (OwnOf [zj r s k]) [zj r s k] j)=>zvG r s k j E (hs.to L Z) F q_o;repeat' first|refine s_t ?_|refine q_k 1 ?_;refine zm ?_;refine q_v (za (hc:=λj X L E=>J j (zp (E.has (r:=zj r s k) q_h) Ex))) ?_;refine q_v (zH (hr:=g)) ?_|refine zf 2 ?_;refine zm ?_;refine zb ?_;refine q_v (zn (hr:=g5)) ?_;refine q_v (za (hc:=q_c zeb)) ?_
   (refine zdm (id:=3) [0,0] true [] [0,1] [(2,[]),(3,[]),(4,[]),(5,[])] mixed q_h ?_ ?_;kernel_rfl;refine ygv zM (k:=?_);refine ygv ze (k:=?_);refine yg0 ?_;try refine yg0 ?_;try refine yg0 ?_;try refine yg0 ?_;try refine zg5 ?_)
   have M:5-l.length=(4-l.length)+1:=q_o;refine yhp (f:=53) (M':=OwnOf [zj r s k]) (C:=[zj r s k]) (F0 (r':=zj r s k) (by repeat (first|exact Eu|apply Ew)) rfl F2) (λ_ h=>h) (hc:=λj X L E=>a6 j L (zh8 (F0 (r':=zj r s k) (by repeat (first|exact Eu|apply Ew)) rfl F2) E) (zhN (F0 (r':=zj r s k) (by repeat (first|exact Eu|apply Ew)) rfl F2) E)) (hp:=?_) (k:=?_)
   ·rintro _ _ ⟨h1,rfl,rfl⟩;repeat' first|refine zJ ?_|refine zb8 ?_|fail
    refine zau Ev ⟨?_,rfl,rfl⟩;show(za8 (s.l.drop i) 5).map (λl=>(l,([]:List UInt8)))=_;rw[B,M,zii K h1];rfl
   rintro _ _ ⟨x,a8,N,_,h1,h2,h3,⟨p,rfl,rfl⟩,rfl⟩;refine yg0 ?_;have hC:(zF p x).length=11:=rfl;have H:(zF p x).all (·.oneCell')=true:=rfl;have a7:List.zipWith zF (p::G).reverse (x::l).reverse=List.zipWith zF G.reverse l.reverse++[zF p x]:=by
    rw[CL,CL,El (by simp[I])];rfl
   have hys:(List.zipWith zF G.reverse l.reverse).flatten++zF p x=(List.zipWith zF (p::G).reverse (x::l).reverse).flatten:=by rw[a7,DC];simp
   have W:l.length+1=(x::l).length:=rfl;obtain⟨O,S⟩:∃O,O=zF p x:=⟨_,rfl⟩;rw[<-S] at hC H hys ⊢;refine yhs (zb3 (vs:=[.agg O.toArray]) (zeL hC rfl)) (k:=?_);rintro _ _ ⟨bL,rfl,rfl⟩;refine yg0 ?_;refine yhs (zaz (size:=11) (news:=O) (m:=1) (hn:=hC) (h1:=H) (hys:=hys) (hkm:=W)) (k:=?_);rintro _ _ ⟨rfl,aN,cN,rfl⟩;refine yg0 ?_;refine yhn (zaO (v:=.slice aN (x::l).length cN) (hC:=⟨A5 rfl,rfl⟩)) (k:=?_);refine zg5 ?_;repeat' first|refine zao ?_|refine zgZ ?_|fail
   have Y:=zng h1;have V:(s.l.drop N).length=s.n-N:=by rw[As,A]
   have U:(s.l.drop k).length=s.n-k:=by rw[As,A]
   rw[<-h3,V,U] at Y;refine zC (N,p::G,x::l,aN,cN) ⟨h2,?_,?_,?_⟩ ?_ ?_ ?_
   ·show l.length+1<=5;omega
   ·show G.length+1=l.length+1;omega
   ·show za8 (s.l.drop i) 5=(za8 (s.l.drop N) (5-(l.length+1))).map ((x::l).reverse ++ ·);rw[B,M,zg2 K h1,h3,show 5-(l.length+1)=4-l.length by omega];cases za8 a8 (4-l.length) with
    |none=>rfl
    |some q=>simp
   ·show s.n-N<s.n-k;omega
   ·exact q_h
   ·dsimp only[allRows,zaD];simp only[Ae,Ag]
    (repeat' (first|exact Ev|apply F3;with_reducible (focus ((repeat (first|exact Eu|apply Ew));done))|apply F9;(focus ((repeat (first|exact Eu|apply Ew));done))|apply F3;(focus ((repeat (first|exact Eu|apply Ew));done))|apply F6;(focus ((repeat (first|exact Eu|apply Ew));done))|rfl))
    all_goals (repeat (first|exact Ez|apply F7))
  ·have g5:decide ((l.length:Int)<5)=false:=q_f;repeat' first|refine s_t ?_|refine q_k 1 ?_;refine zm ?_;refine q_v (za (hc:=λj X L E=>J j (zp (E.has (r:=zj r s k) q_h) Ex))) ?_;refine q_v (zH (hr:=g)) ?_|refine zf 2 ?_;refine zm ?_;refine zb ?_;refine q_v (zn (hr:=g5)) ?_;(refine zbi (hc:=λj _ _ _=>zeh j) ?_)|refine zJ ?_|refine zb8 ?_|fail
   refine zau Ev ⟨?_,rfl,rfl⟩;have:5-l.length=0:=q_o;show(za8 (s.l.drop i) 5).map (λl=>(l,([]:List UInt8)))=_;rw[B,this,zgR K];rfl
theorem zse(r:Nat)(s:Bs)(i:Nat)(w:World)(hL:Holds w.heap.size (OwnOf [zj r s i]) [zj r s i] w)(M:BsF w (OwnOf [zj r s i]) s)(L:i<=s.n)(hb:s.n<1000000):
  FnP Tryz.prog 44 [rdA r] w (OwnOf [zj r s i]) (RP r s i zeu (λl v R=>∃a k m,m.length=l.length/\v= .slice a l.length k/\R= .row (.slice a l.length k) 45 11 l.length (List.zipWith zF m l).flatten::allRows m.reverse l.reverse)) (RN s i zeu):=by
 refine zaI Tryz.func44 rfl Tryz.ntmps44 q_p hL ?_;have h:=λb q (F:Keep (OwnOf [zj r s i]) w q) (j:∀x,OwnOf [zj r s i,.blk b 22 [.slice none 0 0]] x->w.heap.size<=x\/OwnOf [zj r s i] x) (E:Holds q.heap.size (OwnOf [zj r s i,.blk b 22 [.slice none 0 0]]) [zj r s i,.blk b 22 [.slice none 0 0]] q)=>zhy 91 [.pointer (some ⟨b,0,none⟩)] (.blk b 22 [.slice none 0 0]) (λx=>(za8 x 5).map λl=>(l,[])) (zwe b) s.n q_o (en rfl) (zrd b s.n hb) r s i q E (M.to F j) L (A7 _);unfold zwe at h;repeat' first|refine s_0 ?_|refine zf 0 ?_;refine zk λ_=>?_;refine zk λ_=>?_
 rename_i _ A;repeat' first|refine zf 1 ?_;refine zm ?_;refine q_v zab ?_;(refine zaQ (f:=90) (C:=[zj r s i,.blk A 22 [.slice none 0 0]]) (F0 (r':=zj r s i) (by repeat (first|exact Eu|apply Ew)) rfl (F0 (r':=.blk A 22 [.slice none 0 0]) (by repeat (first|exact Eu|apply Ew)) rfl F2)) (hc:=λq F j E=>h A q F j E) ?_ ?_)
 ·rintro _ _ ⟨x,H,k,_,B,J,K,⟨rfl,a,I,m,G,rfl⟩,rfl⟩;repeat' first|refine s_0 ?_|refine zf 2 ?_;refine zm ?_;refine zP ?_
  refine zd8 rfl (zdD rfl (ty rfl) rfl Ey rfl) (R:=zj r s k::(.row (.slice a x.length I) 45 11 x.length (List.zipWith zF m x).flatten::allRows m.reverse x.reverse)) ?_ ⟨x,H,k,_,B,J,K,⟨a,I,m,G,rfl,rfl⟩,rfl⟩;exact F3 Eu (F7 ⟨_,Ay _⟩)
 ·rintro _ _ ⟨B,rfl,rfl⟩;repeat' first|refine zJ ?_|fail
  exact zau Ev ⟨B,rfl,rfl⟩
end Go.Proofs.YtdnlngbjpdbffaaGreatDoor
namespace Go.Ct
open Go Go.Sy
theorem zqt{l:List UInt8}{t:Int}(h:rdI l=some t): -zb1<=t/\t<=zb1:=by
 unfold rdI at h;split at h
 ·rename_i j;cases h;exact⟨j.2.2.1,j.2.2.2.1⟩
 ·cases h
theorem zqb{l:List UInt8}{t:Int}(h:rdT l=some t):0<=t/\t<=1099511627776:=by
 unfold rdT at h;split at h
 ·rename_i j;cases h;exact⟨by omega,by omega⟩
 ·cases h
theorem zgD{α:Type}{t:Nat}{f:List UInt8->Option α}{b:List UInt8}{x:α}{r:List UInt8}(h:rdV t f b=some (x,r)):∃c,c.length<=b.length/\f c=some x:=by
 unfold rdV at h;cases h1:zaZ t b with
 |none=>rw[h1] at h;cases h
 |some p=>
  rw[h1] at h;dsimp only[Option.bind_some] at h;cases h2:f p.1 with
  |none=>rw[h2] at h;cases h
  |some y=>
   rw[h2] at h;cases h;exact⟨p.1,by have:=zfO h1;omega,h2⟩
theorem zcA{α:Type}{t:Nat}{f:List UInt8->Option (α×List UInt8)}{b:List UInt8}{x:α}{r:List UInt8}(h:rdW t f b=some (x,r)):r.length<=b.length/\∃c q,c.length<=b.length/\f c=some (x,q):=by
 unfold rdW at h;cases h1:zaZ t b with
 |none=>rw[h1] at h;cases h
 |some p=>
  rw[h1] at h;dsimp only[Option.bind_some] at h;cases h2:f p.1 with
  |none=>rw[h2] at h;cases h
  |some y=>
   rw[h2] at h;dsimp only[Option.bind_some] at h;split at h
   ·cases h;have:=zfO h1;exact⟨by omega,p.1,y.2,by omega,h2⟩
   ·cases h
theorem zcB{α β:Type}{o:Option α}{f:α->Option β}{y:β}(h:o.bind f=some y):∃x,o=some x/\f x=some y:=by
 cases o with
 |none=>cases h
 |some x=>exact⟨x,rfl,h⟩
theorem zqY{b:List UInt8}{p:Prin}{r:List UInt8}(h:rdP b=some (p,r)):p.ok=true:=by
 unfold rdP at h;obtain⟨s,-,h⟩:=zcB h;obtain⟨m,-,h⟩:=zcB h;obtain⟨parts,-,h⟩:=zcB h;obtain⟨q,-,h⟩:=zcB h;split at h
 ·rename_i j;cases h;exact j.2
 ·cases h
structure Cert.rd(n:Nat)(c:Cert):Prop where
 ser: -zb1<=c.serial/\c.serial<=zb1
 iss:c.issuer.ok=true
 sub:c.subject.ok=true
 fr:0<=c.fr/\c.fr<=1099511627776
 til:0<=c.til/\c.til<=1099511627776
 grp: -zb1<=c.group/\c.group<=zb1
 pub:c.pub.length<=n
 sig:c.sig.length<=n
theorem zsq{b:List UInt8}{c:Cert}{r:List UInt8}(h:zbM b=some (c,r)):c.rd b.length/\r.length<=b.length:=by
 unfold zbM at h;obtain⟨j,G,h⟩:=zcB h;obtain⟨m,H,h⟩:=zcB h;obtain⟨q,I,h⟩:=zcB h;obtain⟨w,J,h⟩:=zcB h;obtain⟨A,K,h⟩:=zcB h;obtain⟨B,L,h⟩:=zcB h;obtain⟨E,M,h⟩:=zcB h;obtain⟨F,N,h⟩:=zcB h;cases h;obtain⟨W,O,q0,m0,f0⟩:=zcA (x:=j.1) (r:=j.2) G;obtain⟨X,P,q1,m1,f1⟩:=zcA (x:=m.1) (r:=m.2) H;obtain⟨Y,Q,q2,m2,f2⟩:=zcA (x:=q.1) (r:=q.2) I;obtain⟨Z,R,q3,m3,f3⟩:=zcA (x:=w.1) (r:=w.2) J;obtain⟨l4,S,q4,m4,f4⟩:=zcA (x:=A.1) (r:=A.2) K;obtain⟨l5,-⟩:=zcA (x:=B.1) (r:=B.2) L;obtain⟨l6,T,q6,m6,f6⟩:=zcA (x:=E.1) (r:=E.2) M;obtain⟨l7,U,q7,m7,f7⟩:=zcA (x:=F.1) (r:=F.2) N;obtain⟨d0,-,g0⟩:=zgD f0;obtain⟨d3,-,g3⟩:=zgD f3;obtain⟨d4,-,g4⟩:=zgD f4;obtain⟨d6,-,g6⟩:=zgD f6;obtain⟨d7,V,g7⟩:=zgD f7;cases g7;exact⟨⟨zqt g0,zqY f1,zqY f2,zqb g3,zqb g4,zqt g6,by dsimp only;omega,AA _⟩,by omega⟩
theorem zst{b:List UInt8}{c:Cert}{r:List UInt8}(h:zel b=some (c,r)):c.rd b.length:=by
 obtain⟨-,B,N,J,f0⟩:=zcA h;unfold ze9 at f0;obtain⟨m,w,f0⟩:=zcB f0;obtain⟨q,A,f0⟩:=zcB f0;cases f0;obtain⟨H,E,O,K,f1⟩:=zcA (x:=m.1) (r:=m.2) w;obtain⟨-,F,P,L,f2⟩:=zcA f1;obtain⟨I,G,Q,M,f3⟩:=zcA (x:=q.1) (r:=q.2) A;obtain⟨d3,k3,g3⟩:=zgD f3;cases g3;have j:=(zsq f2).1;exact⟨j.ser,j.iss,j.sub,j.fr,j.til,j.grp,by have:=j.pub;dsimp only;omega,by dsimp only;omega⟩
theorem zll:∀(n:Nat) {b:List UInt8}{l:List Cert},za8 b n=some l->∀c∈l,c.rd b.length
 |n,b,l,h=>by
  intro c j;by_cases hb:b= []
  ·subst hb;rw[zhz] at h;cases h;cases j
  ·cases n with
   |zero=>rw[zgR hb] at h;cases h
   |succ n=>
    cases h1:zel b with
    |none=>rw[zii hb h1] at h;cases h
    |some p=>
     rw[zg2 hb (c:=p.1) (r:=p.2) h1] at h;obtain⟨w,m,e⟩:=Ab.1 h;subst e;have q:=zng (c:=p.1) (r:=p.2) h1;rcases AV.1 j with rfl|j
     ·exact zst (r:=p.2) h1
     ·have:=zll n m c j;exact⟨this.ser,this.iss,this.sub,this.fr,this.til,this.grp,by have:=this.pub;omega,by have:=this.sig;omega⟩
theorem zls{b:List UInt8}{l:List Cert}{r:List UInt8}(h:zeu b=some (l,r)):∀c∈l,c.rd b.length:=by
 obtain⟨-,q,B,A,f0⟩:=zcA h;obtain⟨w,j,e⟩:=Ab.1 f0;cases e;intro c m;have:=zll 5 j c m;exact⟨this.ser,this.iss,this.sub,this.fr,this.til,this.grp,by have:=this.pub;omega,by have:=this.sig;omega⟩
theorem zkn:∀(n:Nat) {b:List UInt8}{l:List Cert},za8 b n=some l->l.length<=n
 |n,b,l,h=>by
  by_cases hb:b= []
  ·subst hb;rw[zhz] at h;cases h;exact AA _
  ·cases n with
   |zero=>rw[zgR hb] at h;cases h
   |succ n=>
    cases h1:zel b with
    |none=>rw[zii hb h1] at h;cases h
    |some p=>
     rw[zg2 hb (c:=p.1) (r:=p.2) h1] at h;obtain⟨m,j,e⟩:=Ab.1 h;subst e;have:=zkn n j;rw[AQ];omega
theorem zkj{b:List UInt8}{l:List Cert}{r:List UInt8}(h:zeu b=some (l,r)):l.length<=5:=by
 obtain⟨-,m,A,w,f0⟩:=zcA h;obtain⟨q,j,e⟩:=Ab.1 f0;cases e;exact zkn 5 j
theorem zjD{z:Int}(h1: -9223372036854775808<=z)(h2:z<=9223372036854775807):(Lit.int .i64 z).wf=true:=by
 show(decide (IntKind.i64.min<=z)&&decide (z<=IntKind.i64.max))=true;rw[show IntKind.i64.min= -9223372036854775808 from rfl,show IntKind.i64.max=9223372036854775807 from rfl,decide_eq_true h1,decide_eq_true h2];rfl
theorem Cert.rd_wf{n:Nat}{c:Cert}(h:c.rd n):(Lit.int .i64 c.serial).wf=true/\(Lit.int .i64 c.fr).wf=true/\(Lit.int .i64 c.til).wf=true/\(Lit.int .i64 c.group).wf=true:=by
 have j:=h.ser;have m:=h.fr;have q:=h.til;have r:=h.grp;unfold zb1 at*;exact⟨zjD q_o q_o,zjD q_o q_o,zjD q_o q_o,zjD q_o q_o⟩
theorem Cert.rd_fine{n:Nat}{c:Cert}(h:c.rd n):c.fine:=by
 obtain⟨a1,a2,a3⟩:=FB h.iss;obtain⟨q,m,r⟩:=FB h.sub;exact⟨⟨by omega,by omega,λx j=>by have:=a2 x j;omega⟩,⟨by omega,by omega,λx j=>by have:=m x j;omega⟩⟩
def Ft:=@Cert.rd_fine
end Go.Ct
