/- Lemmas of this proof. -/
import Derived.Test.YtdnlngbjpdbffaaGreatDoorHJ42
set_option maxHeartbeats 4000000
set_option maxRecDepth 10000
set_option linter.all false
namespace Go.Proofs.YtdnlngbjpdbffaaGreatDoor
open Go Go.Sy Go.Ct Go.RowKit
attribute [local irreducible] Sy SyL SyX SyC SyF SyG SyH Sy.Fn Sy.FnP callFunc
theorem zvQ(a:Option Addr)(n c:Nat)(l:List UInt8)(w:World):q_G 201 [.agg #[.slice a n c,zW l],.int .i64 0] w (.agg #[.slice a n c,zW l]):=by
 refine zz Tryz.func201 Tryz.ntmps201 ?_;unfold zW;repeat' (first|refine s_0 ?_|refine ze 0 ?_;refine zi ?_;intro _;refine zi ?_;intro _|refine q_k 1 ?_;refine q_v (zY (hr:=rfl)) ?_;refine q_v (za (hc:=q_c zdh)) ?_|refine ze 2 ?_;refine q_v (zd (B:=[.slice a n c,.string (str l)]) (hv:=Em)) ?_;refine zJ ?_)
 exact zaq rfl (zB (B:=[.slice a n c,.string (str l)]) rfl (ty rfl) rfl En Em rfl) El ⟨rfl,rfl⟩
theorem zu4(a:Option Addr)(n c:Nat)(l:List UInt8)(e:Int)(he:e≠0)(w:World):FnP Tryz.prog 201 [.agg #[.slice a n c,zW l],.int .i64 e] w No (λ_ _=>False) (λv R=>v=zbr/\R= []):=by
 refine zay Tryz.func201 rfl Tryz.ntmps201 q_p FF ?_;unfold zW;have g:decide (e=0)=false:=decide_eq_false he;repeat' (first|refine s_0 ?_|refine ze 0 ?_;refine zi ?_;intro _;refine zi ?_;intro _|refine q_k 1 ?_;refine q_v (zY (hr:=g)) ?_;(refine za0 (hc:=λj _ _ _=>zcS j) ?_)|refine zH ?_|fail)
 exact zao El ⟨rfl,rfl⟩
def zqF(b:Nat)(x:Prin)(R:List Res):Prop:=∃a k,R= [.blk b 43 [.slice a x.parts.length k,zW x.realm],.row (.slice a x.parts.length k) 9 1 x.parts.length (x.parts.map zW)]
def zxP(x:Prin)(v:Value)(R:List Res):Prop:=∃a k,v= .agg #[.slice a x.parts.length k,zW x.realm]/\R= [.row (.slice a x.parts.length k) 9 1 x.parts.length (x.parts.map zW)]
theorem zkP(b m:Nat)(hm:m<1000000):zg2 200 [.pointer (some ⟨b,0,none⟩)] (.blk b 43 [.slice none 0 0,.string ByteArray.empty]) rdP (zqF b) m:=by
 intro r s i w J M L N;refine zay Tryz.func200 rfl Tryz.ntmps200 q_p J ?_;have h:=λj (E:Keep (OwnOf [zh r s i,.blk b 43 [.slice none 0 0,.string ByteArray.empty]]) w j) (F:∀x,OwnOf [zh r s i] x->w.heap.size<=x\/OwnOf [zh r s i,.blk b 43 [.slice none 0 0,.string ByteArray.empty]] x) (A:Holds j.heap.size (OwnOf [zh r s i]) [zh r s i] j)=>zsF r s i j A (M.to E F) L q_o;unfold zkM at h;unfold zqF;repeat' (first|refine s_0 ?_|refine ze 0 ?_;refine zi ?_;intro _|refine q_k 1 ?_;refine zl ?_;(refine q_s (zaY (f:=202) (C:=[zh r s i]) (Eo (r':=zh r s i) (by repeat (first|exact Ej|apply Ek)) rfl Er) (hc:=λj E hm A=>h j E hm A)) ?_;rintro _ _ ⟨R,rfl,(⟨p,G,k,a,c,h1,H,I,rfl,rfl⟩|⟨h1,e,K,rfl,rfl⟩)⟩);refine zf ?_|(refine zx ?_;first|refine zC ?_|fail)|fail)
 ·have q:=λj=>zvQ a p.parts.length c p.realm j;unfold zW at q ⊢;repeat' (first|refine zaC ?_|(refine zx ?_;first|refine q_v (za (hc:=q_c q)) ?_|refine q_n (zA (B:=[.slice a p.parts.length c,.string (str p.realm)]) (h1:=rfl)) ?_|fail)|fail)
  exact zef rfl q_h ⟨p,G,k,_,h1,H,I,⟨rfl,a,c,rfl⟩,rfl⟩
 ·have q:=λj=>zu4 none 0 0 [] e K j;unfold zW at q ⊢;repeat' (first|(refine zx ?_;first|refine za0 (hc:=λj _ _ _=>q j) ?_|fail)|fail)
  exact zao El ⟨h1,rfl,rfl⟩
theorem ziA(r:Nat)(s:Bs)(i n t:Nat)(w:World)(K:t=160+n)(hn:n<=30)(hL:Holds w.heap.size (OwnOf [zh r s i]) [zh r s i] w)(J:BsF w (OwnOf [zh r s i]) s)(I:i<=s.n)(hb:s.n<1000000):
  FnP Tryz.prog 122 [rdA r,.int .i64 (n:Int)] w (OwnOf [zh r s i]) (RP r s i (rdW t rdP) zxP) (RN s i (rdW t rdP)):=by
 subst K;refine zay Tryz.func122 rfl Tryz.ntmps122 q_p hL ?_;have h:=λb m (E:Keep (OwnOf [zh r s i]) w m) (j:∀x,OwnOf [zh r s i,.blk b 43 [.slice none 0 0,.string ByteArray.empty]] x->w.heap.size<=x\/OwnOf [zh r s i] x) (A:Holds m.heap.size (OwnOf [zh r s i,.blk b 43 [.slice none 0 0,.string ByteArray.empty]]) [zh r s i,.blk b 43 [.slice none 0 0,.string ByteArray.empty]] m)=>zfX 200 [.pointer (some ⟨b,0,none⟩)] (.blk b 43 [.slice none 0 0,.string ByteArray.empty]) rdP (zqF b) s.n q_o (en rfl) (zkP b s.n hb) r s i m A (J.to E j) I (A8 _) n hn;unfold zqF at h;repeat' (first|refine s_0 ?_|refine ze 0 ?_;refine zi ?_;intro _;refine zi ?_;intro _)
 rename_i _ q;repeat' (first|refine ze 1 ?_;refine zl ?_;refine zf ?_;refine q_v zZ ?_;(refine zaL (f:=118) (C:=[zh r s i,.blk q 43 [.slice none 0 0,.string ByteArray.empty]]) (Eo (r':=zh r s i) (by repeat (first|exact Ej|apply Ek)) rfl (Eo (r':=.blk q 43 [.slice none 0 0,.string ByteArray.empty]) (by repeat (first|exact Ej|apply Ek)) rfl Er)) (hc:=λm E j A=>h q m E j A) ?_ ?_))
 ·rintro _ _ ⟨x,F,k,_,h1,G,H,⟨rfl,a,c,rfl⟩,rfl⟩;unfold zxP zW;repeat' (first|refine s_0 ?_|refine ze 2 ?_;refine q_v (zd (B:=[.slice a x.parts.length c,.string (str x.realm)]) (hv:=Em)) ?_;refine q_n (zA (B:=[.slice a x.parts.length c,.string (str x.realm)]) (h1:=rfl)) ?_)
  exact zdL rfl (zB (B:=[.slice a x.parts.length c,.string (str x.realm)]) rfl (ty rfl) rfl En Em rfl) q_h ⟨x,F,k,_,h1,G,H,⟨a,c,rfl,rfl⟩,rfl⟩
 ·rintro _ _ ⟨h1,rfl,rfl⟩;repeat' (first|refine zH ?_|fail)
  exact zao El ⟨h1,rfl,rfl⟩
theorem zrT(b m:Nat)(hm:m<1000000000)(z0 z5 U V:Int)(s1 S T B:Option Addr)(O K P L Q N A q:Nat)(t2 t4:ByteArray):zg2 124 [.pointer (some ⟨b,0,none⟩)] (.blk b 45 [.int .i64 z0,.slice s1 O K,.string t2,.slice S P L,.string t4,.int .i64 z5,.int .i64 U,.bool false,.int .i64 V,.slice T Q N,.slice B A q]) (rdV 1 Ct.rdB) (λt R=>R= [.blk b 45 [.int .i64 z0,.slice s1 O K,.string t2,.slice S P L,.string t4,.int .i64 z5,.int .i64 U,.bool t,.int .i64 V,.slice T Q N,.slice B A q]]) m:=by
 intro r s i w Y I hi hb;refine zay Tryz.func124 rfl Tryz.ntmps124 q_p Y ?_;have h:=λM j (G:Keep M w j) (I:BsF w M s) (H:∀x,OwnOf [zh r s i] x->w.heap.size<=x\/M x) (F:Holds j.heap.size (OwnOf [zh r s i]) [zh r s i] j)=>zsQ r s i j F (I.to G H) hi q_o;unfold zbs at h;repeat' (first|refine s_0 ?_|refine ze 0 ?_;refine zi ?_;intro _|refine q_k 1 ?_;refine zl ?_;(refine q_s (zaY (f:=126) (C:=[zh r s i]) (Eo (r':=zh r s i) (by repeat (first|exact Ej|apply Ek)) rfl Er) (hc:=λj G hm F=>h _ j G I hm F)) ?_;rintro _ _ ⟨R,rfl,(⟨x,J,k,u,R',E,W,X,⟨rfl,rfl⟩,rfl,rfl⟩|⟨E,e,u,Z,rfl,rfl⟩)⟩);refine zf ?_|(refine zx ?_;first|refine zC ?_|fail)|fail)
 ·repeat' (first|refine zaC ?_|(refine zx ?_;first|refine q_v (za (hc:=λ_ _ _ _=>(zwi _ _))) ?_|refine q_n (zaK (v:=.bool x) (hC:=⟨A6 rfl,rfl⟩)) ?_|refine za3 ?_|fail)|fail)
  exact zef rfl q_h ⟨x,J,k,_,E,W,X,⟨rfl,rfl⟩,rfl⟩
 ·repeat' (first|(refine zx ?_;first|refine za0 (hc:=λj _ _ _=>zvS u e Z j) ?_|fail)|fail)
  exact zao El ⟨E,rfl,rfl⟩
abbrev zcJ:List Value:=[.int .i64 0,.slice none 0 0,.string ByteArray.empty,.slice none 0 0,.string ByteArray.empty,.int .i64 0,.int .i64 0,.bool false,.int .i64 0,.slice none 0 0,.slice none 0 0]
def zll(b:Nat)(x:Cert)(R:List Res):Prop:=∃a1 k1 a2 k2 a3 k3,x.sig= []/\R= [.blk b 45 (zE ⟨a1,k1,a2,k2,a3,k3,none,0⟩ x),.row (.slice a1 x.issuer.parts.length k1) 9 1 x.issuer.parts.length (x.issuer.parts.map zW),.row (.slice a2 x.subject.parts.length k2) 9 1 x.subject.parts.length (x.subject.parts.map zW),.row (.slice a3 x.pub.length k3) 5 1 x.pub.length (x.pub.map v8)]
theorem zrl(b m:Nat)(hm:m<1000000):zg2 120 [.pointer (some ⟨b,0,none⟩)] (.blk b 45 zcJ) zbE (zll b) m:=by
 intro r s i w hL K hi hb;refine zay Tryz.func120 rfl Tryz.ntmps120 q_p hL ?_;have A:s.n<1000000000:=q_o;have P:s.n<1000000:=q_o;repeat' (first|refine s_0 ?_|refine ze 0 ?_;refine zi ?_;intro _)
 repeat' (first|refine ze 1 ?_;refine zl ?_;(refine zaL (f:=121) (C:=[zh r s i]) (Eo (r':=zh r s i) (by repeat (first|exact Ej|apply Ek)) rfl Er) (hc:=λG F j E=>zkz r s i 0 160 G rfl q_e E (K.to F j) hi A) ?_ ?_))
 rotate_left
 ·rintro _ _ ⟨q,rfl,rfl⟩;repeat' (first|refine zH ?_|fail)
  exact zao El ⟨by simp only[zbE,q,AW,Bg],rfl,rfl⟩
 rintro _ _ ⟨Q,_,j0,_,J,Y,rfl,⟨rfl,rfl⟩,rfl⟩;repeat' (first|refine s_0 ?_|(refine zx ?_;first|refine q_n (zaK (v:=.int .i64 Q) (hC:=⟨A6 rfl,rfl⟩)) ?_|refine za3 ?_|fail)|fail)
 repeat' (first|refine ze 2 ?_;refine zl ?_;(refine zaL (f:=122) (C:=[zh r s j0]) (Eo (r':=zh r s j0) (by repeat (first|exact Ej|apply Ek)) rfl Er) (hc:=λG F j E=>ziA r s j0 1 161 G rfl q_e E (K.to F j) Y P) ?_ ?_))
 rotate_left
 ·rintro _ _ ⟨q,rfl,rfl⟩;repeat' (first|refine zH ?_|fail)
  exact zao El ⟨by simp only[zbE,J,q,AW,Bg],rfl,rfl⟩
 rintro _ _ ⟨H,_,j1,_,L,Z,rfl,⟨a1,k1,rfl,rfl⟩,rfl⟩;repeat' (first|refine s_0 ?_|(refine zx ?_;first|refine q_n (zdi (B:=[.slice a1 H.parts.length k1,.string (str H.realm)]) (hC:=A6 rfl)) ?_|refine za3 ?_|fail)|fail)
 repeat' (first|refine ze 3 ?_;refine zl ?_;(refine zaL (f:=122) (C:=[zh r s j1]) (Eo (r':=zh r s j1) (by repeat (first|exact Ej|apply Ek)) rfl Er) (hc:=λG F j E=>ziA r s j1 2 162 G rfl q_e E (K.to F j) Z P) ?_ ?_))
 rotate_left
 ·rintro _ _ ⟨q,rfl,rfl⟩;repeat' (first|refine zH ?_|fail)
  exact zao El ⟨by simp only[zbE,J,L,q,AW,Bg],rfl,rfl⟩
 rintro _ _ ⟨I,_,j2,_,M,a6,rfl,⟨a2,k2,rfl,rfl⟩,rfl⟩;repeat' (first|refine s_0 ?_|(refine zx ?_;first|refine q_n (zdi (B:=[.slice a2 I.parts.length k2,.string (str I.realm)]) (hC:=A6 rfl)) ?_|refine za3 ?_|fail)|fail)
 repeat' (first|refine ze 4 ?_;refine zl ?_;(refine zaL (f:=123) (C:=[zh r s j2]) (Eo (r':=zh r s j2) (by repeat (first|exact Ej|apply Ek)) rfl Er) (hc:=λG F j E=>zpr r s j2 3 163 G rfl q_e E (K.to F j) a6 A) ?_ ?_))
 rotate_left
 ·rintro _ _ ⟨q,rfl,rfl⟩;repeat' (first|refine zH ?_|fail)
  exact zao El ⟨by simp only[zbE,J,L,M,q,AW,Bg],rfl,rfl⟩
 rintro _ _ ⟨S,_,j3,_,O,a8,rfl,⟨rfl,rfl⟩,rfl⟩;repeat' (first|refine s_0 ?_|(refine zx ?_;first|refine q_n (zaK (v:=.int .i64 S) (hC:=⟨A6 rfl,rfl⟩)) ?_|refine za3 ?_|fail)|fail)
 repeat' (first|refine ze 5 ?_;refine zl ?_;(refine zaL (f:=123) (C:=[zh r s j3]) (Eo (r':=zh r s j3) (by repeat (first|exact Ej|apply Ek)) rfl Er) (hc:=λG F j E=>zpr r s j3 4 164 G rfl q_e E (K.to F j) a8 A) ?_ ?_))
 rotate_left
 ·rintro _ _ ⟨q,rfl,rfl⟩;repeat' (first|refine zH ?_|fail)
  exact zao El ⟨by simp only[zbE,J,L,M,O,q,AW,Bg],rfl,rfl⟩
 rintro _ _ ⟨T,_,j4,_,V,a9,rfl,⟨rfl,rfl⟩,rfl⟩;repeat' (first|refine s_0 ?_|(refine zx ?_;first|refine q_n (zaK (v:=.int .i64 T) (hC:=⟨A6 rfl,rfl⟩)) ?_|refine za3 ?_|fail)|fail)
 repeat' (first|refine ze 6 ?_;refine zl ?_;refine q_v zZ ?_;(refine zaL (f:=118) (C:=[zh r s j4,.blk b 45 [.int .i64 Q,.slice a1 H.parts.length k1,.string (str H.realm),.slice a2 I.parts.length k2,.string (str I.realm),.int .i64 S,.int .i64 T,.bool false,.int .i64 0,.slice none 0 0,.slice none 0 0]]) (Eo (r':=zh r s j4) (by repeat (first|exact Ej|apply Ek)) rfl (Eo (r':=.blk b 45 [.int .i64 Q,.slice a1 H.parts.length k1,.string (str H.realm),.slice a2 I.parts.length k2,.string (str I.realm),.int .i64 S,.int .i64 T,.bool false,.int .i64 0,.slice none 0 0,.slice none 0 0]) (by repeat (first|exact Ej|apply Ek)) rfl Er)) (hc:=λG F j E=>zfX 124 [.pointer (some ⟨b,0,none⟩)] _ _ _ s.n A (en rfl) (zrT b s.n A _ _ _ _ _ _ _ _ _ _ _ _ _ _ _ _ _ _) r s j4 G E (K.to F j) a9 (A8 _) 5 q_e) ?_ ?_))
 rotate_left
 ·rintro _ _ ⟨q,rfl,rfl⟩;repeat' (first|refine zH ?_|fail)
  exact zao El ⟨by simp only[zbE,J,L,M,O,V,q,AW,Bg],rfl,rfl⟩
 rintro _ _ ⟨x5,_,j5,_,X,b0,rfl,⟨rfl,rfl⟩,rfl⟩;repeat' (first|refine s_0 ?_|fail)
 repeat' (first|refine ze 7 ?_;refine zl ?_;(refine zaL (f:=121) (C:=[zh r s j5]) (Eo (r':=zh r s j5) (by repeat (first|exact Ej|apply Ek)) rfl Er) (hc:=λG F j E=>zkz r s j5 6 166 G rfl q_e E (K.to F j) b0 A) ?_ ?_))
 rotate_left
 ·rintro _ _ ⟨q,rfl,rfl⟩;repeat' (first|refine zH ?_|fail)
  exact zao El ⟨by simp only[zbE,J,L,M,O,V,X,q,AW,Bg],rfl,rfl⟩
 rintro _ _ ⟨x6,_,j6,_,e6,b1,rfl,⟨rfl,rfl⟩,rfl⟩;repeat' (first|refine s_0 ?_|(refine zx ?_;first|refine q_n (zaK (v:=.int .i64 x6) (hC:=⟨A6 rfl,rfl⟩)) ?_|refine za3 ?_|fail)|fail)
 repeat' (first|refine ze 8 ?_;refine zl ?_;(refine zaL (f:=127) (C:=[zh r s j6]) (Eo (r':=zh r s j6) (by repeat (first|exact Ej|apply Ek)) rfl Er) (hc:=λG F j E=>zlM r s j6 7 167 G rfl q_e E (K.to F j) b1 A) ?_ ?_))
 rotate_left
 ·rintro _ _ ⟨q,rfl,rfl⟩;repeat' (first|fail)
  exact zao El ⟨by simp only[zbE,J,L,M,O,V,X,e6,q,AW,Bg],rfl,rfl⟩
 rintro _ _ ⟨N,_,j7,_,e7,b2,rfl,⟨U,W,rfl,rfl⟩,rfl⟩;repeat' (first|refine zaC ?_|(refine zx ?_;first|refine q_n (zaK (v:=.slice U N.length W) (hC:=⟨A6 rfl,rfl⟩)) ?_|refine za3 ?_|fail)|fail)
 unfold zll zW;refine zef rfl (R:=zh r s j7::[.blk b 45 [.int .i64 Q,.slice a1 H.parts.length k1,.string (str H.realm),.slice a2 I.parts.length k2,.string (str I.realm),.int .i64 S,.int .i64 T,.bool x5,.int .i64 x6,.slice U N.length W,.slice none 0 0],.row (.slice a1 H.parts.length k1) 9 1 H.parts.length (H.parts.map zW),.row (.slice a2 I.parts.length k2) 9 1 I.parts.length (I.parts.map zW),.row (.slice U N.length W) 5 1 N.length (N.map v8)]) q_h ⟨⟨Q,H,I,S,T,x5,x6,N,[]⟩,_,j7,_,by simp only[zbE,J,L,M,O,V,X,e6,e7,AW],b2,rfl,⟨rfl,a1,k1,a2,k2,U,W,rfl,rfl⟩,rfl⟩
theorem zri(b m:Nat)(hm:m<1000000):zg2 119 [.pointer (some ⟨b,0,none⟩)] (.blk b 45 zcJ) (rdW 48 zbE) (zll b) m:=by
 intro r s i w K B M L;refine zay Tryz.func119 rfl Tryz.ntmps119 q_p K ?_;have h:=λF q B=>zgW 120 [.pointer (some ⟨b,0,none⟩)] (.blk b 45 zcJ) zbE (zll b) m q_o (en rfl) (zrl b m hm) r s i F q B M L;repeat' (first|refine s_0 ?_|refine ze 0 ?_;refine zi ?_;intro _|refine ze 1 ?_;refine zl ?_;refine q_v zZ ?_;(refine zaL (f:=90) (C:=[zh r s i,.blk b 45 zcJ]) (Eo (r':=zh r s i) (by repeat (first|exact Ej|apply Ek)) rfl (Eo (r':=.blk b 45 zcJ) (by repeat (first|exact Ej|apply Ek)) rfl Er)) (hc:=λF N A q=>h F q (B.to N A)) ?_ ?_))
 ·rintro _ _ ⟨x,E,k,G,j,H,I,⟨rfl,J⟩,rfl⟩;repeat' (first|refine zaC ?_|fail)
  exact zef rfl ⟨_,Aq _⟩ ⟨x,E,k,G,j,H,I,⟨rfl,J⟩,rfl⟩
 ·rintro _ _ ⟨j,rfl,rfl⟩;repeat' (first|fail)
  exact zao El ⟨j,rfl,rfl⟩
def zuy(b:Nat)(x:Cert)(R:List Res):Prop:=∃p,R= .blk b 45 (zE p x)::zac p x
theorem zq4(b m:Nat)(hm:m<1000000):zg2 117 [.pointer (some ⟨b,0,none⟩)] (.blk b 45 zcJ) zeH (zuy b) m:=by
 intro r s i w W G Y X;refine zay Tryz.func117 rfl Tryz.ntmps117 q_p W ?_;have h:=λF B G=>zfX 119 [.pointer (some ⟨b,0,none⟩)] (.blk b 45 zcJ) (rdW 48 zbE) (zll b) m q_o (en rfl) (zri b m hm) r s i F B G Y X 0 q_e;unfold zll at h;repeat' (first|refine s_0 ?_|refine ze 0 ?_;refine zi ?_;intro _|refine ze 1 ?_;refine zl ?_;refine q_v zZ ?_;(refine zaL (f:=118) (C:=[zh r s i,.blk b 45 zcJ]) (Eo (r':=zh r s i) (by repeat (first|exact Ej|apply Ek)) rfl (Eo (r':=.blk b 45 zcJ) (by repeat (first|exact Ej|apply Ek)) rfl Er)) (hc:=λF J q B=>h F B (G.to J q)) ?_ ?_))
 rotate_left
 ·rintro _ _ ⟨H,rfl,rfl⟩;repeat' (first|refine zH ?_|fail)
  exact zao El ⟨by simp only[zeH,show rdW 160 (rdW 48 zbE) (s.l.drop i)=none from H,Bg],rfl,rfl⟩
 rintro _ _ ⟨x,_,j,_,U,Z,rfl,⟨rfl,a1,k1,a2,k2,a3,k3,E,rfl⟩,rfl⟩;have A:rdW 160 (rdW 48 zbE) (s.l.drop i)=some (x,s.l.drop j):=U;obtain⟨K,L,M,N,O,P,Q,S,x8⟩:=x;dsimp only at E;subst E;unfold zE zW;dsimp only;repeat' (first|refine s_0 ?_|refine ze 2 ?_;refine zl ?_;(refine zaL (f:=127) (C:=[zh r s j]) (Eo (r':=zh r s j) (by repeat (first|exact Ej|apply Ek)) rfl Er) (hc:=λF J q B=>zlM r s j 1 161 F rfl q_e B (G.to J q) Z q_o) ?_ ?_))
 rotate_left
 ·rintro _ _ ⟨H,rfl,rfl⟩;repeat' (first|fail)
  exact zao El ⟨by simp only[zeH,A,H,AW,Bg],rfl,rfl⟩
 rintro _ _ ⟨y,_,T,_,V,I,rfl,⟨a4,k4,rfl,rfl⟩,rfl⟩;repeat' (first|refine zaC ?_|(refine zx ?_;first|refine q_n (zaK (v:=.slice a4 y.length k4) (hC:=⟨A6 rfl,rfl⟩)) ?_|refine za3 ?_|fail)|fail)
 exact zef rfl (R:=zh r s T::(.blk b 45 (zE ⟨a1,k1,a2,k2,a3,k3,a4,k4⟩ ⟨K,L,M,N,O,P,Q,S,y⟩)::zac ⟨a1,k1,a2,k2,a3,k3,a4,k4⟩ ⟨K,L,M,N,O,P,Q,S,y⟩)) (by unfold zac zE zW;exact FE) ⟨⟨K,L,M,N,O,P,Q,S,y⟩,_,T,_,by simp only[zeH,A,V,AW],I,rfl,⟨rfl,⟨a1,k1,a2,k2,a3,k3,a4,k4⟩,rfl⟩,rfl⟩
theorem zmW(r:Nat)(s:Bs)(i:Nat)(w:World)(hL:Holds w.heap.size (OwnOf [zh r s i]) [zh r s i] w)(L:BsF w (OwnOf [zh r s i]) s)(K:i<=s.n)(hb:s.n<1000000):
  FnP Tryz.prog 53 [rdA r] w (OwnOf [zh r s i]) (RP r s i zcH zkK) (RN s i zcH):=by
 refine zay Tryz.func53 rfl Tryz.ntmps53 q_p hL ?_;have h:=λb m (G:Keep (OwnOf [zh r s i]) w m) (j:∀x,OwnOf [zh r s i,.blk b 45 zcJ] x->w.heap.size<=x\/OwnOf [zh r s i] x) (F:Holds m.heap.size (OwnOf [zh r s i,.blk b 45 zcJ]) [zh r s i,.blk b 45 zcJ] m)=>zgW 117 [.pointer (some ⟨b,0,none⟩)] (.blk b 45 zcJ) zeH (zuy b) s.n q_o (en rfl) (zq4 b s.n hb) r s i m F (L.to G j) K (A8 _);unfold zuy at h;repeat' (first|refine s_0 ?_|refine ze 0 ?_;refine zi ?_;intro _;refine zi ?_;intro _)
 rename_i _ A;repeat' (first|refine ze 1 ?_;refine zl ?_;refine q_v zZ ?_;(refine zaL (f:=90) (C:=[zh r s i,.blk A 45 zcJ]) (Eo (r':=zh r s i) (by repeat (first|exact Ej|apply Ek)) rfl (Eo (r':=.blk A 45 zcJ) (by repeat (first|exact Ej|apply Ek)) rfl Er)) (hc:=λm G j F=>h A m G j F) ?_ ?_))
 ·rintro _ _ ⟨x,H,k,_,h1,I,J,⟨rfl,p,rfl⟩,rfl⟩;have hC:(zE p x).length=11:=rfl;have q:(zE p x).all (·.oneCell')=true:=rfl;unfold zkK zac;generalize E:zE p x=C at*;repeat' (first|refine s_0 ?_|refine ze 2 ?_;refine q_v (zd (B:=C) (hz:=hC.symm) (hv:=Em)) ?_;refine q_n (zA (B:=C) (hv:=q) (h1:=hC.symm) (hC:=rfl)) ?_)
  exact zdL rfl (zB (B:=C) rfl (ty rfl) rfl En Em hC.symm) q_h ⟨x,H,k,_,h1,I,J,⟨p,by rw[E],rfl⟩,rfl⟩
 ·rintro _ _ ⟨h1,rfl,rfl⟩;repeat' (first|refine zH ?_|fail)
  exact zao El ⟨h1,rfl,rfl⟩
end Go.Proofs.YtdnlngbjpdbffaaGreatDoor
namespace Go.Ct
open Go Go.Sy
theorem zw6{α:Type}{t:Nat}{f:List UInt8->Option (α×List UInt8)}{b:List UInt8}{x:α}{r:List UInt8}(h:rdW t f b=some (x,r)):r.length<b.length:=by
 unfold rdW at h;cases h1:zaU t b with
 |none=>rw[h1] at h;cases h
 |some p=>
  rw[h1] at h;dsimp only[Option.bind_some] at h;cases h2:f p.1 with
  |none=>rw[h2] at h;cases h
  |some y=>
   rw[h2] at h;dsimp only[Option.bind_some] at h;split at h
   ·cases h;exact(zfi h1).1
   ·cases h
theorem zlP{b:List UInt8}{c:Cert}{r:List UInt8}(h:zcH b=some (c,r)):r.length<b.length:=zw6 h
theorem zgX(n:Nat):za5 [] n=some []:=by unfold za5;rw[if_pos rfl]
theorem zgi{b:List UInt8}(h:b≠[]):za5 b 0=none:=by unfold za5;rw[if_neg h]
theorem zhp{b:List UInt8}{n:Nat}(h:b≠[])(hc:zcH b=none):za5 b (n+1)=none:=by unfold za5;rw[if_neg h];simp only[hc,Bg]
theorem zgf{b:List UInt8}{n:Nat}{c:Cert}{r:List UInt8}(h:b≠[])(hc:zcH b=some (c,r)):za5 b (n+1)=(za5 r n).map (c:: ·):=by
 rw[za5,if_neg h];simp only[hc,AW]
end Go.Ct
namespace Go.Proofs.YtdnlngbjpdbffaaGreatDoor
open Go Go.Sy Go.Ct Go.RowKit
attribute [local irreducible] Sy SyL SyX SyC SyF SyG SyH Sy.Fn Sy.FnP callFunc
def allRows:List Pl->List Cert->List Res
 |p::ps,x::l=>zac p x++allRows ps l
 |_,_=>[]
def zut(b:Nat)(l:List Cert)(R:List Res):Prop:=∃a k ps,ps.length=l.length/\R= .blk b 22 [.slice a l.length k]:: .row (.slice a l.length k) 45 11 l.length (List.zipWith zE ps l).flatten::allRows ps.reverse l.reverse
theorem zqa(b m:Nat)(hm:m<1000000):zg2 91 [.pointer (some ⟨b,0,none⟩)] (.blk b 22 [.slice none 0 0]) (λx=>(za5 x 5).map λl=>(l,[])) (zut b) m:=by
 intro r s i w hL hs hi hb;refine zay Tryz.func91 rfl Tryz.ntmps91 q_p hL ?_;have A:=hs.len;repeat' (first|refine s_t ?_|refine ze 0 ?_;refine zi ?_;intro _)
 rename_i bx;refine zcN (zbZ 45 11) ?_;refine zX (γ:=Nat×List Pl×List Cert×Option Addr×Nat) (λg=>[(1,.pointer (some ⟨b,0,none⟩)),(2,.pointer (some ⟨bx,0,none⟩))])
  (λg=> .row (.slice g.2.2.2.1 g.2.2.1.length g.2.2.2.2) 45 11 g.2.2.1.length (List.zipWith zE g.2.1.reverse g.2.2.1.reverse).flatten::zh r s g.1:: .blk b 22 [.slice g.2.2.2.1 g.2.2.1.length g.2.2.2.2]:: .blk bx 82 [.pointer (some ⟨r,0,none⟩)]::allRows g.2.1 g.2.2.1)
  (λg=>g.1<=s.n/\g.2.2.1.length<=5/\g.2.1.length=g.2.2.1.length/\za5 (s.l.drop i) 5=(za5 (s.l.drop g.1) (5-g.2.2.1.length)).map (g.2.2.1.reverse ++ ·)) (λg=>s.n-g.1) (i,[],[],none,0) ⟨hi,AE _,rfl,by simp⟩ ?_ ?_ ?_
 ·exact q_h
 ·exact q_h
 rintro⟨k,G,l,P,Q⟩ ⟨F,T,I,B⟩;dsimp only at F T I B ⊢;have J:=λj hr=>zc5 r s k j hr F hs.cap;by_cases hz:s.n-k=0
 ·have g:decide (((s.n-k:Nat):Int)>0)=false:=q_f;repeat' (first|refine s_0 ?_|refine q_k 1 ?_;refine zl ?_;refine q_v (za (hc:=λj X L E=>J j (zq (E.has (r:=zh r s k) q_h) Em))) ?_;refine q_v (zF (hr:=g)) ?_)
  have hd:s.l.drop k= []:=(zaM A).2 hz;refine zef rfl (R:=zh r s k::(.blk b 22 [.slice P l.length Q]:: .row (.slice P l.length Q) 45 11 l.length (List.zipWith zE G.reverse l.reverse).flatten::allRows G l)) ?_ ⟨l.reverse,[],k,_,?_,F,hd,⟨rfl,P,Q,G.reverse,by simp[I],by simp⟩,rfl⟩
  ·(repeat' (first|exact El|apply Es;with_reducible (focus ((repeat (first|exact Ej|apply Ek));done))|apply Ez;(focus ((repeat (first|exact Ej|apply Ek));done))|apply Es;(focus ((repeat (first|exact Ej|apply Ek));done))|apply Ew;(focus ((repeat (first|exact Ej|apply Ek));done))|rfl))
   all_goals (repeat (first|exact Ep|apply Ex))
  ·show(za5 (s.l.drop i) 5).map (λl=>(l,([]:List UInt8)))=_;rw[B,hd,zgX];simp
 ·have g:decide (((s.n-k:Nat):Int)>0)=true:=q_d;have K:s.l.drop k≠[]:=λh=>hz ((zaM A).1 h);by_cases h5:l.length<5
  ·have g5:decide ((l.length:Int)<5)=true:=q_d;have a6:=λj (L:Keep (OwnOf [zh r s i,.blk b 22 [.slice none 0 0]]) w j) (Z:∀x,OwnOf [zh r s k] x->w.heap.size<=x\/OwnOf [zh r s i,.blk b 22 [.slice none 0 0]] x) (E:Holds j.heap.size (OwnOf [zh r s k]) [zh r s k] j)=>zmW r s k j E (hs.to L Z) F q_o;repeat' (first|refine s_t ?_|refine q_k 1 ?_;refine zl ?_;refine q_v (za (hc:=λj X L E=>J j (zq (E.has (r:=zh r s k) q_h) Em))) ?_;refine q_v (zF (hr:=g)) ?_|refine ze 2 ?_;refine zl ?_;refine zf ?_;refine q_v (zm (hr:=g5)) ?_;refine q_v (za (hc:=q_c zdh)) ?_)
   (refine zgB (id:=3) [0,0] true [] [0,1] [(2,[]),(3,[]),(4,[]),(5,[])] mixed q_h ?_ ?_;kernel_rfl;refine ygv zM (k:=?_);refine ygv zd (k:=?_);refine yg0 ?_;try refine yg0 ?_;try refine yg0 ?_;try refine yg0 ?_;try refine zlp ?_)
   have M:5-l.length=(4-l.length)+1:=q_o;refine yhp (f:=53) (M':=OwnOf [zh r s k]) (C:=[zh r s k]) (Eo (r':=zh r s k) (by repeat (first|exact Ej|apply Ek)) rfl Er) (λ_ h=>h) (hc:=λj X L E=>a6 j L (zhD (Eo (r':=zh r s k) (by repeat (first|exact Ej|apply Ek)) rfl Er) E) (zfV (Eo (r':=zh r s k) (by repeat (first|exact Ej|apply Ek)) rfl Er) E)) (hp:=?_) (k:=?_)
   ·rintro _ _ ⟨h1,rfl,rfl⟩;repeat' (first|refine zH ?_|refine zbY ?_|fail)
    refine zao El ⟨?_,rfl,rfl⟩;show(za5 (s.l.drop i) 5).map (λl=>(l,([]:List UInt8)))=_;rw[B,M,zhp K h1];rfl
   rintro _ _ ⟨x,a8,N,_,h1,h2,h3,⟨p,rfl,rfl⟩,rfl⟩;refine yg0 ?_;have hC:(zE p x).length=11:=rfl;have H:(zE p x).all (·.oneCell')=true:=rfl;have a7:List.zipWith zE (p::G).reverse (x::l).reverse=List.zipWith zE G.reverse l.reverse++[zE p x]:=by
    rw[Ck,Ck,EZ (by simp[I])];rfl
   have hys:(List.zipWith zE G.reverse l.reverse).flatten++zE p x=(List.zipWith zE (p::G).reverse (x::l).reverse).flatten:=by rw[a7,Cz];simp
   have W:l.length+1=(x::l).length:=rfl;obtain⟨O,S⟩:∃O,O=zE p x:=⟨_,rfl⟩;rw[<-S] at hC H hys ⊢;refine yhs (zb6 (vs:=[.agg O.toArray]) (zfg hC rfl)) (k:=?_);rintro _ _ ⟨bL,rfl,rfl⟩;refine yg0 ?_;refine yhs (zaB (size:=11) (news:=O) (m:=1) (hn:=hC) (h1:=H) (hys:=hys) (hkm:=W)) (k:=?_);rintro _ _ ⟨rfl,aN,cN,rfl⟩;refine yg0 ?_;refine yhn (zaK (v:=.slice aN (x::l).length cN) (hC:=⟨A6 rfl,rfl⟩)) (k:=?_);refine zlp ?_;repeat' (first|refine zaD ?_|refine zga ?_|fail)
   have Y:=zlP h1;have V:(s.l.drop N).length=s.n-N:=by rw[Az,A]
   have U:(s.l.drop k).length=s.n-k:=by rw[Az,A]
   rw[<-h3,V,U] at Y;refine zQ (N,p::G,x::l,aN,cN) ⟨h2,?_,?_,?_⟩ ?_ ?_ ?_
   ·show l.length+1<=5;omega
   ·show G.length+1=l.length+1;omega
   ·show za5 (s.l.drop i) 5=(za5 (s.l.drop N) (5-(l.length+1))).map ((x::l).reverse ++ ·);rw[B,M,zgf K h1,h3,show 5-(l.length+1)=4-l.length by omega];cases za5 a8 (4-l.length) with
    |none=>rfl
    |some q=>simp
   ·show s.n-N<s.n-k;omega
   ·exact q_h
   ·dsimp only[allRows,zac];simp only[Aa,AY]
    (repeat' (first|exact El|apply Es;with_reducible (focus ((repeat (first|exact Ej|apply Ek));done))|apply Ez;(focus ((repeat (first|exact Ej|apply Ek));done))|apply Es;(focus ((repeat (first|exact Ej|apply Ek));done))|apply Ew;(focus ((repeat (first|exact Ej|apply Ek));done))|rfl))
    all_goals (repeat (first|exact Ep|apply Ex))
  ·have g5:decide ((l.length:Int)<5)=false:=q_f;repeat' (first|refine s_t ?_|refine q_k 1 ?_;refine zl ?_;refine q_v (za (hc:=λj X L E=>J j (zq (E.has (r:=zh r s k) q_h) Em))) ?_;refine q_v (zF (hr:=g)) ?_|refine ze 2 ?_;refine zl ?_;refine zf ?_;refine q_v (zm (hr:=g5)) ?_;(refine za0 (hc:=λj _ _ _=>zcS j) ?_)|refine zH ?_|refine zbY ?_|fail)
   refine zao El ⟨?_,rfl,rfl⟩;have:5-l.length=0:=q_o;show(za5 (s.l.drop i) 5).map (λl=>(l,([]:List UInt8)))=_;rw[B,this,zgi K];rfl
theorem zq2(r:Nat)(s:Bs)(i:Nat)(w:World)(hL:Holds w.heap.size (OwnOf [zh r s i]) [zh r s i] w)(M:BsF w (OwnOf [zh r s i]) s)(L:i<=s.n)(hb:s.n<1000000):
  FnP Tryz.prog 44 [rdA r] w (OwnOf [zh r s i]) (RP r s i zd7 (λl v R=>∃a k m,m.length=l.length/\v= .slice a l.length k/\R= .row (.slice a l.length k) 45 11 l.length (List.zipWith zE m l).flatten::allRows m.reverse l.reverse)) (RN s i zd7):=by
 refine zay Tryz.func44 rfl Tryz.ntmps44 q_p hL ?_;have h:=λb q (F:Keep (OwnOf [zh r s i]) w q) (j:∀x,OwnOf [zh r s i,.blk b 22 [.slice none 0 0]] x->w.heap.size<=x\/OwnOf [zh r s i] x) (E:Holds q.heap.size (OwnOf [zh r s i,.blk b 22 [.slice none 0 0]]) [zh r s i,.blk b 22 [.slice none 0 0]] q)=>zgW 91 [.pointer (some ⟨b,0,none⟩)] (.blk b 22 [.slice none 0 0]) (λx=>(za5 x 5).map λl=>(l,[])) (zut b) s.n q_o (en rfl) (zqa b s.n hb) r s i q E (M.to F j) L (A8 _);unfold zut at h;repeat' (first|refine s_0 ?_|refine ze 0 ?_;refine zi ?_;intro _;refine zi ?_;intro _)
 rename_i _ A;repeat' (first|refine ze 1 ?_;refine zl ?_;refine q_v zZ ?_;(refine zaL (f:=90) (C:=[zh r s i,.blk A 22 [.slice none 0 0]]) (Eo (r':=zh r s i) (by repeat (first|exact Ej|apply Ek)) rfl (Eo (r':=.blk A 22 [.slice none 0 0]) (by repeat (first|exact Ej|apply Ek)) rfl Er)) (hc:=λq F j E=>h A q F j E) ?_ ?_))
 ·rintro _ _ ⟨x,H,k,_,B,J,K,⟨rfl,a,I,m,G,rfl⟩,rfl⟩;repeat' (first|refine s_0 ?_|refine ze 2 ?_;refine zl ?_;refine zJ ?_)
  refine zdL rfl (zcA rfl (ty rfl) rfl En rfl) (R:=zh r s k::(.row (.slice a x.length I) 45 11 x.length (List.zipWith zE m x).flatten::allRows m.reverse x.reverse)) ?_ ⟨x,H,k,_,B,J,K,⟨a,I,m,G,rfl,rfl⟩,rfl⟩;exact Es Ej (Ex ⟨_,Aq _⟩)
 ·rintro _ _ ⟨B,rfl,rfl⟩;repeat' (first|refine zH ?_|fail)
  exact zao El ⟨B,rfl,rfl⟩
end Go.Proofs.YtdnlngbjpdbffaaGreatDoor
