/- Lemmas of this proof. -/
import Derived.Test.YtdnlngbjpdbffaaGreatDoorWJ44
set_option maxHeartbeats 4000000
set_option maxRecDepth 10000
set_option linter.all false
namespace Go.Proofs.YtdnlngbjpdbffaaGreatDoor
open Go Go.Sy Go.Ct Go.RowKit
attribute [local irreducible] Sy SyL SyX SyC SyF SyG SyH Sy.Fn Sy.FnP callFunc
theorem zwY(a:Option Addr)(n c:Nat)(l:List UInt8)(w:World):q_G 201 [.agg #[.slice a n c,zT l],.int .i64 0] w (.agg #[.slice a n c,zT l]):=by
 refine zt Tryz.func201 Tryz.ntmps201 ?_;unfold zT;repeat' (first|refine s_0 ?_|refine zf 0 ?_;refine zj ?_;intro _;refine zj ?_;intro _|refine q_k 1 ?_;refine q_v (zS (hr:=rfl)) ?_;refine q_v (za (hc:=q_c zeX)) ?_|refine zf 2 ?_;refine q_v (ze (B:=[.slice a n c,.string (str l)]) (hv:=Et)) ?_;refine zO ?_)
 exact zap rfl (zB (B:=[.slice a n c,.string (str l)]) rfl (ty rfl) rfl Ev Et rfl) Er ⟨rfl,rfl⟩
theorem zw5(a:Option Addr)(n c:Nat)(l:List UInt8)(e:Int)(he:e≠0)(w:World):FnP Tryz.prog 201 [.agg #[.slice a n c,zT l],.int .i64 e] w No (λ_ _=>False) (λv R=>v=zb7/\R= []):=by
 refine zaK Tryz.func201 rfl Tryz.ntmps201 q_p FQ ?_;unfold zT;have g:decide (e=0)=false:=decide_eq_false he;repeat' (first|refine s_0 ?_|refine zf 0 ?_;refine zj ?_;intro _;refine zj ?_;intro _|refine q_k 1 ?_;refine q_v (zS (hr:=g)) ?_;(refine zbl (hc:=λj _ _ _=>zeN j) ?_)|refine zK ?_|fail)
 exact zax Er ⟨rfl,rfl⟩
def zru(b:Nat)(x:Prin)(R:List Res):Prop:=∃a k,R= [.blk b 43 [.slice a x.parts.length k,zT x.realm],.row (.slice a x.parts.length k) 9 1 x.parts.length (x.parts.map zT)]
def zzh(x:Prin)(v:Value)(R:List Res):Prop:=∃a k,v= .agg #[.slice a x.parts.length k,zT x.realm]/\R= [.row (.slice a x.parts.length k) 9 1 x.parts.length (x.parts.map zT)]
theorem zlJ(b m:Nat)(hm:m<1000000):ziv 200 [.pointer (some ⟨b,0,none⟩)] (.blk b 43 [.slice none 0 0,.string ByteArray.empty]) rdP (zru b) m:=by
 intro r s i w J M L N;refine zaK Tryz.func200 rfl Tryz.ntmps200 q_p J ?_;have h:=λj (E:Keep (OwnOf [zk r s i,.blk b 43 [.slice none 0 0,.string ByteArray.empty]]) w j) (F:∀x,OwnOf [zk r s i] x->w.heap.size<=x\/OwnOf [zk r s i,.blk b 43 [.slice none 0 0,.string ByteArray.empty]] x) (A:Holds j.heap.size (OwnOf [zk r s i]) [zk r s i] j)=>ztP r s i j A (M.to E F) L q_o;unfold zlq at h;unfold zru;repeat' (first|refine s_0 ?_|refine zf 0 ?_;refine zj ?_;intro _|refine q_k 1 ?_;refine zm ?_;(refine q_s (zaZ (f:=202) (C:=[zk r s i]) (Ew (r':=zk r s i) (by repeat (first|exact Es|apply Eu)) rfl Ez) (hc:=λj E hm A=>h j E hm A)) ?_;rintro _ _ ⟨R,rfl,(⟨p,G,k,a,c,h1,H,I,rfl,rfl⟩|⟨h1,e,K,rfl,rfl⟩)⟩);refine zb ?_|(refine zy ?_;first|refine zY ?_|fail)|fail)
 ·have q:=λj=>zwY a p.parts.length c p.realm j;unfold zT at q ⊢;repeat' (first|refine zaq ?_|(refine zy ?_;first|refine q_v (za (hc:=q_c q)) ?_|refine q_n (zC (B:=[.slice a p.parts.length c,.string (str p.realm)]) (h1:=rfl)) ?_|fail)|fail)
  exact zfg rfl q_h ⟨p,G,k,_,h1,H,I,⟨rfl,a,c,rfl⟩,rfl⟩
 ·have q:=λj=>zw5 none 0 0 [] e K j;unfold zT at q ⊢;repeat' (first|(refine zy ?_;first|refine zbl (hc:=λj _ _ _=>q j) ?_|fail)|fail)
  exact zax Er ⟨h1,rfl,rfl⟩
theorem zjd(r:Nat)(s:Bs)(i n t:Nat)(w:World)(K:t=160+n)(hn:n<=30)(hL:Holds w.heap.size (OwnOf [zk r s i]) [zk r s i] w)(J:BsF w (OwnOf [zk r s i]) s)(I:i<=s.n)(hb:s.n<1000000):
  FnP Tryz.prog 122 [rdA r,.int .i64 (n:Int)] w (OwnOf [zk r s i]) (RP r s i (rdW t rdP) zzh) (RN s i (rdW t rdP)):=by
 subst K;refine zaK Tryz.func122 rfl Tryz.ntmps122 q_p hL ?_;have h:=λb m (E:Keep (OwnOf [zk r s i]) w m) (j:∀x,OwnOf [zk r s i,.blk b 43 [.slice none 0 0,.string ByteArray.empty]] x->w.heap.size<=x\/OwnOf [zk r s i] x) (A:Holds m.heap.size (OwnOf [zk r s i,.blk b 43 [.slice none 0 0,.string ByteArray.empty]]) [zk r s i,.blk b 43 [.slice none 0 0,.string ByteArray.empty]] m)=>zgx 200 [.pointer (some ⟨b,0,none⟩)] (.blk b 43 [.slice none 0 0,.string ByteArray.empty]) rdP (zru b) s.n q_o (en rfl) (zlJ b s.n hb) r s i m A (J.to E j) I (A6 _) n hn;unfold zru at h;repeat' (first|refine s_0 ?_|refine zf 0 ?_;refine zj ?_;intro _;refine zj ?_;intro _)
 rename_i _ q;repeat' (first|refine zf 1 ?_;refine zm ?_;refine zb ?_;refine q_v zab ?_;(refine zaT (f:=118) (C:=[zk r s i,.blk q 43 [.slice none 0 0,.string ByteArray.empty]]) (Ew (r':=zk r s i) (by repeat (first|exact Es|apply Eu)) rfl (Ew (r':=.blk q 43 [.slice none 0 0,.string ByteArray.empty]) (by repeat (first|exact Es|apply Eu)) rfl Ez)) (hc:=λm E j A=>h q m E j A) ?_ ?_))
 ·rintro _ _ ⟨x,F,k,_,h1,G,H,⟨rfl,a,c,rfl⟩,rfl⟩;unfold zzh zT;repeat' (first|refine s_0 ?_|refine zf 2 ?_;refine q_v (ze (B:=[.slice a x.parts.length c,.string (str x.realm)]) (hv:=Et)) ?_;refine q_n (zC (B:=[.slice a x.parts.length c,.string (str x.realm)]) (h1:=rfl)) ?_)
  exact zeo rfl (zB (B:=[.slice a x.parts.length c,.string (str x.realm)]) rfl (ty rfl) rfl Ev Et rfl) q_h ⟨x,F,k,_,h1,G,H,⟨a,c,rfl,rfl⟩,rfl⟩
 ·rintro _ _ ⟨h1,rfl,rfl⟩;repeat' (first|refine zK ?_|fail)
  exact zax Er ⟨h1,rfl,rfl⟩
theorem zsN(b m:Nat)(hm:m<1000000000)(z0 z5 U V:Int)(s1 S T B:Option Addr)(O K P L Q N A q:Nat)(t2 t4:ByteArray):ziv 124 [.pointer (some ⟨b,0,none⟩)] (.blk b 45 [.int .i64 z0,.slice s1 O K,.string t2,.slice S P L,.string t4,.int .i64 z5,.int .i64 U,.bool false,.int .i64 V,.slice T Q N,.slice B A q]) (rdV 1 Ct.rdB) (λt R=>R= [.blk b 45 [.int .i64 z0,.slice s1 O K,.string t2,.slice S P L,.string t4,.int .i64 z5,.int .i64 U,.bool t,.int .i64 V,.slice T Q N,.slice B A q]]) m:=by
 intro r s i w Y I hi hb;refine zaK Tryz.func124 rfl Tryz.ntmps124 q_p Y ?_;have h:=λM j (G:Keep M w j) (I:BsF w M s) (H:∀x,OwnOf [zk r s i] x->w.heap.size<=x\/M x) (F:Holds j.heap.size (OwnOf [zk r s i]) [zk r s i] j)=>ztX r s i j F (I.to G H) hi q_o;unfold zby at h;repeat' (first|refine s_0 ?_|refine zf 0 ?_;refine zj ?_;intro _|refine q_k 1 ?_;refine zm ?_;(refine q_s (zaZ (f:=126) (C:=[zk r s i]) (Ew (r':=zk r s i) (by repeat (first|exact Es|apply Eu)) rfl Ez) (hc:=λj G hm F=>h _ j G I hm F)) ?_;rintro _ _ ⟨R,rfl,(⟨x,J,k,u,R',E,W,X,⟨rfl,rfl⟩,rfl,rfl⟩|⟨E,e,u,Z,rfl,rfl⟩)⟩);refine zb ?_|(refine zy ?_;first|refine zY ?_|fail)|fail)
 ·repeat' (first|refine zaq ?_|(refine zy ?_;first|refine q_v (za (hc:=λ_ _ _ _=>(zxh _ _))) ?_|refine q_n (zaM (v:=.bool x) (hC:=⟨A5 rfl,rfl⟩)) ?_|refine za2 ?_|fail)|fail)
  exact zfg rfl q_h ⟨x,J,k,_,E,W,X,⟨rfl,rfl⟩,rfl⟩
 ·repeat' (first|(refine zy ?_;first|refine zbl (hc:=λj _ _ _=>zwh u e Z j) ?_|fail)|fail)
  exact zax Er ⟨E,rfl,rfl⟩
abbrev zc2:List Value:=[.int .i64 0,.slice none 0 0,.string ByteArray.empty,.slice none 0 0,.string ByteArray.empty,.int .i64 0,.int .i64 0,.bool false,.int .i64 0,.slice none 0 0,.slice none 0 0]
def zlY(b:Nat)(x:Cert)(R:List Res):Prop:=∃a1 k1 a2 k2 a3 k3,x.sig= []/\R= [.blk b 45 (zG ⟨a1,k1,a2,k2,a3,k3,none,0⟩ x),.row (.slice a1 x.issuer.parts.length k1) 9 1 x.issuer.parts.length (x.issuer.parts.map zT),.row (.slice a2 x.subject.parts.length k2) 9 1 x.subject.parts.length (x.subject.parts.map zT),.row (.slice a3 x.pub.length k3) 5 1 x.pub.length (x.pub.map v8)]
theorem zr1(b m:Nat)(hm:m<1000000):ziv 120 [.pointer (some ⟨b,0,none⟩)] (.blk b 45 zc2) zbI (zlY b) m:=by
 intro r s i w hL K hi hb;refine zaK Tryz.func120 rfl Tryz.ntmps120 q_p hL ?_;have A:s.n<1000000000:=q_o;have P:s.n<1000000:=q_o;repeat' (first|refine s_0 ?_|refine zf 0 ?_;refine zj ?_;intro _)
 repeat' (first|refine zf 1 ?_;refine zm ?_;(refine zaT (f:=121) (C:=[zk r s i]) (Ew (r':=zk r s i) (by repeat (first|exact Es|apply Eu)) rfl Ez) (hc:=λG F j E=>zkZ r s i 0 160 G rfl q_e E (K.to F j) hi A) ?_ ?_))
 rotate_left
 ·rintro _ _ ⟨q,rfl,rfl⟩;repeat' (first|refine zK ?_|fail)
  exact zax Er ⟨by simp only[zbI,q,Ac,Bx],rfl,rfl⟩
 rintro _ _ ⟨Q,_,j0,_,J,Y,rfl,⟨rfl,rfl⟩,rfl⟩;repeat' (first|refine s_0 ?_|(refine zy ?_;first|refine q_n (zaM (v:=.int .i64 Q) (hC:=⟨A5 rfl,rfl⟩)) ?_|refine za2 ?_|fail)|fail)
 repeat' (first|refine zf 2 ?_;refine zm ?_;(refine zaT (f:=122) (C:=[zk r s j0]) (Ew (r':=zk r s j0) (by repeat (first|exact Es|apply Eu)) rfl Ez) (hc:=λG F j E=>zjd r s j0 1 161 G rfl q_e E (K.to F j) Y P) ?_ ?_))
 rotate_left
 ·rintro _ _ ⟨q,rfl,rfl⟩;repeat' (first|refine zK ?_|fail)
  exact zax Er ⟨by simp only[zbI,J,q,Ac,Bx],rfl,rfl⟩
 rintro _ _ ⟨H,_,j1,_,L,Z,rfl,⟨a1,k1,rfl,rfl⟩,rfl⟩;repeat' (first|refine s_0 ?_|(refine zy ?_;first|refine q_n (zdx (B:=[.slice a1 H.parts.length k1,.string (str H.realm)]) (hC:=A5 rfl)) ?_|refine za2 ?_|fail)|fail)
 repeat' (first|refine zf 3 ?_;refine zm ?_;(refine zaT (f:=122) (C:=[zk r s j1]) (Ew (r':=zk r s j1) (by repeat (first|exact Es|apply Eu)) rfl Ez) (hc:=λG F j E=>zjd r s j1 2 162 G rfl q_e E (K.to F j) Z P) ?_ ?_))
 rotate_left
 ·rintro _ _ ⟨q,rfl,rfl⟩;repeat' (first|refine zK ?_|fail)
  exact zax Er ⟨by simp only[zbI,J,L,q,Ac,Bx],rfl,rfl⟩
 rintro _ _ ⟨I,_,j2,_,M,a6,rfl,⟨a2,k2,rfl,rfl⟩,rfl⟩;repeat' (first|refine s_0 ?_|(refine zy ?_;first|refine q_n (zdx (B:=[.slice a2 I.parts.length k2,.string (str I.realm)]) (hC:=A5 rfl)) ?_|refine za2 ?_|fail)|fail)
 repeat' (first|refine zf 4 ?_;refine zm ?_;(refine zaT (f:=123) (C:=[zk r s j2]) (Ew (r':=zk r s j2) (by repeat (first|exact Es|apply Eu)) rfl Ez) (hc:=λG F j E=>zpI r s j2 3 163 G rfl q_e E (K.to F j) a6 A) ?_ ?_))
 rotate_left
 ·rintro _ _ ⟨q,rfl,rfl⟩;repeat' (first|refine zK ?_|fail)
  exact zax Er ⟨by simp only[zbI,J,L,M,q,Ac,Bx],rfl,rfl⟩
 rintro _ _ ⟨S,_,j3,_,O,a8,rfl,⟨rfl,rfl⟩,rfl⟩;repeat' (first|refine s_0 ?_|(refine zy ?_;first|refine q_n (zaM (v:=.int .i64 S) (hC:=⟨A5 rfl,rfl⟩)) ?_|refine za2 ?_|fail)|fail)
 repeat' (first|refine zf 5 ?_;refine zm ?_;(refine zaT (f:=123) (C:=[zk r s j3]) (Ew (r':=zk r s j3) (by repeat (first|exact Es|apply Eu)) rfl Ez) (hc:=λG F j E=>zpI r s j3 4 164 G rfl q_e E (K.to F j) a8 A) ?_ ?_))
 rotate_left
 ·rintro _ _ ⟨q,rfl,rfl⟩;repeat' (first|refine zK ?_|fail)
  exact zax Er ⟨by simp only[zbI,J,L,M,O,q,Ac,Bx],rfl,rfl⟩
 rintro _ _ ⟨T,_,j4,_,V,a9,rfl,⟨rfl,rfl⟩,rfl⟩;repeat' (first|refine s_0 ?_|(refine zy ?_;first|refine q_n (zaM (v:=.int .i64 T) (hC:=⟨A5 rfl,rfl⟩)) ?_|refine za2 ?_|fail)|fail)
 repeat' (first|refine zf 6 ?_;refine zm ?_;refine q_v zab ?_;(refine zaT (f:=118) (C:=[zk r s j4,.blk b 45 [.int .i64 Q,.slice a1 H.parts.length k1,.string (str H.realm),.slice a2 I.parts.length k2,.string (str I.realm),.int .i64 S,.int .i64 T,.bool false,.int .i64 0,.slice none 0 0,.slice none 0 0]]) (Ew (r':=zk r s j4) (by repeat (first|exact Es|apply Eu)) rfl (Ew (r':=.blk b 45 [.int .i64 Q,.slice a1 H.parts.length k1,.string (str H.realm),.slice a2 I.parts.length k2,.string (str I.realm),.int .i64 S,.int .i64 T,.bool false,.int .i64 0,.slice none 0 0,.slice none 0 0]) (by repeat (first|exact Es|apply Eu)) rfl Ez)) (hc:=λG F j E=>zgx 124 [.pointer (some ⟨b,0,none⟩)] _ _ _ s.n A (en rfl) (zsN b s.n A _ _ _ _ _ _ _ _ _ _ _ _ _ _ _ _ _ _) r s j4 G E (K.to F j) a9 (A6 _) 5 q_e) ?_ ?_))
 rotate_left
 ·rintro _ _ ⟨q,rfl,rfl⟩;repeat' (first|refine zK ?_|fail)
  exact zax Er ⟨by simp only[zbI,J,L,M,O,V,q,Ac,Bx],rfl,rfl⟩
 rintro _ _ ⟨x5,_,j5,_,X,b0,rfl,⟨rfl,rfl⟩,rfl⟩;repeat' (first|refine s_0 ?_|fail)
 repeat' (first|refine zf 7 ?_;refine zm ?_;(refine zaT (f:=121) (C:=[zk r s j5]) (Ew (r':=zk r s j5) (by repeat (first|exact Es|apply Eu)) rfl Ez) (hc:=λG F j E=>zkZ r s j5 6 166 G rfl q_e E (K.to F j) b0 A) ?_ ?_))
 rotate_left
 ·rintro _ _ ⟨q,rfl,rfl⟩;repeat' (first|refine zK ?_|fail)
  exact zax Er ⟨by simp only[zbI,J,L,M,O,V,X,q,Ac,Bx],rfl,rfl⟩
 rintro _ _ ⟨x6,_,j6,_,e6,b1,rfl,⟨rfl,rfl⟩,rfl⟩;repeat' (first|refine s_0 ?_|(refine zy ?_;first|refine q_n (zaM (v:=.int .i64 x6) (hC:=⟨A5 rfl,rfl⟩)) ?_|refine za2 ?_|fail)|fail)
 repeat' (first|refine zf 8 ?_;refine zm ?_;(refine zaT (f:=127) (C:=[zk r s j6]) (Ew (r':=zk r s j6) (by repeat (first|exact Es|apply Eu)) rfl Ez) (hc:=λG F j E=>zmq r s j6 7 167 G rfl q_e E (K.to F j) b1 A) ?_ ?_))
 rotate_left
 ·rintro _ _ ⟨q,rfl,rfl⟩;repeat' (first|fail)
  exact zax Er ⟨by simp only[zbI,J,L,M,O,V,X,e6,q,Ac,Bx],rfl,rfl⟩
 rintro _ _ ⟨N,_,j7,_,e7,b2,rfl,⟨U,W,rfl,rfl⟩,rfl⟩;repeat' (first|refine zaq ?_|(refine zy ?_;first|refine q_n (zaM (v:=.slice U N.length W) (hC:=⟨A5 rfl,rfl⟩)) ?_|refine za2 ?_|fail)|fail)
 unfold zlY zT;refine zfg rfl (R:=zk r s j7::[.blk b 45 [.int .i64 Q,.slice a1 H.parts.length k1,.string (str H.realm),.slice a2 I.parts.length k2,.string (str I.realm),.int .i64 S,.int .i64 T,.bool x5,.int .i64 x6,.slice U N.length W,.slice none 0 0],.row (.slice a1 H.parts.length k1) 9 1 H.parts.length (H.parts.map zT),.row (.slice a2 I.parts.length k2) 9 1 I.parts.length (I.parts.map zT),.row (.slice U N.length W) 5 1 N.length (N.map v8)]) q_h ⟨⟨Q,H,I,S,T,x5,x6,N,[]⟩,_,j7,_,by simp only[zbI,J,L,M,O,V,X,e6,e7,Ac],b2,rfl,⟨rfl,a1,k1,a2,k2,U,W,rfl,rfl⟩,rfl⟩
theorem zsM(b m:Nat)(hm:m<1000000):ziv 119 [.pointer (some ⟨b,0,none⟩)] (.blk b 45 zc2) (rdW 48 zbI) (zlY b) m:=by
 intro r s i w K B M L;refine zaK Tryz.func119 rfl Tryz.ntmps119 q_p K ?_;have h:=λF q B=>zjQ 120 [.pointer (some ⟨b,0,none⟩)] (.blk b 45 zc2) zbI (zlY b) m q_o (en rfl) (zr1 b m hm) r s i F q B M L;repeat' (first|refine s_0 ?_|refine zf 0 ?_;refine zj ?_;intro _|refine zf 1 ?_;refine zm ?_;refine q_v zab ?_;(refine zaT (f:=90) (C:=[zk r s i,.blk b 45 zc2]) (Ew (r':=zk r s i) (by repeat (first|exact Es|apply Eu)) rfl (Ew (r':=.blk b 45 zc2) (by repeat (first|exact Es|apply Eu)) rfl Ez)) (hc:=λF N A q=>h F q (B.to N A)) ?_ ?_))
 ·rintro _ _ ⟨x,E,k,G,j,H,I,⟨rfl,J⟩,rfl⟩;repeat' (first|refine zaq ?_|fail)
  exact zfg rfl ⟨_,B5 _⟩ ⟨x,E,k,G,j,H,I,⟨rfl,J⟩,rfl⟩
 ·rintro _ _ ⟨j,rfl,rfl⟩;repeat' (first|fail)
  exact zax Er ⟨j,rfl,rfl⟩
def zvA(b:Nat)(x:Cert)(R:List Res):Prop:=∃p,R= .blk b 45 (zG p x)::zaa p x
theorem zsD(b m:Nat)(hm:m<1000000):ziv 117 [.pointer (some ⟨b,0,none⟩)] (.blk b 45 zc2) zeZ (zvA b) m:=by
 intro r s i w W G Y X;refine zaK Tryz.func117 rfl Tryz.ntmps117 q_p W ?_;have h:=λF B G=>zgx 119 [.pointer (some ⟨b,0,none⟩)] (.blk b 45 zc2) (rdW 48 zbI) (zlY b) m q_o (en rfl) (zsM b m hm) r s i F B G Y X 0 q_e;unfold zlY at h;repeat' (first|refine s_0 ?_|refine zf 0 ?_;refine zj ?_;intro _|refine zf 1 ?_;refine zm ?_;refine q_v zab ?_;(refine zaT (f:=118) (C:=[zk r s i,.blk b 45 zc2]) (Ew (r':=zk r s i) (by repeat (first|exact Es|apply Eu)) rfl (Ew (r':=.blk b 45 zc2) (by repeat (first|exact Es|apply Eu)) rfl Ez)) (hc:=λF J q B=>h F B (G.to J q)) ?_ ?_))
 rotate_left
 ·rintro _ _ ⟨H,rfl,rfl⟩;repeat' (first|refine zK ?_|fail)
  exact zax Er ⟨by simp only[zeZ,show rdW 160 (rdW 48 zbI) (s.l.drop i)=none from H,Bx],rfl,rfl⟩
 rintro _ _ ⟨x,_,j,_,U,Z,rfl,⟨rfl,a1,k1,a2,k2,a3,k3,E,rfl⟩,rfl⟩;have A:rdW 160 (rdW 48 zbI) (s.l.drop i)=some (x,s.l.drop j):=U;obtain⟨K,L,M,N,O,P,Q,S,x8⟩:=x;dsimp only at E;subst E;unfold zG zT;dsimp only;repeat' (first|refine s_0 ?_|refine zf 2 ?_;refine zm ?_;(refine zaT (f:=127) (C:=[zk r s j]) (Ew (r':=zk r s j) (by repeat (first|exact Es|apply Eu)) rfl Ez) (hc:=λF J q B=>zmq r s j 1 161 F rfl q_e B (G.to J q) Z q_o) ?_ ?_))
 rotate_left
 ·rintro _ _ ⟨H,rfl,rfl⟩;repeat' (first|fail)
  exact zax Er ⟨by simp only[zeZ,A,H,Ac,Bx],rfl,rfl⟩
 rintro _ _ ⟨y,_,T,_,V,I,rfl,⟨a4,k4,rfl,rfl⟩,rfl⟩;repeat' (first|refine zaq ?_|(refine zy ?_;first|refine q_n (zaM (v:=.slice a4 y.length k4) (hC:=⟨A5 rfl,rfl⟩)) ?_|refine za2 ?_|fail)|fail)
 exact zfg rfl (R:=zk r s T::(.blk b 45 (zG ⟨a1,k1,a2,k2,a3,k3,a4,k4⟩ ⟨K,L,M,N,O,P,Q,S,y⟩)::zaa ⟨a1,k1,a2,k2,a3,k3,a4,k4⟩ ⟨K,L,M,N,O,P,Q,S,y⟩)) (by unfold zaa zG zT;exact FL) ⟨⟨K,L,M,N,O,P,Q,S,y⟩,_,T,_,by simp only[zeZ,A,V,Ac],I,rfl,⟨rfl,⟨a1,k1,a2,k2,a3,k3,a4,k4⟩,rfl⟩,rfl⟩
theorem zum(r:Nat)(s:Bs)(i:Nat)(w:World)(hL:Holds w.heap.size (OwnOf [zk r s i]) [zk r s i] w)(L:BsF w (OwnOf [zk r s i]) s)(K:i<=s.n)(hb:s.n<1000000):
  FnP Tryz.prog 53 [rdA r] w (OwnOf [zk r s i]) (RP r s i zfj zhj) (RN s i zfj):=by
 refine zaK Tryz.func53 rfl Tryz.ntmps53 q_p hL ?_;have h:=λb m (G:Keep (OwnOf [zk r s i]) w m) (j:∀x,OwnOf [zk r s i,.blk b 45 zc2] x->w.heap.size<=x\/OwnOf [zk r s i] x) (F:Holds m.heap.size (OwnOf [zk r s i,.blk b 45 zc2]) [zk r s i,.blk b 45 zc2] m)=>zjQ 117 [.pointer (some ⟨b,0,none⟩)] (.blk b 45 zc2) zeZ (zvA b) s.n q_o (en rfl) (zsD b s.n hb) r s i m F (L.to G j) K (A6 _);unfold zvA at h;repeat' (first|refine s_0 ?_|refine zf 0 ?_;refine zj ?_;intro _;refine zj ?_;intro _)
 rename_i _ A;repeat' (first|refine zf 1 ?_;refine zm ?_;refine q_v zab ?_;(refine zaT (f:=90) (C:=[zk r s i,.blk A 45 zc2]) (Ew (r':=zk r s i) (by repeat (first|exact Es|apply Eu)) rfl (Ew (r':=.blk A 45 zc2) (by repeat (first|exact Es|apply Eu)) rfl Ez)) (hc:=λm G j F=>h A m G j F) ?_ ?_))
 ·rintro _ _ ⟨x,H,k,_,h1,I,J,⟨rfl,p,rfl⟩,rfl⟩;have hC:(zG p x).length=11:=rfl;have q:(zG p x).all (·.oneCell')=true:=rfl;unfold zhj zaa;generalize E:zG p x=C at*;repeat' (first|refine s_0 ?_|refine zf 2 ?_;refine q_v (ze (B:=C) (hz:=hC.symm) (hv:=Et)) ?_;refine q_n (zC (B:=C) (hv:=q) (h1:=hC.symm) (hC:=rfl)) ?_)
  exact zeo rfl (zB (B:=C) rfl (ty rfl) rfl Ev Et hC.symm) q_h ⟨x,H,k,_,h1,I,J,⟨p,by rw[E],rfl⟩,rfl⟩
 ·rintro _ _ ⟨h1,rfl,rfl⟩;repeat' (first|refine zK ?_|fail)
  exact zax Er ⟨h1,rfl,rfl⟩
end Go.Proofs.YtdnlngbjpdbffaaGreatDoor
namespace Go.Ct
open Go Go.Sy
theorem zqq{l:List UInt8}{t:Int}(h:rdI l=some t): -zbV<=t/\t<=zbV:=by
 unfold rdI at h;split at h
 ·rename_i j;cases h;exact⟨j.2.2.1,j.2.2.2.1⟩
 ·cases h
theorem zpD{l:List UInt8}{t:Int}(h:rdT l=some t):0<=t/\t<=1099511627776:=by
 unfold rdT at h;split at h
 ·rename_i j;cases h;exact⟨by omega,by omega⟩
 ·cases h
theorem zgw{α:Type}{t:Nat}{f:List UInt8->Option α}{b:List UInt8}{x:α}{r:List UInt8}(h:rdV t f b=some (x,r)):∃c,c.length<=b.length/\f c=some x:=by
 unfold rdV at h;cases h1:za0 t b with
 |none=>rw[h1] at h;cases h
 |some p=>
  rw[h1] at h;dsimp only[Option.bind_some] at h;cases h2:f p.1 with
  |none=>rw[h2] at h;cases h
  |some y=>
   rw[h2] at h;cases h;exact⟨p.1,by have:=zgB h1;omega,h2⟩
theorem zc7{α:Type}{t:Nat}{f:List UInt8->Option (α×List UInt8)}{b:List UInt8}{x:α}{r:List UInt8}(h:rdW t f b=some (x,r)):r.length<=b.length/\∃c q,c.length<=b.length/\f c=some (x,q):=by
 unfold rdW at h;cases h1:za0 t b with
 |none=>rw[h1] at h;cases h
 |some p=>
  rw[h1] at h;dsimp only[Option.bind_some] at h;cases h2:f p.1 with
  |none=>rw[h2] at h;cases h
  |some y=>
   rw[h2] at h;dsimp only[Option.bind_some] at h;split at h
   ·cases h;have:=zgB h1;exact⟨by omega,p.1,y.2,by omega,h2⟩
   ·cases h
theorem zcs{α β:Type}{o:Option α}{f:α->Option β}{y:β}(h:o.bind f=some y):∃x,o=some x/\f x=some y:=by
 cases o with
 |none=>cases h
 |some x=>exact⟨x,rfl,h⟩
theorem zp3{b:List UInt8}{p:Prin}{r:List UInt8}(h:rdP b=some (p,r)):p.ok=true:=by
 unfold rdP at h;obtain⟨s,-,h⟩:=zcs h;obtain⟨m,-,h⟩:=zcs h;obtain⟨parts,-,h⟩:=zcs h;obtain⟨q,-,h⟩:=zcs h;split at h
 ·rename_i j;cases h;exact j.2
 ·cases h
structure Cert.rd(n:Nat)(c:Cert):Prop where
 ser: -zbV<=c.serial/\c.serial<=zbV
 iss:c.issuer.ok=true
 sub:c.subject.ok=true
 fr:0<=c.fr/\c.fr<=1099511627776
 til:0<=c.til/\c.til<=1099511627776
 grp: -zbV<=c.group/\c.group<=zbV
 pub:c.pub.length<=n
 sig:c.sig.length<=n
theorem zrJ{b:List UInt8}{c:Cert}{r:List UInt8}(h:zbI b=some (c,r)):c.rd b.length/\r.length<=b.length:=by
 unfold zbI at h;obtain⟨j,F,h⟩:=zcs h;obtain⟨m,G,h⟩:=zcs h;obtain⟨q,H,h⟩:=zcs h;obtain⟨w,I,h⟩:=zcs h;obtain⟨A,J,h⟩:=zcs h;obtain⟨B,K,h⟩:=zcs h;obtain⟨C,L,h⟩:=zcs h;obtain⟨E,M,h⟩:=zcs h;cases h;obtain⟨V,N,q0,m0,f0⟩:=zc7 (x:=j.1) (r:=j.2) F;obtain⟨W,O,q1,m1,f1⟩:=zc7 (x:=m.1) (r:=m.2) G;obtain⟨X,P,q2,m2,f2⟩:=zc7 (x:=q.1) (r:=q.2) H;obtain⟨Y,Q,q3,m3,f3⟩:=zc7 (x:=w.1) (r:=w.2) I;obtain⟨Z,R,q4,m4,f4⟩:=zc7 (x:=A.1) (r:=A.2) J;obtain⟨l5,-⟩:=zc7 (x:=B.1) (r:=B.2) K;obtain⟨l6,S,q6,m6,f6⟩:=zc7 (x:=C.1) (r:=C.2) L;obtain⟨l7,T,q7,m7,f7⟩:=zc7 (x:=E.1) (r:=E.2) M;obtain⟨d0,-,g0⟩:=zgw f0;obtain⟨d3,-,g3⟩:=zgw f3;obtain⟨d4,-,g4⟩:=zgw f4;obtain⟨d6,-,g6⟩:=zgw f6;obtain⟨d7,U,g7⟩:=zgw f7;cases g7;exact⟨⟨zqq g0,zp3 f1,zp3 f2,zpD g3,zpD g4,zqq g6,by dsimp only;omega,A9 _⟩,by omega⟩
theorem zmg{b:List UInt8}{c:Cert}{r:List UInt8}(h:zfj b=some (c,r)):c.rd b.length:=by
 obtain⟨-,B,M,I,f0⟩:=zc7 h;unfold zeZ at f0;obtain⟨m,w,f0⟩:=zcs f0;obtain⟨q,A,f0⟩:=zcs f0;cases f0;obtain⟨G,C,N,J,f1⟩:=zc7 (x:=m.1) (r:=m.2) w;obtain⟨-,E,O,K,f2⟩:=zc7 f1;obtain⟨H,F,P,L,f3⟩:=zc7 (x:=q.1) (r:=q.2) A;obtain⟨d3,k3,g3⟩:=zgw f3;cases g3;have j:=(zrJ f2).1;exact⟨j.ser,j.iss,j.sub,j.fr,j.til,j.grp,by have:=j.pub;dsimp only;omega,by dsimp only;omega⟩
theorem zjl{z:Int}(h1: -9223372036854775808<=z)(h2:z<=9223372036854775807):(Lit.int .i64 z).wf=true:=by
 show(decide (IntKind.i64.min<=z)&&decide (z<=IntKind.i64.max))=true;rw[show IntKind.i64.min= -9223372036854775808 from rfl,show IntKind.i64.max=9223372036854775807 from rfl,decide_eq_true h1,decide_eq_true h2];rfl
theorem Cert.rd_wf{n:Nat}{c:Cert}(h:c.rd n):(Lit.int .i64 c.serial).wf=true/\(Lit.int .i64 c.fr).wf=true/\(Lit.int .i64 c.til).wf=true/\(Lit.int .i64 c.group).wf=true:=by
 have j:=h.ser;have m:=h.fr;have q:=h.til;have r:=h.grp;unfold zbV at*;exact⟨zjl q_o q_o,zjl q_o q_o,zjl q_o q_o,zjl q_o q_o⟩
theorem Cert.rd_fine{n:Nat}{c:Cert}(h:c.rd n):c.fine:=by
 obtain⟨a1,a2,a3⟩:=F6 h.iss;obtain⟨q,m,r⟩:=F6 h.sub;exact⟨⟨by omega,by omega,λx j=>by have:=a2 x j;omega⟩,⟨by omega,by omega,λx j=>by have:=m x j;omega⟩⟩
def Fo:=@Cert.rd_fine
end Go.Ct
