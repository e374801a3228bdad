/- Lemmas of this proof. -/
import Derived.Test.YtdnlngbjpdbffaaGreatDoorHJ37
set_option maxHeartbeats 4000000
set_option maxRecDepth 10000
set_option linter.all false
namespace Go.Proofs.YtdnlngbjpdbffaaGreatDoor
section
open Go Go.Sy Go.Ct Go.Nt Go.RowKit
attribute [local irreducible] Sy SyL SyX SyC SyF Sy.Fn callFunc
theorem zq9(v:Nat)(w:World)(hv:v<9223372036854775808):Sy.Fn Tryz.prog 83 [.int .i64 (v:Int)] w No (zbA (zbv v)):=by
 refine zz Tryz.func83 Tryz.ntmps83 ?_;have g1:(v:Int).tmod 256=((v%256:Nat):Int):=zn9 v 256;have g2:=u8M v;have g3:IntKind.i64.wrap ((v:Int).tdiv 256)=((v/256^(0+1):Nat):Int):=by rw[AU,Eh];exact zfJ (k:=256) q_o
 have Y: [Value.int .u8 (Wd.n8 (UInt8.ofNat v))]=(beN v (0+1)).map v8:=by rw[beN,Ax,Co];rfl
 repeat' (first|refine s_t ?_|refine q_k 0 ?_|refine q_k 1 ?_;refine q_v (zcU (hr:=g1)) ?_;refine q_v (zaw (hr:=g2)) ?_;(refine q_s zD ?_;rintro _ _ ⟨_,rfl,rfl⟩);refine zf ?_|refine q_k 2 ?_;refine q_x (zcp (hr:=g3)) ?_)
 rename_i T;rw[Y];refine zcN (zgv (b:=T) (E:=5) (s:=1) (n:=1) (xs:=(beN v (0+1)).map v8) (by exact Ej) (by rw[A1,zbw]) (by unfold maxLen;decide)) ?_;refine zX (γ:=Nat×Option Addr×Nat) (λg=>[(0,.int .i64 ((v/256^(g.1+1):Nat):Int)),(3,.slice g.2.1 (g.1+1) g.2.2)]) (λg=>[.row (.slice g.2.1 (g.1+1) g.2.2) 5 1 (g.1+1) ((beN v (g.1+1)).map v8)]) (λg=>g.1<=8/\(g.1=0\/256^g.1<=v)) (λg=>v/256^(g.1+1)) (0,some ⟨T,0,none⟩,1) ⟨AE _,.inl rfl⟩ ?_ ?_ ?_
 ·exact q_h
 ·exact q_h
 rintro⟨j,a,c⟩ ⟨N,hj⟩;dsimp only at N hj ⊢;by_cases hr:v/256^(j+1)=0
 ·have r:v<256^(j+1):=by
   rcases AK v (256^(j+1)) with h|h
   ·exact h
   ·have:=EN h (Ab q_e);omega
  have Q:=zjd j v r hj;have k1:decide (((v/256^(j+1):Nat):Int)>0)=false:=q_f;repeat' (first|refine s_0 ?_|refine q_k 3 ?_;refine q_v (zF (hr:=k1)) ?_)
  refine zkQ (a:=a) (cp:=c) (E:=5) (s:=1) (n:=j+1) (xs:=(beN v (j+1)).map v8) (by exact Ej) q_o λb J Z hJ hc hm hx=>?_;subst Z;have q:((beN v (j+1)).map v8++J)[0]?=some (.int .u8 (Wd.n8 (UInt8.ofNat (v/256^j)))):=rfl;have P:Wd.n8 (UInt8.ofNat (v/256^j))=((v/256^j:Nat):Int):=by
   rw[Wd.n8_of_nat];have:v/256^j<256:=by rw[Af (Ab q_e),AN,<-AS];exact r
   rw[AA this]
  rw[P] at q;have G:Seg ((beN v (j+1)).map v8++J) 0 ((beN v (j+1)).map v8):=λi u U=>by rw[AU,B4 (AL.1 U).1];exact U
  unfold zbv;rw[Q];by_cases hb:128<=v/256^j
  ·rw[if_pos hb];have k2:decide (((v/256^j:Nat):Int)>=128)=true:=q_d;have e: [Value.int .u8 0]++(beN v (j+1)).map v8=(beN v (j+2)).map v8:=by
    show _=(beN v (j+1+1)).map v8;rw[beN.eq_2 v (j+1),Ap r];rfl
   generalize beN v (j+1)=l at*;have K:=zbw v (j+2);generalize beN v (j+2)=B at*;repeat' (first|refine s_0 ?_|refine q_k 6 ?_;refine q_v (zbh (j:=0) (hj:=Nat.succ_pos _)) ?_;refine q_v (zM (hv:=q)) ?_;refine q_v (zai (hr:=k2)) ?_|refine ze 7 ?_;(refine q_s zD ?_;rintro _ _ ⟨_,rfl,rfl⟩);refine zf ?_;(refine q_s (zbp (hr:=Rd.of (FP (by exact Ev) G)) (m:=j+1) (hn:=by rw[Al];rwa[Al] at hx) (hys:=e) (hkm:=(by omega:1+(j+1)=j+2))) ?_;rintro _ _ ⟨rfl,H,I,rfl⟩);refine zf ?_|refine q_k 8 ?_;(refine q_s (zn (hc:=λS X hk F=>zdp 2 H _ I B _ S q_e (zau F K q_h) q_o rfl)) ?_;rintro _ _ ⟨R,rfl,V,W,rfl,rfl⟩);refine zf ?_)
   exact q_r
  ·rw[if_neg hb];have k2:decide (((v/256^j:Nat):Int)>=128)=false:=q_f;have K:=zbw v (j+1);generalize beN v (j+1)=l at*;repeat' (first|refine s_0 ?_|refine q_k 6 ?_;refine q_v (zbh (j:=0) (hj:=Nat.succ_pos _)) ?_;refine q_v (zM (hv:=q)) ?_;refine q_v (zai (hr:=k2)) ?_|refine q_k 8 ?_;(refine q_s (zn (hc:=λS X hk F=>zdp 2 (some ⟨b,0,none⟩) (j+1) c l _ S q_e ⟨K,hc,.inr ⟨b,0,rfl,zq (F.has q_h) G⟩,λh=>by cases h⟩ q_o rfl)) ?_;rintro _ _ ⟨R,rfl,V,W,rfl,rfl⟩);refine zf ?_)
   exact q_r
 ·refine zo4 (p:=a=none->c=0) (λw F h=>(FV F Ev h).1) λhnil=>?_;have L:256^(j+1)<=v:=by
   rcases AK v (256^(j+1)) with h|h
   ·exact absurd (Ap h) hr
   ·exact h
  have M:j+1<=8:=by
   rcases AK j 8 with h|h
   ·omega
   ·have:=AR (show 0<256 by decide) (show 8<=j+1 by omega);have h8:256^8=18446744073709551616:=by decide
    omega
  have A:0<v/256^(j+1):=Nat.pos_of_ne_zero hr;have k1:decide (((v/256^(j+1):Nat):Int)>0)=true:=decide_eq_true (Int.natCast_pos.2 A);have a6:v/256^(j+1)<=v:=C6 _ _;have r:v/256^(j+2)<v/256^(j+1):=by
   rw[AS 256 (j+1),<-Ao];exact EG A q_e
  have hq:v/256^(j+1)/256=v/256^(j+2):=by rw[Ao,<-AS]
  have e: [Value.int .u8 (Wd.n8 (UInt8.ofNat (v/256^(j+1))))]++(beN v (j+1)).map v8=(beN v (j+1+1)).map v8:=rfl;have g4:((v/256^(j+1):Nat):Int).tmod 256=((v/256^(j+1)%256:Nat):Int):=zn9 _ 256;have g5:=u8M (v/256^(j+1));have g6:IntKind.i64.wrap (((v/256^(j+1):Nat):Int).tdiv 256)=((v/256^(j+2):Nat):Int):=by rw[<-hq];exact zfJ (k:=256) q_o
  have O:=zbw v (j+1);repeat' (first|refine s_t ?_|refine q_k 3 ?_;refine q_v (zF (hr:=k1)) ?_|refine q_k 5 ?_;refine q_v (zcU (hr:=g4)) ?_;refine q_v (zaw (hr:=g5)) ?_;(refine q_s zD ?_;rintro _ _ ⟨_,rfl,rfl⟩);refine zf ?_;(refine q_s (zbp (m:=j+1) (hn:=by rw[A1,O,Al]) (hnil:=hnil) (hys:=e) (hkm:=(by omega:1+(j+1)=j+1+1))) ?_;rintro _ _ ⟨rfl,H,I,rfl⟩);refine zf ?_|refine q_k 4 ?_;refine q_x (zcp (hr:=g6)) ?_)
  refine zQ (j+1,H,I) ⟨M,.inr L⟩ r ?_ ?_
  ·exact q_h
  ·exact q_h
theorem zpD(a:Option Addr)(m d:Nat)(xs:List Bs)(D:List UInt8)(w:World)(hm:xs.length=m)(V:m<1000)(W:m<=d)(L:SlA w a (xs.map Bs.val))(I:∀s∈xs,s.ok w)(hb:(Bs.cat xs).length<16777216)(S:D=tlv 0x30 (Bs.cat xs)):
  Sy.Fn Tryz.prog 42 [.slice a m d] w No (zbA D):=by
 subst S;refine zz Tryz.func42 Tryz.ntmps42 ?_;have F:∀i,(Bs.cat (xs.take i)).length<=(Bs.cat xs).length:=λi=>by
  have:Bs.cat xs=Bs.cat (xs.take i)++Bs.cat (xs.drop i):=by unfold Bs.cat;rw[<-CD,BV]
  rw[this,A3];omega
 have B:=λi (h:i<m)=>Fi xs i q_o;repeat' (first|refine s_t ?_|refine zL [0,1,2] ?_;refine zf ?_)
 refine zcN (zbZ 5 1) ?_;refine zX (γ:=Nat×Option Addr×Nat) (λg=>[(0,.slice a m d),(4,.int .i64 (g.1:Int)),(3,.slice g.2.1 (Bs.cat (xs.take g.1)).length g.2.2)]) (λg=>[.row (.slice g.2.1 (Bs.cat (xs.take g.1)).length g.2.2) 5 1 (Bs.cat (xs.take g.1)).length ((Bs.cat (xs.take g.1)).map v8)]) (λg=>g.1<=m) (λg=>m-g.1) (0,none,0) (AE _) ?_ ?_ ?_
 ·exact q_h
 ·exact q_h
 rintro⟨i,N,P⟩ U;dsimp only at U ⊢;by_cases hlt:i<m
 ·obtain⟨bl,ol,rfl,A⟩:=Bs.get L (i:=i) q_o;have hc:=A i q_o;have H:=I xs[i] (AX q_o);have hs:=B i hlt;have E:=F (i+1);have q:xs[i].l.length=xs[i].n:=H.len;have J:=H.sla;have G:=H.nil;have e:(Bs.cat (xs.take i)).map v8++xs[i].l.map v8=(Bs.cat (xs.take (i+1))).map v8:=by rw[hs];exact B2.symm
  have M:(Bs.cat (xs.take i)).length+xs[i].n=(Bs.cat (xs.take (i+1))).length:=by rw[hs];simp only[A3,q]
  generalize Bs.cat (xs.take i)=K at*;obtain⟨Z,r⟩:∃k,k=Bs.cat (xs.take (i+1)):=⟨_,rfl⟩;rw[<-r] at e M E;generalize xs[i]=s at*;obtain⟨sa,sn,sc,sl⟩:=s;dsimp only at*;have g1:decide ((i:Int)<(m:Int))=true:=q_d;have g6:IntKind.i64.wrap ((i:Int)+1)=((i+1:Nat):Int):=q_w;repeat' (first|refine s_t ?_|refine q_k 3 ?_;refine q_v (zm (hr:=g1)) ?_|refine q_k 5 ?_;refine q_v (zG (j:=i)) ?_;refine q_v (zp (hv:=hc)) ?_;(refine q_s (zaB (hr:=F4 J (λ_ _ h=>h)) (hn:=by rw[A1,q,Al]) (hnil:=G) (hys:=e) (hkm:=M)) ?_;rintro _ _ ⟨rfl,O,Q,rfl⟩);refine zf ?_|refine q_k 4 ?_;refine q_x (zN (hr:=g6)) ?_)
  refine zQ (i+1,O,Q) hlt ?_ ?_ ?_
  ·show m-(i+1)<m-i;omega
  ·dsimp only;rw[<-r];exact q_h
  ·dsimp only;rw[<-r];exact q_h
 obtain rfl:i=m:=q_o;rw[A9 q_o];have g6:decide ((i:Int)<(i:Int))=false:=q_f;generalize Bs.cat xs=K at*;repeat' (first|refine s_0 ?_|refine q_k 3 ?_;refine q_v (zm (hr:=g6)) ?_|refine q_k 6 ?_;(refine q_s (zn (hc:=λY X hk T=>zdp 48 N _ P K _ Y q_e (zau T rfl q_h) hb rfl)) ?_;rintro _ _ ⟨R,rfl,aE,cE,rfl,rfl⟩);refine zf ?_)
 exact q_r
theorem zt9(v:Bool)(w:World):Sy.Fn Tryz.prog 82 [.bool v] w No (zbA (zdc v)):=by
 refine zz Tryz.func82 Tryz.ntmps82 ?_;unfold zdc;have B: [Value.int .u8 0]= [(0:UInt8)].map v8:=rfl;have E: [Value.int .u8 255]= [(255:UInt8)].map v8:=rfl;cases v
 ·rw[show(if false=true then (255:UInt8) else 0)=0 from rfl];repeat' (first|refine s_0 ?_|refine zL [0,1] ?_;refine zf ?_|refine ze 3 ?_;(refine q_s zD ?_;rintro _ _ ⟨j,rfl,rfl⟩))
  rw[B];refine q_s (zn (hc:=λq X F m=>zdp 1 (some ⟨j,0,none⟩) 1 1 [0] _ q q_e (zhO m rfl q_h) (by show 1<16777216;decide) rfl)) ?_;rintro _ _ ⟨R,rfl,r,A,rfl,rfl⟩;repeat' (first|refine s_0 ?_|(refine zx ?_;first|refine zo ?_|fail)|fail)
  exact q_r
 ·rw[show(if true=true then (255:UInt8) else 0)=255 from rfl];repeat' (first|refine s_0 ?_|refine zL [0,1] ?_;refine zf ?_|refine ze 2 ?_;(refine q_s zD ?_;rintro _ _ ⟨j,rfl,rfl⟩))
  rw[E];refine q_s (zn (hc:=λq X F m=>zdp 1 (some ⟨j,0,none⟩) 1 1 [255] _ q q_e (zhO m rfl q_h) (by show 1<16777216;decide) rfl)) ?_;rintro _ _ ⟨R,rfl,r,A,rfl,rfl⟩;repeat' (first|refine s_0 ?_|(refine zx ?_;first|refine zo ?_|fail)|fail)
  exact q_r
theorem znI(v:Int)(w:World)(h1:0<=v)(h2:v<=4611686018427387904):Sy.Fn Tryz.prog 83 [.int .i64 v] w No (zbA (zbv v.toNat)):=by
 have:=zq9 v.toNat w q_o;rwa[AT h1] at this
theorem zrz(v:Int)(w:World)(h1:0<=v)(h2:v<=4611686018427387904):Sy.Fn Tryz.prog 79 [.int .i64 v] w No (zbA (zbv v.toNat)):=by
 refine zz Tryz.func79 Tryz.ntmps79 ?_;have h:=λj=>znI v j h1 h2;repeat' (first|refine s_0 ?_|refine q_k 0 ?_|refine q_k 1 ?_;(refine q_s (zn (hc:=λj X A r=>h j)) ?_;rintro _ _ ⟨R,rfl,m,q,rfl,rfl⟩);refine zf ?_)
 exact q_r
theorem zna(b m:Nat)(xs:List Bs)(w:World)(hm:xs.length=m)(j:m<1000)(h:w.rangeAt b 0 (xs.map Bs.val))(q:∀s∈xs,s.ok w)(hb:(Bs.cat xs).length<16777216)(D:List UInt8)(r:D=tlv 0x30 (Bs.cat xs)):
  Sy.Fn Tryz.prog 42 [.slice (some ⟨b,0,none⟩) m m] w No (zbA D):=zpD (some ⟨b,0,none⟩) m m xs D w hm j (A8 _) (.inr ⟨b,0,rfl,h⟩) q hb r
theorem znr(C:List Value)(p:Prin)(w:World)(h:PrinIn w C p)(H:p.ok=true):Sy.Fn Tryz.prog 80 [.agg C.toArray] w No (zbA p.der):=by
 obtain⟨b8,S,T⟩:=F0 H;obtain⟨⟨a1,c1,rfl,n1,m1,s1,z1⟩,-⟩:=h;refine zz Tryz.func80 Tryz.ntmps80 ?_;have V:=λx (hx:x∈p.parts) m=>zpl x m (by have:=S x hx;omega);have I:=λm=>zpl p.realm m q_o;have b0:=FT H;have b7:=F6 H;have F:p.der=tlv 0x30 (zap 0 (tlv 0x30 (p.parts.map zav).flatten)++zap 1 (zav p.realm)):=by simp[Prin.der,zdt]
 have b9:=znx T;unfold zW at*;generalize p.der=D at*;obtain⟨parts,realm⟩:=p;dsimp only at*;generalize hn:parts.length=n at*;repeat' (first|refine s_t ?_|refine ze 0 ?_;refine z9 ?_;intro _|refine zL [1,2] ?_;refine zf ?_)
 rename_i Y;refine zcN (zbZ 23 1) ?_;refine zX (γ:=Nat×List Bs×Option Addr×Nat) (λg=>[(1,.pointer (some ⟨Y,0,none⟩)),(4,.int .i64 (g.1:Int)),(3,.slice g.2.2.1 g.2.1.length g.2.2.2)])
  (λg=> .row (.slice g.2.2.1 g.2.1.length g.2.2.2) 23 1 g.2.1.length (g.2.1.reverse.map Bs.val):: .blk Y 43 [.slice a1 n c1,.string (str realm)]::zdD 5 g.2.1)
  (λg=>g.1<=n/\g.2.1.reverse.map (·.l)=(parts.take g.1).map zav/\∀s∈g.2.1,s.l.length=s.n) (λg=>n-g.1) (0,[],none,0) ⟨AE _,rfl,λs hs=>by cases hs⟩ ?_ ?_ ?_
 ·exact q_h
 ·exact q_h
 rintro⟨i,q,aP,cP⟩ ⟨hi,B,J⟩;dsimp only at hi B J ⊢;have W:q.length=i:=by have:=congrArg List.length B;simp at this;omega
 by_cases hlt:i<n
 ·obtain⟨bl,ol,rfl,G⟩:=zdb s1 (i:=i) (by rw[List.length_map];omega);have hc:=G i _ (zdw _ q_o);have g1:decide ((i:Int)<(n:Int))=true:=q_d;have g5:IntKind.i64.wrap ((i:Int)+1)=((i+1:Nat):Int):=q_w;have b2:parts.take (i+1)=parts.take i++[parts[i]]:=zaI q_o;have a9:parts[i]∈parts:=AX q_o;have hx:=V parts[i] a9;generalize parts[i]=x at*;repeat' (first|refine s_t ?_|refine q_k 3 ?_;refine zl ?_;refine zf ?_;refine q_v (zm (hr:=g1)) ?_|refine q_k 5 ?_;refine zl ?_;refine zf ?_;refine q_v (zG (j:=i)) ?_;refine q_v (zp (hv:=hc)) ?_;(refine q_s (zn (hc:=λm X P A=>hx m)) ?_;rintro _ _ ⟨R,rfl,K,L,rfl,rfl⟩);(refine q_s zD ?_;rintro _ _ ⟨_,rfl,rfl⟩);(refine q_s (zaB (hys:=zk7 q ⟨K,(zav x).length,L,zav x⟩) (hkm:=rfl)) ?_;rintro _ _ ⟨rfl,Z,cN,rfl⟩);refine zf ?_)
  refine F8 (fr':=[(1,.pointer (some ⟨Y,0,none⟩)),(4,.int .i64 (i:Int)),(3,.slice Z (q.length+1) cN)]) (L':=.row (.slice Z (q.length+1) cN) 23 1 (q.length+1) ((⟨K,(zav x).length,L,zav x⟩::q).reverse.map Bs.val):: .blk Y 43 [.slice (some ⟨bl,ol,none⟩) n c1,.string (str realm)]::zdD 5 (⟨K,(zav x).length,L,zav x⟩::q)) ?_ q_h ?_;rotate_left
  ·show SubR (_::_::zkE 5 ⟨K,(zav x).length,L,zav x⟩::zdD 5 q) _
   (repeat' (first|exact El|apply Es;with_reducible (focus ((repeat (first|exact Ej|apply Ek));done))|apply Ez;(focus ((repeat (first|exact Ej|apply Ek));done))|apply Es;(focus ((repeat (first|exact Ej|apply Ek));done))|apply Ew;(focus ((repeat (first|exact Ej|apply Ek));done))|rfl))
   all_goals exact Ex Ep
  repeat' (first|refine zaC ?_|refine zaD ?_|refine q_k 4 ?_;refine q_x (zN (hr:=g5)) ?_)
  refine zQ (i+1,⟨K,(zav x).length,L,zav x⟩::q,Z,cN) ⟨hlt,?_,?_⟩ ?_ ?_ ?_
  ·show((⟨K,(zav x).length,L,zav x⟩::q).reverse).map (·.l)=_;rw[zp8,B,b2,B2];rfl
  ·intro s hs;rcases AQ.1 hs with rfl|hs
   ·rfl
   ·exact J s hs
  ·show n-(i+1)<n-i;omega
  ·exact q_h
  ·exact Ep
 obtain rfl:i=n:=q_o;rw[A9 q_o] at B;have O:Bs.cat q.reverse=(parts.map zav).flatten:=by rw[zkU,B]
 have g1:decide ((i:Int)<(i:Int))=false:=q_f;rw[<-O] at b0 F;have hQ:=(zae 0x30 (Bs.cat q.reverse)).2;have b3:=(zae 0xa0 (tlv 0x30 (Bs.cat q.reverse))).2;have b4:=(zae 0xa1 (zav realm)).2;repeat' (first|refine s_0 ?_|refine q_k 3 ?_;refine zl ?_;refine zf ?_;refine q_v (zm (hr:=g1)) ?_)
 rw[W]
 (refine zdq (id:=6) [0,3,4] [1,2,5,6,7,8,9] mixed ?_ ?_;kernel_rfl;refine yfv zar (k:=?_);refine yfv zP (k:=?_);refine yfv zM (k:=?_);refine yf0 ?_;try refine yc0 (k:=?_))
 refine ycs (zn (hc:=λm X P A=>zpD aP i cP q.reverse _ m (by rw[CE];exact W) q_o (FD A q_h) ((GZ (Mi:=No) A q_h (λ_ h=>h.elim)).sla) (λs hs=>zk6 (E:=5) A J (λr hr=>A7 _ (A0 _ (A0 _ hr))) s (Cv.1 hs)) q_o rfl)) (k:=?_);rintro _ _ ⟨R,rfl,aS,cS,rfl,rfl⟩;generalize a6:tlv 0x30 (Bs.cat q.reverse)=Q at*;have a7:0<Q.length:=by rw[<-a6];exact zbJ
 have a8:0<(zav realm).length:=zbJ;refine ycs (zn (hc:=λm X P A=>zdy 0 aS Q.length cS Q _ m q_e (zau A rfl q_h) a7 q_o rfl)) (k:=?_);rintro _ _ ⟨R,rfl,aT,cT,rfl,rfl⟩;refine ycs (zn (hc:=λm X P A=>I m)) (k:=?_);rintro _ _ ⟨R,rfl,aU,cU,rfl,rfl⟩;generalize zav realm=U at*;refine ycs (zn (hc:=λm X P A=>zdy 1 aU U.length cU U _ m q_e (zau A rfl q_h) a8 q_o rfl)) (k:=?_);rintro _ _ ⟨R,rfl,aV,cV,rfl,rfl⟩;refine ycs zD (k:=?_);rintro _ _ ⟨bL,rfl,rfl⟩;have b5:(zap 0 Q).length<=300:=by show(tlv 160 Q).length<=300;omega
 have b6:(zap 1 U).length<=300:=by show(tlv 161 U).length<=300;omega
 generalize zap 1 U=N,zap 0 Q=M at*;refine ycs (zn (hc:=λm X P A=>zna bL 2 [⟨aT,M.length,cT,M⟩,⟨aV,N.length,cV,N⟩] m rfl q_e (zq (A.has q_h) Em) (λs hs=>by
  simp only[AQ,BB,or_false] at hs;rcases hs with rfl|rfl
  ·exact zau A rfl q_h
  ·exact zau A rfl q_h) (by rw[show Bs.cat [⟨aT,M.length,cT,M⟩,⟨aV,N.length,cV,N⟩]=M++N by simp[Bs.cat],A3];omega) D (by rw[F];simp[Bs.cat]))) (k:=?_)
 rintro _ _ ⟨R,rfl,aW,cW,rfl,rfl⟩;refine ycv zbl (k:=?_);refine yc0 (k:=?_);repeat' (first|refine s_0 ?_|fail)
 exact zaq rfl (zj rfl) (Ew Ej rfl El) ⟨_,_,rfl,rfl⟩
theorem ztE(p:Pl)(c:Cert)(w:World)(h:CertAt w p c)(hs:c.small):Sy.Fn Tryz.prog 37 [.agg (zE p c).toArray] w No (zbA c.body):=by
 refine zz Tryz.func37 Tryz.ntmps37 ?_;have h0:=λj=>zrz c.serial j hs.s0 hs.s1;have h1:=λj (q:Keep No w j)=>znr _ _ j (h.iss.keep q) hs.iss;have h2:=λj (q:Keep No w j)=>znr _ _ j (h.sub.keep q) hs.sub;have h3:=λj=>zm4 c.fr j hs.f0 hs.f1;have h4:=λj=>zm4 c.til j hs.t0 hs.t1;have h5:=λj=>zt9 c.auth j;have h6:=λj=>znI c.group j hs.g0 hs.g1;have a8:=hs.pub;have h7:=λj (q:Keep No w j)=>zwl p.a3 c.pub.length p.k3 c.pub j (h.pub.keep q) q_o;have p0:0<(zbv c.serial.toNat).length:=zbJ;have p1:=FX c.issuer;have p2:=FX c.subject;have p3:0<(zbC c.fr.toNat).length:=zbJ;have p4:0<(zbC c.til.toNat).length:=zbJ;have p5:0<(zdc c.auth).length:=zbJ;have p6:0<(zbv c.group.toNat).length:=zbJ;have p7:0<(zbz c.pub).length:=zbJ;have m0:=(zel (v:=c.serial.toNat) (by have:=hs.s1;omega)).2;have m1:=F6 hs.iss;have m2:=F6 hs.sub;have m3:(zbC c.fr.toNat).length<=11:=zcv (by rw[zbw];decide);have m4:(zbC c.til.toNat).length<=11:=zcv (by rw[zbw];decide);have m5:(zdc c.auth).length<=6:=zcv (A8 1);have m6:=(zel (v:=c.group.toNat) (by have:=hs.g1;omega)).2;have m7:(zbz c.pub).length<=c.pub.length+5:=zcv (A8 _);obtain⟨r,V⟩:∃G,G=zap 0 (zbv c.serial.toNat):=⟨_,rfl⟩;obtain⟨A,W⟩:∃G,G=zap 1 (c.issuer.der):=⟨_,rfl⟩;obtain⟨E,Y⟩:∃G,G=zap 2 (c.subject.der):=⟨_,rfl⟩;obtain⟨F,Z⟩:∃G,G=zap 3 (zbC c.fr.toNat):=⟨_,rfl⟩;obtain⟨H,e4⟩:∃G,G=zap 4 (zbC c.til.toNat):=⟨_,rfl⟩;obtain⟨I,e5⟩:∃G,G=zap 5 (zdc c.auth):=⟨_,rfl⟩;obtain⟨J,e6⟩:∃G,G=zap 6 (zbv c.group.toNat):=⟨_,rfl⟩;obtain⟨K,e7⟩:∃G,G=zap 7 (zbz c.pub):=⟨_,rfl⟩;have L:c.body=tlv 0x30 (r++(A++(E++(F++(H++(I++(J++K))))))):=by rw[V,W,Y,Z,e4,e5,e6,e7];simp[Cert.body,zdt]
 generalize c.body=BD at*;unfold zE za1 at*;clear h hs;obtain⟨serial,iss,sub,fr,til,auth,group,pub,sig⟩:=c;dsimp only at*;generalize zbz pub=U,zbv group.toNat=T,zdc auth=S,zbC til.toNat=Q,zbC fr.toNat=P,sub.der=O,iss.der=N,zbv serial.toNat=M at*;have l0:r.length<=M.length+5:=by rw[V];exact(zae (0xa0+0) M).2
 have l1:A.length<=N.length+5:=by rw[W];exact(zae (0xa0+1) N).2
 have l2:E.length<=O.length+5:=by rw[Y];exact(zae (0xa0+2) O).2
 have l3:F.length<=P.length+5:=by rw[Z];exact(zae (0xa0+3) P).2
 have l4:H.length<=Q.length+5:=by rw[e4];exact(zae (0xa0+4) Q).2
 have l5:I.length<=S.length+5:=by rw[e5];exact(zae (0xa0+5) S).2
 have l6:J.length<=T.length+5:=by rw[e6];exact(zae (0xa0+6) T).2
 have l7:K.length<=U.length+5:=by rw[e7];exact(zae (0xa0+7) U).2
 repeat' (first|refine s_0 ?_|refine ze 0 ?_;refine z9 ?_;intro _)
 (refine zdq (id:=1) [0,1,4,5,8,9,12,13,16,17,20,21,24,25,28,29] [2,3,6,7,10,11,14,15,18,19,22,23,26,27,30,31,32,33,34] mixed ?_ ?_;kernel_rfl;refine yfv zP (k:=?_);refine yfv zM (k:=?_);refine yfv zP (k:=?_);refine yfv (zd (B:=[.slice p.a1 iss.parts.length p.k1,zW iss.realm]) (hv:=FB rfl)) (k:=?_);refine yfv zP (k:=?_);refine yfv (zd (B:=[.slice p.a2 sub.parts.length p.k2,zW sub.realm]) (hv:=FB rfl)) (k:=?_);refine yfv zP (k:=?_);refine yfv zM (k:=?_);refine yfv zP (k:=?_);refine yfv zM (k:=?_);refine yfv zP (k:=?_);refine yfv zM (k:=?_);refine yfv zP (k:=?_);refine yfv zM (k:=?_);refine yfv zP (k:=?_);refine yfv zM (k:=?_);refine yf0 ?_;try refine yc0 (k:=?_))
 refine ycs (zn (hc:=λj X q m=>h0 j)) (k:=?_);rintro _ _ ⟨R,rfl,a0,c0,rfl,rfl⟩;refine ycs (zn (hc:=λj X q m=>zdy 0 a0 M.length c0 M r j q_e (zau m rfl q_h) p0 q_o V)) (k:=?_);rintro _ _ ⟨R,rfl,b0,d0,rfl,rfl⟩;refine ycs (zn (hc:=zr h1)) (k:=?_);rintro _ _ ⟨R,rfl,a1,c1,rfl,rfl⟩;refine ycs (zn (hc:=λj X q m=>zdy 1 a1 N.length c1 N A j q_e (zau m rfl q_h) p1 q_o W)) (k:=?_);rintro _ _ ⟨R,rfl,b1,d1,rfl,rfl⟩;refine ycs (zn (hc:=zr h2)) (k:=?_);rintro _ _ ⟨R,rfl,a2,c2,rfl,rfl⟩;refine ycs (zn (hc:=λj X q m=>zdy 2 a2 O.length c2 O E j q_e (zau m rfl q_h) p2 q_o Y)) (k:=?_);rintro _ _ ⟨R,rfl,b2,d2,rfl,rfl⟩;refine ycs (zn (hc:=λj X q m=>h3 j)) (k:=?_);rintro _ _ ⟨R,rfl,a3,c3,rfl,rfl⟩;refine ycs (zn (hc:=λj X q m=>zdy 3 a3 P.length c3 P F j q_e (zau m rfl q_h) p3 q_o Z)) (k:=?_);rintro _ _ ⟨R,rfl,b3,d3,rfl,rfl⟩;refine ycs (zn (hc:=λj X q m=>h4 j)) (k:=?_);rintro _ _ ⟨R,rfl,a4,c4,rfl,rfl⟩;refine ycs (zn (hc:=λj X q m=>zdy 4 a4 Q.length c4 Q H j q_e (zau m rfl q_h) p4 q_o e4)) (k:=?_);rintro _ _ ⟨R,rfl,b4,d4,rfl,rfl⟩;refine ycs (zn (hc:=λj X q m=>h5 j)) (k:=?_);rintro _ _ ⟨R,rfl,a5,c5,rfl,rfl⟩;refine ycs (zn (hc:=λj X q m=>zdy 5 a5 S.length c5 S I j q_e (zau m rfl q_h) p5 q_o e5)) (k:=?_);rintro _ _ ⟨R,rfl,b5,d5,rfl,rfl⟩;refine ycs (zn (hc:=λj X q m=>h6 j)) (k:=?_);rintro _ _ ⟨R,rfl,a6,c6,rfl,rfl⟩;refine ycs (zn (hc:=λj X q m=>zdy 6 a6 T.length c6 T J j q_e (zau m rfl q_h) p6 q_o e6)) (k:=?_);rintro _ _ ⟨R,rfl,b6,d6,rfl,rfl⟩;refine ycs (zn (hc:=zr h7)) (k:=?_);rintro _ _ ⟨R,rfl,a7,c7,rfl,rfl⟩;refine ycs (zn (hc:=λj X q m=>zdy 7 a7 U.length c7 U K j q_e (zau m rfl q_h) p7 q_o e7)) (k:=?_);rintro _ _ ⟨R,rfl,b7,d7,rfl,rfl⟩;refine ycs zD (k:=?_);rintro _ _ ⟨bL,rfl,rfl⟩;refine ycs (zn (hc:=λj X q m=>zna bL 8 [⟨b0,r.length,d0,r⟩,⟨b1,A.length,d1,A⟩,⟨b2,E.length,d2,E⟩,⟨b3,F.length,d3,F⟩,⟨b4,H.length,d4,H⟩,⟨b5,I.length,d5,I⟩,⟨b6,J.length,d6,J⟩,⟨b7,K.length,d7,K⟩] j rfl q_e (zq (m.has q_h) Em) (λs hs=>by
   simp only[AQ,BB,or_false] at hs;rcases hs with rfl|rfl|rfl|rfl|rfl|rfl|rfl|rfl
   ·exact zau m rfl q_h
   ·exact zau m rfl q_h
   ·exact zau m rfl q_h
   ·exact zau m rfl q_h
   ·exact zau m rfl q_h
   ·exact zau m rfl q_h
   ·exact zau m rfl q_h
   ·exact zau m rfl q_h) (by rw[show Bs.cat [⟨b0,r.length,d0,r⟩,⟨b1,A.length,d1,A⟩,⟨b2,E.length,d2,E⟩,⟨b3,F.length,d3,F⟩,⟨b4,H.length,d4,H⟩,⟨b5,I.length,d5,I⟩,⟨b6,J.length,d6,J⟩,⟨b7,K.length,d7,K⟩]=r++(A++(E++(F++(H++(I++(J++K)))))) by simp[Bs.cat]];simp only[A3];omega) BD (by rw[L];simp[Bs.cat]))) (k:=?_)
 rintro _ _ ⟨R,rfl,aW,cW,rfl,rfl⟩;refine ycv zbl (k:=?_);refine yc0 (k:=?_);repeat' (first|refine s_0 ?_|fail)
 exact zaq rfl (zj rfl) (Ew Ej rfl El) ⟨_,_,rfl,rfl⟩
end
open Go Go.Sy Go.Nt Go.RowKit
attribute [local irreducible] Sy SyL SyX Sy.Fn callFunc zg zad zaR zaf zbP Sh.sum
theorem zjR{z:Int}{key j m s:List UInt8}(hs:zfK z key j m=some s):s.length=2*gL z.toNat:=by
 unfold zfK at hs;split at hs
 ·rename_i q;obtain⟨q,-,-,-⟩:=q;cases hs;unfold zdJ at q;rw[A5,decide_eq_true_eq] at q;obtain⟨i,-,E,h0,r⟩:=zdo (zfU q.1).1;rw[E];have w:0<gQ i:=AZ q_e (zbD i h0 r);have A:sE i (za2 z key).1 (zaQ z j).1 m<gQ i:=ziK h0 r _ _ _;have B:sS i (za2 z key).1 (zaQ z j).1 m<gQ i:=AG _ w;rw[A3,zdr _ _ (ziP h0 r A),zdr _ _ (ziP h0 r B)];omega
 ·cases hs
theorem zxw(a b:Nat)(ha:a<256)(hb:0<b/\b<256):za7 2 (a*256+b)= [UInt8.ofNat a,UInt8.ofNat b]:=by
 by_cases h0:a=0
 ·subst h0;have q:nd 256 (0*256+b)=1:=zdY 256 _ 1 q_e q_o (λ_=>by omega);unfold za7 byt be cd;rw[q];simp[dg,AA hb.2]
 ·have r:nd 256 (a*256+b)=2:=zdY 256 _ 2 q_e q_o (λ_=>by omega);unfold za7 byt be cd;rw[r];have j:(a*256+b)%256=b:=q_o;have m:(a*256+b)/256%256=a:=q_o;simp[dg,j,m]
theorem znj:zdJ 1 [0,6]=true/\(za2 1 [0,6]).1=6:=by
 have j:za2 1 [0,6]=(6,0):=by decide +kernel
 unfold zdJ;rw[j];exact⟨rfl,rfl⟩
theorem zkd:zg4 1 [0,6]=some [4,193]:=by
 unfold zg4;rw[if_pos znj.1,znj.2];have h:4^6%gP (1:Int).toNat=4*256+193:=by decide +kernel
 rw[h];exact congrArg some (zxw 4 193 q_e q_e)
theorem zx3(m:List UInt8)(hm:m.length<=65536):∃s:List UInt8,zfK 1 [0,6] [7] m=some s/\s.length=4/\ze0 1 [4,193] m s=0/\ze0 1 [4,193] m (s.take 3)=10:=by
 have j:zaQ 1 [7]=(7,0):=by unfold zaQ;rw[if_pos q_e];decide +kernel
 have hs:=zif (z:=1) (pl:=[0,6]) (nl:=[7]) (ml:=m) znj.1 (by rw[j]) (by rw[j];decide) hm;have q:=zjR hs;refine⟨_,hs,q,zpe zkd hs,zmS ?_ ?_⟩
 ·rintro(h|h)
  ·rw[ziS zkd] at h;exact h rfl
  ·omega
 ·rw[Ad,q];decide
end Go.Proofs.YtdnlngbjpdbffaaGreatDoor
namespace Go.Ct
section
open Go Go.Sy
def kP(s:List UInt8):Prin:=⟨[s],[82]⟩
def kC(s:List UInt8):Cert:=⟨1,kP [99,97],kP [97],10,100,false,1,[0,16],s⟩
def kD(s:List UInt8):Cert:=⟨2,kP [97],kP [98],10,100,false,1,[0,16],s⟩
def kA:Anch:=⟨kP [99,97],1,[4,193]⟩
def kR:Revo:=⟨kP [99,97],1⟩
theorem zuD:(kP [99,97]).ok=true:=by decide
theorem zwH:(kP [97]).ok=true:=by decide
theorem zyi:(kP [98]).ok=true:=by decide
theorem kI1:zbv (1:Int).toNat= [2,1,1]:=by
 unfold zbv;rw[zcQ q_e];rfl
theorem kI2:zbv (2:Int).toNat= [2,1,2]:=by
 unfold zbv;rw[zcQ q_e];rfl
theorem zk8(s:List UInt8):(kC s).body.length=76:=by
 have h:(kC s).body=zdt [zap 0 [2,1,1],zap 1 (kP [99,97]).der,zap 2 (kP [97]).der,zap 3 (zbC 10),zap 4 (zbC 100),zap 5 (zdc false),zap 6 [2,1,1],zap 7 (zbz [0,16])]:=by
  show zdt [zap 0 (zbv (1:Int).toNat),_,_,_,_,_,zap 6 (zbv (1:Int).toNat),_]=_;rw[kI1];rfl
 rw[h];decide
theorem zu3(s:List UInt8):(kD s).body.length<=100:=by
 have h:(kD s).body=zdt [zap 0 [2,1,2],zap 1 (kP [97]).der,zap 2 (kP [98]).der,zap 3 (zbC 10),zap 4 (zbC 100),zap 5 (zdc false),zap 6 [2,1,1],zap 7 (zbz [0,16])]:=by
  show zdt [zap 0 (zbv (2:Int).toNat),_,_,_,_,_,zap 6 (zbv (1:Int).toNat),_]=_;rw[kI1,kI2];rfl
 rw[h];decide
theorem zxc{s:List UInt8}(hs:s.length=4):(kC s).der.length=88:=by
 have j:=zk8 s;unfold Cert.der;generalize (kC s).body=b at*;have e:(kC s).sig=s:=rfl;rw[e];unfold zdt zap zbz;simp only[BP,CY,AH,tlv,AO,A3,j,hs];have d4:(zce 4).length=1:=rfl;have d76:(zce 76).length=1:=rfl;have d6:(zce (4+1+1)).length=1:=rfl;rw[d4,d76];rfl
variable {sv:Int->List UInt8->Bool}{sf:Int->List UInt8->List UInt8->List UInt8->Bool}
theorem zmq{s:List UInt8}(hs:s.length<=192)(h:sv 1 [0,16]=true):(kC s).ok sv=true:=by
 show(decide (0<=(1:Int))&&decide ((1:Int)<=4611686018427387904)&&(kP [99,97]).ok&&(kP [97]).ok&&decide (0<=(10:Int))&&decide ((10:Int)<=100)&&decide ((100:Int)<=1099511627776)&&decide (s.length<=192)&&sv 1 [0,16])=true;rw[zuD,zwH,h,decide_eq_true hs];rfl
theorem zqb{s:List UInt8}(hs:s.length<=192)(h:sv 1 [0,16]=true):(kD s).ok sv=true:=by
 show(decide (0<=(2:Int))&&decide ((2:Int)<=4611686018427387904)&&(kP [97]).ok&&(kP [98]).ok&&decide (0<=(10:Int))&&decide ((10:Int)<=100)&&decide ((100:Int)<=1099511627776)&&decide (s.length<=192)&&sv 1 [0,16])=true;rw[zyi,zwH,h,decide_eq_true hs];rfl
variable {s t:List UInt8}(hs:s.length<=192)(ht:t.length<=192)(h16:sv 1 [0,16]=true)(hA:sv 1 [4,193]=true)(hf:sf 1 [4,193] (kC s).body s=true)
theorem zuG(hA:sv 1 [4,193]=true):Anch.ok sv kA=true:=by
 show((kP [99,97]).ok&&sv 1 [4,193])=true;rw[zuD,hA];rfl
end
section
open Go Go.Sy
variable {sv:Int->List UInt8->Bool}{sf:Int->List UInt8->List UInt8->List UInt8->Bool}{s t:List UInt8}(hs:s.length<=192)(ht:t.length<=192)(h16:sv 1 [0,16]=true)(hA:sv 1 [4,193]=true)(hf:sf 1 [4,193] (kC s).body s=true)
include hs h16 hA
theorem zsr(j:List Anch)(rs:List Revo)(now:Int)(ha:j= [kA]\/j= [])(hr:rs.length<=64)(h0:0<=now)(h1:now<=1099511627776):zeg sv [kC s] j rs now=true:=by
 have e:j.length<=64/\j.all (Anch.ok sv)=true:=by
  rcases ha with rfl|rfl
  ·exact⟨by decide,by rw[BI,zuG hA];rfl⟩
  ·exact⟨by decide,rfl⟩
 have m:zaF sv [kC s]=true:=by unfold zaF;rw[BI,zmq hs h16];rfl
 unfold zeg;rw[m,e.2,decide_eq_true e.1,decide_eq_true hr,decide_eq_true h0,decide_eq_true h1];rfl
theorem zwF(now:Int)(h0:0<=now)(h1:now<=1099511627776):verify sf sv [kC s] [] [] now=(0,220):=by
 unfold verify;rw[if_pos (zsr hs h16 hA [] [] now (.inr rfl) q_e h0 h1)];rfl
end
section
open Go Go.Sy
variable {sv:Int->List UInt8->Bool}{sf:Int->List UInt8->List UInt8->List UInt8->Bool}{s t:List UInt8}(hs:s.length<=192)(ht:t.length<=192)(h16:sv 1 [0,16]=true)(hA:sv 1 [4,193]=true)(hf:sf 1 [4,193] (kC s).body s=true)
include hs h16 hA
include hf
theorem zp4(rs:List Revo)(now:Int)(hr:rs.length<=64)(h0:0<=now)(h1:now<=1099511627776):verify sf sv [kC s] [kA] rs now=(0,if now<10\/100<now then 222 else if zdI rs (kC s) then 223 else 0):=by
 unfold verify;rw[if_pos (zsr hs h16 hA [kA] rs now (.inl rfl) hr h0 h1)];show zcY sf rs now [kC s] (zen [kA] (kP [99,97]))=_;have m:zen [kA] (kP [99,97])=kA:=by
  unfold zen;have:([kA].find? λa=>a.name.same (kP [99,97]))=some kA:=by
   rw[DP];show(kP [99,97]).same (kP [99,97])=true;exact F7.2 rfl
  rw[this];rfl
 rw[m];show(if zds sf (kC s) kA rs now true=0 then (0,0) else (0,zds sf (kC s) kA rs now true))=_;have q:zds sf (kC s) kA rs now true=if now<10\/100<now then 222 else if zdI rs (kC s) then 223 else 0:=by
  unfold zds;have h1:(kC s).issuer.same kA.name=true:=F7.2 rfl;have j:sf kA.group kA.pub (kC s).body (kC s).sig=true:=hf;rw[h1,j];show(if now<10\/100<now then 222 else if zdI rs (kC s) then 223 else if (!true && !false)=true then 224 else 0)=_;simp
 rw[q];generalize (if now<10\/100<now then (222:Int) else if zdI rs (kC s) then 223 else 0)=E;by_cases hE:E=0
 ·rw[if_pos hE,hE]
 ·rw[if_neg hE]
end
section
open Go Go.Sy
variable {sv:Int->List UInt8->Bool}{sf:Int->List UInt8->List UInt8->List UInt8->Bool}{s t:List UInt8}(hs:s.length<=192)(ht:t.length<=192)(h16:sv 1 [0,16]=true)(hA:sv 1 [4,193]=true)(hf:sf 1 [4,193] (kC s).body s=true)
include hs h16 hA
include hf
include ht
theorem zxV:verify sf sv [kD t,kC s] [kA] [] 50=(1,224):=by
 unfold verify;have w:zaF sv [kD t,kC s]=true:=by unfold zaF;rw[BI,BI,zmq hs h16,zqb ht h16];rfl
 have j:zeg sv [kD t,kC s] [kA] [] 50=true:=by
  unfold zeg;rw[w,BI,zuG hA];rfl
 rw[if_pos j];show zcY sf [] 50 [kC s,kD t] (zen [kA] (kP [99,97]))=_;have r:zen [kA] (kP [99,97])=kA:=by
  unfold zen;have:([kA].find? λa=>a.name.same (kP [99,97]))=some kA:=by
   rw[DP];show(kP [99,97]).same (kP [99,97])=true;exact F7.2 rfl
  rw[this];rfl
 rw[r];show(if zds sf (kC s) kA [] 50 false=0 then zcY sf [] 50 [kD t] _ else (1,zds sf (kC s) kA [] 50 false))=_;have j:zds sf (kC s) kA [] 50 false=224:=by
  unfold zds;have m:(kC s).issuer.same kA.name=true:=F7.2 rfl;have q:sf kA.group kA.pub (kC s).body (kC s).sig=true:=hf;rw[m,q];rfl
 rw[j];rfl
end
open Go Go.Sy
theorem zxe(s:List UInt8):zdI [kR] (kC s)=true:=by
 have h:(kP [99,97]).same (kP [99,97])=true:=F7.2 rfl;show((kP [99,97]).same (kP [99,97])&&decide ((1:Int)=1) || false)=true;rw[h];rfl
end Go.Ct
namespace Go.Proofs.YtdnlngbjpdbffaaGreatDoor
open Go Go.Sy Go.Ct Go.Nt Go.RowKit
theorem znS:zdJ 1 [0,2]=true/\(za2 1 [0,2]).1=2:=by
 have j:za2 1 [0,2]=(2,0):=by decide +kernel
 unfold zdJ;rw[j];exact⟨rfl,rfl⟩
theorem zxl:zg4 1 [0,2]=some [0,16]:=by
 unfold zg4;rw[if_pos znS.1,znS.2];have h:4^2%gP (1:Int).toNat=0*256+16:=by decide +kernel
 rw[h];exact congrArg some (zxw 0 16 q_e q_e)
theorem zeS:svK 1 [0,16]=true:=by unfold svK;rw[ziS zxl];rfl
theorem zfW:svK 1 [4,193]=true:=by unfold svK;rw[ziS zkd];rfl
theorem zxg(m:List UInt8)(hm:m.length<=65536):∃s:List UInt8,zfK 1 [0,2] [7] m=some s/\s.length=4:=by
 have j:zaQ 1 [7]=(7,0):=by unfold zaQ;rw[if_pos q_e];decide +kernel
 have hs:=zif (z:=1) (pl:=[0,2]) (nl:=[7]) (ml:=m) znS.1 (by rw[j]) (by rw[j];decide) hm;exact⟨_,hs,zjR hs⟩
attribute [local irreducible] Sy SyL SyX SyC SyF Sy.Fn callFunc
theorem zjt(e:Int)(w:World):q_G 14 [.int .i64 e] w (.int .i64 e):=by
 refine zz Tryz.func14 Tryz.ntmps14 ?_;repeat' (first|refine s_0 ?_|refine zL [0,1] ?_;refine zf ?_)
 exact q_r
def zuM(l:List UInt8)(v:Value)(R:List Res):Prop:=∃b,v= .agg #[.slice (some ⟨b,0,none⟩) 1 1,.string (str [82])]/\R= [.blk b 9 [.string (str l)]]
theorem zqY(l:List UInt8)(w:World):Sy.Fn Tryz.prog 30 [.string (str l)] w No (zuM l):=by
 refine zz Tryz.func30 Tryz.ntmps30 ?_;repeat' (first|refine s_0 ?_|refine ze 0 ?_;refine zi ?_;intro _|refine q_k 1 ?_;(refine q_s zD ?_;rintro _ _ ⟨j,rfl,rfl⟩);refine za4 ?_;refine zJ ?_)
 exact zaq rfl (zB (B:=[.slice (some ⟨j,0,none⟩) 1 1,.string (str [82])]) rfl (ty rfl) rfl En Em rfl) q_h ⟨j,rfl,rfl⟩
theorem zto(vs:List Value)(i e m A:Int)(now:Int)(w:World)(q r v3:Value)(hv:vs= [q,r,v3,.int .i64 now])(hc:∀j,Keep No w j->q_G 25 vs j (.tuple #[.int .i64 i,.int .i64 e])):
  q_G 38 [q,r,v3,.int .i64 now,.int .i64 m,.int .i64 A] w (.bool (decide (i=m)&&decide (e=A))):=by
 subst hv;refine zz Tryz.func38 Tryz.ntmps38 ?_;have B:=λj=>zjt e j;by_cases h:i=m
 ·rw[decide_eq_true h,B1];repeat' (first|refine s_0 ?_|refine q_k 0 ?_|refine q_k 1 ?_;refine q_v (za (hc:=zr hc)) ?_;refine zf ?_|refine q_k 2 ?_;refine q_x (zY (hr:=decide_eq_true h)) ?_;refine q_v (za (hc:=q_c B)) ?_;refine zf ?_;refine zaH ?_;refine zf ?_)
  exact q_r
 ·rw[decide_eq_false h,BC];repeat' (first|refine s_0 ?_|refine q_k 0 ?_|refine q_k 1 ?_;refine q_v (za (hc:=zr hc)) ?_;refine zf ?_|refine q_k 2 ?_;refine q_x (zY (hr:=decide_eq_false h)) ?_)
  exact q_r
end Go.Proofs.YtdnlngbjpdbffaaGreatDoor
