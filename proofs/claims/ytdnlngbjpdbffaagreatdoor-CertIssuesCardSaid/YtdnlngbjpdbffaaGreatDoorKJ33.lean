/- Lemmas of this proof. -/
import Derived.Test.YtdnlngbjpdbffaaGreatDoorKJ32
import Derived.Lib.Bytealg
set_option maxHeartbeats 1000000
set_option maxRecDepth 10000
set_option linter.all false
namespace Go.Ct
open Go
def zaG:List UInt8->List (List UInt8)
 | []=>[[]]
 |c::r=>if c=46 then []::zaG r else match zaG r with
  | []=>[[c]]
  |l::ls=>(c::l)::ls
theorem zfe:∀l:List UInt8,(∀c∈l,c≠46)->zaG l= [l]
 | [],_=>rfl
 |c::l,h=>by
  rw[zaG,if_neg (h c A5),zfe l (λx j=>h x (A9 _ j))]
theorem zfO:∀(l r:List UInt8),(∀c∈l,c≠46)->zaG (l++46::r)=l::zaG r
 | [],r,_=>by rw[B3,zaG,if_pos rfl]
 |c::l,r,h=>by
  rw[An,zaG,if_neg (h c A5),zfO l r (λx j=>h x (A9 _ j))]
theorem zfi:∀s:List UInt8,(∀c∈s,c≠46)\/∃l r,s=l++46::r/\∀c∈l,c≠46
 | []=> .inl (λc q=>by cases q)
 |c::s=>by
  by_cases h:c=46
  ·exact .inr ⟨[],s,by rw[h];rfl,λc q=>by cases q⟩
  ·rcases zfi s with m|⟨l,r,rfl,m⟩
   ·refine .inl (λx j=>?_);rcases Ag.1 j with rfl|j
    ·exact h
    ·exact m x j
   ·refine .inr ⟨c::l,r,rfl,λx j=>?_⟩;rcases Ag.1 j with rfl|j
    ·exact h
    ·exact m x j
theorem zjm(l:List UInt8)(a b:Nat):(Sy.str l).extract a b=Sy.str ((l.drop a).take (b-a)):=by
 apply ByteArray.ext;rw[ByteArray.data_extract];show l.toArray.extract a b=_;rw[List.extract_toArray];rfl
def zeD(l:List UInt8):Bool:=!l.isEmpty&&l.all zce
theorem zjc:∀(n:Nat) (s:List UInt8),s.length<=n->zcj true s=(zaG s).all zeD
 |n,s,hn=>by
  rcases zfi s with h|⟨l,r,rfl,h⟩
  ·rw[zpt s h,zfe s h];simp[zeD]
  ·cases n with
   |zero=>simp at hn
   |succ n=>
    rw[zrA l r h,zfO l r h,BP,zjc n r (by simp at hn;omega)];rfl
theorem zj0:∀(n:Nat) (s:List UInt8),s.length<=n->∀x∈zaG s,x.length<=s.length
 |n,s,hn,x,j=>by
  rcases zfi s with h|⟨l,r,rfl,h⟩
  ·rw[zfe s h,AF] at j;rw[j];exact A4 _
  ·cases n with
   |zero=>simp at hn
   |succ n=>
    rw[zfO l r h] at j;rw[A2,Ac];rcases Ag.1 j with rfl|j
    ·omega
    ·have:=zj0 n r (by simp at hn;omega) x j;omega
theorem zko:∀l:List UInt8,(∀c∈l,c≠46)->Lib.indexByte l 46= -1
 | [],_=>rfl
 |c::l,h=>by
  have j:(c==46)=false:=beq_eq_false_iff_ne.2 (h c A5);rw[Lib.indexByte,j,zko l (λx m=>h x (A9 _ m))];rfl
theorem zlB:∀(l r:List UInt8),(∀c∈l,c≠46)->Lib.indexByte (l++46::r) 46=(l.length:Int)
 | [],r,_=>rfl
 |c::l,r,h=>by
  have j:(c==46)=false:=beq_eq_false_iff_ne.2 (h c A5);have m:=zlB l r (λx t=>h x (A9 _ t));have q:(((l.length:Int)) == -1)=false:=beq_eq_false_iff_ne.2 q_o;rw[An,Lib.indexByte,j,m,q];simp
end Go.Ct
namespace Go.Proofs.YtdnlngbjpdbffaaGreatDoor
section
open Go Go.Sy Go.Ct Go.RowKit
theorem zpB(l:List UInt8)(w:World):(callFunc 338 [Value.string (str l),.int .u8 46].toArray).run Tryz.prog w= .ok (.value (.int .i64 (Lib.indexByte l 46))) w:=by
 show(callFunc 338 #[.string (str l),.int .u8 46]).run Tryz.prog w=_;rw[run_callFunc_extern Tryz.func338 (by kernel_rfl) (by kernel_rfl) (by kernel_rfl) (e:=Extern.BytealgIndexByte.indexByte) (by kernel_rfl),Lib.run_indexByteString];rfl
attribute [local irreducible] Sy SyL SyX Sy.Fn callFunc
theorem zwl(l:List UInt8)(w:World):q_G 334 [.string (str l),.int .u8 46] w (.int .i64 (Lib.indexByte l 46)):=by
 refine zo Tryz.func334 Tryz.ntmps334 ?_;have h:=λj=>zpB l j;repeat' (first|refine s_0 ?_|refine q_k 0 ?_|refine q_k 1 ?_;refine q_x (zc1 (hr:=h)) ?_)
 exact q_r
theorem zwj(l:List UInt8)(w:World):q_G 325 [.string (str l),.string (str [46])] w (.int .i64 (Lib.indexByte l 46)):=by
 refine zo Tryz.func325 Tryz.ntmps325 ?_;have h:=λm=>zwl l m;have q:((str [46]).size:Int)=1:=rfl;by_cases hl: [46]=l
 ·subst hl;repeat' (first|refine s_t ?_|refine zK [0,1,3] ?_;refine zb ?_|refine q_k 2 ?_;refine zaH ?_;refine zb ?_;refine q_x (zbf (hr:=decide_eq_true rfl)) ?_)
  exact q_r
 ·have g:=decide_eq_false hl;repeat' (first|refine s_t ?_|refine zK [0,1] ?_;refine zb ?_|refine q_k 2 ?_;refine zaH ?_;refine zb ?_;refine q_x (zbf (hr:=g)) ?_|refine q_k 4 ?_;refine zaH ?_;refine zb ?_|refine q_k 5 ?_;refine q_v (zN (j:=0) (u:=46) (hv:=rfl)) ?_;refine q_v (za (hc:=q_c h)) ?_;refine zb ?_)
  exact q_r
theorem zu6(l:List UInt8)(w:World):q_G 315 [.string (str l),.string (str [46])] w (.int .i64 (Lib.indexByte l 46)):=by
 refine zo Tryz.func315 Tryz.ntmps315 ?_;repeat' (first|refine s_0 ?_|refine q_k 0 ?_|refine q_k 1 ?_;refine q_v (za (hc:=λ_ _ _ _=>(zwj l _))) ?_;refine zb ?_)
 exact q_r
def zks(l:List UInt8)(v:Value)(R:List Res):Prop:=∃b3 b4 b5,v= .func (.func 313) #[] #[.pointer (some ⟨b4,0,none⟩),.pointer (some ⟨b3,0,none⟩),.pointer (some ⟨b5,0,none⟩)]/\R= [.blk b4 9 [.string (str [46])],.blk b3 9 [.string (str l)],.blk b5 3 [.int .i64 0]]
theorem ztx(l:List UInt8)(w:World):Sy.Fn Tryz.prog 281 [.string (str l),.string (str [46]),.int .i64 0] w No (zks l):=by
 refine zo Tryz.func281 Tryz.ntmps281 ?_;repeat' (first|refine s_0 ?_|refine zg 0 ?_;refine zi ?_;intro _;refine zi ?_;intro _;refine zV ?_;intro _|refine zg 1 ?_;refine q_x zaj ?_)
 exact zaw rfl (zr rfl) q_h ⟨_,_,_,rfl,rfl⟩
theorem zof(l:List UInt8)(w:World):Sy.Fn Tryz.prog 236 [.string (str l),.string (str [46])] w No (zks l):=by
 refine zo Tryz.func236 Tryz.ntmps236 ?_;have h:=λj=>ztx l j;unfold zks at*;repeat' (first|refine s_0 ?_|refine q_k 0 ?_|refine q_k 1 ?_;(refine q_s (zh (hc:=λj X A t=>h j)) ?_;rintro _ _ ⟨R,rfl,m,q,r,rfl,rfl⟩);refine zb ?_)
 exact zaw rfl (zr rfl) q_h ⟨_,_,_,rfl,rfl⟩
def zwq(_:Nat->Prop)(x:List UInt8)(vs:List Value)(RA:List Res)(_:World):Prop:=vs= [.string (str x)]/\RA= []
theorem zrU(F G H:Nat)(s:List UInt8)(w:World)(M:Nat->Prop)(hs:s.length<1000000000):
  zqc False Tryz.prog 313 [.pointer (some ⟨G,0,none⟩),.pointer (some ⟨F,0,none⟩),.pointer (some ⟨H,0,none⟩)] (zaG s) zwq w M [.blk G 9 [.string (str [46])],.blk F 9 [.string (str s)],.blk H 3 [.int .i64 0]] []:=by
 intro lp J Jx j0 _ L hh U;refine zcl Tryz.func313 rfl Tryz.ntmps313 q_p hh ?_;have O:=λl T=>zu6 l T;have Z:((str [46]).size:Int)=1:=rfl;repeat' (first|refine s_t ?_|refine zg 0 ?_;refine zk ?_;refine zb ?_;refine zaH ?_)
 refine zE (γ:=List UInt8×Nat×Res) (λg=>[(0,.func (.yield lp) #[] #[]),(1,.pointer (some ⟨G,0,none⟩)),(2,.pointer (some ⟨F,0,none⟩)),(3,.pointer (some ⟨H,0,none⟩))]) (λg=>[g.2.2,.blk G 9 [.string (str [46])],.blk F 9 [.string (str g.1)],.blk H 3 [.int .i64 0]])
  (λg=>(zaG s).drop g.2.1=zaG g.1/\J g.2.1 g.2.2/\g.1.length<=s.length) (λg=>g.1.length) (s,0,j0) ⟨Cb,L,A4 _⟩ ?_ ?_ ?_
 ·exact q_h
 ·exact q_h
 rintro⟨r,k,j⟩ ⟨q,K,B⟩;dsimp only at q K B ⊢;have I:=O r;rcases zfi r with h|⟨l,m,rfl,h⟩
 ·rw[zko r h] at I;rw[zfe r h] at q;have t:k<(zaG s).length:=by
   rcases AH k (zaG s).length with h|h
   ·exact h
   ·rw[Bd h] at q;cases q
  have R:(zaG s)[k]=r:=by rw[BK t] at q;exact(Dq q).1
  have A:(zaG s).length=k+1:=by have:=congrArg List.length q;rw[B5] at this;simp at this;omega
  repeat' (first|refine s_t ?_|refine zg 5 ?_;refine zk ?_;refine zk ?_;refine q_v (za (hc:=q_c I)) ?_;refine zb ?_|refine q_k 6 ?_;refine zR ?_|refine q_k 10 ?_;refine zk ?_)
  refine q_s (zda U t K (hL:=FH (by exact F1) rfl FP) (harg:=λT X q N=>⟨by rw[R],rfl⟩)) ?_;rintro _ _ ⟨y,E,rfl,rfl,C⟩;cases y
  ·repeat' (first|refine zav ?_|fail)
   exact ze4 rfl q_h ⟨E,rfl,.inr ⟨k+1,by omega,C⟩⟩
  ·repeat' (first|refine zav ?_|fail)
   exact ze4 rfl q_h ⟨E,rfl,.inl (by rw[A];exact C)⟩
 ·rw[zlB l m h] at I;rw[zfO l m h] at q;have t:k<(zaG s).length:=by
   rcases AH k (zaG s).length with h|h
   ·exact h
   ·rw[Bd h] at q;cases q
  have R:(zaG s)[k]=l:=by rw[BK t] at q;exact(Dq q).1
  have P:(zaG s).drop (k+1)=zaG m:=by rw[BK t] at q;exact(Dq q).2
  have V:l.length+1+m.length<=s.length:=by rw[A2,Ac] at B;omega
  have g0:decide ((l.length:Int)<0)=false:=q_f;have g1:IntKind.i64.wrap ((l.length:Int)+0)=((l.length:Nat):Int):=q_w;have g2:IntKind.i64.wrap ((l.length:Int)+1)=((l.length+1:Nat):Int):=q_w;have Q:(str (l++46::m)).size=l.length+1+m.length:=by rw[zjz];simp;omega
  have W:(str (l++46::m)).extract 0 l.length=str l:=by
   rw[zjm,Cb,CM,E0];rfl
  have Y:(str (l++46::m)).extract (l.length+1) (l.length+1+m.length)=str m:=by
   rw[zjm,show l++46::m=(l++[46])++m by simp,E3 q_p,Bp,A6 (A4 _)]
  generalize str (l++46::m)=S at*;repeat' (first|refine s_t ?_|refine zg 5 ?_;refine zk ?_;refine zk ?_;refine q_v (za (hc:=q_c I)) ?_;refine zb ?_|refine q_k 6 ?_;refine q_v (zl (hr:=g0)) ?_|refine zg 7 ?_;refine zk ?_;refine zb ?_;refine zk ?_;refine q_v (zA (hr:=g1)) ?_;refine q_x (zff (l:=0) (h:=l.length) (h2:=by omega)) ?_|refine q_k 8 ?_)
  rw[W];refine q_s (zda U t K (hL:=FH (by exact F1) rfl FP) (harg:=λT X q N=>⟨by rw[R],rfl⟩)) ?_;rintro _ _ ⟨y,E,rfl,rfl,C⟩;cases y
  ·repeat' (first|refine s_0 ?_|(refine zW ?_;first|refine zJ ?_|fail)|fail)
   exact zk7 rfl q_h ⟨E,rfl,.inr ⟨k+1,by omega,C⟩⟩
  ·repeat' (first|refine s_0 ?_|refine zg 9 ?_;refine zk ?_;refine zb ?_;refine zk ?_;refine zb ?_;refine q_v (zA (hr:=g2)) ?_;refine q_v (zff (l:=l.length+1) (h:=l.length+1+m.length) (hh:=by rw[<-Q];exact zbx) (h2:=by omega)) ?_;refine zS ?_|(refine zW ?_;first|refine zJ ?_|fail)|fail)
   rw[Y];refine zy (m,k+1,E) ⟨P,C,by dsimp only;omega⟩ ?_ ?_ ?_
   ·show m.length<(l++46::m).length;simp;omega
   ·exact q_h
   ·exact q_h
attribute [local irreducible] zaG
theorem zpZ(c:UInt8):(65<=c.toNat/\c.toNat<=90/\zce c=true)\/(c.toNat<65/\48<=c.toNat/\c.toNat<=57/\zce c=true)\/(c.toNat=45/\zce c=true)\/(c.toNat<48/\c.toNat≠45/\zce c=false)\/(57<c.toNat/\c.toNat<65/\zce c=false)\/(90<c.toNat/\zce c=false):=by
 have h:(65<=c.toNat/\c.toNat<=90)\/(c.toNat<65/\48<=c.toNat/\c.toNat<=57)\/(c.toNat=45)\/(c.toNat<48/\c.toNat≠45)\/(57<c.toNat/\c.toNat<65)\/(90<c.toNat):=q_o;have j:((65<=c.toNat/\c.toNat<=90)\/(48<=c.toNat/\c.toNat<=57))\/c.toNat=45->zce c=true:=λh=>by
  simp only[zce,Bl,AB,decide_eq_true_eq];exact h
 have no:¬(((65<=c.toNat/\c.toNat<=90)\/(48<=c.toNat/\c.toNat<=57))\/c.toNat=45)->zce c=false:=λh=>by
  rw[Ci];intro m;apply h;simpa only[zce,Bl,AB,decide_eq_true_eq] using m
 rcases h with h|h|h|h|h|h
 ·exact .inl ⟨h.1,h.2,j (.inl (.inl h))⟩
 ·exact .inr (.inl ⟨h.1,h.2.1,h.2.2,j (.inl (.inr h.2))⟩)
 ·exact .inr (.inr (.inl ⟨h,j (.inr h)⟩))
 ·exact .inr (.inr (.inr (.inl ⟨h.1,h.2,no q_o⟩)))
 ·exact .inr (.inr (.inr (.inr (.inl ⟨h.1,h.2,no q_o⟩))))
 ·exact .inr (.inr (.inr (.inr (.inr ⟨h,no q_o⟩))))
theorem zsS(l:List UInt8)(w:World)(hl:l.length<1000000000):q_G 168 [zX l] w (.bool (zbk l)):=by
 refine zo Tryz.func168 Tryz.ntmps168 ?_;have hz:=λA=>zmz l A;have T:=λA=>zof l A;unfold zX zks at*;have S:zbk l=((decide (1<=l.length)&&decide (l.length<=32))&&(zaG l).all zeD):=by rw[zbk,zjc l.length l (A4 _)]
 rw[S];generalize (decide (1<=l.length)&&decide (l.length<=32))=s at*;cases s
 ·rw[BX];repeat' (first|refine s_0 ?_|refine zg 0 ?_;refine zi ?_;intro _|refine q_k 1 ?_;refine q_v (za (hc:=q_c hz)) ?_;refine zJ ?_|refine zg 2 ?_;refine zS ?_)
  exact zaw rfl (zk2 rfl (ty rfl) rfl F4 rfl) F2 ⟨rfl,rfl⟩
 rw[Ax];repeat' (first|refine s_t ?_|refine zg 0 ?_;refine zi ?_;intro _|refine q_k 1 ?_;refine q_v (za (hc:=q_c hz)) ?_;refine zJ ?_|refine q_k 3 ?_;(refine q_s (zh (hc:=λA X J hh=>T A)) ?_;rintro _ _ ⟨R,rfl,Y,Z,b5,rfl,rfl⟩))
 rename_i M;refine zlu False (γ:=Unit) (xs:=zaG l) (Arg:=zwq) zcM rfl (en rfl) rfl (λk _=>((zaG l).take k).all zeD=true) (λc _ _=>c= .ret/\(zaG l).all zeD=false)
  (λ_=>[.blk M 4 [.bool false]]) [.blk Z 9 [.string (str [46])],.blk Y 9 [.string (str l)],.blk b5 3 [.int .i64 0]] [] [] () rfl ?_ ?_ (λh=>h.elim) ?_ ?_ ?_ ?_
 ·exact BU (l₁:=[_,_,_]) (l₂:=[_])
 ·exact λA Mi X J hm _ _=>zrU Y Z b5 l A Mi hl
 ·rintro O x vs RA A ⟨rfl,_⟩;rfl
 ·rintro lp k J ⟨⟩ vs RA W rec a7 L ⟨rfl,rfl⟩ a8 C;clear C;have I:(zaG l)[k]∈zaG l:=Ah J;have U:(zaG l).take (k+1)=(zaG l).take k++[(zaG l)[k]]:=zaP J;have m:zeD (zaG l)[k]=false->(zaG l).all zeD=false:=λh=>by
   rw[Bi];exact⟨_,I,by rw[h];decide⟩
  have q:zeD (zaG l)[k]=true->((zaG l).take (k+1)).all zeD=true:=λh=>by
   rw[U,Bc,L];simp[h]
  have a6:=zj0 l.length l (A4 _) _ I;generalize (zaG l)[k]=x at*;by_cases hx:x= []
  ·subst hx;have hb:=m rfl;repeat' (first|refine s_t ?_|apply zbT;(focus ((repeat (first|exact F1|apply F3));done));assumption|refine q_k 4 ?_|refine q_k 5 ?_;refine q_v (zbf (hr:=decide_eq_true rfl)) ?_|refine zg 6 ?_;refine zS ?_)
   exact zfp () ⟨rfl,hb⟩ q_h
  have g0:=decide_eq_false hx;have Q:zeD x=x.all zce:=by
   cases x with
   |nil=>exact absurd rfl hx
   |cons c x=>simp[zeD]
  rw[Q] at m q;have hs:((str x).size:Int)=(x.length:Int):=rfl;repeat' (first|refine s_t ?_|apply zbT;(focus ((repeat (first|exact F1|apply F3));done));assumption|refine zK [4,7] ?_;refine zb ?_|refine q_k 5 ?_;refine q_v (zbf (hr:=g0)) ?_)
  refine zE (γ:=Nat) (λi=>[(2,.pointer (some ⟨M,0,none⟩)),(3,.string (str x)),(15,.int .i64 (x.length:Int)),(16,.int .i64 (i:Int))]) (λ_=>[.obj lp (.loop (busy rec)),.blk M 4 [.bool false]]) (λi=>i<=x.length/\(x.take i).all zce=true) (λi=>x.length-i) 0 ⟨AE _,rfl⟩ ?_ ?_ ?_
  ·exact q_h
  ·exact q_h
  rintro i ⟨hi,B⟩;by_cases hlt:i<x.length
  ·have g1:decide ((i:Int)<(x.length:Int))=true:=q_d;have g5:IntKind.i64.wrap ((i:Int)+1)=((i+1:Nat):Int):=q_w;have hv:(str x).data[i]?=some x[i]:=by show x.toArray[i]?=_;rw[BM,A1 hlt]
   have V:x.take (i+1)=x.take i++[x[i]]:=zaP hlt;have P:x[i]∈x:=Ah hlt;have E:zce x[i]=false->x.all zce=false:=λh=>by
    rw[Bi];exact⟨_,P,by rw[h];decide⟩
   have G:zce x[i]=true->(x.take (i+1)).all zce=true:=λh=>by
    rw[V,Bc,B];simp[h]
   have t:=zpZ x[i];generalize x[i]=c at*;rcases t with ⟨H,N,r⟩|⟨H,N,r,h4⟩|⟨H,r⟩|⟨H,N,r⟩|⟨H,N,r⟩|⟨H,r⟩
   ·have F:=G r;repeat' (first|refine s_t ?_|refine zg 8 ?_;refine q_v (zl (hr:=g1)) ?_|refine q_k 9 ?_|refine q_k 10 ?_;refine q_x (zN (j:=i) (hv:=hv)) ?_|refine q_k 11 ?_;refine zR ?_;refine zb ?_;refine q_x zF ?_|refine zg 13 ?_;refine q_x (zA (hr:=g5)) ?_)
    refine zy (i+1) ⟨hlt,F⟩ ?_ ?_ ?_
    ·show x.length-(i+1)<x.length-i;omega
    ·exact q_h
    ·exact q_h
   ·have F:=G h4;repeat' (first|refine s_t ?_|refine zg 8 ?_;refine q_v (zl (hr:=g1)) ?_|refine q_k 9 ?_|refine q_k 10 ?_;refine q_x (zN (j:=i) (hv:=hv)) ?_|refine q_k 11 ?_;refine zR ?_;refine zb ?_;refine zR ?_;refine zb ?_;refine q_x zF ?_|refine zg 13 ?_;refine q_x (zA (hr:=g5)) ?_)
    refine zy (i+1) ⟨hlt,F⟩ ?_ ?_ ?_
    ·show x.length-(i+1)<x.length-i;omega
    ·exact q_h
    ·exact q_h
   ·have F:=G r;repeat' (first|refine s_t ?_|refine zg 8 ?_;refine q_v (zl (hr:=g1)) ?_|refine q_k 9 ?_|refine q_k 10 ?_;refine q_x (zN (j:=i) (hv:=hv)) ?_|refine q_k 11 ?_;refine zR ?_;refine zb ?_;refine zR ?_;refine zb ?_;refine zat ?_;refine zb ?_|refine zg 13 ?_;refine q_x (zA (hr:=g5)) ?_)
    refine zy (i+1) ⟨hlt,F⟩ ?_ ?_ ?_
    ·show x.length-(i+1)<x.length-i;omega
    ·exact q_h
    ·exact q_h
   ·have K:=m (E r);repeat' (first|refine s_t ?_|refine zg 8 ?_;refine q_v (zl (hr:=g1)) ?_|refine q_k 9 ?_|refine q_k 10 ?_;refine q_x (zN (j:=i) (hv:=hv)) ?_|refine q_k 11 ?_;refine zR ?_;refine zb ?_;refine zR ?_;refine zb ?_;refine zat ?_;refine zb ?_|refine zg 12 ?_;refine zS ?_)
    exact zfp () ⟨rfl,K⟩ q_h
   ·have K:=m (E r);repeat' (first|refine s_t ?_|refine zg 8 ?_;refine q_v (zl (hr:=g1)) ?_|refine q_k 9 ?_|refine q_k 10 ?_;refine q_x (zN (j:=i) (hv:=hv)) ?_|refine q_k 11 ?_;refine zR ?_;refine zb ?_;refine zR ?_;refine zb ?_;refine q_x zF ?_;refine zat ?_;refine zb ?_|refine zg 12 ?_;refine zS ?_)
    exact zfp () ⟨rfl,K⟩ q_h
   ·have K:=m (E r);repeat' (first|refine s_t ?_|refine zg 8 ?_;refine q_v (zl (hr:=g1)) ?_|refine q_k 9 ?_|refine q_k 10 ?_;refine q_x (zN (j:=i) (hv:=hv)) ?_|refine q_k 11 ?_;refine zR ?_;refine zb ?_;refine q_x zF ?_;refine zR ?_;refine zb ?_;refine q_x zF ?_;refine zat ?_;refine zb ?_|refine zg 12 ?_;refine zS ?_)
    exact zfp () ⟨rfl,K⟩ q_h
  obtain rfl:i=x.length:=q_o;rw[A6 (A4 _)] at B;have F:=q B;have g1:decide ((x.length:Int)<(x.length:Int))=false:=q_f;repeat' (first|refine s_0 ?_|refine zg 8 ?_;refine q_v (zl (hr:=g1)) ?_)
  exact zfR () F q_h
 ·rintro⟨⟩ L;rw[A6 (A4 _)] at L;rw[L];repeat' (first|refine s_0 ?_|refine zg 14 ?_;refine zS ?_)
  exact zaw rfl (zk2 rfl (ty rfl) rfl F4 rfl) F2 ⟨rfl,rfl⟩
 ·rintro c k ⟨⟩ J ⟨rfl,m⟩;rw[m];repeat' (first|refine s_0 ?_|fail)
  exact zaw rfl (zk2 rfl (ty rfl) rfl F4 rfl) F2 ⟨rfl,rfl⟩
theorem zgq(C:List Value)(p:Prin)(w:World)(h:PrinIn w C p)(hb:p.parts.length<1000000)(hr:p.realm.length<1000000000)(M:∀x∈p.parts,x.length<1000000000):q_G 76 [.agg C.toArray] w (.bool p.ok):=by
 obtain⟨⟨a1,K,rfl,V,U,s1,z1⟩,-⟩:=h;refine zo Tryz.func76 Tryz.ntmps76 ?_;have H:=λm=>zsS p.realm m hr;have F:p.ok=([decide (1<=p.parts.length),decide (p.parts.length<=4),zbk p.realm].all id&&p.parts.all zbO):=by simp[Prin.ok,Em]
 have A:=λm b (h:m.rangeAt b 0 [.bool (decide (1<=p.parts.length)),.bool (decide (p.parts.length<=4)),.bool (zbk p.realm)])=>zvb b 3 [decide (1<=p.parts.length),decide (p.parts.length<=4),zbk p.realm] m rfl q_e h;have N:decide ((p.parts.length:Int)>=1)=decide (1<=p.parts.length):=decide_eq_decide.2 q_o;have O:decide ((p.parts.length:Int)<=4)=decide (p.parts.length<=4):=decide_eq_decide.2 q_o;have G:=λx (t:x∈p.parts) m=>zus x m (M x t);unfold zX at*;rw[F];generalize zbk p.realm=u3,decide (p.parts.length<=4)=Z,decide (1<=p.parts.length)=Y,[decide (1<=p.parts.length),decide (p.parts.length<=4),zbk p.realm].all id=u at*;obtain⟨parts,realm⟩:=p;dsimp only at*;generalize T:parts.length=n at*;repeat' (first|refine s_0 ?_|refine zg 0 ?_;refine zV ?_;intro _)
 rename_i P
 (refine zdc (id:=1) [0,1,2,3,4,5,6,7,8,9] [10,11,12,13] mixed ?_ ?_;kernel_rfl;refine yfv zO (k:=?_);refine yfv zM (k:=?_);refine yfv ziv (k:=?_);refine yfv (zP (hr:=N)) (k:=?_);refine yfv zO (k:=?_);refine yfv zM (k:=?_);refine yfv ziv (k:=?_);refine yfv (zax (hr:=O)) (k:=?_);refine yfv zO (k:=?_);refine yfv zM (k:=?_);refine yf0 ?_;refine ycv (za (hc:=q_c H)) (k:=?_);(refine ycs zw (k:=?_);rintro _ _ ⟨J,rfl,rfl⟩);refine ycv (za (hc:=λm X S L=>A m J (zp (L.has q_h) F0))) (k:=?_);refine ycv zmS (k:=?_);try refine yc0 (k:=?_))
 cases u
 ·rw[BX];repeat' (first|refine s_0 ?_|refine q_k 2 ?_)
  exact q_r
 rw[Ax];repeat' (first|refine s_t ?_|refine q_k 3 ?_;refine zk ?_;refine zb ?_)
 refine zE (γ:=Nat) (λi=>[(20,.slice a1 n K),(21,.int .i64 (n:Int)),(22,.int .i64 (i:Int))]) (λ_=>[]) (λi=>i<=n/\(parts.take i).all zbO=true) (λi=>n-i) 0 ⟨AE _,rfl⟩ ?_ ?_ ?_
 ·exact q_h
 ·exact q_h
 rintro i ⟨R,q⟩;by_cases hlt:i<n
 ·obtain⟨Q,W,rfl,r⟩:=zdV s1 (i:=i) (by rw[A0];omega);have hc:=r i _ (zdg _ q_o);have g1:decide ((i:Int)<(n:Int))=true:=q_d;have g5:IntKind.i64.wrap ((i:Int)+1)=((i+1:Nat):Int):=q_w;have I:parts.take (i+1)=parts.take i++[parts[i]]:=zaP q_o;have E:parts[i]∈parts:=Ah q_o;have t:=G parts[i] E;generalize parts[i]=x at*;by_cases hxo:zbO x=true
  ·rw[hxo] at t;repeat' (first|refine s_t ?_|refine zg 4 ?_;refine q_v (zl (hr:=g1)) ?_|refine zg 5 ?_;refine q_v (zL (j:=i)) ?_;refine q_x (zn (hv:=hc)) ?_|refine q_k 6 ?_;refine q_v (za (hc:=q_c t)) ?_;refine zJ ?_|refine zg 8 ?_;refine q_x (zA (hr:=g5)) ?_)
   refine zy (i+1) ⟨hlt,by rw[I,Bc,q];simp[hxo]⟩ ?_ ?_ ?_
   ·show n-(i+1)<n-i;omega
   ·exact q_h
   ·exact q_h
  ·rw[CI] at hxo;rw[hxo] at t;have B:parts.all zbO=false:=by rw[Bi];exact⟨x,E,by rw[hxo];decide⟩
   rw[B];repeat' (first|refine s_t ?_|refine zg 4 ?_;refine q_v (zl (hr:=g1)) ?_|refine zg 5 ?_;refine q_v (zL (j:=i)) ?_;refine q_x (zn (hv:=hc)) ?_|refine q_k 6 ?_;refine q_v (za (hc:=q_c t)) ?_;refine zJ ?_|refine q_k 7 ?_)
   exact q_r
 obtain rfl:i=n:=q_o;rw[A6 q_o] at q;rw[q];have g1:decide ((i:Int)<(i:Int))=false:=q_f;repeat' (first|refine s_0 ?_|refine zg 4 ?_;refine q_v (zl (hr:=g1)) ?_|refine q_k 9 ?_)
 exact q_r
end
open Go Go.Sy Go.Ct Go.RowKit
attribute [local irreducible] Sy SyL SyX Sy.Fn callFunc
theorem zoA(v:Int)(m:Nat)(w:World)(hm:m<=8):Sy.Fn Tryz.prog 194 [.int .i64 v,.int .i64 (m:Int)] w No (λr R=>∃b,r= .slice (some ⟨b,0,none⟩) m m/\R= [.blk b 5 ((beZ v m).map v8)]):=by
 refine zo Tryz.func194 Tryz.ntmps194 ?_;repeat' (first|refine s_t ?_|refine zK [0,1,2] ?_;refine zb ?_|refine q_s (zd1 (n:=m)) ?_;rintro _ _ ⟨E,rfl,rfl⟩|(refine zW ?_;first|refine zB ?_|fail)|fail)
 refine zE (γ:=Nat) (λi=>[(0,.int .i64 v),(1,.int .i64 (m:Int)),(5,.slice (some ⟨E,0,none⟩) m m),(10,.int .i64 (m:Int)),(11,.int .i64 (i:Int))]) (λi=>[.blk E 5 (List.replicate (m-i) (Value.int .u8 0)++(beZ v i).map v8)]) (λi=>i<=m) (λi=>m-i) 0 (AE _) ?_ ?_ ?_
 ·exact q_h
 ·rw[CM,show(beZ v 0).map v8= [] from rfl,AZ];exact q_h
 rintro i H;rcases AH i m with h|h
 ·have A:decide ((i:Int)<(m:Int))=true:=q_d;have g1:IntKind.i64.wrap ((m:Int)-1)=((m-1:Nat):Int):=q_w;have g2:IntKind.i64.wrap (((m-1:Nat):Int)-(i:Int))=((m-1-i:Nat):Int):=q_w;have g3:IntKind.i64.wrap (8*(i:Int))=((8*i:Nat):Int):=q_w;have g4:Op.shift .shr .i64 v .i64 ((8*i:Nat):Int)=pure (.int .i64 (v/256^i)):=by rw[zwy v (8*i) _ q_o,zux]
  have g5:IntKind.i64.wrap ((i:Int)+1)=((i+1:Nat):Int):=q_w;have g6:=u8Z (v/256^i);have t:=zuy v m i h;have G:(List.replicate (m-i) (Value.int .u8 0)++(beZ v i).map v8).length=m:=by simp only[A2,AK,A0,zkZ];omega
  generalize List.replicate (m-i) (Value.int .u8 0)++(beZ v i).map v8=C at*;obtain⟨F,B⟩:∃F,F=List.replicate (m-(i+1)) (Value.int .u8 0)++(beZ v (i+1)).map v8:=⟨_,rfl⟩;rw[<-B] at t;generalize v/256^i=q at*;repeat' (first|refine s_t ?_|refine zg 3 ?_;refine q_v (zl (hr:=A)) ?_|refine q_k 4 ?_|refine q_k 5 ?_;refine q_x (zH (hr:=g1)) ?_;refine q_x (zH (hr:=g2)) ?_;refine q_v (zas (hr:=g3)) ?_;refine q_v (zbp (hr:=g4)) ?_;refine q_v (zal (hr:=g6)) ?_;refine q_v (zL (j:=m-1-i)) ?_;refine q_n (zcn (hC:=by rw[AR];exact t)) ?_|refine zg 6 ?_;refine q_x (zA (hr:=g5)) ?_)
  refine zy (i+1) h ?_ ?_ ?_
  ·show m-(i+1)<m-i;omega
  ·exact q_h
  ·rw[<-B];exact q_h
 obtain rfl:i=m:=q_o;have A:decide ((i:Int)<(i:Int))=false:=q_f;rw[C5,Cp,B3];repeat' (first|refine s_0 ?_|refine zg 3 ?_;refine q_v (zl (hr:=A)) ?_|refine q_k 7 ?_)
 exact zaw rfl (zr rfl) q_h ⟨E,rfl,rfl⟩
theorem zmr(t:Nat)(a:Option Addr)(m d:Nat)(xs:List Bs)(w:World)(ht:t<256)(hm:xs.length=m)(b2:m<1000)(b3:m<=d)(b0:SlA w a (xs.map Bs.val))(a8:∀s∈xs,s.ok w)(hb:(Bs.cat xs).length<16777216):
  Sy.Fn Tryz.prog 172 [.int .u8 (t:Int),.slice a m d] w No (zcK 5 (tlv t (Bs.cat xs)).length ((tlv t (Bs.cat xs)).map v8)):=by
 refine zo Tryz.func172 Tryz.ntmps172 ?_;have U:∀i,(Bs.cat (xs.take i)).length<=(Bs.cat xs).length:=λi=>by
  have:Bs.cat xs=Bs.cat (xs.take i)++Bs.cat (xs.drop i):=by unfold Bs.cat;rw[<-CS,B7]
  rw[this,A2];omega
 have O:=λi (h:i<m)=>Fx xs i q_o;have N:=λj (h:j<m)=>a8 xs[j] (Ah q_o);have M:=λi (h:i<m)=>Bs.get b0 (i:=i) q_o;repeat' (first|refine s_t ?_|refine zK [0,1,2] ?_;refine zb ?_)
 refine zE (γ:=Nat) (λi=>[(0,.int .u8 (t:Int)),(1,.slice a m d),(11,.slice a m d),(12,.int .i64 m),(13,.int .i64 i),(5,.int .i64 ((Bs.cat (xs.take i)).length:Nat))]) (λ_=>[]) (λi=>i<=m) (λi=>m-i) 0 (AE _) ?_ ?_ ?_
 ·exact q_h
 ·exact q_h
 intro i hi;by_cases hlt:i<m
 ·obtain⟨bl,ol,rfl,A⟩:=M i hlt;have S:=A i q_o;have W:=N i hlt;have X:=O i hlt;have Q:=U (i+1);rw[X,A2] at Q;have r:xs[i].l.length=xs[i].n:=W.len;rw[r] at Q;have hT:((Bs.cat (xs.take (i+1))).length:Int)=((Bs.cat (xs.take i)).length:Int)+(xs[i].n:Int):=by rw[X,A2,r,DT]
  obtain⟨T',R⟩:∃t,t=(Bs.cat (xs.take (i+1))).length:=⟨_,rfl⟩;rw[<-R] at hT;generalize xs[i]=s,(Bs.cat xs).length=q,(Bs.cat (xs.take i)).length=T at*;obtain⟨sa,sn,sc,sl⟩:=s;dsimp only at*;have g1:decide ((i:Int)<(m:Int))=true:=q_d;have g2:IntKind.i64.wrap (16777215-(T:Int))=16777215-(T:Int):=IntWalk.i64_in _ q_o;have g3:decide (16777215-(T:Int)<(sn:Int))=false:=q_f;have g4:IntKind.i64.wrap ((T:Int)+(sn:Int))=((T':Nat):Int):=q_w;have g5:IntKind.i64.wrap ((i:Int)+1)=((i+1:Nat):Int):=q_w;repeat' (first|refine s_t ?_|refine zg 3 ?_;refine q_v (zl (hr:=g1)) ?_|refine zg 4 ?_;refine q_v (zL (j:=i)) ?_;refine q_x (zn (hv:=S)) ?_|refine q_k 5 ?_;refine q_v (zH (hr:=g2)) ?_;refine q_v (zF (hr:=g3)) ?_|refine q_k 7 ?_;refine q_x (zA (hr:=g4)) ?_|refine zg 8 ?_;refine q_x (zA (hr:=g5)) ?_)
  refine zy (i+1) hlt ?_ ?_ ?_
  ·show m-(i+1)<m-i;omega
  ·rw[<-R];exact q_h
  ·exact q_h
 obtain rfl:i=m:=q_o;have L:xs.take i=xs:=A6 q_o;rw[L];have g1:decide ((i:Int)<(i:Int))=false:=q_f;obtain⟨q,B⟩:∃n,n=(Bs.cat xs).length:=⟨_,rfl⟩;rw[<-B] at hb;have V:∀j,(Bs.cat (xs.take j)).length<=q:=λj=>B ▸ U j;obtain⟨H,Z⟩:∃H,H=UInt8.ofNat t::ze3 q:=⟨_,rfl⟩;have Y:tlv t (Bs.cat xs)=H++Bs.cat xs:=by rw[Z,B];rfl
 have b1:H.length<=5:=by rw[Z,Ac];have:=zju q;omega
 have I:H.map v8= .int .u8 (t:Int)::(ze3 q).map v8:=by rw[Z,Ay,<-v8_lit t ht]
 rw[zph] at I;have g2:IntKind.i64.wrap ((q:Int)+5)=((q+5:Nat):Int):=q_w;have g3:=u8N q;have g4:=u8N (q/2^8);have g5:=u8N (q/2^16);have q1:=λkk=>ztJ q 8 kk q_e;have q2:=λkk=>ztJ q 16 kk q_e;rw[Y,<-B];repeat' (first|refine s_0 ?_|refine zg 3 ?_;refine q_v (zl (hr:=g1)) ?_|refine q_k 9 ?_;refine q_v (zA (hr:=g2)) ?_|refine q_s (zkk (n:=0) (c':=q+5) (AE _)) ?_;rintro _ _ ⟨b8,rfl,rfl⟩|(refine zW ?_;first|refine zB ?_|fail)|fail)
 refine zbn (zkg (b:=b8) (E:=5) (s:=1) (n:=0) (c:=q+5) (xs:=[]) (J:=List.replicate (q+5) (Value.int .u8 0)) F1 q_p (AE _) (by unfold maxLen;omega) rfl) ?_;repeat' (first|refine s_0 ?_|refine q_k 10 ?_;(refine q_s zw ?_;rintro _ _ ⟨_,rfl,rfl⟩);(refine q_s zak ?_;rintro _ _ ⟨rfl,_,_,rfl⟩);refine zb ?_)
 rename_i aT cT;refine zb9 (γ:=Option Addr×Nat) (λg=>[(1,.slice a i d),(8,.slice g.1 H.length g.2)]) (λg=>[.row (.slice g.1 H.length g.2) 5 1 H.length (H.map v8)]) (λ_=>True) ?_ ?_
 ·have S:q<128\/(128<=q/\q<256)\/(256<=q/\q<65536)\/65536<=q:=q_o;rcases S with h|h|h|h
  ·rw[if_pos h] at I;have e: [Value.int .u8 (t:Int)]++[.int .u8 (Wd.n8 (UInt8.ofNat q))]=H.map v8:=I.symm;have C:1+1=H.length:=by rw[<-A0 v8,<-e];rfl
   have k1:decide ((q:Int)<128)=true:=q_d;repeat' (first|refine s_t ?_|refine q_k 12 ?_;refine q_x (zl (hr:=k1)) ?_|refine q_k 13 ?_;refine q_v (zal (hr:=g3)) ?_;(refine q_s zw ?_;rintro _ _ ⟨_,rfl,rfl⟩);(refine q_s (zak (hys:=e) (hkm:=C)) ?_;rintro _ _ ⟨rfl,F,G,rfl⟩);refine zb ?_)
   exact zZ (F,G) trivial q_h q_h
  ·rw[if_neg q_o,if_pos h.2] at I;have e: [Value.int .u8 (t:Int)]++[.int .u8 129,.int .u8 (Wd.n8 (UInt8.ofNat q))]=H.map v8:=I.symm;have C:1+2=H.length:=by rw[<-A0 v8,<-e];rfl
   have k1:decide ((q:Int)<128)=false:=q_f;have k2:decide ((q:Int)<256)=true:=q_d;repeat' (first|refine s_t ?_|refine q_k 12 ?_;refine q_x (zl (hr:=k1)) ?_|refine q_k 14 ?_;refine q_x (zl (hr:=k2)) ?_|refine q_k 15 ?_;refine q_v (zal (hr:=g3)) ?_;(refine q_s zw ?_;rintro _ _ ⟨_,rfl,rfl⟩);(refine q_s (zak (hys:=e) (hkm:=C)) ?_;rintro _ _ ⟨rfl,F,G,rfl⟩);refine zb ?_)
   exact zZ (F,G) trivial q_h q_h
  ·rw[if_neg q_o,if_neg q_o,if_pos h.2] at I;have e: [Value.int .u8 (t:Int)]++[.int .u8 130,.int .u8 (Wd.n8 (UInt8.ofNat (q/2^8))),.int .u8 (Wd.n8 (UInt8.ofNat q))]=H.map v8:=I.symm;have C:1+3=H.length:=by rw[<-A0 v8,<-e];rfl
   have k1:decide ((q:Int)<128)=false:=q_f;have k2:decide ((q:Int)<256)=false:=q_f;have k3:decide ((q:Int)<65536)=true:=q_d;repeat' (first|refine s_t ?_|refine q_k 12 ?_;refine q_x (zl (hr:=k1)) ?_|refine q_k 14 ?_;refine q_x (zl (hr:=k2)) ?_|refine q_k 16 ?_;refine q_x (zl (hr:=k3)) ?_|refine q_k 17 ?_;refine q_v (zbp (hr:=q1 _)) ?_;refine q_x (zal (hr:=g4)) ?_;refine q_v (zal (hr:=g3)) ?_;(refine q_s zw ?_;rintro _ _ ⟨_,rfl,rfl⟩);(refine q_s (zak (hys:=e) (hkm:=C)) ?_;rintro _ _ ⟨rfl,F,G,rfl⟩);refine zb ?_)
   exact zZ (F,G) trivial q_h q_h
  ·rw[if_neg q_o,if_neg q_o,if_neg q_o] at I;have e: [Value.int .u8 (t:Int)]++[.int .u8 131,.int .u8 (Wd.n8 (UInt8.ofNat (q/2^16))),.int .u8 (Wd.n8 (UInt8.ofNat (q/2^8))),.int .u8 (Wd.n8 (UInt8.ofNat q))]=H.map v8:=I.symm;have C:1+4=H.length:=by rw[<-A0 v8,<-e];rfl
   have k1:decide ((q:Int)<128)=false:=q_f;have k2:decide ((q:Int)<256)=false:=q_f;have k3:decide ((q:Int)<65536)=false:=q_f;repeat' (first|refine s_t ?_|refine q_k 12 ?_;refine q_x (zl (hr:=k1)) ?_|refine q_k 14 ?_;refine q_x (zl (hr:=k2)) ?_|refine q_k 16 ?_;refine q_x (zl (hr:=k3)) ?_|refine q_k 11 ?_;refine q_v (zbp (hr:=q2 _)) ?_;refine q_x (zal (hr:=g5)) ?_;refine q_v (zbp (hr:=q1 _)) ?_;refine q_x (zal (hr:=g4)) ?_;refine q_v (zal (hr:=g3)) ?_;(refine q_s zw ?_;rintro _ _ ⟨_,rfl,rfl⟩);(refine q_s (zak (hys:=e) (hkm:=C)) ?_;rintro _ _ ⟨rfl,F,G,rfl⟩);refine zb ?_)
   exact zZ (F,G) trivial q_h q_h
 rintro⟨aH,cH⟩ -;dsimp only;repeat' (first|refine s_t ?_|refine q_k 18 ?_)
 refine zE (γ:=Nat×Option Addr×Nat) (λg=>[(72,.slice a i d),(73,.int .i64 i),(74,.int .i64 g.1),(8,.slice g.2.1 (H++Bs.cat (xs.take g.1)).length g.2.2)]) (λg=>[.row (.slice g.2.1 (H++Bs.cat (xs.take g.1)).length g.2.2) 5 1 (H++Bs.cat (xs.take g.1)).length ((H++Bs.cat (xs.take g.1)).map v8)]) (λg=>g.1<=i) (λg=>i-g.1) (0,aH,cH) (AE _) ?_ ?_ ?_
 ·rw[show H++Bs.cat (xs.take 0)=H by rw[CO];exact AZ _];exact q_h
 ·rw[show H++Bs.cat (xs.take 0)=H by rw[CO];exact AZ _];exact q_h
 rintro⟨j,aJ,cJ⟩ hj;dsimp only at hj ⊢;by_cases hlt:j<i
 ·obtain⟨bl,ol,rfl,A⟩:=M j hlt;have S:=A j q_o;have W:=N j hlt;have X:=O j hlt;have Q:=V (j+1);have r:xs[j].l.length=xs[j].n:=W.len;have a9:=W.sla;have a7:=W.nil;have e:(H++Bs.cat (xs.take j)).map v8++xs[j].l.map v8=(H++Bs.cat (xs.take (j+1))).map v8:=by rw[X,<-AL];exact Aw.symm
  have C:(H++Bs.cat (xs.take j)).length+xs[j].n=(H++Bs.cat (xs.take (j+1))).length:=by rw[X];simp only[A2,r];omega
  have a6:(H++Bs.cat (xs.take (j+1))).length<20000000:=by rw[A2];omega
  generalize (H++Bs.cat (xs.take j))=K at*;obtain⟨K',P⟩:∃k,k=H++Bs.cat (xs.take (j+1)):=⟨_,rfl⟩;rw[<-P] at e C a6;generalize xs[j]=s at*;obtain⟨sa,sn,sc,sl⟩:=s;dsimp only at*;have g1:decide ((j:Int)<(i:Int))=true:=q_d;have g6:IntKind.i64.wrap ((j:Int)+1)=((j+1:Nat):Int):=q_w;repeat' (first|refine s_t ?_|refine zg 19 ?_;refine q_v (zl (hr:=g1)) ?_|refine zg 20 ?_;refine q_v (zL (j:=j)) ?_;refine q_x (zn (hv:=S)) ?_|refine q_k 21 ?_;(refine q_s (zak (hr:=FZ a9 (λ_ _ h=>h)) (hn:=by rw[A0,r,Af]) (hnil:=a7) (hys:=e) (hkm:=C)) ?_;rintro _ _ ⟨rfl,F,G,rfl⟩);refine zb ?_|refine zg 22 ?_;refine q_x (zA (hr:=g6)) ?_)
  refine zy (j+1,F,G) hlt ?_ ?_ ?_
  ·show i-(j+1)<i-j;omega
  ·dsimp only;rw[<-P];exact q_h
  ·dsimp only;rw[<-P];exact q_h
 obtain rfl:j=i:=q_o;have g6:decide ((j:Int)<(j:Int))=false:=q_f;rw[L];repeat' (first|refine s_0 ?_|refine zg 19 ?_;refine q_v (zl (hr:=g6)) ?_|refine q_k 23 ?_)
 exact q_r
end Go.Proofs.YtdnlngbjpdbffaaGreatDoor
