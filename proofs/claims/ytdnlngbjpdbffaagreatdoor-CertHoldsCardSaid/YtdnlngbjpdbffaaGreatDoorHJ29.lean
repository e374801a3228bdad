/- Lemmas of this proof. -/
import Derived.Test.YtdnlngbjpdbffaaGreatDoorHJ28
import Derived.Lib.Bytealg
set_option maxHeartbeats 1000000
set_option maxRecDepth 10000
set_option linter.all false
namespace Go.Ct
open Go
def zaN:List UInt8->List (List UInt8)
 | []=>[[]]
 |c::r=>if c=46 then []::zaN r else match zaN r with
  | []=>[[c]]
  |l::ls=>(c::l)::ls
theorem zfv:∀l:List UInt8,(∀c∈l,c≠46)->zaN l= [l]
 | [],_=>rfl
 |c::l,h=>by
  rw[zaN,if_neg (h c A4),zfv l (λx j=>h x (A0 _ j))]
theorem zfL:∀(l r:List UInt8),(∀c∈l,c≠46)->zaN (l++46::r)=l::zaN r
 | [],r,_=>by rw[AY,zaN,if_pos rfl]
 |c::l,r,h=>by
  rw[Aa,zaN,if_neg (h c A4),zfL l r (λx j=>h x (A0 _ j))]
theorem zft:∀s:List UInt8,(∀c∈s,c≠46)\/∃l r,s=l++46::r/\∀c∈l,c≠46
 | []=> .inl (λc q=>by cases q)
 |c::s=>by
  by_cases h:c=46
  ·exact .inr ⟨[],s,by rw[h];rfl,λc q=>by cases q⟩
  ·rcases zft s with m|⟨l,r,rfl,m⟩
   ·refine .inl (λx j=>?_);rcases AQ.1 j with rfl|j
    ·exact h
    ·exact m x j
   ·refine .inr ⟨c::l,r,rfl,λx j=>?_⟩;rcases AQ.1 j with rfl|j
    ·exact h
    ·exact m x j
theorem zjc(l:List UInt8)(a b:Nat):(Sy.str l).extract a b=Sy.str ((l.drop a).take (b-a)):=by
 apply ByteArray.ext;rw[ByteArray.data_extract];show l.toArray.extract a b=_;rw[List.extract_toArray];rfl
def zeV(l:List UInt8):Bool:=!l.isEmpty&&l.all zc2
theorem zjl:∀(n:Nat) (s:List UInt8),s.length<=n->zee true s=(zaN s).all zeV
 |n,s,hn=>by
  rcases zft s with h|⟨l,r,rfl,h⟩
  ·rw[zp0 s h,zfv s h];simp[zeV]
  ·cases n with
   |zero=>simp at hn
   |succ n=>
    rw[zqZ l r h,zfL l r h,BI,zjl n r (by simp at hn;omega)];rfl
theorem zj0:∀(n:Nat) (s:List UInt8),s.length<=n->∀x∈zaN s,x.length<=s.length
 |n,s,hn,x,j=>by
  rcases zft s with h|⟨l,r,rfl,h⟩
  ·rw[zfv s h,AC] at j;rw[j];exact A8 _
  ·cases n with
   |zero=>simp at hn
   |succ n=>
    rw[zfL l r h] at j;rw[A3,AO];rcases AQ.1 j with rfl|j
    ·omega
    ·have:=zj0 n r (by simp at hn;omega) x j;omega
theorem zkg:∀l:List UInt8,(∀c∈l,c≠46)->Lib.indexByte l 46= -1
 | [],_=>rfl
 |c::l,h=>by
  have j:(c==46)=false:=beq_eq_false_iff_ne.2 (h c A4);rw[Lib.indexByte,j,zkg l (λx m=>h x (A0 _ m))];rfl
theorem zlr:∀(l r:List UInt8),(∀c∈l,c≠46)->Lib.indexByte (l++46::r) 46=(l.length:Int)
 | [],r,_=>rfl
 |c::l,r,h=>by
  have j:(c==46)=false:=beq_eq_false_iff_ne.2 (h c A4);have m:=zlr l r (λx w=>h x (A0 _ w));have q:(((l.length:Int)) == -1)=false:=beq_eq_false_iff_ne.2 q_o;rw[Aa,Lib.indexByte,j,m,q];simp
end Go.Ct
namespace Go.Proofs.YtdnlngbjpdbffaaGreatDoor
section
open Go Go.Sy Go.Ct Go.RowKit
theorem zqt(l:List UInt8)(w:World):(callFunc 338 [Value.string (str l),.int .u8 46].toArray).run Tryz.prog w= .ok (.value (.int .i64 (Lib.indexByte l 46))) w:=by
 show(callFunc 338 #[.string (str l),.int .u8 46]).run Tryz.prog w=_;rw[run_callFunc_extern Tryz.func338 (by kernel_rfl) (by kernel_rfl) (by kernel_rfl) (e:=Extern.BytealgIndexByte.indexByte) (by kernel_rfl),Lib.run_indexByteString];rfl
attribute [local irreducible] Sy SyL SyX Sy.Fn callFunc
theorem zwS(l:List UInt8)(w:World):q_G 334 [.string (str l),.int .u8 46] w (.int .i64 (Lib.indexByte l 46)):=by
 refine zz Tryz.func334 Tryz.ntmps334 ?_;have h:=λj=>zqt l j;repeat' (first|refine s_0 ?_|refine q_k 0 ?_|refine q_k 1 ?_;refine q_x (zc8 (hr:=h)) ?_)
 exact q_r
theorem zwR(l:List UInt8)(w:World):q_G 325 [.string (str l),.string (str [46])] w (.int .i64 (Lib.indexByte l 46)):=by
 refine zz Tryz.func325 Tryz.ntmps325 ?_;have h:=λm=>zwS l m;have q:((str [46]).size:Int)=1:=rfl;by_cases hl: [46]=l
 ·subst hl;repeat' (first|refine s_t ?_|refine zL [0,1,3] ?_;refine zf ?_|refine q_k 2 ?_;refine zaH ?_;refine zf ?_;refine q_x (zbb (hr:=decide_eq_true rfl)) ?_)
  exact q_r
 ·have g:=decide_eq_false hl;repeat' (first|refine s_t ?_|refine zL [0,1] ?_;refine zf ?_|refine q_k 2 ?_;refine zaH ?_;refine zf ?_;refine q_x (zbb (hr:=g)) ?_|refine q_k 4 ?_;refine zaH ?_;refine zf ?_|refine q_k 5 ?_;refine q_v (zas (j:=0) (u:=46) (hv:=rfl)) ?_;refine q_v (za (hc:=q_c h)) ?_;refine zf ?_)
  exact q_r
theorem zvh(l:List UInt8)(w:World):q_G 315 [.string (str l),.string (str [46])] w (.int .i64 (Lib.indexByte l 46)):=by
 refine zz Tryz.func315 Tryz.ntmps315 ?_;repeat' (first|refine s_0 ?_|refine q_k 0 ?_|refine q_k 1 ?_;refine q_v (za (hc:=λ_ _ _ _=>(zwR l _))) ?_;refine zf ?_)
 exact q_r
def zkF(l:List UInt8)(v:Value)(R:List Res):Prop:=∃b3 b4 b5,v= .func (.func 313) #[] #[.pointer (some ⟨b4,0,none⟩),.pointer (some ⟨b3,0,none⟩),.pointer (some ⟨b5,0,none⟩)]/\R= [.blk b4 9 [.string (str [46])],.blk b3 9 [.string (str l)],.blk b5 3 [.int .i64 0]]
theorem zts(l:List UInt8)(w:World):Sy.Fn Tryz.prog 281 [.string (str l),.string (str [46]),.int .i64 0] w No (zkF l):=by
 refine zz Tryz.func281 Tryz.ntmps281 ?_;repeat' (first|refine s_0 ?_|refine ze 0 ?_;refine zi ?_;intro _;refine zi ?_;intro _;refine z9 ?_;intro _|refine ze 1 ?_;refine q_x zZ ?_)
 exact zaq rfl (zj rfl) q_h ⟨_,_,_,rfl,rfl⟩
theorem zov(l:List UInt8)(w:World):Sy.Fn Tryz.prog 236 [.string (str l),.string (str [46])] w No (zkF l):=by
 refine zz Tryz.func236 Tryz.ntmps236 ?_;have h:=λj=>zts l j;unfold zkF at*;repeat' (first|refine s_0 ?_|refine q_k 0 ?_|refine q_k 1 ?_;(refine q_s (zn (hc:=λj X B A=>h j)) ?_;rintro _ _ ⟨R,rfl,m,q,r,rfl,rfl⟩);refine zf ?_)
 exact zaq rfl (zj rfl) q_h ⟨_,_,_,rfl,rfl⟩
def zxI(_:Nat->Prop)(x:List UInt8)(vs:List Value)(RA:List Res)(_:World):Prop:=vs= [.string (str x)]/\RA= []
theorem zrD(H I K:Nat)(s:List UInt8)(w:World)(M:Nat->Prop)(hs:s.length<1000000000):
  zqI False Tryz.prog 313 [.pointer (some ⟨I,0,none⟩),.pointer (some ⟨H,0,none⟩),.pointer (some ⟨K,0,none⟩)] (zaN s) zxI w M [.blk I 9 [.string (str [46])],.blk H 9 [.string (str s)],.blk K 3 [.int .i64 0]] []:=by
 intro lp J Jx j0 _ O hh W;refine zaT Tryz.func313 rfl Tryz.ntmps313 q_p hh ?_;have Q:=λl V=>zvh l V;have a6:((str [46]).size:Int)=1:=rfl;repeat' (first|refine s_t ?_|refine ze 0 ?_;refine zl ?_;refine zf ?_;refine zaH ?_)
 refine zX (γ:=List UInt8×Nat×Res) (λg=>[(0,.func (.yield lp) #[] #[]),(1,.pointer (some ⟨I,0,none⟩)),(2,.pointer (some ⟨H,0,none⟩)),(3,.pointer (some ⟨K,0,none⟩))]) (λg=>[g.2.2,.blk I 9 [.string (str [46])],.blk H 9 [.string (str g.1)],.blk K 3 [.int .i64 0]])
  (λg=>(zaN s).drop g.2.1=zaN g.1/\J g.2.1 g.2.2/\g.1.length<=s.length) (λg=>g.1.length) (s,0,j0) ⟨B9,O,A8 _⟩ ?_ ?_ ?_
 ·exact q_h
 ·exact q_h
 rintro⟨r,k,j⟩ ⟨q,N,E⟩;dsimp only at q N E ⊢;have L:=Q r;rcases zft r with h|⟨l,m,rfl,h⟩
 ·rw[zkg r h] at L;rw[zfv r h] at q;have A:k<(zaN s).length:=by
   rcases AK k (zaN s).length with h|h
   ·exact h
   ·rw[Bp h] at q;cases q
  have U:(zaN s)[k]=r:=by rw[Bq A] at q;exact(E1 q).1
  have B:(zaN s).length=k+1:=by have:=congrArg List.length q;rw[Az] at this;simp at this;omega
  repeat' (first|refine s_t ?_|refine ze 5 ?_;refine zl ?_;refine zl ?_;refine q_v (za (hc:=q_c L)) ?_;refine zf ?_|refine q_k 6 ?_;refine q_v zm ?_|refine q_k 10 ?_;refine zl ?_)
  refine q_s (zdj W A N (hL:=Eo (by exact Ej) rfl Er) (harg:=λV X q P=>⟨by rw[U],rfl⟩)) ?_;rintro _ _ ⟨y,G,rfl,rfl,F⟩;cases y
  ·repeat' (first|refine zaC ?_|fail)
   exact ze2 rfl q_h ⟨G,rfl,.inr ⟨k+1,by omega,F⟩⟩
  ·repeat' (first|refine zaC ?_|fail)
   exact ze2 rfl q_h ⟨G,rfl,.inl (by rw[B];exact F)⟩
 ·rw[zlr l m h] at L;rw[zfL l m h] at q;have A:k<(zaN s).length:=by
   rcases AK k (zaN s).length with h|h
   ·exact h
   ·rw[Bp h] at q;cases q
  have U:(zaN s)[k]=l:=by rw[Bq A] at q;exact(E1 q).1
  have R:(zaN s).drop (k+1)=zaN m:=by rw[Bq A] at q;exact(E1 q).2
  have Y:l.length+1+m.length<=s.length:=by rw[A3,AO] at E;omega
  have g0:decide ((l.length:Int)<0)=false:=q_f;have g1:IntKind.i64.wrap ((l.length:Int)+0)=((l.length:Nat):Int):=q_w;have g2:IntKind.i64.wrap ((l.length:Int)+1)=((l.length+1:Nat):Int):=q_w;have T:(str (l++46::m)).size=l.length+1+m.length:=by rw[zjP];simp;omega
  have Z:(str (l++46::m)).extract 0 l.length=str l:=by
   rw[zjc,B9,C0,Df];rfl
  have e2:(str (l++46::m)).extract (l.length+1) (l.length+1+m.length)=str m:=by
   rw[zjc,show l++46::m=(l++[46])++m by simp,EI q_p,Bx,A9 (A8 _)]
  generalize str (l++46::m)=S at*;repeat' (first|refine s_t ?_|refine ze 5 ?_;refine zl ?_;refine zl ?_;refine q_v (za (hc:=q_c L)) ?_;refine zf ?_|refine q_k 6 ?_;refine q_v (zm (hr:=g0)) ?_|refine ze 7 ?_;refine zl ?_;refine zf ?_;refine zl ?_;refine q_v (zN (hr:=g1)) ?_;refine q_x (zgZ (l:=0) (h:=l.length) (h2:=by omega)) ?_|refine q_k 8 ?_)
  rw[Z];refine q_s (zdj W A N (hL:=Eo (by exact Ej) rfl Er) (harg:=λV X q P=>⟨by rw[U],rfl⟩)) ?_;rintro _ _ ⟨y,G,rfl,rfl,F⟩;cases y
  ·repeat' (first|refine s_0 ?_|(refine zx ?_;first|refine zI ?_|fail)|fail)
   exact zln rfl q_h ⟨G,rfl,.inr ⟨k+1,by omega,F⟩⟩
  ·repeat' (first|refine s_0 ?_|refine ze 9 ?_;refine zl ?_;refine zf ?_;refine zl ?_;refine zf ?_;refine q_v (zN (hr:=g2)) ?_;refine q_v (zgZ (l:=l.length+1) (h:=l.length+1+m.length) (hh:=by rw[<-T];exact zbG) (h2:=by omega)) ?_;refine zJ ?_|(refine zx ?_;first|refine zI ?_|fail)|fail)
   rw[e2];refine zQ (m,k+1,G) ⟨R,F,by dsimp only;omega⟩ ?_ ?_ ?_
   ·show m.length<(l++46::m).length;simp;omega
   ·exact q_h
   ·exact q_h
attribute [local irreducible] zaN
theorem zpZ(c:UInt8):(65<=c.toNat/\c.toNat<=90/\zc2 c=true)\/(c.toNat<65/\48<=c.toNat/\c.toNat<=57/\zc2 c=true)\/(c.toNat=45/\zc2 c=true)\/(c.toNat<48/\c.toNat≠45/\zc2 c=false)\/(57<c.toNat/\c.toNat<65/\zc2 c=false)\/(90<c.toNat/\zc2 c=false):=by
 have h:(65<=c.toNat/\c.toNat<=90)\/(c.toNat<65/\48<=c.toNat/\c.toNat<=57)\/(c.toNat=45)\/(c.toNat<48/\c.toNat≠45)\/(57<c.toNat/\c.toNat<65)\/(90<c.toNat):=q_o;have j:((65<=c.toNat/\c.toNat<=90)\/(48<=c.toNat/\c.toNat<=57))\/c.toNat=45->zc2 c=true:=λh=>by
  simp only[zc2,Bf,A5,decide_eq_true_eq];exact h
 have no:¬(((65<=c.toNat/\c.toNat<=90)\/(48<=c.toNat/\c.toNat<=57))\/c.toNat=45)->zc2 c=false:=λh=>by
  rw[Cj];intro m;apply h;simpa only[zc2,Bf,A5,decide_eq_true_eq] using m
 rcases h with h|h|h|h|h|h
 ·exact .inl ⟨h.1,h.2,j (.inl (.inl h))⟩
 ·exact .inr (.inl ⟨h.1,h.2.1,h.2.2,j (.inl (.inr h.2))⟩)
 ·exact .inr (.inr (.inl ⟨h,j (.inr h)⟩))
 ·exact .inr (.inr (.inr (.inl ⟨h.1,h.2,no q_o⟩)))
 ·exact .inr (.inr (.inr (.inr (.inl ⟨h.1,h.2,no q_o⟩))))
 ·exact .inr (.inr (.inr (.inr (.inr ⟨h,no q_o⟩))))
theorem ztT(l:List UInt8)(w:World)(hl:l.length<1000000000):q_G 168 [zW l] w (.bool (zdC l)):=by
 refine zz Tryz.func168 Tryz.ntmps168 ?_;have hz:=λB=>zmz l B;have V:=λB=>zov l B;unfold zW zkF at*;have U:zdC l=((decide (1<=l.length)&&decide (l.length<=32))&&(zaN l).all zeV):=by rw[zdC,zjl l.length l (A8 _)]
 rw[U];generalize (decide (1<=l.length)&&decide (l.length<=32))=s at*;cases s
 ·rw[BC];repeat' (first|refine s_0 ?_|refine ze 0 ?_;refine zi ?_;intro _|refine q_k 1 ?_;refine q_v (za (hc:=q_c hz)) ?_;refine zI ?_|refine ze 2 ?_;refine zJ ?_)
  exact zaq rfl (zcA rfl (ty rfl) rfl En rfl) El ⟨rfl,rfl⟩
 rw[B1];repeat' (first|refine s_t ?_|refine ze 0 ?_;refine zi ?_;intro _|refine q_k 1 ?_;refine q_v (za (hc:=q_c hz)) ?_;refine zI ?_|refine q_k 3 ?_;(refine q_s (zn (hc:=λB X L hh=>V B)) ?_;rintro _ _ ⟨R,rfl,b3,b4,b5,rfl,rfl⟩))
 rename_i P;refine zlY False (γ:=Unit) (xs:=zaN l) (Arg:=zxI) zcO rfl (en rfl) rfl (λk _=>((zaN l).take k).all zeV=true) (λc _ _=>c= .ret/\(zaN l).all zeV=false)
  (λ_=>[.blk P 4 [.bool false]]) [.blk b4 9 [.string (str [46])],.blk b3 9 [.string (str l)],.blk b5 3 [.int .i64 0]] [] [] () rfl ?_ ?_ (λh=>h.elim) ?_ ?_ ?_ ?_
 ·exact Ac (l₁:=[_,_,_]) (l₂:=[_])
 ·exact λB Mi X L hm _ _=>zrD b3 b4 b5 l B Mi hl
 ·rintro O x vs RA B ⟨rfl,_⟩;rfl
 ·rintro lp k L ⟨⟩ vs RA W rec a7 N ⟨rfl,rfl⟩ a8 F;clear F;have K:(zaN l)[k]∈zaN l:=AX L;have Y:(zaN l).take (k+1)=(zaN l).take k++[(zaN l)[k]]:=zaI L;have m:zeV (zaN l)[k]=false->(zaN l).all zeV=false:=λh=>by
   rw[BT];exact⟨_,K,by rw[h];decide⟩
  have q:zeV (zaN l)[k]=true->((zaN l).take (k+1)).all zeV=true:=λh=>by
   rw[Y,BK,N];simp[h]
  have a6:=zj0 l.length l (A8 _) _ K;generalize (zaN l)[k]=x at*;by_cases hx:x= []
  ·subst hx;have hb:=m rfl;repeat' (first|refine s_t ?_|apply zaJ;(focus ((repeat (first|exact Ej|apply Ek));done));assumption|refine q_k 4 ?_|refine q_k 5 ?_;refine q_v (zbb (hr:=decide_eq_true rfl)) ?_|refine ze 6 ?_;refine zJ ?_)
   exact zfr () ⟨rfl,hb⟩ q_h
  have g0:=decide_eq_false hx;have T:zeV x=x.all zc2:=by
   cases x with
   |nil=>exact absurd rfl hx
   |cons c x=>simp[zeV]
  rw[T] at m q;have hs:((str x).size:Int)=(x.length:Int):=rfl;repeat' (first|refine s_t ?_|apply zaJ;(focus ((repeat (first|exact Ej|apply Ek));done));assumption|refine zL [4,7] ?_;refine zf ?_|refine q_k 5 ?_;refine q_v (zbb (hr:=g0)) ?_)
  refine zX (γ:=Nat) (λi=>[(2,.pointer (some ⟨P,0,none⟩)),(3,.string (str x)),(15,.int .i64 (x.length:Int)),(16,.int .i64 (i:Int))]) (λ_=>[.obj lp (.loop (busy rec)),.blk P 4 [.bool false]]) (λi=>i<=x.length/\(x.take i).all zc2=true) (λi=>x.length-i) 0 ⟨AE _,rfl⟩ ?_ ?_ ?_
  ·exact q_h
  ·exact q_h
  rintro i ⟨hi,E⟩;by_cases hlt:i<x.length
  ·have g1:decide ((i:Int)<(x.length:Int))=true:=q_d;have g5:IntKind.i64.wrap ((i:Int)+1)=((i+1:Nat):Int):=q_w;have hv:(str x).data[i]?=some x[i]:=by show x.toArray[i]?=_;rw[Bv,A2 hlt]
   have Z:x.take (i+1)=x.take i++[x[i]]:=zaI hlt;have S:x[i]∈x:=AX hlt;have G:zc2 x[i]=false->x.all zc2=false:=λh=>by
    rw[BT];exact⟨_,S,by rw[h];decide⟩
   have I:zc2 x[i]=true->(x.take (i+1)).all zc2=true:=λh=>by
    rw[Z,BK,E];simp[h]
   have A:=zpZ x[i];generalize x[i]=c at*;rcases A with ⟨J,Q,r⟩|⟨J,Q,r,h4⟩|⟨J,r⟩|⟨J,Q,r⟩|⟨J,Q,r⟩|⟨J,r⟩
   ·have H:=I r;repeat' (first|refine s_t ?_|refine ze 8 ?_;refine q_v (zm (hr:=g1)) ?_|refine q_k 9 ?_|refine q_k 10 ?_;refine q_x (zas (j:=i) (hv:=hv)) ?_|refine q_k 11 ?_;refine q_x zm ?_;refine q_x zF ?_|refine ze 13 ?_;refine q_x (zN (hr:=g5)) ?_)
    refine zQ (i+1) ⟨hlt,H⟩ ?_ ?_ ?_
    ·show x.length-(i+1)<x.length-i;omega
    ·exact q_h
    ·exact q_h
   ·have H:=I h4;repeat' (first|refine s_t ?_|refine ze 8 ?_;refine q_v (zm (hr:=g1)) ?_|refine q_k 9 ?_|refine q_k 10 ?_;refine q_x (zas (j:=i) (hv:=hv)) ?_|refine q_k 11 ?_;refine q_x zm ?_;refine q_x zm ?_;refine q_x zF ?_|refine ze 13 ?_;refine q_x (zN (hr:=g5)) ?_)
    refine zQ (i+1) ⟨hlt,H⟩ ?_ ?_ ?_
    ·show x.length-(i+1)<x.length-i;omega
    ·exact q_h
    ·exact q_h
   ·have H:=I r;repeat' (first|refine s_t ?_|refine ze 8 ?_;refine q_v (zm (hr:=g1)) ?_|refine q_k 9 ?_|refine q_k 10 ?_;refine q_x (zas (j:=i) (hv:=hv)) ?_|refine q_k 11 ?_;refine q_x zm ?_;refine q_x zm ?_;refine zat ?_;refine zf ?_|refine ze 13 ?_;refine q_x (zN (hr:=g5)) ?_)
    refine zQ (i+1) ⟨hlt,H⟩ ?_ ?_ ?_
    ·show x.length-(i+1)<x.length-i;omega
    ·exact q_h
    ·exact q_h
   ·have M:=m (G r);repeat' (first|refine s_t ?_|refine ze 8 ?_;refine q_v (zm (hr:=g1)) ?_|refine q_k 9 ?_|refine q_k 10 ?_;refine q_x (zas (j:=i) (hv:=hv)) ?_|refine q_k 11 ?_;refine q_x zm ?_;refine q_x zm ?_;refine zat ?_;refine zf ?_|refine ze 12 ?_;refine zJ ?_)
    exact zfr () ⟨rfl,M⟩ q_h
   ·have M:=m (G r);repeat' (first|refine s_t ?_|refine ze 8 ?_;refine q_v (zm (hr:=g1)) ?_|refine q_k 9 ?_|refine q_k 10 ?_;refine q_x (zas (j:=i) (hv:=hv)) ?_|refine q_k 11 ?_;refine q_x zm ?_;refine q_x zm ?_;refine q_x zF ?_;refine zat ?_;refine zf ?_|refine ze 12 ?_;refine zJ ?_)
    exact zfr () ⟨rfl,M⟩ q_h
   ·have M:=m (G r);repeat' (first|refine s_t ?_|refine ze 8 ?_;refine q_v (zm (hr:=g1)) ?_|refine q_k 9 ?_|refine q_k 10 ?_;refine q_x (zas (j:=i) (hv:=hv)) ?_|refine q_k 11 ?_;refine q_x zm ?_;refine q_x zF ?_;refine q_x zm ?_;refine q_x zF ?_;refine zat ?_;refine zf ?_|refine ze 12 ?_;refine zJ ?_)
    exact zfr () ⟨rfl,M⟩ q_h
  obtain rfl:i=x.length:=q_o;rw[A9 (A8 _)] at E;have H:=q E;have g1:decide ((x.length:Int)<(x.length:Int))=false:=q_f;repeat' (first|refine s_0 ?_|refine ze 8 ?_;refine q_v (zm (hr:=g1)) ?_)
  exact zfY () H q_h
 ·rintro⟨⟩ N;rw[A9 (A8 _)] at N;rw[N];repeat' (first|refine s_0 ?_|refine ze 14 ?_;refine zJ ?_)
  exact zaq rfl (zcA rfl (ty rfl) rfl En rfl) El ⟨rfl,rfl⟩
 ·rintro c k ⟨⟩ L ⟨rfl,m⟩;rw[m];repeat' (first|refine s_0 ?_|fail)
  exact zaq rfl (zcA rfl (ty rfl) rfl En rfl) El ⟨rfl,rfl⟩
theorem zfF(C:List Value)(p:Prin)(w:World)(h:PrinIn w C p)(hb:p.parts.length<1000000)(hr:p.realm.length<1000000000)(hp:∀x∈p.parts,x.length<1000000000):q_G 76 [.agg C.toArray] w (.bool p.ok):=by
 obtain⟨⟨a1,L,rfl,V,U,s1,z1⟩,-⟩:=h;refine zz Tryz.func76 Tryz.ntmps76 ?_;have I:=λm=>ztT p.realm m hr;have G:p.ok=([decide (1<=p.parts.length),decide (p.parts.length<=4),zdC p.realm].all id&&p.parts.all zec):=by simp[Prin.ok,EU]
 have B:=λm b (h:m.rangeAt b 0 [.bool (decide (1<=p.parts.length)),.bool (decide (p.parts.length<=4)),.bool (zdC p.realm)])=>zwg b 3 [decide (1<=p.parts.length),decide (p.parts.length<=4),zdC p.realm] m rfl q_e h;have N:decide ((p.parts.length:Int)>=1)=decide (1<=p.parts.length):=decide_eq_decide.2 q_o;have O:decide ((p.parts.length:Int)<=4)=decide (p.parts.length<=4):=decide_eq_decide.2 q_o;have H:=λx (A:x∈p.parts) m=>zvB x m (hp x A);unfold zW at*;rw[G];generalize zdC p.realm=u3,decide (p.parts.length<=4)=Z,decide (1<=p.parts.length)=Y,[decide (1<=p.parts.length),decide (p.parts.length<=4),zdC p.realm].all id=u at*;obtain⟨parts,realm⟩:=p;dsimp only at*;generalize T:parts.length=n at*;repeat' (first|refine s_0 ?_|refine ze 0 ?_;refine z9 ?_;intro _)
 rename_i P
 (refine zdq (id:=1) [0,1,2,3,4,5,6,7,8,9] [10,11,12,13] mixed ?_ ?_;kernel_rfl;refine yfv zP (k:=?_);refine yfv zM (k:=?_);refine yfv zgd (k:=?_);refine yfv (zai (hr:=N)) (k:=?_);refine yfv zP (k:=?_);refine yfv zM (k:=?_);refine yfv zgd (k:=?_);refine yfv (zaP (hr:=O)) (k:=?_);refine yfv zP (k:=?_);refine yfv zM (k:=?_);refine yf0 ?_;refine ycv (za (hc:=q_c I)) (k:=?_);(refine ycs zD (k:=?_);rintro _ _ ⟨K,rfl,rfl⟩);refine ycv (za (hc:=λm X S M=>B m K (zq (M.has q_h) Em))) (k:=?_);refine ycv zka (k:=?_);try refine yc0 (k:=?_))
 cases u
 ·rw[BC];repeat' (first|refine s_0 ?_|refine q_k 2 ?_)
  exact q_r
 rw[B1];repeat' (first|refine s_t ?_|refine q_k 3 ?_;refine zl ?_;refine zf ?_)
 refine zX (γ:=Nat) (λi=>[(20,.slice a1 n L),(21,.int .i64 (n:Int)),(22,.int .i64 (i:Int))]) (λ_=>[]) (λi=>i<=n/\(parts.take i).all zec=true) (λi=>n-i) 0 ⟨AE _,rfl⟩ ?_ ?_ ?_
 ·exact q_h
 ·exact q_h
 rintro i ⟨R,q⟩;by_cases hlt:i<n
 ·obtain⟨Q,W,rfl,r⟩:=zdb s1 (i:=i) (by rw[A1];omega);have hc:=r i _ (zdw _ q_o);have g1:decide ((i:Int)<(n:Int))=true:=q_d;have g5:IntKind.i64.wrap ((i:Int)+1)=((i+1:Nat):Int):=q_w;have J:parts.take (i+1)=parts.take i++[parts[i]]:=zaI q_o;have F:parts[i]∈parts:=AX q_o;have A:=H parts[i] F;generalize parts[i]=x at*;by_cases hxo:zec x=true
  ·rw[hxo] at A;repeat' (first|refine s_t ?_|refine ze 4 ?_;refine q_v (zm (hr:=g1)) ?_|refine ze 5 ?_;refine q_v (zG (j:=i)) ?_;refine q_x (zp (hv:=hc)) ?_|refine q_k 6 ?_;refine q_v (za (hc:=q_c A)) ?_;refine zI ?_|refine ze 8 ?_;refine q_x (zN (hr:=g5)) ?_)
   refine zQ (i+1) ⟨hlt,by rw[J,BK,q];simp[hxo]⟩ ?_ ?_ ?_
   ·show n-(i+1)<n-i;omega
   ·exact q_h
   ·exact q_h
  ·rw[Bo] at hxo;rw[hxo] at A;have E:parts.all zec=false:=by rw[BT];exact⟨x,F,by rw[hxo];decide⟩
   rw[E];repeat' (first|refine s_t ?_|refine ze 4 ?_;refine q_v (zm (hr:=g1)) ?_|refine ze 5 ?_;refine q_v (zG (j:=i)) ?_;refine q_x (zp (hv:=hc)) ?_|refine q_k 6 ?_;refine q_v (za (hc:=q_c A)) ?_;refine zI ?_|refine q_k 7 ?_)
   exact q_r
 obtain rfl:i=n:=q_o;rw[A9 q_o] at q;rw[q];have g1:decide ((i:Int)<(i:Int))=false:=q_f;repeat' (first|refine s_0 ?_|refine ze 4 ?_;refine q_v (zm (hr:=g1)) ?_|refine q_k 9 ?_)
 exact q_r
end
open Go Go.Sy Go.Ct Go.RowKit
attribute [local irreducible] Sy SyL SyX Sy.Fn callFunc
theorem zoS(v:Int)(m:Nat)(w:World)(hm:m<=8):Sy.Fn Tryz.prog 194 [.int .i64 v,.int .i64 (m:Int)] w No (λr R=>∃b,r= .slice (some ⟨b,0,none⟩) m m/\R= [.blk b 5 ((beZ v m).map v8)]):=by
 refine zz Tryz.func194 Tryz.ntmps194 ?_;repeat' (first|refine s_t ?_|refine zL [0,1,2] ?_;refine zf ?_|refine q_s (zhm (n:=m)) ?_;rintro _ _ ⟨F,rfl,rfl⟩|(refine zx ?_;first|refine zo ?_|fail)|fail)
 refine zX (γ:=Nat) (λi=>[(0,.int .i64 v),(1,.int .i64 (m:Int)),(5,.slice (some ⟨F,0,none⟩) m m),(10,.int .i64 (m:Int)),(11,.int .i64 (i:Int))]) (λi=>[.blk F 5 (List.replicate (m-i) (Value.int .u8 0)++(beZ v i).map v8)]) (λi=>i<=m) (λi=>m-i) 0 (AE _) ?_ ?_ ?_
 ·exact q_h
 ·rw[C0,show(beZ v 0).map v8= [] from rfl,AH];exact q_h
 rintro i I;rcases AK i m with h|h
 ·have B:decide ((i:Int)<(m:Int))=true:=q_d;have g1:IntKind.i64.wrap ((m:Int)-1)=((m-1:Nat):Int):=q_w;have g2:IntKind.i64.wrap (((m-1:Nat):Int)-(i:Int))=((m-1-i:Nat):Int):=q_w;have g3:IntKind.i64.wrap (8*(i:Int))=((8*i:Nat):Int):=q_w;have g4:Op.shift .shr .i64 v .i64 ((8*i:Nat):Int)=pure (.int .i64 (v/256^i)):=by rw[zxo v (8*i) _ q_o,zve]
  have g5:IntKind.i64.wrap ((i:Int)+1)=((i+1:Nat):Int):=q_w;have g6:=u8Z (v/256^i);have A:=zvj v m i h;have H:(List.replicate (m-i) (Value.int .u8 0)++(beZ v i).map v8).length=m:=by simp only[A3,AJ,A1,zi0];omega
  generalize List.replicate (m-i) (Value.int .u8 0)++(beZ v i).map v8=C at*;obtain⟨G,E⟩:∃G,G=List.replicate (m-(i+1)) (Value.int .u8 0)++(beZ v (i+1)).map v8:=⟨_,rfl⟩;rw[<-E] at A;generalize v/256^i=q at*;repeat' (first|refine s_t ?_|refine ze 3 ?_;refine q_v (zm (hr:=B)) ?_|refine q_k 4 ?_|refine q_k 5 ?_;refine q_x (zab (hr:=g1)) ?_;refine q_x (zab (hr:=g2)) ?_;refine q_v (zaV (hr:=g3)) ?_;refine q_v (zcq (hr:=g4)) ?_;refine q_v (zaw (hr:=g6)) ?_;refine q_v (zG (j:=m-1-i)) ?_;refine q_n (zaK (hC:=by rw[AU];exact A)) ?_|refine ze 6 ?_;refine q_x (zN (hr:=g5)) ?_)
  refine zQ (i+1) h ?_ ?_ ?_
  ·show m-(i+1)<m-i;omega
  ·exact q_h
  ·rw[<-E];exact q_h
 obtain rfl:i=m:=q_o;have B:decide ((i:Int)<(i:Int))=false:=q_f;rw[C5,CV,AY];repeat' (first|refine s_0 ?_|refine ze 3 ?_;refine q_v (zm (hr:=B)) ?_|refine q_k 7 ?_)
 exact zaq rfl (zj rfl) q_h ⟨F,rfl,rfl⟩
theorem zmJ(t:Nat)(a:Option Addr)(m d:Nat)(xs:List Bs)(w:World)(ht:t<256)(hm:xs.length=m)(b2:m<1000)(b3:m<=d)(b0:SlA w a (xs.map Bs.val))(a8:∀s∈xs,s.ok w)(hb:(Bs.cat xs).length<16777216):
  Sy.Fn Tryz.prog 172 [.int .u8 (t:Int),.slice a m d] w No (zbT 5 (tlv t (Bs.cat xs)).length ((tlv t (Bs.cat xs)).map v8)):=by
 refine zz Tryz.func172 Tryz.ntmps172 ?_;have V:∀i,(Bs.cat (xs.take i)).length<=(Bs.cat xs).length:=λi=>by
  have:Bs.cat xs=Bs.cat (xs.take i)++Bs.cat (xs.drop i):=by unfold Bs.cat;rw[<-CD,BV]
  rw[this,A3];omega
 have P:=λi (h:i<m)=>Fi xs i q_o;have O:=λj (h:j<m)=>a8 xs[j] (AX q_o);have N:=λi (h:i<m)=>Bs.get b0 (i:=i) q_o;repeat' (first|refine s_t ?_|refine zL [0,1,2] ?_;refine zf ?_)
 refine zX (γ:=Nat) (λi=>[(0,.int .u8 (t:Int)),(1,.slice a m d),(11,.slice a m d),(12,.int .i64 m),(13,.int .i64 i),(5,.int .i64 ((Bs.cat (xs.take i)).length:Nat))]) (λ_=>[]) (λi=>i<=m) (λi=>m-i) 0 (AE _) ?_ ?_ ?_
 ·exact q_h
 ·exact q_h
 intro i hi;by_cases hlt:i<m
 ·obtain⟨bl,ol,rfl,A⟩:=N i hlt;have U:=A i q_o;have X:=O i hlt;have Y:=P i hlt;have R:=V (i+1);rw[Y,A3] at R;have r:xs[i].l.length=xs[i].n:=X.len;rw[r] at R;have hT:((Bs.cat (xs.take (i+1))).length:Int)=((Bs.cat (xs.take i)).length:Int)+(xs[i].n:Int):=by rw[Y,A3,r,De]
  obtain⟨T',S⟩:∃t,t=(Bs.cat (xs.take (i+1))).length:=⟨_,rfl⟩;rw[<-S] at hT;generalize xs[i]=s,(Bs.cat xs).length=q,(Bs.cat (xs.take i)).length=T at*;obtain⟨sa,sn,sc,sl⟩:=s;dsimp only at*;have g1:decide ((i:Int)<(m:Int))=true:=q_d;have g2:IntKind.i64.wrap (16777215-(T:Int))=16777215-(T:Int):=IntWalk.i64_in _ q_o;have g3:decide (16777215-(T:Int)<(sn:Int))=false:=q_f;have g4:IntKind.i64.wrap ((T:Int)+(sn:Int))=((T':Nat):Int):=q_w;have g5:IntKind.i64.wrap ((i:Int)+1)=((i+1:Nat):Int):=q_w;repeat' (first|refine s_t ?_|refine ze 3 ?_;refine q_v (zm (hr:=g1)) ?_|refine ze 4 ?_;refine q_v (zG (j:=i)) ?_;refine q_x (zp (hv:=U)) ?_|refine q_k 5 ?_;refine q_v (zab (hr:=g2)) ?_;refine q_v (zF (hr:=g3)) ?_|refine q_k 7 ?_;refine q_x (zN (hr:=g4)) ?_|refine ze 8 ?_;refine q_x (zN (hr:=g5)) ?_)
  refine zQ (i+1) hlt ?_ ?_ ?_
  ·show m-(i+1)<m-i;omega
  ·rw[<-S];exact q_h
  ·exact q_h
 obtain rfl:i=m:=q_o;have M:xs.take i=xs:=A9 q_o;rw[M];have g1:decide ((i:Int)<(i:Int))=false:=q_f;obtain⟨q,B⟩:∃n,n=(Bs.cat xs).length:=⟨_,rfl⟩;rw[<-B] at hb;have W:∀j,(Bs.cat (xs.take j)).length<=q:=λj=>B ▸ V j;obtain⟨H,hH⟩:∃H,H=UInt8.ofNat t::zce q:=⟨_,rfl⟩;have Z:tlv t (Bs.cat xs)=H++Bs.cat xs:=by rw[hH,B];rfl
 have b1:H.length<=5:=by rw[hH,AO];have:=zjr q;omega
 have L:H.map v8= .int .u8 (t:Int)::(zce q).map v8:=by rw[hH,As,<-v8_lit t ht]
 rw[zoY] at L;have g2:IntKind.i64.wrap ((q:Int)+5)=((q+5:Nat):Int):=q_w;have g3:=u8N q;have g4:=u8N (q/2^8);have g5:=u8N (q/2^16);have q1:=λkk=>zuv q 8 kk q_e;have q2:=λkk=>zuv q 16 kk q_e;rw[Z,<-B];repeat' (first|refine s_0 ?_|refine ze 3 ?_;refine q_v (zm (hr:=g1)) ?_|refine q_k 9 ?_;refine q_v (zN (hr:=g2)) ?_|refine q_s (zkl (n:=0) (c':=q+5) (AE _)) ?_;rintro _ _ ⟨b8,rfl,rfl⟩|(refine zx ?_;first|refine zo ?_|fail)|fail)
 refine zcN (zj6 (b:=b8) (E:=5) (s:=1) (n:=0) (c:=q+5) (xs:=[]) (J:=List.replicate (q+5) (Value.int .u8 0)) Ej q_p (AE _) (by unfold maxLen;omega) rfl) ?_;repeat' (first|refine s_0 ?_|refine q_k 10 ?_;(refine q_s zD ?_;rintro _ _ ⟨_,rfl,rfl⟩);(refine q_s zaB ?_;rintro _ _ ⟨rfl,_,_,rfl⟩);refine zf ?_)
 rename_i aT cT;refine zda (γ:=Option Addr×Nat) (λg=>[(1,.slice a i d),(8,.slice g.1 H.length g.2)]) (λg=>[.row (.slice g.1 H.length g.2) 5 1 H.length (H.map v8)]) (λ_=>True) ?_ ?_
 ·have U:q<128\/(128<=q/\q<256)\/(256<=q/\q<65536)\/65536<=q:=q_o;rcases U with h|h|h|h
  ·rw[if_pos h] at L;have e: [Value.int .u8 (t:Int)]++[.int .u8 (Wd.n8 (UInt8.ofNat q))]=H.map v8:=L.symm;have F:1+1=H.length:=by rw[<-A1 v8,<-e];rfl
   have k1:decide ((q:Int)<128)=true:=q_d;repeat' (first|refine s_t ?_|refine q_k 12 ?_;refine q_x (zm (hr:=k1)) ?_|refine q_k 13 ?_;refine q_v (zaw (hr:=g3)) ?_;(refine q_s zD ?_;rintro _ _ ⟨_,rfl,rfl⟩);(refine q_s (zaB (hys:=e) (hkm:=F)) ?_;rintro _ _ ⟨rfl,G,I,rfl⟩);refine zf ?_)
   exact zam (G,I) trivial q_h q_h
  ·rw[if_neg q_o,if_pos h.2] at L;have e: [Value.int .u8 (t:Int)]++[.int .u8 129,.int .u8 (Wd.n8 (UInt8.ofNat q))]=H.map v8:=L.symm;have F:1+2=H.length:=by rw[<-A1 v8,<-e];rfl
   have k1:decide ((q:Int)<128)=false:=q_f;have k2:decide ((q:Int)<256)=true:=q_d;repeat' (first|refine s_t ?_|refine q_k 12 ?_;refine q_x (zm (hr:=k1)) ?_|refine q_k 14 ?_;refine q_x (zm (hr:=k2)) ?_|refine q_k 15 ?_;refine q_v (zaw (hr:=g3)) ?_;(refine q_s zD ?_;rintro _ _ ⟨_,rfl,rfl⟩);(refine q_s (zaB (hys:=e) (hkm:=F)) ?_;rintro _ _ ⟨rfl,G,I,rfl⟩);refine zf ?_)
   exact zam (G,I) trivial q_h q_h
  ·rw[if_neg q_o,if_neg q_o,if_pos h.2] at L;have e: [Value.int .u8 (t:Int)]++[.int .u8 130,.int .u8 (Wd.n8 (UInt8.ofNat (q/2^8))),.int .u8 (Wd.n8 (UInt8.ofNat q))]=H.map v8:=L.symm;have F:1+3=H.length:=by rw[<-A1 v8,<-e];rfl
   have k1:decide ((q:Int)<128)=false:=q_f;have k2:decide ((q:Int)<256)=false:=q_f;have k3:decide ((q:Int)<65536)=true:=q_d;repeat' (first|refine s_t ?_|refine q_k 12 ?_;refine q_x (zm (hr:=k1)) ?_|refine q_k 14 ?_;refine q_x (zm (hr:=k2)) ?_|refine q_k 16 ?_;refine q_x (zm (hr:=k3)) ?_|refine q_k 17 ?_;refine q_v (zcq (hr:=q1 _)) ?_;refine q_x (zaw (hr:=g4)) ?_;refine q_v (zaw (hr:=g3)) ?_;(refine q_s zD ?_;rintro _ _ ⟨_,rfl,rfl⟩);(refine q_s (zaB (hys:=e) (hkm:=F)) ?_;rintro _ _ ⟨rfl,G,I,rfl⟩);refine zf ?_)
   exact zam (G,I) trivial q_h q_h
  ·rw[if_neg q_o,if_neg q_o,if_neg q_o] at L;have e: [Value.int .u8 (t:Int)]++[.int .u8 131,.int .u8 (Wd.n8 (UInt8.ofNat (q/2^16))),.int .u8 (Wd.n8 (UInt8.ofNat (q/2^8))),.int .u8 (Wd.n8 (UInt8.ofNat q))]=H.map v8:=L.symm;have F:1+4=H.length:=by rw[<-A1 v8,<-e];rfl
   have k1:decide ((q:Int)<128)=false:=q_f;have k2:decide ((q:Int)<256)=false:=q_f;have k3:decide ((q:Int)<65536)=false:=q_f;repeat' (first|refine s_t ?_|refine q_k 12 ?_;refine q_x (zm (hr:=k1)) ?_|refine q_k 14 ?_;refine q_x (zm (hr:=k2)) ?_|refine q_k 16 ?_;refine q_x (zm (hr:=k3)) ?_|refine q_k 11 ?_;refine q_v (zcq (hr:=q2 _)) ?_;refine q_x (zaw (hr:=g5)) ?_;refine q_v (zcq (hr:=q1 _)) ?_;refine q_x (zaw (hr:=g4)) ?_;refine q_v (zaw (hr:=g3)) ?_;(refine q_s zD ?_;rintro _ _ ⟨_,rfl,rfl⟩);(refine q_s (zaB (hys:=e) (hkm:=F)) ?_;rintro _ _ ⟨rfl,G,I,rfl⟩);refine zf ?_)
   exact zam (G,I) trivial q_h q_h
 rintro⟨aH,cH⟩ -;dsimp only;repeat' (first|refine s_t ?_|refine q_k 18 ?_)
 refine zX (γ:=Nat×Option Addr×Nat) (λg=>[(72,.slice a i d),(73,.int .i64 i),(74,.int .i64 g.1),(8,.slice g.2.1 (H++Bs.cat (xs.take g.1)).length g.2.2)]) (λg=>[.row (.slice g.2.1 (H++Bs.cat (xs.take g.1)).length g.2.2) 5 1 (H++Bs.cat (xs.take g.1)).length ((H++Bs.cat (xs.take g.1)).map v8)]) (λg=>g.1<=i) (λg=>i-g.1) (0,aH,cH) (AE _) ?_ ?_ ?_
 ·rw[show H++Bs.cat (xs.take 0)=H by rw[Bb];exact AH _];exact q_h
 ·rw[show H++Bs.cat (xs.take 0)=H by rw[Bb];exact AH _];exact q_h
 rintro⟨j,aJ,cJ⟩ hj;dsimp only at hj ⊢;by_cases hlt:j<i
 ·obtain⟨bl,ol,rfl,A⟩:=N j hlt;have U:=A j q_o;have X:=O j hlt;have Y:=P j hlt;have R:=W (j+1);have r:xs[j].l.length=xs[j].n:=X.len;have a9:=X.sla;have a7:=X.nil;have e:(H++Bs.cat (xs.take j)).map v8++xs[j].l.map v8=(H++Bs.cat (xs.take (j+1))).map v8:=by rw[Y,<-AF];exact B2.symm
  have F:(H++Bs.cat (xs.take j)).length+xs[j].n=(H++Bs.cat (xs.take (j+1))).length:=by rw[Y];simp only[A3,r];omega
  have a6:(H++Bs.cat (xs.take (j+1))).length<20000000:=by rw[A3];omega
  generalize (H++Bs.cat (xs.take j))=K at*;obtain⟨K',Q⟩:∃k,k=H++Bs.cat (xs.take (j+1)):=⟨_,rfl⟩;rw[<-Q] at e F a6;generalize xs[j]=s at*;obtain⟨sa,sn,sc,sl⟩:=s;dsimp only at*;have g1:decide ((j:Int)<(i:Int))=true:=q_d;have g6:IntKind.i64.wrap ((j:Int)+1)=((j+1:Nat):Int):=q_w;repeat' (first|refine s_t ?_|refine ze 19 ?_;refine q_v (zm (hr:=g1)) ?_|refine ze 20 ?_;refine q_v (zG (j:=j)) ?_;refine q_x (zp (hv:=U)) ?_|refine q_k 21 ?_;(refine q_s (zaB (hr:=F4 a9 (λ_ _ h=>h)) (hn:=by rw[A1,r,Al]) (hnil:=a7) (hys:=e) (hkm:=F)) ?_;rintro _ _ ⟨rfl,G,I,rfl⟩);refine zf ?_|refine ze 22 ?_;refine q_x (zN (hr:=g6)) ?_)
  refine zQ (j+1,G,I) hlt ?_ ?_ ?_
  ·show i-(j+1)<i-j;omega
  ·dsimp only;rw[<-Q];exact q_h
  ·dsimp only;rw[<-Q];exact q_h
 obtain rfl:j=i:=q_o;have g6:decide ((j:Int)<(j:Int))=false:=q_f;rw[M];repeat' (first|refine s_0 ?_|refine ze 19 ?_;refine q_v (zm (hr:=g6)) ?_|refine q_k 23 ?_)
 exact q_r
end Go.Proofs.YtdnlngbjpdbffaaGreatDoor
