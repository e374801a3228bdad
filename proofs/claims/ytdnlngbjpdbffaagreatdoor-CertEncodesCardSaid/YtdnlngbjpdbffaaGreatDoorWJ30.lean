/- Lemmas of this proof. -/
import Derived.Test.YtdnlngbjpdbffaaGreatDoorWJ29
import Derived.Lib.Bytealg
set_option maxHeartbeats 1000000
set_option maxRecDepth 10000
set_option linter.all false
namespace Go.Ct
open Go
def zaP:List UInt8->List (List UInt8)
 | []=>[[]]
 |c::r=>if c=46 then []::zaP r else match zaP r with
  | []=>[[c]]
  |l::ls=>(c::l)::ls
theorem zfR:∀l:List UInt8,(∀c∈l,c≠46)->zaP l= [l]
 | [],_=>rfl
 |c::l,h=>by
  rw[zaP,if_neg (h c A3),zfR l (λx j=>h x (A4 _ j))]
theorem zgn:∀(l r:List UInt8),(∀c∈l,c≠46)->zaP (l++46::r)=l::zaP r
 | [],r,_=>by rw[Af,zaP,if_pos rfl]
 |c::l,r,h=>by
  rw[Ab,zaP,if_neg (h c A3),zgn l r (λx j=>h x (A4 _ j))]
theorem zf4:∀s:List UInt8,(∀c∈s,c≠46)\/∃l r,s=l++46::r/\∀c∈l,c≠46
 | []=> .inl (λc q=>by cases q)
 |c::s=>by
  by_cases h:c=46
  ·exact .inr ⟨[],s,by rw[h];rfl,λc q=>by cases q⟩
  ·rcases zf4 s with m|⟨l,r,rfl,m⟩
   ·refine .inl (λx j=>?_);rcases AS.1 j with rfl|j
    ·exact h
    ·exact m x j
   ·refine .inr ⟨c::l,r,rfl,λx j=>?_⟩;rcases AS.1 j with rfl|j
    ·exact h
    ·exact m x j
theorem zjW(l:List UInt8)(a b:Nat):(Sy.str l).extract a b=Sy.str ((l.drop a).take (b-a)):=by
 apply ByteArray.ext;rw[ByteArray.data_extract];show l.toArray.extract a b=_;rw[List.extract_toArray];rfl
def zfp(l:List UInt8):Bool:=!l.isEmpty&&l.all zcB
theorem zj1:∀(n:Nat) (s:List UInt8),s.length<=n->zcv true s=(zaP s).all zfp
 |n,s,hn=>by
  rcases zf4 s with h|⟨l,r,rfl,h⟩
  ·rw[zq5 s h,zfR s h];simp[zfp]
  ·cases n with
   |zero=>simp at hn
   |succ n=>
    rw[zr9 l r h,zgn l r h,BS,zj1 n r (by simp at hn;omega)];rfl
theorem zla:∀(n:Nat) (s:List UInt8),s.length<=n->∀x∈zaP s,x.length<=s.length
 |n,s,hn,x,j=>by
  rcases zf4 s with h|⟨l,r,rfl,h⟩
  ·rw[zfR s h,AE] at j;rw[j];exact A6 _
  ·cases n with
   |zero=>simp at hn
   |succ n=>
    rw[zgn l r h] at j;rw[A2,AQ];rcases AS.1 j with rfl|j
    ·omega
    ·have:=zla n r (by simp at hn;omega) x j;omega
theorem zkI:∀l:List UInt8,(∀c∈l,c≠46)->Lib.indexByte l 46= -1
 | [],_=>rfl
 |c::l,h=>by
  have j:(c==46)=false:=beq_eq_false_iff_ne.2 (h c A3);rw[Lib.indexByte,j,zkI l (λx m=>h x (A4 _ m))];rfl
theorem zl3:∀(l r:List UInt8),(∀c∈l,c≠46)->Lib.indexByte (l++46::r) 46=(l.length:Int)
 | [],r,_=>rfl
 |c::l,r,h=>by
  have j:(c==46)=false:=beq_eq_false_iff_ne.2 (h c A3);have m:=zl3 l r (λx w=>h x (A4 _ w));have q:(((l.length:Int)) == -1)=false:=beq_eq_false_iff_ne.2 q_o;rw[Ab,Lib.indexByte,j,m,q];simp
end Go.Ct
namespace Go.Proofs.YtdnlngbjpdbffaaGreatDoor
section
open Go Go.Sy Go.Ct Go.RowKit
theorem zqH(l:List UInt8)(w:World):(callFunc 338 [Value.string (str l),.int .u8 46].toArray).run Tryz.prog w= .ok (.value (.int .i64 (Lib.indexByte l 46))) w:=by
 show(callFunc 338 #[.string (str l),.int .u8 46]).run Tryz.prog w=_;rw[run_callFunc_extern Tryz.func338 (by kernel_rfl) (by kernel_rfl) (by kernel_rfl) (e:=Extern.BytealgIndexByte.indexByte) (by kernel_rfl),Lib.run_indexByteString];rfl
attribute [local irreducible] Sy SyL SyX Sy.Fn callFunc
theorem zyT(l:List UInt8)(w:World):q_G 334 [.string (str l),.int .u8 46] w (.int .i64 (Lib.indexByte l 46)):=by
 refine zt Tryz.func334 Tryz.ntmps334 ?_;have h:=λj=>zqH l j;repeat' (first|refine s_0 ?_|refine q_k 0 ?_|refine q_k 1 ?_;refine q_x (zdt (hr:=h)) ?_)
 exact q_r
theorem zx7(l:List UInt8)(w:World):q_G 325 [.string (str l),.string (str [46])] w (.int .i64 (Lib.indexByte l 46)):=by
 refine zt Tryz.func325 Tryz.ntmps325 ?_;have h:=λm=>zyT l m;have q:((str [46]).size:Int)=1:=rfl;by_cases hl: [46]=l
 ·subst hl;repeat' (first|refine s_t ?_|refine zD [0,1,3] ?_;refine zb ?_|refine q_k 2 ?_;refine zaD ?_;refine zb ?_;refine q_x (zbD (hr:=decide_eq_true rfl)) ?_)
  exact q_r
 ·have g:=decide_eq_false hl;repeat' (first|refine s_t ?_|refine zD [0,1] ?_;refine zb ?_|refine q_k 2 ?_;refine zaD ?_;refine zb ?_;refine q_x (zbD (hr:=g)) ?_|refine q_k 4 ?_;refine zaD ?_;refine zb ?_|refine q_k 5 ?_;refine q_v (zR (j:=0) (u:=46) (hv:=rfl)) ?_;refine q_v (za (hc:=q_c h)) ?_;refine zb ?_)
  exact q_r
theorem zxt(l:List UInt8)(w:World):q_G 315 [.string (str l),.string (str [46])] w (.int .i64 (Lib.indexByte l 46)):=by
 refine zt Tryz.func315 Tryz.ntmps315 ?_;repeat' (first|refine s_0 ?_|refine q_k 0 ?_|refine q_k 1 ?_;refine q_v (za (hc:=λ_ _ _ _=>(zx7 l _))) ?_;refine zb ?_)
 exact q_r
def zll(l:List UInt8)(v:Value)(R:List Res):Prop:=∃b3 b4 b5,v= .func (.func 313) #[] #[.pointer (some ⟨b4,0,none⟩),.pointer (some ⟨b3,0,none⟩),.pointer (some ⟨b5,0,none⟩)]/\R= [.blk b4 9 [.string (str [46])],.blk b3 9 [.string (str l)],.blk b5 3 [.int .i64 0]]
theorem zvb(l:List UInt8)(w:World):Sy.Fn Tryz.prog 281 [.string (str l),.string (str [46]),.int .i64 0] w No (zll l):=by
 refine zt Tryz.func281 Tryz.ntmps281 ?_;repeat' (first|refine s_0 ?_|refine zf 0 ?_;refine zj ?_;intro _;refine zj ?_;intro _;refine zW ?_;intro _|refine zf 1 ?_;refine q_x zab ?_)
 exact zap rfl (zh rfl) q_h ⟨_,_,_,rfl,rfl⟩
theorem zo8(l:List UInt8)(w:World):Sy.Fn Tryz.prog 236 [.string (str l),.string (str [46])] w No (zll l):=by
 refine zt Tryz.func236 Tryz.ntmps236 ?_;have h:=λj=>zvb l j;unfold zll at*;repeat' (first|refine s_0 ?_|refine q_k 0 ?_|refine q_k 1 ?_;(refine q_s (zi (hc:=λj X B A=>h j)) ?_;rintro _ _ ⟨R,rfl,m,q,r,rfl,rfl⟩);refine zb ?_)
 exact zap rfl (zh rfl) q_h ⟨_,_,_,rfl,rfl⟩
def zzf(_:Nat->Prop)(x:List UInt8)(vs:List Value)(RA:List Res)(_:World):Prop:=vs= [.string (str x)]/\RA= []
theorem zsQ(G H I:Nat)(s:List UInt8)(w:World)(M:Nat->Prop)(hs:s.length<1000000000):
  zrF False Tryz.prog 313 [.pointer (some ⟨H,0,none⟩),.pointer (some ⟨G,0,none⟩),.pointer (some ⟨I,0,none⟩)] (zaP s) zzf w M [.blk H 9 [.string (str [46])],.blk G 9 [.string (str s)],.blk I 3 [.int .i64 0]] []:=by
 intro lp J Jx j0 _ N hh V;refine zaW Tryz.func313 rfl Tryz.ntmps313 q_p hh ?_;have P:=λl U=>zxt l U;have a6:((str [46]).size:Int)=1:=rfl;repeat' (first|refine s_t ?_|refine zf 0 ?_;refine zm ?_;refine zb ?_;refine zaD ?_)
 refine zN (γ:=List UInt8×Nat×Res) (λg=>[(0,.func (.yield lp) #[] #[]),(1,.pointer (some ⟨H,0,none⟩)),(2,.pointer (some ⟨G,0,none⟩)),(3,.pointer (some ⟨I,0,none⟩))]) (λg=>[g.2.2,.blk H 9 [.string (str [46])],.blk G 9 [.string (str g.1)],.blk I 3 [.int .i64 0]])
  (λg=>(zaP s).drop g.2.1=zaP g.1/\J g.2.1 g.2.2/\g.1.length<=s.length) (λg=>g.1.length) (s,0,j0) ⟨BJ,N,A6 _⟩ ?_ ?_ ?_
 ·exact q_h
 ·exact q_h
 rintro⟨r,k,j⟩ ⟨q,L,C⟩;dsimp only at q L C ⊢;have K:=P r;rcases zf4 r with h|⟨l,m,rfl,h⟩
 ·rw[zkI r h] at K;rw[zfR r h] at q;have A:k<(zaP s).length:=by
   rcases AF k (zaP s).length with h|h
   ·exact h
   ·rw[BX h] at q;cases q
  have T:(zaP s)[k]=r:=by rw[BN A] at q;exact(E6 q).1
  have B:(zaP s).length=k+1:=by have:=congrArg List.length q;rw[Ar] at this;simp at this;omega
  repeat' (first|refine s_t ?_|refine zf 5 ?_;refine zm ?_;refine zm ?_;refine q_v (za (hc:=q_c K)) ?_;refine zb ?_|refine q_k 6 ?_;refine zag ?_|refine q_k 10 ?_;refine zm ?_)
  refine q_s (zdD V A L (hL:=Ew (by exact Es) rfl Ez) (harg:=λU X q O=>⟨by rw[T],rfl⟩)) ?_;rintro _ _ ⟨y,F,rfl,rfl,E⟩;cases y
  ·repeat' (first|refine zaq ?_|fail)
   exact zfo rfl q_h ⟨F,rfl,.inr ⟨k+1,by omega,E⟩⟩
  ·repeat' (first|refine zaq ?_|fail)
   exact zfo rfl q_h ⟨F,rfl,.inl (by rw[B];exact E)⟩
 ·rw[zl3 l m h] at K;rw[zgn l m h] at q;have A:k<(zaP s).length:=by
   rcases AF k (zaP s).length with h|h
   ·exact h
   ·rw[BX h] at q;cases q
  have T:(zaP s)[k]=l:=by rw[BN A] at q;exact(E6 q).1
  have Q:(zaP s).drop (k+1)=zaP m:=by rw[BN A] at q;exact(E6 q).2
  have W:l.length+1+m.length<=s.length:=by rw[A2,AQ] at C;omega
  have g0:decide ((l.length:Int)<0)=false:=q_f;have g1:IntKind.i64.wrap ((l.length:Int)+0)=((l.length:Nat):Int):=q_w;have g2:IntKind.i64.wrap ((l.length:Int)+1)=((l.length+1:Nat):Int):=q_w;have R:(str (l++46::m)).size=l.length+1+m.length:=by rw[zkb];simp;omega
  have Y:(str (l++46::m)).extract 0 l.length=str l:=by
   rw[zjW,BJ,CD,Dk];rfl
  have Z:(str (l++46::m)).extract (l.length+1) (l.length+1+m.length)=str m:=by
   rw[zjW,show l++46::m=(l++[46])++m by simp,ET q_p,Bh,A8 (A6 _)]
  generalize str (l++46::m)=S at*;repeat' (first|refine s_t ?_|refine zf 5 ?_;refine zm ?_;refine zm ?_;refine q_v (za (hc:=q_c K)) ?_;refine zb ?_|refine q_k 6 ?_;refine q_v (zo (hr:=g0)) ?_|refine zf 7 ?_;refine zm ?_;refine zb ?_;refine zm ?_;refine q_v (zF (hr:=g1)) ?_;refine q_x (zev (l:=0) (h:=l.length) (h2:=by omega)) ?_|refine q_k 8 ?_)
  rw[Y];refine q_s (zdD V A L (hL:=Ew (by exact Es) rfl Ez) (harg:=λU X q O=>⟨by rw[T],rfl⟩)) ?_;rintro _ _ ⟨y,F,rfl,rfl,E⟩;cases y
  ·repeat' (first|refine s_0 ?_|(refine zy ?_;first|refine zJ ?_|fail)|fail)
   exact zl0 rfl q_h ⟨F,rfl,.inr ⟨k+1,by omega,E⟩⟩
  ·repeat' (first|refine s_0 ?_|refine zf 9 ?_;refine zm ?_;refine zb ?_;refine zm ?_;refine zb ?_;refine q_v (zF (hr:=g2)) ?_;refine q_v (zev (l:=l.length+1) (h:=l.length+1+m.length) (hh:=by rw[<-R];exact zbJ) (h2:=by omega)) ?_;refine zO ?_|(refine zy ?_;first|refine zJ ?_|fail)|fail)
   rw[Z];refine zE (m,k+1,F) ⟨Q,E,by dsimp only;omega⟩ ?_ ?_ ?_
   ·show m.length<(l++46::m).length;simp;omega
   ·exact q_h
   ·exact q_h
attribute [local irreducible] zaP
theorem zqU(c:UInt8):(65<=c.toNat/\c.toNat<=90/\zcB c=true)\/(c.toNat<65/\48<=c.toNat/\c.toNat<=57/\zcB c=true)\/(c.toNat=45/\zcB c=true)\/(c.toNat<48/\c.toNat≠45/\zcB c=false)\/(57<c.toNat/\c.toNat<65/\zcB c=false)\/(90<c.toNat/\zcB c=false):=by
 have h:(65<=c.toNat/\c.toNat<=90)\/(c.toNat<65/\48<=c.toNat/\c.toNat<=57)\/(c.toNat=45)\/(c.toNat<48/\c.toNat≠45)\/(57<c.toNat/\c.toNat<65)\/(90<c.toNat):=q_o;have j:((65<=c.toNat/\c.toNat<=90)\/(48<=c.toNat/\c.toNat<=57))\/c.toNat=45->zcB c=true:=λh=>by
  simp only[zcB,Be,AA,decide_eq_true_eq];exact h
 have no:¬(((65<=c.toNat/\c.toNat<=90)\/(48<=c.toNat/\c.toNat<=57))\/c.toNat=45)->zcB c=false:=λh=>by
  rw[Cl];intro m;apply h;simpa only[zcB,Be,AA,decide_eq_true_eq] using m
 rcases h with h|h|h|h|h|h
 ·exact .inl ⟨h.1,h.2,j (.inl (.inl h))⟩
 ·exact .inr (.inl ⟨h.1,h.2.1,h.2.2,j (.inl (.inr h.2))⟩)
 ·exact .inr (.inr (.inl ⟨h,j (.inr h)⟩))
 ·exact .inr (.inr (.inr (.inl ⟨h.1,h.2,no q_o⟩)))
 ·exact .inr (.inr (.inr (.inr (.inl ⟨h.1,h.2,no q_o⟩))))
 ·exact .inr (.inr (.inr (.inr (.inr ⟨h,no q_o⟩))))
theorem zu4(l:List UInt8)(w:World)(hl:l.length<1000000000):q_G 168 [zT l] w (.bool (zbA l)):=by
 refine zt Tryz.func168 Tryz.ntmps168 ?_;have hz:=λB=>zos l B;have U:=λB=>zo8 l B;unfold zT zll at*;have T:zbA l=((decide (1<=l.length)&&decide (l.length<=32))&&(zaP l).all zfp):=by rw[zbA,zj1 l.length l (A6 _)]
 rw[T];generalize (decide (1<=l.length)&&decide (l.length<=32))=s at*;cases s
 ·rw[BZ];repeat' (first|refine s_0 ?_|refine zf 0 ?_;refine zj ?_;intro _|refine q_k 1 ?_;refine q_v (za (hc:=q_c hz)) ?_;refine zJ ?_|refine zf 2 ?_;refine zO ?_)
  exact zap rfl (zdU rfl (ty rfl) rfl Ev rfl) Er ⟨rfl,rfl⟩
 rw[B6];repeat' (first|refine s_t ?_|refine zf 0 ?_;refine zj ?_;intro _|refine q_k 1 ?_;refine q_v (za (hc:=q_c hz)) ?_;refine zJ ?_|refine q_k 3 ?_;(refine q_s (zi (hc:=λB X K hh=>U B)) ?_;rintro _ _ ⟨R,rfl,Z,b4,b5,rfl,rfl⟩))
 rename_i N;refine zmi False (γ:=Unit) (xs:=zaP l) (Arg:=zzf) zdb rfl (en rfl) rfl (λk _=>((zaP l).take k).all zfp=true) (λc _ _=>c= .ret/\(zaP l).all zfp=false)
  (λ_=>[.blk N 4 [.bool false]]) [.blk b4 9 [.string (str [46])],.blk Z 9 [.string (str l)],.blk b5 3 [.int .i64 0]] [] [] () rfl ?_ ?_ (λh=>h.elim) ?_ ?_ ?_ ?_
 ·exact Ax (l₁:=[_,_,_]) (l₂:=[_])
 ·exact λB Mi X K hm _ _=>zsQ Z b4 b5 l B Mi hl
 ·rintro O x vs RA B ⟨rfl,_⟩;rfl
 ·rintro lp k K ⟨⟩ vs RA W rec a7 M ⟨rfl,rfl⟩ a8 E;clear E;have J:(zaP l)[k]∈zaP l:=Ad K;have V:(zaP l).take (k+1)=(zaP l).take k++[(zaP l)[k]]:=zaO K;have m:zfp (zaP l)[k]=false->(zaP l).all zfp=false:=λh=>by
   rw[Bk];exact⟨_,J,by rw[h];decide⟩
  have q:zfp (zaP l)[k]=true->((zaP l).take (k+1)).all zfp=true:=λh=>by
   rw[V,BW,M];simp[h]
  have a6:=zla l.length l (A6 _) _ J;generalize (zaP l)[k]=x at*;by_cases hx:x= []
  ·subst hx;have hb:=m rfl;repeat' (first|refine s_t ?_|apply zcH;(focus ((repeat (first|exact Es|apply Eu));done));assumption|refine q_k 4 ?_|refine q_k 5 ?_;refine q_v (zbD (hr:=decide_eq_true rfl)) ?_|refine zf 6 ?_;refine zO ?_)
   exact zfS () ⟨rfl,hb⟩ q_h
  have g0:=decide_eq_false hx;have S:zfp x=x.all zcB:=by
   cases x with
   |nil=>exact absurd rfl hx
   |cons c x=>simp[zfp]
  rw[S] at m q;have hs:((str x).size:Int)=(x.length:Int):=rfl;repeat' (first|refine s_t ?_|apply zcH;(focus ((repeat (first|exact Es|apply Eu));done));assumption|refine zD [4,7] ?_;refine zb ?_|refine q_k 5 ?_;refine q_v (zbD (hr:=g0)) ?_)
  refine zN (γ:=Nat) (λi=>[(2,.pointer (some ⟨N,0,none⟩)),(3,.string (str x)),(15,.int .i64 (x.length:Int)),(16,.int .i64 (i:Int))]) (λ_=>[.obj lp (.loop (busy rec)),.blk N 4 [.bool false]]) (λi=>i<=x.length/\(x.take i).all zcB=true) (λi=>x.length-i) 0 ⟨A9 _,rfl⟩ ?_ ?_ ?_
  ·exact q_h
  ·exact q_h
  rintro i ⟨hi,C⟩;by_cases hlt:i<x.length
  ·have g1:decide ((i:Int)<(x.length:Int))=true:=q_d;have g5:IntKind.i64.wrap ((i:Int)+1)=((i+1:Nat):Int):=q_w;have hv:(str x).data[i]?=some x[i]:=by show x.toArray[i]?=_;rw[BH,A1 hlt]
   have Y:x.take (i+1)=x.take i++[x[i]]:=zaO hlt;have Q:x[i]∈x:=Ad hlt;have F:zcB x[i]=false->x.all zcB=false:=λh=>by
    rw[Bk];exact⟨_,Q,by rw[h];decide⟩
   have H:zcB x[i]=true->(x.take (i+1)).all zcB=true:=λh=>by
    rw[Y,BW,C];simp[h]
   have A:=zqU x[i];generalize x[i]=c at*;rcases A with ⟨I,P,r⟩|⟨I,P,r,h4⟩|⟨I,r⟩|⟨I,P,r⟩|⟨I,P,r⟩|⟨I,r⟩
   ·have G:=H r;repeat' (first|refine s_t ?_|refine zf 8 ?_;refine q_v (zo (hr:=g1)) ?_|refine q_k 9 ?_|refine q_k 10 ?_;refine q_x (zR (j:=i) (hv:=hv)) ?_|refine q_k 11 ?_;refine zag ?_;refine zb ?_;refine q_x zH ?_|refine zf 13 ?_;refine q_x (zF (hr:=g5)) ?_)
    refine zE (i+1) ⟨hlt,G⟩ ?_ ?_ ?_
    ·show x.length-(i+1)<x.length-i;omega
    ·exact q_h
    ·exact q_h
   ·have G:=H h4;repeat' (first|refine s_t ?_|refine zf 8 ?_;refine q_v (zo (hr:=g1)) ?_|refine q_k 9 ?_|refine q_k 10 ?_;refine q_x (zR (j:=i) (hv:=hv)) ?_|refine q_k 11 ?_;refine zag ?_;refine zb ?_;refine zag ?_;refine zb ?_;refine q_x zH ?_|refine zf 13 ?_;refine q_x (zF (hr:=g5)) ?_)
    refine zE (i+1) ⟨hlt,G⟩ ?_ ?_ ?_
    ·show x.length-(i+1)<x.length-i;omega
    ·exact q_h
    ·exact q_h
   ·have G:=H r;repeat' (first|refine s_t ?_|refine zf 8 ?_;refine q_v (zo (hr:=g1)) ?_|refine q_k 9 ?_|refine q_k 10 ?_;refine q_x (zR (j:=i) (hv:=hv)) ?_|refine q_k 11 ?_;refine zag ?_;refine zb ?_;refine zag ?_;refine zb ?_;refine zaA ?_;refine zb ?_|refine zf 13 ?_;refine q_x (zF (hr:=g5)) ?_)
    refine zE (i+1) ⟨hlt,G⟩ ?_ ?_ ?_
    ·show x.length-(i+1)<x.length-i;omega
    ·exact q_h
    ·exact q_h
   ·have L:=m (F r);repeat' (first|refine s_t ?_|refine zf 8 ?_;refine q_v (zo (hr:=g1)) ?_|refine q_k 9 ?_|refine q_k 10 ?_;refine q_x (zR (j:=i) (hv:=hv)) ?_|refine q_k 11 ?_;refine zag ?_;refine zb ?_;refine zag ?_;refine zb ?_;refine zaA ?_;refine zb ?_|refine zf 12 ?_;refine zO ?_)
    exact zfS () ⟨rfl,L⟩ q_h
   ·have L:=m (F r);repeat' (first|refine s_t ?_|refine zf 8 ?_;refine q_v (zo (hr:=g1)) ?_|refine q_k 9 ?_|refine q_k 10 ?_;refine q_x (zR (j:=i) (hv:=hv)) ?_|refine q_k 11 ?_;refine zag ?_;refine zb ?_;refine zag ?_;refine zb ?_;refine q_x zH ?_;refine zaA ?_;refine zb ?_|refine zf 12 ?_;refine zO ?_)
    exact zfS () ⟨rfl,L⟩ q_h
   ·have L:=m (F r);repeat' (first|refine s_t ?_|refine zf 8 ?_;refine q_v (zo (hr:=g1)) ?_|refine q_k 9 ?_|refine q_k 10 ?_;refine q_x (zR (j:=i) (hv:=hv)) ?_|refine q_k 11 ?_;refine zag ?_;refine zb ?_;refine q_x zH ?_;refine zag ?_;refine zb ?_;refine q_x zH ?_;refine zaA ?_;refine zb ?_|refine zf 12 ?_;refine zO ?_)
    exact zfS () ⟨rfl,L⟩ q_h
  obtain rfl:i=x.length:=q_o;rw[A8 (A6 _)] at C;have G:=q C;have g1:decide ((x.length:Int)<(x.length:Int))=false:=q_f;repeat' (first|refine s_0 ?_|refine zf 8 ?_;refine q_v (zo (hr:=g1)) ?_)
  exact zgv () G q_h
 ·rintro⟨⟩ M;rw[A8 (A6 _)] at M;rw[M];repeat' (first|refine s_0 ?_|refine zf 14 ?_;refine zO ?_)
  exact zap rfl (zdU rfl (ty rfl) rfl Ev rfl) Er ⟨rfl,rfl⟩
 ·rintro c k ⟨⟩ K ⟨rfl,m⟩;rw[m];repeat' (first|refine s_0 ?_|fail)
  exact zap rfl (zdU rfl (ty rfl) rfl Ev rfl) Er ⟨rfl,rfl⟩
theorem zge(C:List Value)(p:Prin)(w:World)(h:PrinIn w C p)(hb:p.parts.length<1000000)(hr:p.realm.length<1000000000)(hp:∀x∈p.parts,x.length<1000000000):q_G 76 [.agg C.toArray] w (.bool p.ok):=by
 obtain⟨⟨a1,L,rfl,V,U,s1,z1⟩,-⟩:=h;refine zt Tryz.func76 Tryz.ntmps76 ?_;have I:=λm=>zu4 p.realm m hr;have G:p.ok=([decide (1<=p.parts.length),decide (p.parts.length<=4),zbA p.realm].all id&&p.parts.all zb0):=by simp[Prin.ok,Ee]
 have B:=λm b (h:m.rangeAt b 0 [.bool (decide (1<=p.parts.length)),.bool (decide (p.parts.length<=4)),.bool (zbA p.realm)])=>zxv b 3 [decide (1<=p.parts.length),decide (p.parts.length<=4),zbA p.realm] m rfl q_e h;have N:decide ((p.parts.length:Int)>=1)=decide (1<=p.parts.length):=decide_eq_decide.2 q_o;have O:decide ((p.parts.length:Int)<=4)=decide (p.parts.length<=4):=decide_eq_decide.2 q_o;have H:=λx (A:x∈p.parts) m=>zwf x m (hp x A);unfold zT at*;rw[G];generalize zbA p.realm=u3,decide (p.parts.length<=4)=Z,decide (1<=p.parts.length)=Y,[decide (1<=p.parts.length),decide (p.parts.length<=4),zbA p.realm].all id=u at*;obtain⟨parts,realm⟩:=p;dsimp only at*;generalize T:parts.length=n at*;repeat' (first|refine s_0 ?_|refine zf 0 ?_;refine zW ?_;intro _)
 rename_i P
 (refine zdC (id:=1) [0,1,2,3,4,5,6,7,8,9] [10,11,12,13] mixed ?_ ?_;kernel_rfl;refine yfv zM (k:=?_);refine yfv zL (k:=?_);refine yfv ze9 (k:=?_);refine yfv (zP (hr:=N)) (k:=?_);refine yfv zM (k:=?_);refine yfv zL (k:=?_);refine yfv ze9 (k:=?_);refine yfv (zaF (hr:=O)) (k:=?_);refine yfv zM (k:=?_);refine yfv zL (k:=?_);refine yf0 ?_;refine ycv (za (hc:=q_c I)) (k:=?_);(refine ycs zz (k:=?_);rintro _ _ ⟨K,rfl,rfl⟩);refine ycv (za (hc:=λm X S M=>B m K (zp (M.has q_h) Et))) (k:=?_);refine ycv ziH (k:=?_);try refine yc0 (k:=?_))
 cases u
 ·rw[BZ];repeat' (first|refine s_0 ?_|refine q_k 2 ?_)
  exact q_r
 rw[B6];repeat' (first|refine s_t ?_|refine q_k 3 ?_;refine zm ?_;refine zb ?_)
 refine zN (γ:=Nat) (λi=>[(20,.slice a1 n L),(21,.int .i64 (n:Int)),(22,.int .i64 (i:Int))]) (λ_=>[]) (λi=>i<=n/\(parts.take i).all zb0=true) (λi=>n-i) 0 ⟨A9 _,rfl⟩ ?_ ?_ ?_
 ·exact q_h
 ·exact q_h
 rintro i ⟨R,q⟩;by_cases hlt:i<n
 ·obtain⟨Q,W,rfl,r⟩:=zb2 s1 (i:=i) (by rw[A0];omega);have hc:=r i _ (zcM _ q_o);have g1:decide ((i:Int)<(n:Int))=true:=q_d;have g5:IntKind.i64.wrap ((i:Int)+1)=((i+1:Nat):Int):=q_w;have J:parts.take (i+1)=parts.take i++[parts[i]]:=zaO q_o;have F:parts[i]∈parts:=Ad q_o;have A:=H parts[i] F;generalize parts[i]=x at*;by_cases hxo:zb0 x=true
  ·rw[hxo] at A;repeat' (first|refine s_t ?_|refine zf 4 ?_;refine q_v (zo (hr:=g1)) ?_|refine zf 5 ?_;refine q_v (zq (j:=i)) ?_;refine q_x (zn (hv:=hc)) ?_|refine q_k 6 ?_;refine q_v (za (hc:=q_c A)) ?_;refine zJ ?_|refine zf 8 ?_;refine q_x (zF (hr:=g5)) ?_)
   refine zE (i+1) ⟨hlt,by rw[J,BW,q];simp[hxo]⟩ ?_ ?_ ?_
   ·show n-(i+1)<n-i;omega
   ·exact q_h
   ·exact q_h
  ·rw[C8] at hxo;rw[hxo] at A;have E:parts.all zb0=false:=by rw[Bk];exact⟨x,F,by rw[hxo];decide⟩
   rw[E];repeat' (first|refine s_t ?_|refine zf 4 ?_;refine q_v (zo (hr:=g1)) ?_|refine zf 5 ?_;refine q_v (zq (j:=i)) ?_;refine q_x (zn (hv:=hc)) ?_|refine q_k 6 ?_;refine q_v (za (hc:=q_c A)) ?_;refine zJ ?_|refine q_k 7 ?_)
   exact q_r
 obtain rfl:i=n:=q_o;rw[A8 q_o] at q;rw[q];have g1:decide ((i:Int)<(i:Int))=false:=q_f;repeat' (first|refine s_0 ?_|refine zf 4 ?_;refine q_v (zo (hr:=g1)) ?_|refine q_k 9 ?_)
 exact q_r
end
open Go Go.Sy Go.Ct Go.RowKit
attribute [local irreducible] Sy SyL SyX Sy.Fn callFunc
theorem zqt(v:Int)(m:Nat)(w:World)(hm:m<=8):Sy.Fn Tryz.prog 194 [.int .i64 v,.int .i64 (m:Int)] w No (λr R=>∃b,r= .slice (some ⟨b,0,none⟩) m m/\R= [.blk b 5 ((beZ v m).map v8)]):=by
 refine zt Tryz.func194 Tryz.ntmps194 ?_;repeat' (first|refine s_t ?_|refine zD [0,1,2] ?_;refine zb ?_|refine q_s (zeD (n:=m)) ?_;rintro _ _ ⟨F,rfl,rfl⟩|(refine zy ?_;first|refine zw ?_|fail)|fail)
 refine zN (γ:=Nat) (λi=>[(0,.int .i64 v),(1,.int .i64 (m:Int)),(5,.slice (some ⟨F,0,none⟩) m m),(10,.int .i64 (m:Int)),(11,.int .i64 (i:Int))]) (λi=>[.blk F 5 (List.replicate (m-i) (Value.int .u8 0)++(beZ v i).map v8)]) (λi=>i<=m) (λi=>m-i) 0 (A9 _) ?_ ?_ ?_
 ·exact q_h
 ·rw[CD,show(beZ v 0).map v8= [] from rfl,AG];exact q_h
 rintro i I;rcases AF i m with h|h
 ·have B:decide ((i:Int)<(m:Int))=true:=q_d;have g1:IntKind.i64.wrap ((m:Int)-1)=((m-1:Nat):Int):=q_w;have g2:IntKind.i64.wrap (((m-1:Nat):Int)-(i:Int))=((m-1-i:Nat):Int):=q_w;have g3:IntKind.i64.wrap (8*(i:Int))=((8*i:Nat):Int):=q_w;have g4:Op.shift .shr .i64 v .i64 ((8*i:Nat):Int)=pure (.int .i64 (v/256^i)):=by rw[zzd v (8*i) _ q_o,zwt]
  have g5:IntKind.i64.wrap ((i:Int)+1)=((i+1:Nat):Int):=q_w;have g6:=u8Z (v/256^i);have A:=zwW v m i h;have H:(List.replicate (m-i) (Value.int .u8 0)++(beZ v i).map v8).length=m:=by simp only[A2,AJ,A0,zjz];omega
  generalize List.replicate (m-i) (Value.int .u8 0)++(beZ v i).map v8=C at*;obtain⟨G,E⟩:∃G,G=List.replicate (m-(i+1)) (Value.int .u8 0)++(beZ v (i+1)).map v8:=⟨_,rfl⟩;rw[<-E] at A;generalize v/256^i=q at*;repeat' (first|refine s_t ?_|refine zf 3 ?_;refine q_v (zo (hr:=B)) ?_|refine q_k 4 ?_|refine q_k 5 ?_;refine q_x (zI (hr:=g1)) ?_;refine q_x (zI (hr:=g2)) ?_;refine q_v (zaJ (hr:=g3)) ?_;refine q_v (zce (hr:=g4)) ?_;refine q_v (zam (hr:=g6)) ?_;refine q_v (zq (j:=m-1-i)) ?_;refine q_n (zaM (hC:=by rw[AZ];exact A)) ?_|refine zf 6 ?_;refine q_x (zF (hr:=g5)) ?_)
  refine zE (i+1) h ?_ ?_ ?_
  ·show m-(i+1)<m-i;omega
  ·exact q_h
  ·rw[<-E];exact q_h
 obtain rfl:i=m:=q_o;have B:decide ((i:Int)<(i:Int))=false:=q_f;rw[C5,CZ,Af];repeat' (first|refine s_0 ?_|refine zf 3 ?_;refine q_v (zo (hr:=B)) ?_|refine q_k 7 ?_)
 exact zap rfl (zh rfl) q_h ⟨F,rfl,rfl⟩
theorem znX(t:Nat)(a:Option Addr)(m d:Nat)(xs:List Bs)(w:World)(ht:t<256)(hm:xs.length=m)(b2:m<1000)(b3:m<=d)(b0:SlA w a (xs.map Bs.val))(a8:∀s∈xs,s.ok w)(hb:(Bs.cat xs).length<16777216):
  Sy.Fn Tryz.prog 172 [.int .u8 (t:Int),.slice a m d] w No (zbG 5 (tlv t (Bs.cat xs)).length ((tlv t (Bs.cat xs)).map v8)):=by
 refine zt Tryz.func172 Tryz.ntmps172 ?_;have U:∀i,(Bs.cat (xs.take i)).length<=(Bs.cat xs).length:=λi=>by
  have:Bs.cat xs=Bs.cat (xs.take i)++Bs.cat (xs.drop i):=by unfold Bs.cat;rw[<-CM,Bb]
  rw[this,A2];omega
 have O:=λi (h:i<m)=>Fq xs i q_o;have N:=λj (h:j<m)=>a8 xs[j] (Ad q_o);have M:=λi (h:i<m)=>Bs.get b0 (i:=i) q_o;repeat' (first|refine s_t ?_|refine zD [0,1,2] ?_;refine zb ?_)
 refine zN (γ:=Nat) (λi=>[(0,.int .u8 (t:Int)),(1,.slice a m d),(11,.slice a m d),(12,.int .i64 m),(13,.int .i64 i),(5,.int .i64 ((Bs.cat (xs.take i)).length:Nat))]) (λ_=>[]) (λi=>i<=m) (λi=>m-i) 0 (A9 _) ?_ ?_ ?_
 ·exact q_h
 ·exact q_h
 intro i hi;by_cases hlt:i<m
 ·obtain⟨bl,ol,rfl,A⟩:=M i hlt;have S:=A i q_o;have W:=N i hlt;have X:=O i hlt;have Q:=U (i+1);rw[X,A2] at Q;have r:xs[i].l.length=xs[i].n:=W.len;rw[r] at Q;have hT:((Bs.cat (xs.take (i+1))).length:Int)=((Bs.cat (xs.take i)).length:Int)+(xs[i].n:Int):=by rw[X,A2,r,Di]
  obtain⟨T',R⟩:∃t,t=(Bs.cat (xs.take (i+1))).length:=⟨_,rfl⟩;rw[<-R] at hT;generalize xs[i]=s,(Bs.cat xs).length=q,(Bs.cat (xs.take i)).length=T at*;obtain⟨sa,sn,sc,sl⟩:=s;dsimp only at*;have g1:decide ((i:Int)<(m:Int))=true:=q_d;have g2:IntKind.i64.wrap (16777215-(T:Int))=16777215-(T:Int):=IntWalk.i64_in _ q_o;have g3:decide (16777215-(T:Int)<(sn:Int))=false:=q_f;have g4:IntKind.i64.wrap ((T:Int)+(sn:Int))=((T':Nat):Int):=q_w;have g5:IntKind.i64.wrap ((i:Int)+1)=((i+1:Nat):Int):=q_w;repeat' (first|refine s_t ?_|refine zf 3 ?_;refine q_v (zo (hr:=g1)) ?_|refine zf 4 ?_;refine q_v (zq (j:=i)) ?_;refine q_x (zn (hv:=S)) ?_|refine q_k 5 ?_;refine q_v (zI (hr:=g2)) ?_;refine q_v (zH (hr:=g3)) ?_|refine q_k 7 ?_;refine q_x (zF (hr:=g4)) ?_|refine zf 8 ?_;refine q_x (zF (hr:=g5)) ?_)
  refine zE (i+1) hlt ?_ ?_ ?_
  ·show m-(i+1)<m-i;omega
  ·rw[<-R];exact q_h
  ·exact q_h
 obtain rfl:i=m:=q_o;have L:xs.take i=xs:=A8 q_o;rw[L];have g1:decide ((i:Int)<(i:Int))=false:=q_f;obtain⟨q,B⟩:∃n,n=(Bs.cat xs).length:=⟨_,rfl⟩;rw[<-B] at hb;have V:∀j,(Bs.cat (xs.take j)).length<=q:=λj=>B ▸ U j;obtain⟨H,Z⟩:∃H,H=UInt8.ofNat t::zbW q:=⟨_,rfl⟩;have Y:tlv t (Bs.cat xs)=H++Bs.cat xs:=by rw[Z,B];rfl
 have b1:H.length<=5:=by rw[Z,AQ];have:=zko q;omega
 have I:H.map v8= .int .u8 (t:Int)::(zbW q).map v8:=by rw[Z,Aw,<-v8_lit t ht]
 rw[zpX] at I;have g2:IntKind.i64.wrap ((q:Int)+5)=((q+5:Nat):Int):=q_w;have g3:=u8N q;have g4:=u8N (q/2^8);have g5:=u8N (q/2^16);have q1:=λkk=>zvJ q 8 kk q_e;have q2:=λkk=>zvJ q 16 kk q_e;rw[Y,<-B];repeat' (first|refine s_0 ?_|refine zf 3 ?_;refine q_v (zo (hr:=g1)) ?_|refine q_k 9 ?_;refine q_v (zF (hr:=g2)) ?_|refine q_s (zkU (n:=0) (c':=q+5) (A9 _)) ?_;rintro _ _ ⟨b8,rfl,rfl⟩|(refine zy ?_;first|refine zw ?_|fail)|fail)
 refine zbz (zlc (b:=b8) (E:=5) (s:=1) (n:=0) (c:=q+5) (xs:=[]) (J:=List.replicate (q+5) (Value.int .u8 0)) Es q_p (A9 _) (by unfold maxLen;omega) rfl) ?_;repeat' (first|refine s_0 ?_|refine q_k 10 ?_;(refine q_s zz ?_;rintro _ _ ⟨_,rfl,rfl⟩);(refine q_s zaE ?_;rintro _ _ ⟨rfl,_,_,rfl⟩);refine zb ?_)
 rename_i aT cT;refine zcn (γ:=Option Addr×Nat) (λg=>[(1,.slice a i d),(8,.slice g.1 H.length g.2)]) (λg=>[.row (.slice g.1 H.length g.2) 5 1 H.length (H.map v8)]) (λ_=>True) ?_ ?_
 ·have S:q<128\/(128<=q/\q<256)\/(256<=q/\q<65536)\/65536<=q:=q_o;rcases S with h|h|h|h
  ·rw[if_pos h] at I;have e: [Value.int .u8 (t:Int)]++[.int .u8 (Wd.n8 (UInt8.ofNat q))]=H.map v8:=I.symm;have C:1+1=H.length:=by rw[<-A0 v8,<-e];rfl
   have k1:decide ((q:Int)<128)=true:=q_d;repeat' (first|refine s_t ?_|refine q_k 12 ?_;refine q_x (zo (hr:=k1)) ?_|refine q_k 13 ?_;refine q_v (zam (hr:=g3)) ?_;(refine q_s zz ?_;rintro _ _ ⟨_,rfl,rfl⟩);(refine q_s (zaE (hys:=e) (hkm:=C)) ?_;rintro _ _ ⟨rfl,F,G,rfl⟩);refine zb ?_)
   exact zak (F,G) trivial q_h q_h
  ·rw[if_neg q_o,if_pos h.2] at I;have e: [Value.int .u8 (t:Int)]++[.int .u8 129,.int .u8 (Wd.n8 (UInt8.ofNat q))]=H.map v8:=I.symm;have C:1+2=H.length:=by rw[<-A0 v8,<-e];rfl
   have k1:decide ((q:Int)<128)=false:=q_f;have k2:decide ((q:Int)<256)=true:=q_d;repeat' (first|refine s_t ?_|refine q_k 12 ?_;refine q_x (zo (hr:=k1)) ?_|refine q_k 14 ?_;refine q_x (zo (hr:=k2)) ?_|refine q_k 15 ?_;refine q_v (zam (hr:=g3)) ?_;(refine q_s zz ?_;rintro _ _ ⟨_,rfl,rfl⟩);(refine q_s (zaE (hys:=e) (hkm:=C)) ?_;rintro _ _ ⟨rfl,F,G,rfl⟩);refine zb ?_)
   exact zak (F,G) trivial q_h q_h
  ·rw[if_neg q_o,if_neg q_o,if_pos h.2] at I;have e: [Value.int .u8 (t:Int)]++[.int .u8 130,.int .u8 (Wd.n8 (UInt8.ofNat (q/2^8))),.int .u8 (Wd.n8 (UInt8.ofNat q))]=H.map v8:=I.symm;have C:1+3=H.length:=by rw[<-A0 v8,<-e];rfl
   have k1:decide ((q:Int)<128)=false:=q_f;have k2:decide ((q:Int)<256)=false:=q_f;have k3:decide ((q:Int)<65536)=true:=q_d;repeat' (first|refine s_t ?_|refine q_k 12 ?_;refine q_x (zo (hr:=k1)) ?_|refine q_k 14 ?_;refine q_x (zo (hr:=k2)) ?_|refine q_k 16 ?_;refine q_x (zo (hr:=k3)) ?_|refine q_k 17 ?_;refine q_v (zce (hr:=q1 _)) ?_;refine q_x (zam (hr:=g4)) ?_;refine q_v (zam (hr:=g3)) ?_;(refine q_s zz ?_;rintro _ _ ⟨_,rfl,rfl⟩);(refine q_s (zaE (hys:=e) (hkm:=C)) ?_;rintro _ _ ⟨rfl,F,G,rfl⟩);refine zb ?_)
   exact zak (F,G) trivial q_h q_h
  ·rw[if_neg q_o,if_neg q_o,if_neg q_o] at I;have e: [Value.int .u8 (t:Int)]++[.int .u8 131,.int .u8 (Wd.n8 (UInt8.ofNat (q/2^16))),.int .u8 (Wd.n8 (UInt8.ofNat (q/2^8))),.int .u8 (Wd.n8 (UInt8.ofNat q))]=H.map v8:=I.symm;have C:1+4=H.length:=by rw[<-A0 v8,<-e];rfl
   have k1:decide ((q:Int)<128)=false:=q_f;have k2:decide ((q:Int)<256)=false:=q_f;have k3:decide ((q:Int)<65536)=false:=q_f;repeat' (first|refine s_t ?_|refine q_k 12 ?_;refine q_x (zo (hr:=k1)) ?_|refine q_k 14 ?_;refine q_x (zo (hr:=k2)) ?_|refine q_k 16 ?_;refine q_x (zo (hr:=k3)) ?_|refine q_k 11 ?_;refine q_v (zce (hr:=q2 _)) ?_;refine q_x (zam (hr:=g5)) ?_;refine q_v (zce (hr:=q1 _)) ?_;refine q_x (zam (hr:=g4)) ?_;refine q_v (zam (hr:=g3)) ?_;(refine q_s zz ?_;rintro _ _ ⟨_,rfl,rfl⟩);(refine q_s (zaE (hys:=e) (hkm:=C)) ?_;rintro _ _ ⟨rfl,F,G,rfl⟩);refine zb ?_)
   exact zak (F,G) trivial q_h q_h
 rintro⟨aH,cH⟩ -;dsimp only;repeat' (first|refine s_t ?_|refine q_k 18 ?_)
 refine zN (γ:=Nat×Option Addr×Nat) (λg=>[(72,.slice a i d),(73,.int .i64 i),(74,.int .i64 g.1),(8,.slice g.2.1 (H++Bs.cat (xs.take g.1)).length g.2.2)]) (λg=>[.row (.slice g.2.1 (H++Bs.cat (xs.take g.1)).length g.2.2) 5 1 (H++Bs.cat (xs.take g.1)).length ((H++Bs.cat (xs.take g.1)).map v8)]) (λg=>g.1<=i) (λg=>i-g.1) (0,aH,cH) (A9 _) ?_ ?_ ?_
 ·rw[show H++Bs.cat (xs.take 0)=H by rw[Bu];exact AG _];exact q_h
 ·rw[show H++Bs.cat (xs.take 0)=H by rw[Bu];exact AG _];exact q_h
 rintro⟨j,aJ,cJ⟩ hj;dsimp only at hj ⊢;by_cases hlt:j<i
 ·obtain⟨bl,ol,rfl,A⟩:=M j hlt;have S:=A j q_o;have W:=N j hlt;have X:=O j hlt;have Q:=V (j+1);have r:xs[j].l.length=xs[j].n:=W.len;have a9:=W.sla;have a7:=W.nil;have e:(H++Bs.cat (xs.take j)).map v8++xs[j].l.map v8=(H++Bs.cat (xs.take (j+1))).map v8:=by rw[X,<-AH];exact Aq.symm
  have C:(H++Bs.cat (xs.take j)).length+xs[j].n=(H++Bs.cat (xs.take (j+1))).length:=by rw[X];simp only[A2,r];omega
  have a6:(H++Bs.cat (xs.take (j+1))).length<20000000:=by rw[A2];omega
  generalize (H++Bs.cat (xs.take j))=K at*;obtain⟨K',P⟩:∃k,k=H++Bs.cat (xs.take (j+1)):=⟨_,rfl⟩;rw[<-P] at e C a6;generalize xs[j]=s at*;obtain⟨sa,sn,sc,sl⟩:=s;dsimp only at*;have g1:decide ((j:Int)<(i:Int))=true:=q_d;have g6:IntKind.i64.wrap ((j:Int)+1)=((j+1:Nat):Int):=q_w;repeat' (first|refine s_t ?_|refine zf 19 ?_;refine q_v (zo (hr:=g1)) ?_|refine zf 20 ?_;refine q_v (zq (j:=j)) ?_;refine q_x (zn (hv:=S)) ?_|refine q_k 21 ?_;(refine q_s (zaE (hr:=FM a9 (λ_ _ h=>h)) (hn:=by rw[A0,r,Ak]) (hnil:=a7) (hys:=e) (hkm:=C)) ?_;rintro _ _ ⟨rfl,F,G,rfl⟩);refine zb ?_|refine zf 22 ?_;refine q_x (zF (hr:=g6)) ?_)
  refine zE (j+1,F,G) hlt ?_ ?_ ?_
  ·show i-(j+1)<i-j;omega
  ·dsimp only;rw[<-P];exact q_h
  ·dsimp only;rw[<-P];exact q_h
 obtain rfl:j=i:=q_o;have g6:decide ((j:Int)<(j:Int))=false:=q_f;rw[L];repeat' (first|refine s_0 ?_|refine zf 19 ?_;refine q_v (zo (hr:=g6)) ?_|refine q_k 23 ?_)
 exact q_r
end Go.Proofs.YtdnlngbjpdbffaaGreatDoor
