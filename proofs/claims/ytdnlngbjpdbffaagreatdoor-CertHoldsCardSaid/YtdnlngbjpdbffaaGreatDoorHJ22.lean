/- Lemmas of this proof. -/
import Derived.Test.YtdnlngbjpdbffaaGreatDoorHJ21
import Derived.Deep.QuietTactic
import Derived.BigQuiet
import Derived.Lib.Hide
import Derived.WalkSpells
import Derived.WalkLawsBesides
import Derived.Deep.RegionHeld3
import Derived.Deep.DrawnRows
import Derived.StillTailTactics
set_option maxHeartbeats 1000000
set_option maxRecDepth 10000
set_option linter.all false
namespace Go.Wd
open Go Go.RowKit Go.Sy
def vi(x:UInt32):Value:=.int .i64 (n32 x)
theorem zuO(a:Int)(h0: -9223372036854775808<=a)(h1:a<9223372036854775808):IntKind.i64.wrap a=a:=IntWalk.i64_in _ q_o
end Go.Wd
namespace Go.Sh
open Go.Wd Go.RowKit Go.Sy
def zqw(O:Nat->Prop)(x:List UInt8)(vs:List Value)(RA:List Res)(W:World):Prop:=∃b o,vs= [.slice (some ⟨b,o,none⟩) 64 64]/\RA= []/\W.rangeAt b o (x.map Sy.v8)/\¬O b
theorem ztL(n i:Nat)(j:i<8):Op.shift .shr .u64 ((n:Int)*8) .i64 (8*(i:Int))=pure (.int .u64 (((8*n)/256^i:Nat):Int))/\IntKind.u8.wrap (((8*n)/256^i:Nat):Int)=n8 (UInt8.ofNat ((8*n)/256^i)):=by
 refine⟨?_,?_⟩
 ·rw[show(8*(i:Int))=((8*i:Nat):Int) from (BW 8 i).symm,shift_shr_any _ _ _ _ (Be _),Bc,show min (8*i) IntKind.u64.bits=8*i from BX (by show 8*i<=64;omega)];congr 2;rw[show((n:Int)*8)=((8*n:Nat):Int) from by omega,show((2:Int)^(8*i))=((256^i:Nat):Int) by rw[EJ,Int.pow_mul];rfl,<-E2]
 ·rw[wrap_u8_nat,n8_of_nat]
end Go.Sh
namespace Go.Proofs.YtdnlngbjpdbffaaGreatDoor
section
open Go Go.Sy Go.Wd Go.Sh
attribute [local irreducible] Sy SyL SyX Sy.Fn callFunc n8 n32 Rem Has Upd SubR Sy.Sub SetAt Rd Reads Seg RemL
theorem zrK(v:Value)(n:Int)(w:World)(hv:v.oneCell'=true):
  Sy.Fn Tryz.prog 246 [v,.int .i64 n] w No (λu R=>∃j m,u= .func (.func 295) #[] #[.pointer (some ⟨j,0,none⟩),.pointer (some ⟨m,0,none⟩)]/\R= [.blk j 23 [v],.blk m 3 [.int .i64 n]]):=by
 refine zz Tryz.func246 Tryz.ntmps246 ?_;refine zd4 ?_;refine zb3 ?_;refine ya (zre (hv:=hv)) (k:=?_);intro j;repeat' (first|refine s_0 ?_|refine ze 1 ?_;refine q_x zZ ?_|(refine zx ?_;first|refine zo ?_|refine zi ?_;intro _|fail)|fail)
 rename_i m;exact zaq rfl (zj rfl) q_h ⟨j,m,rfl,rfl⟩
theorem zqk(I K:Nat)(a0:Option Addr)(n cap total:Nat)(last:List UInt8)(w:World)(M:Nat->Prop)(hn:last.length=n)(a6:n<=cap)(ht:total<2305843009213693952)
  (b8:SlF w M a0 (last.map Sy.v8)):
  zkH Tryz.prog 295 [.pointer (some ⟨I,0,none⟩),.pointer (some ⟨K,0,none⟩)] (blocks last total) zqw w M [.blk I 23 [.slice a0 n cap],.blk K 3 [.int .i64 total]]:=by
 intro l J Jx j0 b4 hh hY;refine zaT Tryz.func295 rfl Tryz.ntmps295 q_p hh ?_;repeat' (first|refine s_t ?_|refine ze 0 ?_;refine zl ?_;refine zf ?_)
 refine zX (γ:=Nat×Nat×Nat×Option Addr×Res) (λg=>[(0,.func (.yield l) #[] #[]),(1,.pointer (some ⟨I,0,none⟩)),(2,.pointer (some ⟨K,0,none⟩)),(4,.slice g.2.2.2.1 g.2.1 g.2.2.1)])
  (λg=>[g.2.2.2.2,.blk I 23 [.slice a0 n cap],.blk K 3 [.int .i64 total]])
  (λg=>64*g.1+g.2.1=n/\g.2.1<=g.2.2.1/\g.2.2.1<=cap/\J g.1 g.2.2.2.2/\SlF w M g.2.2.2.1 ((last.drop (64*g.1)).map v8))
  (λg=>g.2.1) (0,n,cap,a0,j0) ⟨by simp,a6,A8 _,b4,by simpa using b8⟩ ?_ ?_ ?_
 ·exact q_h
 ·exact q_h
 rintro⟨q,m,c,a1,j⟩ ⟨hq,b7,c3,hJ,H⟩;dsimp only at*;have B:(last.drop (64*q)).length=m:=by rw[List.length_drop];omega
 by_cases hge:64<=m
 ·have b5:q<last.length/64:=q_o;have a7:q<(blocks last total).length:=by rw[zkk];omega
  have c0:(blocks last total)[q]=(last.drop (64*q)).take 64:=by
   have:=zqp last total q b5;rw[A2 a7] at this;exact An this
  obtain⟨b,o,rfl,hr,a8⟩:∃b o,a1=some ⟨b,o,none⟩/\w.rangeAt b o ((last.drop (64*q)).map v8)/\¬M b:=by
   rcases H with h|h
   ·exfalso;have:=congrArg List.length h;rw[A1,B] at this;simp at this;omega
   ·exact h
  have harg:∀(E:World) (X:List Res),Keep M w E->Holds w.heap.size M (j::[]++X) E->zqw j.own (blocks last total)[q] [.slice (some ⟨b,o,none⟩) 64 64] [] E:=λE X F A=>
   ⟨b,o,rfl,rfl,λi v G=>F.cell (hr i v (by
    rw[c0,CS,C7] at G;split at G
    ·exact G
    ·cases G)) a8,λZ=>by
    rcases A.mine j A4 b Z with h|h
    ·have:=World.block_lt_of_cell? w ⟨b,o,none⟩ (u:=Sy.v8 ((last.drop (64*q)).getD 0 0)) (by
      have:=hr 0 (Sy.v8 ((last.drop (64*q)).getD 0 0)) (by rw[Ak,Do,A2 q_o];rfl);rw[Bi] at this;exact this)
     dsimp only at this;omega
    ·exact a8 h⟩
  repeat' (first|refine s_t ?_|refine q_k 1 ?_;refine q_v zai ?_|refine q_k 2 ?_;refine zbR ?_;(refine q_s (zdj hY a7 hJ (hL:=Eo (by exact Ej) rfl Er) (harg:=λE X F A=>harg E _ F A)) ?_;rintro _ _ ⟨y,O,rfl,rfl,N⟩);refine zI ?_)
  refine zew rfl (λh=>?_) (λh=>?_)
  ·obtain rfl:y=false:=by simpa using h
   repeat' (first|refine s_0 ?_|fail)
   exact zln rfl q_h ⟨O,rfl,.inr ⟨q+1,by omega,N⟩⟩
  ·obtain rfl:y=true:=by simpa using h
   repeat' (first|refine s_0 ?_|refine q_k 3 ?_;refine zbR ?_;refine zf ?_)
   refine zQ (q+1,m-64,c-64,zbB (some ⟨b,o,none⟩) 64 c 1,O) ?_ ?_ ?_ ?_
   ·refine⟨by dsimp only;omega,by dsimp only;omega,by dsimp only;omega,N,?_⟩
    ·have:=H.mov (l:=64) (m:=c) (by rw[List.length_map,B];exact b7);rw[<-Cf,Cp,show 64*q+64=64*(q+1) from by omega] at this;exact this
   ·show m-64<m;omega
   ·exact q_h
   ·exact q_h
 -- the end
 obtain⟨r,hr⟩:∃r,r=last.drop (64*q):=⟨_,rfl⟩;have T:last.length/64=q:=q_o;rw[<-hr] at B H;repeat' (first|refine s_0 ?_|refine q_k 1 ?_;refine q_v zai ?_|refine q_k 4 ?_|refine q_k 5 ?_;refine za9 ?_;refine q_v zF ?_)
 refine zda (γ:=Nat) (λS=>[(0,.func (.yield l) #[] #[]),(1,.pointer (some ⟨I,0,none⟩)),(2,.pointer (some ⟨K,0,none⟩)),(4,.slice a1 m c),(5,.int .i64 S)])
  (λ_=>[j,.blk I 23 [.slice a0 n cap],.blk K 3 [.int .i64 total]]) (λS=>S=if m+9>64 then 128 else 64) ?_ ?_
 ·refine zew rfl (λh=>?_) (λh=>?_)
  ·repeat' (first|refine zaC ?_|refine zaD ?_|refine q_k 6 ?_)
   refine zam 128 ?_ ?_ ?_
   ·rw[if_pos (by have:=of_decide_eq_true h;omega)]
   ·exact q_h
   ·exact q_h
  ·repeat' (first|refine zeB ?_|refine zaD ?_|fail)
   refine zam 64 ?_ ?_ ?_
   ·rw[if_neg (by have:=of_decide_eq_false h;omega)]
   ·exact q_h
   ·exact q_h
 intro S hS;have c1:m+9<=S/\S<=128:=by split at hS <;> omega
 have V:zaz (List.replicate S (Value.int .u8 0)) 0 (r.map Sy.v8)=(r++List.replicate (S-m) 0).map Sy.v8:=by
  rw[zwy,A1,B,List.drop_replicate,B2,BU,zpq]
 repeat' (first|refine s_t ?_|refine zL [7,10] ?_;refine zf ?_|refine q_k 8 ?_;refine q_v (ze8 (Rd.oldF H) (by rw[A1,B]) V) ?_|refine q_k 9 ?_;refine zR ?_;refine zJ ?_|refine q_s zhm ?_;rintro _ _ ⟨L,rfl,rfl⟩|(refine zx ?_;first|refine zo ?_|fail)|fail)
 obtain⟨d,hd⟩:∃d,S=m+1+d+8:=⟨S-m-9,by omega⟩;refine zX (γ:=Nat) (λi=>[(0,.func (.yield l) #[] #[]),(1,.pointer (some ⟨I,0,none⟩)),(2,.pointer (some ⟨K,0,none⟩)),(5,.int .i64 S),(6,.slice (some ⟨L,0,none⟩) S S),(32,.int .i64 i)])
  (λi=>[.blk L 5 ((r++128::(List.replicate (d+8-i) 0++(be8 (8*total)).drop (8-i))).map Sy.v8),j,.blk I 23 [.slice a0 n cap],.blk K 3 [.int .i64 total]])
  (λi=>i<=8) (λi=>8-i) 0 (AE _) ?_ ?_ ?_
 ·exact q_h
 ·(repeat' (first|exact El|apply Es;with_reducible (focus ((repeat (first|exact Ej|apply Ek));done))|apply Ez;(focus ((repeat (first|exact Ej|apply Ek));done))|apply Ew;(focus ((repeat (first|exact Ej|apply Ek));done))|rfl))
  have e1:(be8 (8*total)).drop 8= []:=Bp (by rw[zkW];omega);have e2:S-m=(d+8)+1:=q_o;show _=List.map Sy.v8 (r++128::(List.replicate (d+8) 0++(be8 (8*total)).drop 8));rw[e1,e2,AH,show Value.int .u8 128=Sy.v8 128 from Sy.v8_lit 128 q_e,<-Bw,CJ _ _ q_o,B,C5];rfl
 intro i hi;by_cases hlt:i<8
 ·obtain⟨q1,q2⟩:=ztL total i hlt;have q3:IntKind.i64.wrap (8*(i:Int))=8*(i:Int):=zuO _ q_o q_o;have q4:IntKind.i64.wrap ((S:Int)-1-(i:Int))=((r.length+1+(d+7-i):Nat):Int):=by rw[zuO _ q_o q_o,B];omega
  repeat' (first|refine s_t ?_|refine ze 11 ?_;refine q_v zm ?_|refine q_k 12 ?_|refine q_k 13 ?_;refine q_x zab ?_;refine q_v (zab (hr:=q4)) ?_;refine zl ?_;refine zbf ?_;refine q_x zaV ?_;refine q_v zaV ?_;refine q_v (zcq (hr:=q1)) ?_;refine q_v (zaw (hr:=q2)) ?_;refine zR ?_;refine zJ ?_|refine ze 14 ?_;refine za9 ?_;refine zf ?_)
  refine zQ (i+1) ?_ ?_ ?_ ?_
  ·show i+1<=8;omega
  ·show 8-(i+1)<8-i;omega
  ·exact q_h
  ·(repeat' (first|exact El|apply Es;with_reducible (focus ((repeat (first|exact Ej|apply Ek));done))|apply Ez;(focus ((repeat (first|exact Ej|apply Ek));done))|apply Ew;(focus ((repeat (first|exact Ej|apply Ek));done))|rfl))
   rw[<-zsX r d (8*total) i hlt,Bw];rfl
 obtain rfl:i=8:=q_o;have U:r++128::(List.replicate (d+8-8) 0++(be8 (8*total)).drop (8-8))=tail r total:=by
  unfold tail;rw[B,<-hS,show S-m-9=d from by omega];simp
 rw[U];have a9:(tail r total).length=S:=by rw[zt7 r total q_o,B,hS]
 have c2:(blocks last total).length=q+S/64:=by rw[zkk,T,<-hr,a9]
 have b9:∀i,i<S/64->∃h:q+i<(blocks last total).length,(blocks last total)[q+i]=((tail r total).drop (64*i)).take 64:=λi hi=>by
  have P:q+i<(blocks last total).length:=q_o;have:=zos last total i (by rw[T,<-hr,a9];exact hi);rw[T,<-hr,A2 P] at this;exact⟨P,An this⟩
 have Y:S=64\/S=128:=by split at hS <;> omega
 generalize blocks last total=W,tail r total=tl at*
 -- what is handed over
 have harg:∀(i:Nat) (j:Res) (P:q+i<W.length) (Rest:List Res),i<S/64->∀(E:World) (X:List Res),Keep M w E->Holds w.heap.size M (j::[]++((.blk L 5 (tl.map Sy.v8)::Rest)++X)) E->zqw j.own W[q+i] [.slice (some ⟨L,64*i,none⟩) 64 64] [] E:=λi j P Rest hi E X F A=>by
  refine⟨L,64*i,rfl,rfl,?_,λZ=>?_⟩
  ·have Z:(Res.blk L 5 (tl.map Sy.v8)).holds E:=A.all _ q_p;rw[(b9 i hi).2];intro k v G;rw[ze6 Z];rw[CS,Cf,C7] at G;split at G
   ·rw[Bl] at G;exact G
   ·cases G
  ·have:=(Ai.1 A.apart).1 (Res.blk L 5 (tl.map Sy.v8)) q_p L Z;exact this rfl
 have h0:q+0<W.length:=q_o;rcases Y with Q|Q
 ·subst Q;have R:W.length=q+1:=q_o;repeat' (first|refine s_0 ?_|refine ze 11 ?_;refine q_v zm ?_|refine q_k 15 ?_;refine zbR ?_;(refine q_s (zdj hY h0 hJ (hL:=Eo (by exact Ek Ej) rfl Er) (harg:=λE X F A=>harg 0 j h0 _ q_e E X F A)) ?_;rintro _ _ ⟨y,O,rfl,rfl,N⟩;cases y);refine zf ?_|(refine zx ?_;first|refine q_v zF ?_|refine zw ?_|refine zax ?_|fail)|fail)
  ·exact ze2 rfl q_h ⟨O,rfl,.inr ⟨q+1,by omega,N⟩⟩
  ·exact ze2 rfl q_h ⟨O,rfl,.inl (by rw[R];exact N)⟩
 ·subst Q;have R:W.length=q+1+1:=q_o;have P:q+1<W.length:=q_o;repeat' (first|refine s_0 ?_|refine ze 11 ?_;refine q_v zm ?_|refine q_k 15 ?_;refine zbR ?_;(refine q_s (zdj hY h0 hJ (hL:=Eo (by exact Ek Ej) rfl Er) (harg:=λE X F A=>harg 0 j h0 _ q_e E X F A)) ?_;rintro _ _ ⟨y,O,rfl,rfl,N⟩;cases y);refine zf ?_|refine q_k 16 ?_;refine zbR ?_|(refine zx ?_;first|refine q_v zF ?_|refine zw ?_|refine zax ?_|fail)|fail)
  ·exact ze2 rfl q_h ⟨O,rfl,.inr ⟨q+1,by omega,N⟩⟩
  ·repeat' (first|refine zaC ?_|(refine zx ?_;first|refine q_s (zdj hY P N (hL:=Eo (by exact Ej) rfl Er) (harg:=λE X F A=>harg 1 O P _ q_e E X F A)) ?_;rintro _ _ ⟨y,b3,rfl,rfl,b0⟩;cases y|fail)|fail)
   ·exact ze2 rfl q_h ⟨b3,rfl,.inr ⟨q+1+1,by omega,b0⟩⟩
   ·exact ze2 rfl q_h ⟨b3,rfl,.inl (by rw[R];exact b0)⟩
end
open Go Go.Sy Go.Wd Go.Sh
attribute [local irreducible] Sy SyL SyX Sy.Fn callFunc
theorem zmh(s:List UInt32)(k:Nat)(h:k<s.length):ser (s.take (k+1))=ser (s.take k)++be4 (s.getD k 0):=by
 unfold ser;rw[BF h,CD];simp[List.getD,h]
theorem zpE(s:List UInt32):(ser s).length=4*s.length:=by
 induction s with
 |nil=>rfl
 |cons x s ih=>simp only[ser,Dz,A3] at*;rw[ih];simp[be4];omega
theorem zcn{α:Type}{C L:List α}{k:Nat}(h:k<C.length)(hL:C.take k=L)(v:α):(C.set k v).take (k+1)=L++[v]:=by
 rw[BF (by simpa using h),Dg (A8 k),hL];simp
theorem zsa{α:Type}{C L:List α}{k:Nat}(h:k+3<C.length)(hL:C.take k=L)(a b c d:α):
  ((((C.set k a).set (k+1) b).set (k+2) c).set (k+3) d).take (k+4)=L++[a,b,c,d]:=by
 have j:=zcn (C:=C) q_o hL a;have m:=zcn (C:=C.set k a) (by simp;omega) j b;have q:=zcn (C:=(C.set k a).set (k+1) b) (by simp;omega) m c;have r:=zcn (C:=((C.set k a).set (k+1) b).set (k+2) c) (by simp;omega) q d;rw[r];simp
theorem zrJ(s:List UInt32)(w:World)(A:s.length=8):q_G 248 [.agg (s.map v32).toArray] w (.agg ((ser s).map v8).toArray):=by
 refine zz Tryz.func248 Tryz.ntmps248 ?_;repeat' (first|refine s_t ?_|refine ze 0 ?_;refine zi ?_;intro _;refine zi ?_;intro _|refine ze 1 ?_;refine zl ?_;refine zf ?_)
 rename_i E m;refine zX (γ:=Nat×List UInt8) (λg=>[(2,.pointer (some ⟨m,0,none⟩)),(5,.agg (s.map v32).toArray),(6,.int .i64 g.1)]) (λg=>[.blk m 199 (g.2.map v8)])
  (λg=>g.1<=8/\g.2.length=32/\g.2.take (4*g.1)=ser (s.take g.1)) (λg=>8-g.1) (0,List.replicate 32 0) ⟨by omega,by simp,rfl⟩ ?_ ?_ ?_
 ·exact q_h
 ·exact q_h
 ·rintro⟨k,C⟩ ⟨F,r,j⟩;dsimp only at*;by_cases hlt:k<8
  ·have q:(s.map v32)[k]?=some (v32 (s.getD k 0)):=by simp[List.getD,A,hlt]
   generalize B:s.getD k 0=x at*;repeat' (first|refine s_t ?_|refine ze 2 ?_;refine q_v zm ?_|refine q_k 3 ?_;refine q_x (by first|exact zhq|exact zas) ?_|refine q_k 4 ?_;refine q_x zaV ?_;refine q_v zaV ?_;refine za9 ?_;refine zf ?_;refine q_v zaV ?_;refine za9 ?_;refine zf ?_;refine q_v zaV ?_;refine za9 ?_;refine zf ?_;refine q_v (zcq (hr:=zlk x _ 24 q_e)) ?_;refine q_x (zaw (hr:=zer _)) ?_;refine q_v (zcq (hr:=zlk x _ 16 q_e)) ?_;refine q_x (zaw (hr:=zer _)) ?_;refine q_v (zcq (hr:=zlk x _ 8 q_e)) ?_;refine q_x (zaw (hr:=zer _)) ?_;refine q_v (zaw (hr:=zer _)) ?_;refine zR ?_;refine zJ ?_;refine zR ?_;refine zJ ?_;refine zR ?_;refine zJ ?_;refine zR ?_;refine zJ ?_|refine ze 5 ?_;refine za9 ?_;refine zf ?_)
   refine zQ (k+1,((((C.set (4*k) (x >>> UInt32.ofNat 24).toUInt8).set (4*k+1) (x >>> UInt32.ofNat 16).toUInt8).set (4*k+2) (x >>> UInt32.ofNat 8).toUInt8).set (4*k+3) x.toUInt8)) ?_ ?_ ?_ ?_
   ·refine⟨by omega,by simp only[AI];exact r,?_⟩;show List.take (4*(k+1)) _=_;rw[zmh s k q_o,show 4*(k+1)=4*k+4 from by omega,B];exact zsa q_o j _ _ _ _
   ·show 8-(k+1)<8-k;omega
   ·exact q_h
   ·(repeat' (first|exact El|apply Es;with_reducible (focus ((repeat (first|exact Ej|apply Ek));done))|apply Ez;(focus ((repeat (first|exact Ej|apply Ek));done))|apply Ew;(focus ((repeat (first|exact Ej|apply Ek));done))|rfl))
    simp only[Bw];rfl
  ·obtain rfl:k=8:=q_o;repeat' (first|refine s_0 ?_|refine ze 2 ?_;refine q_v zm ?_|refine ze 6 ?_;refine zl ?_;refine zJ ?_)
   refine zaq rfl (zB rfl (ty rfl) rfl En Em (by first|rfl|simp only[A1,AI,AJ,A3];omega|(simp only[A1];first|assumption|omega)|simp;omega|fail)) El ⟨?_,rfl⟩;rw[A9 q_o,A9 q_o] at j;rw[j]
end Go.Proofs.YtdnlngbjpdbffaaGreatDoor
namespace Go.Wd
open Go Go.RowKit
def v8(x:UInt8):Value:=.int .u8 (n8 x)
def v32(x:UInt32):Value:=.int .u32 (n32 x)
def Blk(w:World)(B T:Nat)(C:List Value):Prop:=w.heap[B]?=some (.cells C.toArray T (0,0))
theorem Blk.cell{w:World}{B T:Nat}{C:List Value}(h:Blk w B T C)(i:Nat):w.cell? ⟨B,i,none⟩=C[i]?:=by
 unfold Blk at h;simp[World.cell?,h]
theorem Blk.free{w:World}{B T:Nat}{C:List Value}(h:Blk w B T C)(i:Nat):w.frozen? ⟨B,i,none⟩=false:=by
 unfold Blk at h;simp[World.frozen?,h]
theorem Blk.lt{w:World}{B T:Nat}{C:List Value}(h:Blk w B T C):B<w.heap.size:=lt_of_block h
theorem Blk.new(w:World)(T:Nat)(C:List Value):Blk (w.alloc (.cells C.toArray T)) w.heap.size T C:=by
 unfold Blk;show(w.heap.push _)[w.heap.size]?=_;simp
theorem Blk.alloc{w:World}{B T:Nat}{C:List Value}(h:Blk w B T C)(o:Obj):Blk (w.alloc o) B T C:=by
 unfold Blk at*;rw[Below.heap_alloc _ _ _ (lt_of_block h)];exact h
theorem Blk.drew{w:World}{B T:Nat}{C:List Value}(h:Blk w B T C):Blk w.drew B T C:=h
theorem Blk.drewN{w:World}{B T:Nat}{C:List Value}(h:Blk w B T C)(n:Nat):Blk (w.drewN n) B T C:=h
theorem Blk.set{w:World}{B T:Nat}{C:List Value}(h:Blk w B T C)(i:Nat)(v:Value):Blk (w.setCell ⟨B,i,none⟩ v) B T (C.set i v):=by
 unfold Blk at*;simp[World.setCell,DU,h]
theorem Blk.setMap{w:World}{B T:Nat}{α:Type}{f:α->Value}{L:List α}(h:Blk w B T (L.map f))(i:Nat)(x:α):Blk (w.setCell ⟨B,i,none⟩ (f x)) B T ((L.set i x).map f):=by
 rw[Bw];exact h.set i (f x)
theorem zji(n k:Nat)(w:World):Below n w (w.drewN k):=⟨rfl,rfl,rfl,A8 _,λ_ _=>rfl⟩
theorem Below.setCell_both{n:Nat}{a w:World}(h:Below n a w)(p:Addr)(v:Value):Below n (a.setCell p v) (w.setCell p v):=by
 refine⟨h.os,h.tape,h.output,by simpa using h.size,λk j=>?_⟩;simp only[World.setCell,DU];rw[h.block k j]
theorem zhX(B:Nat):∀(l:List Value) (o:Nat) (w:World) (v:Value),(w.setCells B o l).setCell ⟨B,o+l.length,none⟩ v=w.setCells B o (l++[v])
 | [],o,w,v=>by simp[World.setCells]
 |x::l,o,w,v=>by
  have:=zhX B l (o+1) (w.setCell ⟨B,o,none⟩ x) v;simp only[World.setCells,Aa,AO];rw[<-this];congr 2;omega
theorem size_setCells(B:Nat):∀(l:List Value) (o:Nat) (w:World),(w.setCells B o l).heap.size=w.heap.size
 | [],_,_=>rfl
 |x::l,o,w=>by simp only[World.setCells];rw[size_setCells B l];simp
theorem zmp{w w':World}{n b o:Nat}{cs:List Value}(h:w.rangeAt b o cs)(hb:Below n w w')(m:b<n):w'.rangeAt b o cs:=λj v q=>by
 rw[hb.cell (p:=⟨b,o+j,none⟩) m];exact h j v q
theorem zh0{P:Program}{T E n:Nat}{d:TypeDesc}{cs:Array Value}{i:Nat}{v:Value}(hu:P.underlying T=some (.array n E))(q:(P.info? E).map (·.size)=some 1)
  (he:P.underlying E=some d)(B:d.isRow=false)(r:i<n)(hv:cs[i]?=some v)(w:World):(Instr.index T (.agg cs) (.int .i64 i)).run P w= .ok v w:=by
 cases hq:P.info? E with
 |none=>simp[hq] at q
 |some j=>
  have A:j.size=1:=by simpa [hq] using q
  have m:(isAgg E).run P w= .ok false w:=by
   unfold isAgg;rw[Sem.run_bind,run_underlying he w];cases d <;> simp_all
  have h0:(0:Int)<=(i:Int)/\(i:Int)<(n:Int):=q_o;simp[Instr.index,asIntOf,Sem.run_bind,run_underlying hu w,h0,sizeOf,typeInfo,hq,A,part,m,hv,r]
theorem zpg{k:IntKind}{a b:Int}(h:a=b):Ending.returned (.int k a)= .returned (.int k b):=by rw[h]
theorem zcn{α:Type}{C L:List α}{k:Nat}(h:k<C.length)(hL:C.take k=L)(v:α):(C.set k v).take (k+1)=L++[v]:=by
 rw[BF (by simpa using h),Dg (A8 k),hL];simp
theorem zns{α:Type}{C L:List α}{k i:Nat}(hL:C.take k=L)(j:i<k)(d:α):C.getD i d=L.getD i d:=by
 subst hL;simp[List.getD,j]
theorem Blk.cellD{w:World}{B T:Nat}{α:Type}{f:α->Value}{L:List α}(h:Blk w B T (L.map f)){i:Nat}(j:i<L.length)(d:α):w.cell? ⟨B,i,none⟩=some (f (L.getD i d)):=by
 rw[h.cell];simp[j,List.getD]
theorem zdQ{w:World}{b o:Nat}{α:Type}{f:α->Value}{L:List α}(h:w.rangeAt b o (L.map f)){i:Nat}(j:i<L.length)(d:α):w.cell? ⟨b,o+i,none⟩=some (f (L.getD i d)):=
 h i _ (by simp[j,List.getD])
theorem zh1{α:Type}(f:α->Value)(L:List α){i:Nat}(j:i<L.length)(d:α):(L.map f).toArray[i]?=some (f (L.getD i d)):=by
 simp[List.getD,j]
theorem zh3{w m:World}{S o n k:Nat}{L:List Value}{v:Value}(h:Below n (w.setCells S o (L.take k)) m)(hv:L[k]?=some v):
  Below n (w.setCells S o (L.take (k+1))) (m.setCell ⟨S,o+k,none⟩ v):=by
 obtain⟨j,rfl⟩:=AL.1 hv;have:=Below.setCell_both h ⟨S,o+k,none⟩ L[k];have e:=zhX S (L.take k) o w L[k];rw[Ad,BX (Bh j)] at e;rw[e] at this;rw[BF j];exact this
theorem zgK(S:Nat):∀(l:List Value) (o:Nat) (w:World) (a:Addr),(w.setCells S o l).frozen? a=w.frozen? a
 | [],_,_,_=>rfl
 |x::l,o,w,a=>by simp only[World.setCells];rw[zgK S l,World.frozen?_setCell]
theorem znO{w j:World}{S o n k:Nat}{L:List Value}{v:Value}(h:Below n (w.setCells S o (L.take k)) j)(m:S<n)(hv:w.cell? ⟨S,o+k,none⟩=some v):j.cell? ⟨S,o+k,none⟩=some v:=by
 rw[h.cell (p:=⟨S,o+k,none⟩) m,World.cell?_setCells_out S _ _ _ _ (λ_ _=>Or.inr (by have:=List.length_take_le k L;show o+_<=o+k;omega))];exact hv
theorem zlf{w j:World}{S o n:Nat}{L:List Value}{a:Addr}{x:Bool}(h:Below n (w.setCells S o L) j)(m:a.block<n)(hv:w.frozen? a=x):j.frozen? a=x:=by
 rw[h.frozen m,zgK];exact hv
theorem getD_some{α:Type}{L:List α}{i:Nat}(j:i<L.length)(d:α):L[i]?=some (L.getD i d):=by simp[List.getD,j]
theorem zlz{w:World}{a:Addr}{x:Option Value}(h:w.cell? a=x):w.drew.cell? a=x:=h
theorem zkh{w:World}{a:Addr}{x:Value}(o:Obj)(h:w.cell? a=some x):(w.alloc o).cell? a=some x:=by
 rw[World.cell?_alloc_lt _ _ _ (World.block_lt_of_cell? w a h)];exact h
theorem zuf{w:World}{b i j:Nat}{v:Value}{x:Option Value}(m:i≠j)(h:w.cell? ⟨b,j,none⟩=x):(w.setCell ⟨b,i,none⟩ v).cell? ⟨b,j,none⟩=x:=by
 rw[World.cell?_setCell_other _ _ _ _ (λe=>m (congrArg Addr.off e))];exact h
end Go.Wd
namespace Go.Proofs.YtdnlngbjpdbffaaGreatDoor
open Go.RowKit Go.Wd Go.Sh
attribute [local go_sem] zuP zur zkL zuS zkI zlK zer zo1
attribute [local go_sem ↓] Go.wp_at_zero Go.wp_at_succ
theorem zqV(n:Nat)(h0:0<n)(h1:n<32):bits .and .u64 (IntKind.u64.wrap (-(n:Int))) 31=((32-n:Nat):Int):=by
 have h:n=1\/n=2\/n=3\/n=4\/n=5\/n=6\/n=7\/n=8\/n=9\/n=10\/n=11\/n=12\/n=13\/n=14\/n=15\/n=16\/n=17\/n=18\/n=19\/n=20\/n=21\/n=22\/n=23\/n=24\/n=25\/n=26\/n=27\/n=28\/n=29\/n=30\/n=31:=q_o;rcases h with h|h|h|h|h|h|h|h|h|h|h|h|h|h|h|h|h|h|h|h|h|h|h|h|h|h|h|h|h|h|h <;> subst h <;> rfl
theorem zxh(x:UInt32)(n:Nat)(h0:0<n)(h1:n<32):bits .or .u32 (n32 x*2^(32-n)%4294967296) (n32 x/2^n)=n32 (zqx x n):=by
 have j:=zmt x (32-n) q_o;have m:=zhP x n h1;rw[IntKind.wrap_u32] at j;simp only[EJ,Int.cast_ofNat_Int] at j m;rw[j,m,zur];rfl
theorem zu8(x:UInt32)(n:Nat)(w:World)(h0:0<n)(h1:n<32):
  Calls Tryz.prog 323 #[.int .u32 (n32 x),.int .i64 (-(n:Int))] w λe w'=>e= .returned (.int .u32 (n32 (zqx x n)))/\w'=w:=by
 have e1:=zqV n h0 h1;have e2:IntKind.u64.wrap (32-((32-n:Nat):Int))=(n:Int):=by rw[wrap_u64];omega
 go_enter Tryz.func323,Tryz.ntmps323
 go_wp2
 go_ret
 exact⟨zpg (zxh x n h0 h1),rfl⟩
theorem zfN(x:UInt32)(ns:List Nat)(B:Nat)(w:World)(hn:∀n∈ns,0<n/\n<32)(hl:ns.length<32)
  (hc:∀i (h:i<ns.length),w.cell? ⟨B,i,none⟩=some (.int .i64 (ns[i]:Nat))):
  Calls Tryz.prog 296 #[.int .u32 (n32 x),.slice (some ⟨B,0,none⟩) ns.length ns.length] w λe w'=>e= .returned (.int .u32 (n32 (turn x ns)))/\w'=w:=by
 have Hn:=Lib.hid hn;have Hc:=Lib.hid hc;clear hn hc
 go_enter Tryz.func296,Tryz.ntmps296
 go_wp2
 go_loop [4,9] (λy i=>∃k:Nat,k<=ns.length/\i= .int .i64 k/\y= .int .u32 (n32 (turn x (ns.take k)))) (λ_ i=>ns.length-(intOf i).toNat)
 case atStart=>exact⟨0,AE _,rfl,rfl⟩
 case round=>
  obtain⟨k,hk,rfl,rfl⟩:=hrel;by_cases hlt:k<ns.length
  ·have hcell:=Hc.out k hlt;obtain⟨hn0,hn1⟩:=Hn.out _ (AX hlt);have HS:=Lib.hid (zr8 x ns k hlt);generalize ns[k]=n at*
   go_wp2_with (go_at_call 323;refine(zu8 _ _ _ hn0 hn1).mono ?_;rintro e w' ⟨rfl,rfl⟩)
   go_round
   case rel=>exact⟨k+1,by omega,by go_num,by rw[HS.out]⟩
   case measure=>simp[intOf];omega
  ·go_wp2
   go_ret
   exact⟨zpg (by rw[A9 q_o]),rfl⟩
theorem zm2(x:UInt32)(B:Nat)(w:World)(h0:w.cell? ⟨B,0,none⟩=some (.int .i64 17))(h1:w.cell? ⟨B,1,none⟩=some (.int .i64 19)):
  Calls Tryz.prog 296 #[.int .u32 (n32 x),.slice (some ⟨B,0,none⟩) 2 2] w λe m=>e= .returned (.int .u32 (n32 (turn x [17,19])))/\m=w:=
 zfN x [17,19] B w q_p q_p λi j=>by
  match i,j with
  |0,_=>exact h0
  |1,_=>exact h1
theorem zop(x:UInt32)(B:Nat)(w:World)(h0:w.cell? ⟨B,0,none⟩=some (.int .i64 7))(h1:w.cell? ⟨B,1,none⟩=some (.int .i64 18)):
  Calls Tryz.prog 296 #[.int .u32 (n32 x),.slice (some ⟨B,0,none⟩) 2 2] w λe m=>e= .returned (.int .u32 (n32 (turn x [7,18])))/\m=w:=
 zfN x [7,18] B w q_p q_p λi j=>by
  match i,j with
  |0,_=>exact h0
  |1,_=>exact h1
theorem zkN(x:UInt32)(B:Nat)(w:World)(h0:w.cell? ⟨B,0,none⟩=some (.int .i64 6))(h1:w.cell? ⟨B,1,none⟩=some (.int .i64 11))(h2:w.cell? ⟨B,2,none⟩=some (.int .i64 25)):
  Calls Tryz.prog 296 #[.int .u32 (n32 x),.slice (some ⟨B,0,none⟩) 3 3] w λe m=>e= .returned (.int .u32 (n32 (turn x [6,11,25])))/\m=w:=
 zfN x [6,11,25] B w q_p q_p λi j=>by
  match i,j with
  |0,_=>exact h0
  |1,_=>exact h1
  |2,_=>exact h2
theorem zlc(x:UInt32)(B:Nat)(w:World)(h0:w.cell? ⟨B,0,none⟩=some (.int .i64 2))(h1:w.cell? ⟨B,1,none⟩=some (.int .i64 13))(h2:w.cell? ⟨B,2,none⟩=some (.int .i64 22)):
  Calls Tryz.prog 296 #[.int .u32 (n32 x),.slice (some ⟨B,0,none⟩) 3 3] w λe m=>e= .returned (.int .u32 (n32 (turn x [2,13,22])))/\m=w:=
 zfN x [2,13,22] B w q_p q_p λi j=>by
  match i,j with
  |0,_=>exact h0
  |1,_=>exact h1
  |2,_=>exact h2
theorem zp9(x y z:UInt32)(w:World):
  Calls Tryz.prog 297 #[.int .u32 (n32 x),.int .u32 (n32 y),.int .u32 (n32 z)] w λe w'=>e= .returned (.int .u32 (n32 ((x &&& y) ^^^ (~~~x &&& z))))/\w'=w:=by
 go_enter Tryz.func297,Tryz.ntmps297
 go_wp2
 go_ret
 exact⟨rfl,rfl⟩
theorem znu(x y z:UInt32)(w:World):
  Calls Tryz.prog 298 #[.int .u32 (n32 x),.int .u32 (n32 y),.int .u32 (n32 z)] w λe w'=>e= .returned (.int .u32 (n32 (((x &&& y) ^^^ (x &&& z)) ^^^ (y &&& z))))/\w'=w:=by
 go_enter Tryz.func298,Tryz.ntmps298
 go_wp2
 go_ret
 exact⟨rfl,rfl⟩
end Go.Proofs.YtdnlngbjpdbffaaGreatDoor
