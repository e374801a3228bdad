/- The program's iterator over the blocks of a padded string, walked. -/
import Derived.Test.YtcpjfilcilcekaaGreatDoorYJ21
import Derived.Test.YtcpjfilcilcekaaGreatDoorYJ03
import Derived.Test.YtcpjfilcilcekaaGreatDoorYJ08
import Derived.Test.YtcpjfilcilcekaaGreatDoorYJ02
import Derived.WalkKit
import Derived.Deep.MidRow
import Derived.Deep.QuietTactic
import Derived.BigQuiet
import Derived.Lib.Hide
import Derived.Test.YtcpjfilcilcekaaGreatDoorYJ01
import Derived.Test.YtcpjfilcilcekaaGreatDoorProg
import Derived.WalkSpells
import Derived.WalkLawsBesides
import Derived.Deep.RegionHeld3
import Derived.Deep.DrawnRows
import Derived.StillTailTactics
set_option linter.all false
section
namespace Go.Sh
open Go.Wd Go.RowKit Go.Sy
def ArgB (O:Nat->Prop) (x:List UInt8) (vs:List Value) (RA:List Res) (W:World):Prop:=∃b o,vs= [.slice (some ⟨b,o,none⟩) 64 64]/\RA= []/\W.rangeAt b o (x.map Sy.v8)/\ ¬O b
theorem znP (n i:Nat) (hi:i < 8):Op.shift .shr .u64 ((n:Int)*8) .i64 (8*(i:Int))=pure (.int .u64 (((8*n) / 256 ^ i:Nat):Int))/\IntKind.u8.wrap (((8*n) / 256 ^ i:Nat):Int)=n8 (UInt8.ofNat ((8*n) / 256 ^ i)):=by
 refine ⟨?_,?_⟩
 ·rw [show (8*(i:Int))=((8*i:Nat):Int) from (Int.natCast_mul 8 i).symm,shift_shr_any _ _ _ _ (Int.natCast_nonneg _),Int.toNat_natCast,show min (8*i) IntKind.u64.bits=8*i from Nat.min_eq_left (by show 8*i<=64;omega)]
  congr 2
  rw [show ((n:Int)*8)=((8*n:Nat):Int) from by omega,show ((2:Int) ^ (8*i))=((256 ^ i:Nat):Int) by rw [Int.natCast_pow,Int.pow_mul];rfl,<-Int.natCast_ediv]
 ·rw [wrap_u8_nat,n8_of_nat]
end Go.Sh
namespace Go.Proofs.YtcpjfilcilcekaaGreatDoor
open Go Go.Sy Go.Wd Go.Sh
attribute [local irreducible] Sy SyL SyX Sy.Fn callFunc n8 n32 Rem Has Upd SubR Sy.Sub SetAt Rd Reads Seg RemL
set_option maxRecDepth 10000
theorem zfX (v:Value) (n:Int) (w:World) (hv:v.oneCell'=true):
  Sy.Fn Tryz.prog 162 [v,.int .i64 n] w No (λu R=>∃b1 b2,u= .func (.func 180) #[] #[.pointer (some ⟨b1,0,none⟩),.pointer (some ⟨b2,0,none⟩)]/\R= [.blk b1 22 [v],.blk b2 3 [.int .i64 n]]):=by
 refine zk Tryz.func162 rfl Tryz.ntmps162 (by simp) Holds.nil ?_
 refine za6 ?_
 refine za ?_
 refine ya (znm (hv:=hv)) (k:=?_);intro b1
 repeat' (first|refine s_0 ?_|(refine za (id:=1) ?_;refine zW ?_;refine zd ?_)|(refine zC ?_;first|refine zd ?_|(refine zi ?_;intro _)|fail)|fail)
 rename_i b2
 exact ret1 rfl (resTmp rfl) (by exact SubR.go) ⟨b1,b2,rfl,rfl⟩
set_option maxHeartbeats 1000000 in
theorem ze4 (b1 b2:Nat) (a0:Option Addr) (n cap total:Nat) (last:List UInt8) (w:World) (M:Nat->Prop) (hn:last.length=n) (hcap:n<=cap) (ht:total < 2305843009213693952)
  (hsl:SlF w M a0 (last.map Sy.v8)):
  IterC Tryz.prog 180 [.pointer (some ⟨b1,0,none⟩),.pointer (some ⟨b2,0,none⟩)] (blocks last total) ArgB w M [.blk b1 22 [.slice a0 n cap],.blk b2 3 [.int .i64 total]]:=by
 intro l J Jx j0 hJ0 hh hY
 refine zk Tryz.func180 rfl Tryz.ntmps180 (by simp) hh ?_
 repeat' (first|refine s_t ?_|(refine za (id:=0) ?_;refine zD ?_;refine zd ?_)|fail)
 refine zE (γ:=Nat×Nat×Nat×Option Addr×Res) (λg=>[(0,.func (.yield l) #[] #[]),(1,.pointer (some ⟨b1,0,none⟩)),(2,.pointer (some ⟨b2,0,none⟩)),(4,.slice g.2.2.2.1 g.2.1 g.2.2.1)])
  (λg=>[g.2.2.2.2,.blk b1 22 [.slice a0 n cap],.blk b2 3 [.int .i64 total]])
  (λg=>64*g.1+g.2.1=n/\g.2.1<=g.2.2.1/\g.2.2.1<=cap/\J g.1 g.2.2.2.2/\SlF w M g.2.2.2.1 ((last.drop (64*g.1)).map v8))
  (λg=>g.2.1) (0,n,cap,a0,j0) ⟨by simp,hcap,Nat.le_refl _,hJ0,by simpa using hsl⟩ ?_ ?_ ?_
 ·exact Sub.go
 ·exact SubR.go
 rintro ⟨q,m,c,a1,j⟩ ⟨hq,hmc,hcc,hJ,hs1⟩
 dsimp only at *
 have hrl:(last.drop (64*q)).length=m:=by rw [List.length_drop];omega
 by_cases hge:64<=m
 ·have hjq:q < last.length / 64:=by omega
  have hkx:q < (blocks last total).length:=by rw [zhp];omega
  have hxj:(blocks last total)[q]=(last.drop (64*q)).take 64:=by
   have:=zlH last total q hjq
   rw [List.getElem?_eq_getElem hkx] at this;exact Option.some.inj this
  obtain ⟨b,o,rfl,hr,hnM⟩: ∃b o,a1=some ⟨b,o,none⟩/\w.rangeAt b o ((last.drop (64*q)).map v8)/\ ¬M b:=by
   rcases hs1 with h|h
   ·exfalso;have:=congrArg List.length h;rw [List.length_map,hrl] at this;simp at this;omega
   ·exact h
  have harg: ∀(w':World) (X:List Res),Keep M w w'->Holds w.heap.size M (j::[] ++ X) w'->ArgB j.own (blocks last total)[q] [.slice (some ⟨b,o,none⟩) 64 64] [] w':=λw' X hk hh'=>
   ⟨b,o,rfl,rfl,λi v hv=>hk.cell (hr i v (by
    rw [hxj,List.map_take,List.getElem?_take] at hv
    split at hv
    ·exact hv
    ·cases hv)) hnM,λhb=>by
    rcases hh'.mine j List.mem_cons_self b hb with h|h
    ·have:=World.block_lt_of_cell? w ⟨b,o,none⟩ (u:=Sy.v8 ((last.drop (64*q)).getD 0 0)) (by
      have:=hr 0 (Sy.v8 ((last.drop (64*q)).getD 0 0)) (by rw [List.getElem?_map,List.getD_eq_getElem?_getD,List.getElem?_eq_getElem (by omega)];rfl)
      rw [Nat.add_zero] at this;exact this)
     dsimp only at this;omega
    ·exact hnM h⟩
  repeat' (first|refine s_t ?_|(refine za (id:=1) ?_;refine zb ?_;refine zq ?_;refine zac ?_)|(refine za (id:=2) ?_;refine zb ?_;refine zb ?_;refine zap ?_;(refine ys (zdb hY hkx hJ (hL:=RemL.cons (by exact Rem.here) rfl RemL.nil) (harg:=λw' X hk hh'=>harg w' _ hk hh')) (k:=?_);rintro _ _ ⟨y,j',rfl,rfl,hy⟩);refine zal ?_)|fail)
  refine zbe rfl (λh=>?_) (λh=>?_)
  ·obtain rfl:y=false:=by simpa using h
   repeat' (first|refine s_0 ?_|fail)
   exact ret0 rfl (by exact SubR.go) ⟨j',rfl,.inr ⟨q+1,by omega,hy⟩⟩
  ·obtain rfl:y=true:=by simpa using h
   repeat' (first|refine s_0 ?_|(refine za (id:=3) ?_;refine zb ?_;refine zap ?_;refine zd ?_)|fail)
   refine zy (q+1,m - 64,c - 64,movA (some ⟨b,o,none⟩) 64 c 1,j') ?_ ?_ ?_ ?_
   ·refine ⟨by dsimp only;omega,by dsimp only;omega,by dsimp only;omega,hy,?_⟩
    ·have:=hs1.mov (l:=64) (m:=c) (by rw [List.length_map,hrl];exact hmc)
     rw [<-List.map_drop,List.drop_drop,show 64*q+64=64*(q+1) from by omega] at this;exact this
   ·show m - 64 < m;omega
   ·exact Sub.go
   ·exact SubR.go
 -- the end
 obtain ⟨r,hr⟩: ∃r,r=last.drop (64*q):=⟨_,rfl⟩
 have hq2:last.length / 64=q:=by omega
 rw [<-hr] at hrl hs1
 repeat' (first|refine s_0 ?_|(refine za (id:=1) ?_;refine zb ?_;refine zq ?_;refine zac ?_)|(refine za (id:=4) ?_;refine zd ?_)|(refine za (id:=5) ?_;refine zb ?_;refine zq ?_;refine zY ?_;refine zaa ?_)|fail)
 refine zaJ (γ:=Nat) (λS=>[(0,.func (.yield l) #[] #[]),(1,.pointer (some ⟨b1,0,none⟩)),(2,.pointer (some ⟨b2,0,none⟩)),(4,.slice a1 m c),(5,.int .i64 S)])
  (λ_=>[j,.blk b1 22 [.slice a0 n cap],.blk b2 3 [.int .i64 total]]) (λS=>S=if m+9 > 64 then 128 else 64) ?_ ?_
 ·refine zbe rfl (λh=>?_) (λh=>?_)
  ·repeat' (first|refine z6 ?_|refine zR ?_|(refine za (id:=6) ?_;refine zd ?_)|fail)
   refine zO 128 ?_ ?_ ?_
   ·rw [if_pos (by have:=of_decide_eq_true h;omega)]
   ·exact Sub.go
   ·exact SubR.go
  ·repeat' (first|refine zbt ?_|refine zR ?_|fail)
   refine zO 64 ?_ ?_ ?_
   ·rw [if_neg (by have:=of_decide_eq_false h;omega)]
   ·exact Sub.go
   ·exact SubR.go
 intro S hS
 have hS2:m+9<=S/\S<=128:=by split at hS <;> omega
 have hzero:setSeg (List.replicate S (Value.int .u8 0)) 0 (r.map Sy.v8)=(r ++ List.replicate (S - m) 0).map Sy.v8:=by
  rw [setSeg0,List.length_map,hrl,List.drop_replicate,List.map_append,List.map_replicate,zkV]
 repeat' (first|refine s_t ?_|(refine za (id:=7) ?_;refine zb ?_)|(refine za (id:=8) ?_;refine zb ?_;refine zb ?_;refine yv (zbT (Rd.oldF hs1) (by rw [List.length_map,hrl]) hzero) (k:=?_))|(refine za (id:=9) ?_;refine zb ?_;refine zb ?_;refine zq ?_;refine zr ?_;refine zB ?_)|(refine za (id:=10) ?_;refine zb ?_)|(refine ys zcd (k:=?_);rintro _ _ ⟨b6,rfl,rfl⟩)|(refine zC ?_;first|refine zd ?_|fail)|fail)
 obtain ⟨d,hd⟩: ∃d,S=m+1+d+8:=⟨S - m - 9,by omega⟩
 refine zE (γ:=Nat) (λi=>[(0,.func (.yield l) #[] #[]),(1,.pointer (some ⟨b1,0,none⟩)),(2,.pointer (some ⟨b2,0,none⟩)),(5,.int .i64 S),(6,.slice (some ⟨b6,0,none⟩) S S),(32,.int .i64 i)])
  (λi=>[.blk b6 5 ((r ++ 128::(List.replicate (d+8 - i) 0 ++ (be8 (8*total)).drop (8 - i))).map Sy.v8),j,.blk b1 22 [.slice a0 n cap],.blk b2 3 [.int .i64 total]])
  (λi=>i<=8) (λi=>8 - i) 0 (Nat.zero_le _) ?_ ?_ ?_
 ·exact Sub.go
 ·(repeat' (first|exact SubR.nil|(apply SubR.same;with_reducible (focus ((repeat (first|exact Rem.here|apply Rem.there));done)))|(apply SubR.blk;(focus ((repeat (first|exact Rem.here|apply Rem.there));done)))|(apply SubR.pick;(focus ((repeat (first|exact Rem.here|apply Rem.there));done)))|rfl))
  have e1:(be8 (8*total)).drop 8= []:=List.drop_eq_nil_of_le (by rw [zdS];omega)
  have e2:S - m=(d+8)+1:=by omega
  show _=List.map Sy.v8 (r ++ 128::(List.replicate (d+8) 0 ++ (be8 (8*total)).drop 8))
  rw [e1,e2,List.append_nil,show Value.int .u8 128=Sy.v8 128 from Sy.v8_lit 128 (by decide),<-List.map_set,List.set_append_right _ _ (by omega),hrl,Nat.sub_self];rfl
 intro i hi
 by_cases hlt:i < 8
 ·obtain ⟨q1,q2⟩:=znP total i hlt
  have q3:IntKind.i64.wrap (8*(i:Int))=8*(i:Int):=wrapi _ (by omega) (by omega)
  have q4:IntKind.i64.wrap ((S:Int) - 1 - (i:Int))=((r.length+1+(d+7 - i):Nat):Int):=by rw [wrapi _ (by omega) (by omega),hrl];omega
  repeat' (first|refine s_t ?_|(refine za (id:=11) ?_;refine zN ?_)|(refine za (id:=12) ?_;refine zb ?_;refine zd ?_)|(refine za (id:=13) ?_;refine zb ?_;refine zb ?_;refine zdf ?_;refine zb ?_;refine yv (zJ (hr:=q4)) (k:=?_);refine zD ?_;refine zaV ?_;refine zdh ?_;refine zb ?_;refine zdh ?_;refine yv (zat (hr:=q1)) (k:=?_);refine yv (zZ (hr:=q2)) (k:=?_);refine zr ?_;refine zB ?_)|(refine za (id:=14) ?_;refine zY ?_;refine zb ?_)|fail)
  refine zy (i+1) ?_ ?_ ?_ ?_
  ·show i+1<=8;omega
  ·show 8 - (i+1) < 8 - i;omega
  ·exact Sub.go
  ·(repeat' (first|exact SubR.nil|(apply SubR.same;with_reducible (focus ((repeat (first|exact Rem.here|apply Rem.there));done)))|(apply SubR.blk;(focus ((repeat (first|exact Rem.here|apply Rem.there));done)))|(apply SubR.pick;(focus ((repeat (first|exact Rem.here|apply Rem.there));done)))|rfl))
   rw [<-zoY r d (8*total) i hlt,List.map_set];rfl
 obtain rfl:i=8:=by omega
 have htail:r ++ 128::(List.replicate (d+8 - 8) 0 ++ (be8 (8*total)).drop (8 - 8))=tail r total:=by
  unfold tail
  rw [hrl,<-hS,show S - m - 9=d from by omega];simp
 rw [htail]
 have htl:(tail r total).length=S:=by rw [zi8 r total (by omega),hrl,hS]
 have hbl:(blocks last total).length=q+S / 64:=by rw [zhp,hq2,<-hr,htl]
 have hx0: ∀i,i < S / 64-> ∃h:q+i < (blocks last total).length,(blocks last total)[q+i]=((tail r total).drop (64*i)).take 64:=λi hi=>by
  have h1:q+i < (blocks last total).length:=by omega
  have:=zkr last total i (by rw [hq2,<-hr,htl];exact hi)
  rw [hq2,<-hr,List.getElem?_eq_getElem h1] at this
  exact ⟨h1,Option.some.inj this⟩
 have hS64:S=64\/S=128:=by split at hS <;> omega
 generalize tail r total=tl at *
 generalize blocks last total=bl at *
 -- what is handed over
 have harg: ∀(i:Nat) (j:Res) (h1:q+i < bl.length) (Rest:List Res),i < S / 64-> ∀(w':World) (X:List Res),Keep M w w'->Holds w.heap.size M (j::[] ++ ((.blk b6 5 (tl.map Sy.v8)::Rest) ++ X)) w'->ArgB j.own bl[q+i] [.slice (some ⟨b6,64*i,none⟩) 64 64] [] w':=λi j h1 Rest hi w' X hk hh'=>by
  refine ⟨b6,64*i,rfl,rfl,?_,λhb=>?_⟩
  ·have hb:(Res.blk b6 5 (tl.map Sy.v8)).holds w':=hh'.all _ (by simp)
   rw [(hx0 i hi).2]
   intro k v hv
   rw [blk_cell hb]
   rw [List.map_take,List.map_drop,List.getElem?_take] at hv
   split at hv
   ·rw [List.getElem?_drop] at hv;exact hv
   ·cases hv
  ·have:=(List.pairwise_cons.1 hh'.apart).1 (Res.blk b6 5 (tl.map Sy.v8)) (by simp) b6 hb
   exact this rfl
 have h0:q+0 < bl.length:=by omega
 rcases hS64 with hS1|hS1
 ·subst hS1
  have hq1:bl.length=q+1:=by omega
  repeat' (first|refine s_0 ?_|(refine za (id:=11) ?_;refine zN ?_)|(refine za (id:=15) ?_;refine zb ?_;refine zb ?_;refine zap ?_;(refine ys (zdb hY h0 hJ (hL:=RemL.cons (by exact Rem.there Rem.here) rfl RemL.nil) (harg:=λw' X hk hh'=>harg 0 j h0 _ (by decide) w' X hk hh')) (k:=?_);rintro _ _ ⟨y,j',rfl,rfl,hy⟩;cases y);refine zb ?_;refine zj rfl rfl rfl ?_;refine zj rfl rfl rfl ?_;refine zo ?_)|(refine zC ?_;first|refine zaa ?_|refine zb ?_|refine zo ?_|fail)|fail)
  ·exact end0 rfl (by exact SubR.go) ⟨j',rfl,.inr ⟨q+1,by omega,hy⟩⟩
  ·exact end0 rfl (by exact SubR.go) ⟨j',rfl,.inl (by rw [hq1];exact hy)⟩
 ·subst hS1
  have hq1:bl.length=q+1+1:=by omega
  have h1:q+1 < bl.length:=by omega
  repeat' (first|refine s_0 ?_|(refine za (id:=11) ?_;refine zN ?_)|(refine za (id:=15) ?_;refine zb ?_;refine zb ?_;refine zap ?_;(refine ys (zdb hY h0 hJ (hL:=RemL.cons (by exact Rem.there Rem.here) rfl RemL.nil) (harg:=λw' X hk hh'=>harg 0 j h0 _ (by decide) w' X hk hh')) (k:=?_);rintro _ _ ⟨y,j',rfl,rfl,hy⟩;cases y);refine zb ?_;refine zj rfl rfl rfl ?_;refine zj rfl rfl rfl ?_;refine zo ?_)|(refine za (id:=16) ?_;refine zb ?_;refine zb ?_;refine zb ?_;refine zb ?_;refine zap ?_)|(refine zC ?_;first|refine zaa ?_|refine zb ?_|refine zo ?_|fail)|fail)
  ·exact end0 rfl (by exact SubR.go) ⟨j',rfl,.inr ⟨q+1,by omega,hy⟩⟩
  ·repeat' (first|refine z6 ?_|(refine zC ?_;first|(refine ys (zdb hY h1 hy (hL:=RemL.cons (by exact Rem.here) rfl RemL.nil) (harg:=λw' X hk hh'=>harg 1 j' h1 _ (by decide) w' X hk hh')) (k:=?_);rintro _ _ ⟨y,j'',rfl,rfl,hy2⟩;cases y)|fail)|fail)
   ·exact end0 rfl (by exact SubR.go) ⟨j'',rfl,.inr ⟨q+1+1,by omega,hy2⟩⟩
   ·exact end0 rfl (by exact SubR.go) ⟨j'',rfl,.inl (by rw [hq1];exact hy2)⟩
end Go.Proofs.YtcpjfilcilcekaaGreatDoor
end
section
namespace Go.Proofs.YtcpjfilcilcekaaGreatDoor
open Go Go.Sy Go.Wd Go.Sh
set_option maxRecDepth 10000
attribute [local irreducible] Sy SyL SyX Sy.Fn callFunc
theorem ziG (s:List UInt32) (k:Nat) (h:k < s.length):ser (s.take (k+1))=ser (s.take k) ++ be4 (s.getD k 0):=by
 unfold ser
 rw [List.take_succ_eq_append_getElem h,List.flatMap_append];simp [List.getD,h]
theorem zdT (s:List UInt32):(ser s).length=4*s.length:=by
 induction s with
 |nil=>rfl
 |cons x s ih=>simp only [ser,List.flatMap_cons,List.length_append] at *;rw [ih];simp [be4];omega
theorem zaw {α:Type}{C L:List α}{k:Nat}(h:k < C.length) (hL:C.take k=L) (v:α):(C.set k v).take (k+1)=L ++ [v]:=by
 rw [List.take_succ_eq_append_getElem (by simpa using h),List.take_set_of_le (Nat.le_refl k),hL];simp
theorem zna {α:Type}{C L:List α}{k:Nat}(h:k+3 < C.length) (hL:C.take k=L) (a b c d:α):
  ((((C.set k a).set (k+1) b).set (k+2) c).set (k+3) d).take (k+4)=L ++ [a,b,c,d]:=by
 have e1:=zaw (C:=C) (by omega) hL a
 have e2:=zaw (C:=C.set k a) (by simp;omega) e1 b
 have e3:=zaw (C:=(C.set k a).set (k+1) b) (by simp;omega) e2 c
 have e4:=zaw (C:=((C.set k a).set (k+1) b).set (k+2) c) (by simp;omega) e3 d
 rw [e4];simp
theorem zfu (s:List UInt32) (w:World) (hs:s.length=8):Sy.Fn Tryz.prog 163 [.agg (s.map v32).toArray] w No (Gives (.agg ((ser s).map v8).toArray)):=by
 refine zk Tryz.func163 rfl Tryz.ntmps163 (by simp) Holds.nil ?_
 repeat' (first|refine s_t ?_|(refine za (id:=0) ?_;(refine zi ?_;intro _);(refine zi ?_;intro _))|(refine za (id:=1) ?_;refine zD ?_;refine zb ?_)|fail)
 rename_i b1 b2
 refine zE (γ:=Nat×List UInt8) (λg=>[(2,.pointer (some ⟨b2,0,none⟩)),(5,.agg (s.map v32).toArray),(6,.int .i64 g.1)]) (λg=>[.blk b2 66 (g.2.map v8)])
  (λg=>g.1<=8/\g.2.length=32/\g.2.take (4*g.1)=ser (s.take g.1)) (λg=>8 - g.1) (0,List.replicate 32 0) ⟨by omega,by simp,rfl⟩ ?_ ?_ ?_
 ·exact Sub.go
 ·exact SubR.go
 ·rintro ⟨k,C⟩ ⟨hk,hC,hW⟩
  dsimp only at *
  by_cases hlt:k < 8
  ·have hget:(s.map v32)[k]?=some (v32 (s.getD k 0)):=by simp [List.getD,hs,hlt]
   generalize hx:s.getD k 0=x at *
   repeat' (first|refine s_t ?_|(refine za (id:=2) ?_;refine zN ?_)|(refine za (id:=3) ?_;refine zb ?_;refine zpi ?_;refine zd ?_;refine zd ?_)|(refine za (id:=4) ?_;refine zb ?_;refine zdh ?_;refine zb ?_;refine zdh ?_;refine zY ?_;refine zb ?_;refine zdh ?_;refine zY ?_;refine zb ?_;refine zdh ?_;refine zY ?_;refine zb ?_;refine yv (zat (hr:=opshr32 x _ 24 (by decide))) (k:=?_);refine yv (zZ (hr:=zcc _)) (k:=?_);refine zb ?_;refine yv (zat (hr:=opshr32 x _ 16 (by decide))) (k:=?_);refine yv (zZ (hr:=zcc _)) (k:=?_);refine zb ?_;refine yv (zat (hr:=opshr32 x _ 8 (by decide))) (k:=?_);refine yv (zZ (hr:=zcc _)) (k:=?_);refine zb ?_;refine yv (zZ (hr:=zcc _)) (k:=?_);refine zr ?_;refine zB ?_;refine zr ?_;refine zB ?_;refine zr ?_;refine zB ?_;refine zr ?_;refine zB ?_)|(refine za (id:=5) ?_;refine zY ?_;refine zb ?_)|fail)
   refine zy (k+1,((((C.set (4*k) (x >>> UInt32.ofNat 24).toUInt8).set (4*k+1) (x >>> UInt32.ofNat 16).toUInt8).set (4*k+2) (x >>> UInt32.ofNat 8).toUInt8).set (4*k+3) x.toUInt8)) ?_ ?_ ?_ ?_
   ·refine ⟨by omega,by simp only [List.length_set];exact hC,?_⟩
    show List.take (4*(k+1)) _=_
    rw [ziG s k (by omega),show 4*(k+1)=4*k+4 from by omega,hx];exact zna (by omega) hW _ _ _ _
   ·show 8 - (k+1) < 8 - k;omega
   ·exact Sub.go
   ·(repeat' (first|exact SubR.nil|(apply SubR.same;with_reducible (focus ((repeat (first|exact Rem.here|apply Rem.there));done)))|(apply SubR.blk;(focus ((repeat (first|exact Rem.here|apply Rem.there));done)))|(apply SubR.pick;(focus ((repeat (first|exact Rem.here|apply Rem.there));done)))|rfl))
    simp only [List.map_set];rfl
  ·obtain rfl:k=8:=by omega
   repeat' (first|refine s_0 ?_|(refine za (id:=2) ?_;refine zN ?_)|(refine za (id:=6) ?_;refine zD ?_;refine zB ?_)|fail)
   refine ret1 rfl (resCells rfl (ty rfl) rfl Has.go Seg.all (by first|rfl|(simp only [List.length_map,List.length_set,List.length_replicate,List.length_append];omega)|(simp only [List.length_map];first|assumption|omega)|(simp;omega)|fail)) SubR.nil ⟨?_,rfl⟩
   rw [List.take_of_length_le (by omega),List.take_of_length_le (by omega)] at hW
   rw [hW]
end Go.Proofs.YtcpjfilcilcekaaGreatDoor
end
section
namespace Go.Wd
open Go Go.RowKit
def v8 (x:UInt8):Value:=.int .u8 (n8 x)
def v32 (x:UInt32):Value:=.int .u32 (n32 x)
def Blk (w:World) (B T:Nat) (C:List Value):Prop:=w.heap[B]?=some (.cells C.toArray T (0,0))
theorem Blk.cell {w:World}{B T:Nat}{C:List Value}(h:Blk w B T C) (i:Nat):w.cell? ⟨B,i,none⟩=C[i]?:=by
 unfold Blk at h;simp [World.cell?,h]
theorem Blk.free {w:World}{B T:Nat}{C:List Value}(h:Blk w B T C) (i:Nat):w.frozen? ⟨B,i,none⟩=false:=by
 unfold Blk at h;simp [World.frozen?,h]
theorem Blk.lt {w:World}{B T:Nat}{C:List Value}(h:Blk w B T C):B < w.heap.size:=lt_of_block h
theorem Blk.new (w:World) (T:Nat) (C:List Value):Blk (w.alloc (.cells C.toArray T)) w.heap.size T C:=by
 unfold Blk;show (w.heap.push _)[w.heap.size]?=_;simp
theorem Blk.alloc {w:World}{B T:Nat}{C:List Value}(h:Blk w B T C) (o:Obj):Blk (w.alloc o) B T C:=by
 unfold Blk at *;rw [Below.heap_alloc _ _ _ (lt_of_block h)];exact h
theorem Blk.drew {w:World}{B T:Nat}{C:List Value}(h:Blk w B T C):Blk w.drew B T C:=h
theorem Blk.drewN {w:World}{B T:Nat}{C:List Value}(h:Blk w B T C) (n:Nat):Blk (w.drewN n) B T C:=h
theorem Blk.set {w:World}{B T:Nat}{C:List Value}(h:Blk w B T C) (i:Nat) (v:Value):Blk (w.setCell ⟨B,i,none⟩ v) B T (C.set i v):=by
 unfold Blk at *;simp [World.setCell,Array.getElem?_modify,h]
theorem Blk.setMap {w:World}{B T:Nat}{α:Type}{f:α->Value}{L:List α}(h:Blk w B T (L.map f)) (i:Nat) (x:α):Blk (w.setCell ⟨B,i,none⟩ (f x)) B T ((L.set i x).map f):=by
 rw [List.map_set];exact h.set i (f x)
theorem zgw (n k:Nat) (w:World):Below n w (w.drewN k):=⟨rfl,rfl,rfl,Nat.le_refl _,λ_ _=>rfl⟩
theorem Below.setCell_both {n:Nat}{a w:World}(h:Below n a w) (p:Addr) (v:Value):Below n (a.setCell p v) (w.setCell p v):=by
 refine ⟨h.os,h.tape,h.output,by simpa using h.size,λk hk=>?_⟩
 simp only [World.setCell,Array.getElem?_modify]
 rw [h.block k hk]
theorem zfh (B:Nat): ∀(l:List Value) (o:Nat) (w:World) (v:Value),(w.setCells B o l).setCell ⟨B,o+l.length,none⟩ v=w.setCells B o (l ++ [v])
 | [],o,w,v=>by simp [World.setCells]
 |x::l,o,w,v=>by
  have:=zfh B l (o+1) (w.setCell ⟨B,o,none⟩ x) v
  simp only [World.setCells,List.cons_append,List.length_cons]
  rw [<-this];congr 2;omega
theorem size_setCells (B:Nat): ∀(l:List Value) (o:Nat) (w:World),(w.setCells B o l).heap.size=w.heap.size
 | [],_,_=>rfl
 |x::l,o,w=>by simp only [World.setCells];rw [size_setCells B l];simp
theorem ziD {w w':World}{n b o:Nat}{cs:List Value}(h:w.rangeAt b o cs) (hb:Below n w w') (hB:b < n):w'.rangeAt b o cs:=λj v hv=>by
 rw [hb.cell (p:=⟨b,o+j,none⟩) hB];exact h j v hv
theorem zfe {P:Program}{T E n:Nat}{d:TypeDesc}{cs:Array Value}{i:Nat}{v:Value}(hu:P.underlying T=some (.array n E)) (hs:(P.info? E).map (·.size)=some 1)
  (he:P.underlying E=some d) (hd:d.isRow=false) (hi:i < n) (hv:cs[i]?=some v) (w:World):(Instr.index T (.agg cs) (.int .i64 i)).run P w= .ok v w:=by
 cases hq:P.info? E with
 |none=>simp [hq] at hs
 |some j=>
  have hj:j.size=1:=by simpa [hq] using hs
  have hagg:(isAgg E).run P w= .ok false w:=by
   unfold isAgg
   rw [Sem.run_bind,run_underlying he w]
   cases d <;> simp_all
  have h0:(0:Int)<=(i:Int)/\(i:Int) < (n:Int):=by omega
  simp [Instr.index,asIntOf,Sem.run_bind,run_underlying hu w,h0,sizeOf,typeInfo,hq,hj,part,hagg,hv,hi]
theorem zkv {k:IntKind}{a b:Int}(h:a=b):Ending.returned (.int k a)= .returned (.int k b):=by rw [h]
theorem zaw {α:Type}{C L:List α}{k:Nat}(h:k < C.length) (hL:C.take k=L) (v:α):(C.set k v).take (k+1)=L ++ [v]:=by
 rw [List.take_succ_eq_append_getElem (by simpa using h),List.take_set_of_le (Nat.le_refl k),hL];simp
theorem zbO {α:Type}{C L:List α}{k i:Nat}(hL:C.take k=L) (hi:i < k) (d:α):C.getD i d=L.getD i d:=by
 subst hL;simp [List.getD,hi]
theorem Blk.cellD {w:World}{B T:Nat}{α:Type}{f:α->Value}{L:List α}(h:Blk w B T (L.map f)) {i:Nat}(hi:i < L.length) (d:α):w.cell? ⟨B,i,none⟩=some (f (L.getD i d)):=by
 rw [h.cell];simp [hi,List.getD]
theorem zb7 {w:World}{b o:Nat}{α:Type}{f:α->Value}{L:List α}(h:w.rangeAt b o (L.map f)) {i:Nat}(hi:i < L.length) (d:α):w.cell? ⟨b,o+i,none⟩=some (f (L.getD i d)):=
 h i _ (by simp [hi,List.getD])
theorem zfk {α:Type}(f:α->Value) (L:List α) {i:Nat}(hi:i < L.length) (d:α):(L.map f).toArray[i]?=some (f (L.getD i d)):=by
 simp [List.getD,hi]
theorem zfn {w wr:World}{S o n k:Nat}{L:List Value}{v:Value}(h:Below n (w.setCells S o (L.take k)) wr) (hv:L[k]?=some v):
  Below n (w.setCells S o (L.take (k+1))) (wr.setCell ⟨S,o+k,none⟩ v):=by
 obtain ⟨hk,rfl⟩:=List.getElem?_eq_some_iff.1 hv
 have:=Below.setCell_both h ⟨S,o+k,none⟩ L[k]
 have e:=zfh S (L.take k) o w L[k]
 rw [List.length_take,Nat.min_eq_left (Nat.le_of_lt hk)] at e
 rw [e] at this
 rw [List.take_succ_eq_append_getElem hk];exact this
theorem zee (S:Nat): ∀(l:List Value) (o:Nat) (w:World) (a:Addr),(w.setCells S o l).frozen? a=w.frozen? a
 | [],_,_,_=>rfl
 |x::l,o,w,a=>by simp only [World.setCells];rw [zee S l,World.frozen?_setCell]
theorem zjg {w wr:World}{S o n k:Nat}{L:List Value}{v:Value}(h:Below n (w.setCells S o (L.take k)) wr) (hS:S < n) (hv:w.cell? ⟨S,o+k,none⟩=some v):wr.cell? ⟨S,o+k,none⟩=some v:=by
 rw [h.cell (p:=⟨S,o+k,none⟩) hS,World.cell?_setCells_out S _ _ _ _ (λ_ _=>Or.inr (by have:=List.length_take_le k L;show o+_<=o+k;omega))]
 exact hv
theorem zhR {w wr:World}{S o n:Nat}{L:List Value}{a:Addr}{x:Bool}(h:Below n (w.setCells S o L) wr) (hS:a.block < n) (hv:w.frozen? a=x):wr.frozen? a=x:=by
 rw [h.frozen hS,zee];exact hv
theorem getD_some {α:Type}{L:List α}{i:Nat}(hi:i < L.length) (d:α):L[i]?=some (L.getD i d):=by simp [List.getD,hi]
theorem zhZ {w:World}{a:Addr}{x:Option Value}(h:w.cell? a=x):w.drew.cell? a=x:=h
theorem zg8 {w:World}{a:Addr}{x:Value}(o:Obj) (h:w.cell? a=some x):(w.alloc o).cell? a=some x:=by
 rw [World.cell?_alloc_lt _ _ _ (World.block_lt_of_cell? w a h)];exact h
theorem zn4 {w:World}{b i j:Nat}{v:Value}{x:Option Value}(hij:i≠j) (h:w.cell? ⟨b,j,none⟩=x):(w.setCell ⟨b,i,none⟩ v).cell? ⟨b,j,none⟩=x:=by
 rw [World.cell?_setCell_other _ _ _ _ (λe=>hij (congrArg Addr.off e))];exact h
end Go.Wd
end
section
namespace Go.Proofs.YtcpjfilcilcekaaGreatDoor
open Go.RowKit Go.Wd Go.Sh
attribute [local go_sem] and32 or32 xor32 not32 add32 zh4 zcc zk0
attribute [local go_sem ↓] Go.wp_at_zero Go.wp_at_succ
theorem znB (n:Nat) (h0:0 < n) (h1:n < 32):bits .and .u64 (IntKind.u64.wrap (-(n:Int))) 31=((32 - n:Nat):Int):=by
 have h:n=1\/n=2\/n=3\/n=4\/n=5\/n=6\/n=7\/n=8\/n=9\/n=10\/n=11\/n=12\/n=13\/n=14\/n=15\/n=16\/n=17\/n=18\/n=19\/n=20\/n=21\/n=22\/n=23\/n=24\/n=25\/n=26\/n=27\/n=28\/n=29\/n=30\/n=31:=by omega
 rcases h with h|h|h|h|h|h|h|h|h|h|h|h|h|h|h|h|h|h|h|h|h|h|h|h|h|h|h|h|h|h|h <;> subst h <;> rfl
theorem zq1 (x:UInt32) (n:Nat) (h0:0 < n) (h1:n < 32):bits .or .u32 (n32 x*2 ^ (32 - n) % 4294967296) (n32 x / 2 ^ n)=n32 (rotr x n):=by
 have e1:=shl32 x (32 - n) (by omega)
 have e2:=shr32 x n h1
 rw [IntKind.wrap_u32] at e1
 simp only [Int.natCast_pow,Int.cast_ofNat_Int] at e1 e2
 rw [e1,e2,or32];rfl
set_option maxHeartbeats 400000 in
theorem zpU (x:UInt32) (n:Nat) (w:World) (h0:0 < n) (h1:n < 32):
  Calls Tryz.prog 197 #[.int .u32 (n32 x),.int .i64 (-(n:Int))] w λe w'=>e= .returned (.int .u32 (n32 (rotr x n)))/\w'=w:=by
 have e1:=znB n h0 h1
 have e2:IntKind.u64.wrap (32 - ((32 - n:Nat):Int))=(n:Int):=by rw [wrap_u64];omega
 go_enter Tryz.func197,Tryz.ntmps197
 go_wp2
 go_ret
 exact ⟨zkv (zq1 x n h0 h1),rfl⟩
set_option maxHeartbeats 400000 in
theorem zdH (x:UInt32) (ns:List Nat) (B:Nat) (w:World) (hn: ∀n∈ns,0 < n/\n < 32) (hl:ns.length < 32)
  (hc: ∀i (h:i < ns.length),w.cell? ⟨B,i,none⟩=some (.int .i64 (ns[i]:Nat))):
  Calls Tryz.prog 177 #[.int .u32 (n32 x),.slice (some ⟨B,0,none⟩) ns.length ns.length] w λe w'=>e= .returned (.int .u32 (n32 (turn x ns)))/\w'=w:=by
 have Hn:=Lib.hid hn
 have Hc:=Lib.hid hc
 clear hn hc
 go_enter Tryz.func177,Tryz.ntmps177
 go_wp2
 go_loop [4,9] (λy i=>∃k:Nat,k<=ns.length/\i= .int .i64 k/\y= .int .u32 (n32 (turn x (ns.take k)))) (λ_ i=>ns.length - (intOf i).toNat)
 case atStart=>exact ⟨0,Nat.zero_le _,rfl,rfl⟩
 case round=>
  obtain ⟨k,hk,rfl,rfl⟩:=hrel
  by_cases hlt:k < ns.length
  ·have hcell:=Hc.out k hlt
   obtain ⟨hn0,hn1⟩:=Hn.out _ (List.getElem_mem hlt)
   have HS:=Lib.hid (zmA x ns k hlt)
   generalize ns[k]=n at *
   go_wp2_with (go_at_call 197;refine (zpU _ _ _ hn0 hn1).mono ?_;rintro e w' ⟨rfl,rfl⟩)
   go_round
   case rel=>exact ⟨k+1,by omega,by go_num,by rw [HS.out]⟩
   case measure=>simp [intOf];omega
  ·go_wp2
   go_ret
   exact ⟨zkv (by rw [List.take_of_length_le (by omega)]),rfl⟩
theorem zjB (x:UInt32) (B:Nat) (w:World) (h0:w.cell? ⟨B,0,none⟩=some (.int .i64 17)) (h1:w.cell? ⟨B,1,none⟩=some (.int .i64 19)):
  Calls Tryz.prog 177 #[.int .u32 (n32 x),.slice (some ⟨B,0,none⟩) 2 2] w λe w'=>e= .returned (.int .u32 (n32 (turn x [17,19])))/\w'=w:=
 zdH x [17,19] B w (by simp) (by simp) λi hi=>by
  match i,hi with
  |0,_=>exact h0
  |1,_=>exact h1
theorem zkd (x:UInt32) (B:Nat) (w:World) (h0:w.cell? ⟨B,0,none⟩=some (.int .i64 7)) (h1:w.cell? ⟨B,1,none⟩=some (.int .i64 18)):
  Calls Tryz.prog 177 #[.int .u32 (n32 x),.slice (some ⟨B,0,none⟩) 2 2] w λe w'=>e= .returned (.int .u32 (n32 (turn x [7,18])))/\w'=w:=
 zdH x [7,18] B w (by simp) (by simp) λi hi=>by
  match i,hi with
  |0,_=>exact h0
  |1,_=>exact h1
theorem zhz (x:UInt32) (B:Nat) (w:World) (h0:w.cell? ⟨B,0,none⟩=some (.int .i64 6)) (h1:w.cell? ⟨B,1,none⟩=some (.int .i64 11)) (h2:w.cell? ⟨B,2,none⟩=some (.int .i64 25)):
  Calls Tryz.prog 177 #[.int .u32 (n32 x),.slice (some ⟨B,0,none⟩) 3 3] w λe w'=>e= .returned (.int .u32 (n32 (turn x [6,11,25])))/\w'=w:=
 zdH x [6,11,25] B w (by simp) (by simp) λi hi=>by
  match i,hi with
  |0,_=>exact h0
  |1,_=>exact h1
  |2,_=>exact h2
theorem zhT (x:UInt32) (B:Nat) (w:World) (h0:w.cell? ⟨B,0,none⟩=some (.int .i64 2)) (h1:w.cell? ⟨B,1,none⟩=some (.int .i64 13)) (h2:w.cell? ⟨B,2,none⟩=some (.int .i64 22)):
  Calls Tryz.prog 177 #[.int .u32 (n32 x),.slice (some ⟨B,0,none⟩) 3 3] w λe w'=>e= .returned (.int .u32 (n32 (turn x [2,13,22])))/\w'=w:=
 zdH x [2,13,22] B w (by simp) (by simp) λi hi=>by
  match i,hi with
  |0,_=>exact h0
  |1,_=>exact h1
  |2,_=>exact h2
set_option maxHeartbeats 400000 in
theorem zlE (x y z:UInt32) (w:World):
  Calls Tryz.prog 178 #[.int .u32 (n32 x),.int .u32 (n32 y),.int .u32 (n32 z)] w λe w'=>e= .returned (.int .u32 (n32 ((x &&& y) ^^^ (~~~x &&& z))))/\w'=w:=by
 go_enter Tryz.func178,Tryz.ntmps178
 go_wp2
 go_ret
 exact ⟨rfl,rfl⟩
set_option maxHeartbeats 400000 in
theorem zjU (x y z:UInt32) (w:World):
  Calls Tryz.prog 179 #[.int .u32 (n32 x),.int .u32 (n32 y),.int .u32 (n32 z)] w λe w'=>e= .returned (.int .u32 (n32 (((x &&& y) ^^^ (x &&& z)) ^^^ (y &&& z))))/\w'=w:=by
 go_enter Tryz.func179,Tryz.ntmps179
 go_wp2
 go_ret
 exact ⟨rfl,rfl⟩
end Go.Proofs.YtcpjfilcilcekaaGreatDoor
end
