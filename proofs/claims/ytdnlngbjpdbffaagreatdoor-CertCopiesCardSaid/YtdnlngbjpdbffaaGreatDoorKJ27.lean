/- Lemmas of this proof. -/
import Derived.Deep.QuietTactic
import Derived.BigQuiet
import Derived.Lib.Hide
import Derived.Test.YtdnlngbjpdbffaaGreatDoorKJ22
import Derived.WalkSpells
import Derived.WalkLawsBesides
import Derived.Deep.RegionHeld3
import Derived.Deep.DrawnRows
import Derived.StillTailTactics
import Derived.BigRegion
set_option maxHeartbeats 8000000
set_option linter.all false
namespace Go.Wd
open Go Go.RowKit
def v8(x:UInt8):Value:=.int .u8 (n8 x)
def v32(x:UInt32):Value:=.int .u32 (n32 x)
def Blk(w:World)(B T:Nat)(C:List Value):Prop:=w.heap[B]?=some (.cells C.toArray T (0,0))
theorem Blk.cell{w:World}{B T:Nat}{C:List Value}(h:Blk w B T C)(i:Nat):w.cell? ⟨B,i,none⟩=C[i]?:=by
 unfold Blk at h;simp[World.cell?,h]
theorem Blk.free{w:World}{B T:Nat}{C:List Value}(h:Blk w B T C)(i:Nat):w.frozen? ⟨B,i,none⟩=false:=by
 unfold Blk at h;simp[World.frozen?,h]
theorem Blk.lt{w:World}{B T:Nat}{C:List Value}(h:Blk w B T C):B<w.heap.size:=lt_of_block h
theorem Blk.new(w:World)(T:Nat)(C:List Value):Blk (w.alloc (.cells C.toArray T)) w.heap.size T C:=by
 unfold Blk;show(w.heap.push _)[w.heap.size]?=_;simp
theorem Blk.alloc{w:World}{B T:Nat}{C:List Value}(h:Blk w B T C)(o:Obj):Blk (w.alloc o) B T C:=by
 unfold Blk at*;rw[Below.heap_alloc _ _ _ (lt_of_block h)];exact h
theorem Blk.drew{w:World}{B T:Nat}{C:List Value}(h:Blk w B T C):Blk w.drew B T C:=h
theorem Blk.drewN{w:World}{B T:Nat}{C:List Value}(h:Blk w B T C)(n:Nat):Blk (w.drewN n) B T C:=h
theorem Blk.set{w:World}{B T:Nat}{C:List Value}(h:Blk w B T C)(i:Nat)(v:Value):Blk (w.setCell ⟨B,i,none⟩ v) B T (C.set i v):=by
 unfold Blk at*;simp[World.setCell,Cv,h]
theorem Blk.setMap{w:World}{B T:Nat}{α:Type}{f:α->Value}{L:List α}(h:Blk w B T (L.map f))(i:Nat)(x:α):Blk (w.setCell ⟨B,i,none⟩ (f x)) B T ((L.set i x).map f):=by
 rw[BS];exact h.set i (f x)
theorem zje(n k:Nat)(w:World):Below n w (w.drewN k):=⟨rfl,rfl,rfl,A4 _,λ_ _=>rfl⟩
theorem Below.setCell_both{n:Nat}{a w:World}(h:Below n a w)(p:Addr)(v:Value):Below n (a.setCell p v) (w.setCell p v):=by
 refine⟨h.os,h.tape,h.output,by simpa using h.size,λk j=>?_⟩;simp only[World.setCell,Cv];rw[h.block k j]
theorem zhT(B:Nat):∀(l:List Value) (o:Nat) (w:World) (v:Value),(w.setCells B o l).setCell ⟨B,o+l.length,none⟩ v=w.setCells B o (l++[v])
 | [],o,w,v=>by simp[World.setCells]
 |x::l,o,w,v=>by
  have:=zhT B l (o+1) (w.setCell ⟨B,o,none⟩ x) v;simp only[World.setCells,An,Ac];rw[<-this];congr 2;omega
theorem size_setCells(B:Nat):∀(l:List Value) (o:Nat) (w:World),(w.setCells B o l).heap.size=w.heap.size
 | [],_,_=>rfl
 |x::l,o,w=>by simp only[World.setCells];rw[size_setCells B l];simp
theorem zlQ{w w':World}{n b o:Nat}{cs:List Value}(h:w.rangeAt b o cs)(hb:Below n w w')(m:b<n):w'.rangeAt b o cs:=λj v q=>by
 rw[hb.cell (p:=⟨b,o+j,none⟩) m];exact h j v q
theorem zhS{P:Program}{T E n:Nat}{d:TypeDesc}{cs:Array Value}{i:Nat}{v:Value}(hu:P.underlying T=some (.array n E))(q:(P.info? E).map (·.size)=some 1)
  (he:P.underlying E=some d)(A:d.isRow=false)(r:i<n)(hv:cs[i]?=some v)(w:World):(Instr.index T (.agg cs) (.int .i64 i)).run P w= .ok v w:=by
 cases hq:P.info? E with
 |none=>simp[hq] at q
 |some j=>
  have t:j.size=1:=by simpa [hq] using q
  have m:(isAgg E).run P w= .ok false w:=by
   unfold isAgg;rw[Sem.run_bind,run_underlying he w];cases d <;> simp_all
  have h0:(0:Int)<=(i:Int)/\(i:Int)<(n:Int):=q_o;simp[Instr.index,asIntOf,Sem.run_bind,run_underlying hu w,h0,sizeOf,typeInfo,hq,t,part,m,hv,r]
theorem zoN{k:IntKind}{a b:Int}(h:a=b):Ending.returned (.int k a)= .returned (.int k b):=by rw[h]
theorem za8{α:Type}{C L:List α}{k:Nat}(h:k<C.length)(hL:C.take k=L)(v:α):(C.set k v).take (k+1)=L++[v]:=by
 rw[Aj (by simpa using h),DL (A4 k),hL];simp
theorem zc2{α:Type}{C L:List α}{k i:Nat}(hL:C.take k=L)(j:i<k)(d:α):C.getD i d=L.getD i d:=by
 subst hL;simp[List.getD,j]
theorem Blk.cellD{w:World}{B T:Nat}{α:Type}{f:α->Value}{L:List α}(h:Blk w B T (L.map f)){i:Nat}(j:i<L.length)(d:α):w.cell? ⟨B,i,none⟩=some (f (L.getD i d)):=by
 rw[h.cell];simp[j,List.getD]
theorem zdA{w:World}{b o:Nat}{α:Type}{f:α->Value}{L:List α}(h:w.rangeAt b o (L.map f)){i:Nat}(j:i<L.length)(d:α):w.cell? ⟨b,o+i,none⟩=some (f (L.getD i d)):=
 h i _ (by simp[j,List.getD])
theorem zhW{α:Type}(f:α->Value)(L:List α){i:Nat}(j:i<L.length)(d:α):(L.map f).toArray[i]?=some (f (L.getD i d)):=by
 simp[List.getD,j]
theorem zhX{w m:World}{S o n k:Nat}{L:List Value}{v:Value}(h:Below n (w.setCells S o (L.take k)) m)(hv:L[k]?=some v):
  Below n (w.setCells S o (L.take (k+1))) (m.setCell ⟨S,o+k,none⟩ v):=by
 obtain⟨j,rfl⟩:=AQ.1 hv;have:=Below.setCell_both h ⟨S,o+k,none⟩ L[k];have e:=zhT S (L.take k) o w L[k];rw[AU,BO (BH j)] at e;rw[e] at this;rw[Aj j];exact this
theorem zgp(S:Nat):∀(l:List Value) (o:Nat) (w:World) (a:Addr),(w.setCells S o l).frozen? a=w.frozen? a
 | [],_,_,_=>rfl
 |x::l,o,w,a=>by simp only[World.setCells];rw[zgp S l,World.frozen?_setCell]
theorem znk{w j:World}{S o n k:Nat}{L:List Value}{v:Value}(h:Below n (w.setCells S o (L.take k)) j)(m:S<n)(hv:w.cell? ⟨S,o+k,none⟩=some v):j.cell? ⟨S,o+k,none⟩=some v:=by
 rw[h.cell (p:=⟨S,o+k,none⟩) m,World.cell?_setCells_out S _ _ _ _ (λ_ _=>Or.inr (by have:=List.length_take_le k L;show o+_<=o+k;omega))];exact hv
theorem zkA{w j:World}{S o n:Nat}{L:List Value}{a:Addr}{x:Bool}(h:Below n (w.setCells S o L) j)(m:a.block<n)(hv:w.frozen? a=x):j.frozen? a=x:=by
 rw[h.frozen m,zgp];exact hv
theorem getD_some{α:Type}{L:List α}{i:Nat}(j:i<L.length)(d:α):L[i]?=some (L.getD i d):=by simp[List.getD,j]
theorem zlC{w:World}{a:Addr}{x:Option Value}(h:w.cell? a=x):w.drew.cell? a=x:=h
theorem zkq{w:World}{a:Addr}{x:Value}(o:Obj)(h:w.cell? a=some x):(w.alloc o).cell? a=some x:=by
 rw[World.cell?_alloc_lt _ _ _ (World.block_lt_of_cell? w a h)];exact h
theorem zsp{w:World}{b i j:Nat}{v:Value}{x:Option Value}(m:i≠j)(h:w.cell? ⟨b,j,none⟩=x):(w.setCell ⟨b,i,none⟩ v).cell? ⟨b,j,none⟩=x:=by
 rw[World.cell?_setCell_other _ _ _ _ (λe=>m (congrArg Addr.off e))];exact h
end Go.Wd
namespace Go.Proofs.YtdnlngbjpdbffaaGreatDoor
section
open Go.RowKit Go.Wd Go.Sh
attribute [local go_sem] zuc ztO zkw zt6 zi4 zlE zdz zow
attribute [local go_sem ↓] Go.wp_at_zero Go.wp_at_succ
theorem zrs(n:Nat)(h0:0<n)(h1:n<32):bits .and .u64 (IntKind.u64.wrap (-(n:Int))) 31=((32-n:Nat):Int):=by
 have h:n=1\/n=2\/n=3\/n=4\/n=5\/n=6\/n=7\/n=8\/n=9\/n=10\/n=11\/n=12\/n=13\/n=14\/n=15\/n=16\/n=17\/n=18\/n=19\/n=20\/n=21\/n=22\/n=23\/n=24\/n=25\/n=26\/n=27\/n=28\/n=29\/n=30\/n=31:=q_o;rcases h with h|h|h|h|h|h|h|h|h|h|h|h|h|h|h|h|h|h|h|h|h|h|h|h|h|h|h|h|h|h|h <;> subst h <;> rfl
theorem zvK(x:UInt32)(n:Nat)(h0:0<n)(h1:n<32):bits .or .u32 (n32 x*2^(32-n)%4294967296) (n32 x/2^n)=n32 (zcT x n):=by
 have j:=zmc x (32-n) q_o;have m:=zgI x n h1;rw[IntKind.wrap_u32] at j;simp only[CE,Int.cast_ofNat_Int] at j m;rw[j,m,ztO];rfl
theorem zur (x:UInt32) (n:Nat) (w:World) (h0:0 < n) (h1:n < 32):
  Calls Tryz.prog 323 #[.int .u32 (n32 x),.int .i64 (-(n:Int))] w λe w'=>e= .returned (.int .u32 (n32 (zcT x n)))/\w'=w:=by
 have e1:=zrs n h0 h1;have e2:IntKind.u64.wrap (32 - ((32 - n:Nat):Int))=(n:Int):=by rw [wrap_u64];omega
 go_enter Tryz.func323,Tryz.ntmps323
 go_wp2
 go_ret
 exact ⟨zoN (zvK x n h0 h1),rfl⟩
theorem zfL (x:UInt32) (ns:List Nat) (B:Nat) (w:World) (hn: ∀n∈ns,0 < n/\n < 32) (hl:ns.length < 32)
  (hc: ∀i (h:i < ns.length),w.cell? ⟨B,i,none⟩=some (.int .i64 (ns[i]:Nat))):
  Calls Tryz.prog 296 #[.int .u32 (n32 x),.slice (some ⟨B,0,none⟩) ns.length ns.length] w λe w'=>e= .returned (.int .u32 (n32 (zdO x ns)))/\w'=w:=by
 have Hn:=Lib.hid hn;have Hc:=Lib.hid hc;clear hn hc
 go_enter Tryz.func296,Tryz.ntmps296
 go_wp2
 go_loop [4,9] (λy i=>∃k:Nat,k<=ns.length/\i= .int .i64 k/\y= .int .u32 (n32 (zdO x (ns.take k)))) (λ_ i=>ns.length - (intOf i).toNat)
 case atStart=>exact ⟨0,Nat.zero_le _,rfl,rfl⟩
 case round=>
  obtain ⟨k,hk,rfl,rfl⟩:=hrel;by_cases hlt:k < ns.length
  ·have hcell:=Hc.out k hlt;obtain ⟨hn0,hn1⟩:=Hn.out _ (List.getElem_mem hlt);have HS:=Lib.hid (zrW x ns k hlt);generalize ns[k]=n at *
   go_wp2_with (go_at_call 323;refine (zur _ _ _ hn0 hn1).mono ?_;rintro e w' ⟨rfl,rfl⟩)
   go_round
   case rel=>exact ⟨k+1,by omega,by go_num,by rw [HS.out]⟩
   case measure=>simp [intOf];omega
  ·go_wp2
   go_ret
   exact ⟨zoN (by rw [List.take_of_length_le q_o]),rfl⟩
theorem zny(x:UInt32)(B:Nat)(w:World)(h0:w.cell? ⟨B,0,none⟩=some (.int .i64 17))(h1:w.cell? ⟨B,1,none⟩=some (.int .i64 19)):
  Calls Tryz.prog 296 #[.int .u32 (n32 x),.slice (some ⟨B,0,none⟩) 2 2] w λe m=>e= .returned (.int .u32 (n32 (zdO x [17,19])))/\m=w:=
 zfL x [17,19] B w q_p q_p λi j=>by
  match i,j with
  |0,_=>exact h0
  |1,_=>exact h1
theorem zok(x:UInt32)(B:Nat)(w:World)(h0:w.cell? ⟨B,0,none⟩=some (.int .i64 7))(h1:w.cell? ⟨B,1,none⟩=some (.int .i64 18)):
  Calls Tryz.prog 296 #[.int .u32 (n32 x),.slice (some ⟨B,0,none⟩) 2 2] w λe m=>e= .returned (.int .u32 (n32 (zdO x [7,18])))/\m=w:=
 zfL x [7,18] B w q_p q_p λi j=>by
  match i,j with
  |0,_=>exact h0
  |1,_=>exact h1
theorem zkV(x:UInt32)(B:Nat)(w:World)(h0:w.cell? ⟨B,0,none⟩=some (.int .i64 6))(h1:w.cell? ⟨B,1,none⟩=some (.int .i64 11))(h2:w.cell? ⟨B,2,none⟩=some (.int .i64 25)):
  Calls Tryz.prog 296 #[.int .u32 (n32 x),.slice (some ⟨B,0,none⟩) 3 3] w λe m=>e= .returned (.int .u32 (n32 (zdO x [6,11,25])))/\m=w:=
 zfL x [6,11,25] B w q_p q_p λi j=>by
  match i,j with
  |0,_=>exact h0
  |1,_=>exact h1
  |2,_=>exact h2
theorem zkF(x:UInt32)(B:Nat)(w:World)(h0:w.cell? ⟨B,0,none⟩=some (.int .i64 2))(h1:w.cell? ⟨B,1,none⟩=some (.int .i64 13))(h2:w.cell? ⟨B,2,none⟩=some (.int .i64 22)):
  Calls Tryz.prog 296 #[.int .u32 (n32 x),.slice (some ⟨B,0,none⟩) 3 3] w λe m=>e= .returned (.int .u32 (n32 (zdO x [2,13,22])))/\m=w:=
 zfL x [2,13,22] B w q_p q_p λi j=>by
  match i,j with
  |0,_=>exact h0
  |1,_=>exact h1
  |2,_=>exact h2
theorem zpM (x y z:UInt32) (w:World):
  Calls Tryz.prog 297 #[.int .u32 (n32 x),.int .u32 (n32 y),.int .u32 (n32 z)] w λe w'=>e= .returned (.int .u32 (n32 ((x &&& y) ^^^ (~~~x &&& z))))/\w'=w:=by
 go_enter Tryz.func297,Tryz.ntmps297
 go_wp2
 go_ret
 exact ⟨rfl,rfl⟩
theorem zmy (x y z:UInt32) (w:World):
  Calls Tryz.prog 298 #[.int .u32 (n32 x),.int .u32 (n32 y),.int .u32 (n32 z)] w λe w'=>e= .returned (.int .u32 (n32 (((x &&& y) ^^^ (x &&& z)) ^^^ (y &&& z))))/\w'=w:=by
 go_enter Tryz.func298,Tryz.ntmps298
 go_wp2
 go_ret
 exact ⟨rfl,rfl⟩
end
open Go.RowKit Go.Wd Go.Sh
attribute [local go_sem] zuc ztO zkw zt6 zi4 zlE zdz zow zsQ zsB zuQ zsx zsf zuP zmA zou
attribute [local go_sem ↓] Go.wp_at_zero Go.wp_at_succ
theorem zvF:(Tryz.prog.info? 298).map (·.size)=some (kC.map v32).length:=by kernel_rfl
set_option maxRecDepth 100000 in
theorem zvt (S o b bo:Nat) (s:List UInt32) (blk:List UInt8) (w:World) (hs:s.length=8) (hb:blk.length=64)
  (hS:w.rangeAt S o (s.map v32)) (hT:w.there S o 8) (hB:w.rangeAt b bo (blk.map v8)) (hK:w.rangeAt 3 0 (kC.map v32)):
  Calls Tryz.prog 247 #[.pointer (some ⟨S,o,none⟩),.slice (some ⟨b,bo,none⟩) 64 64] w λe w'=>e= .returned (.tuple #[])/\
   Below w.heap.size (w.setCells S o ((zbr s blk).map v32)) w':=by
 have HS:=Lib.hid hS;have HT:=Lib.hid hT;have HB:=Lib.hid hB;have HK:=Lib.hid hK;have Hs:=Lib.hid hs;have Hb:=Lib.hid hb;clear hS hT hB hK hs hb
 go_enter Tryz.func247,Tryz.ntmps247
 go_wp2
 go_loopw [26] (λi wr=>∃(k:Nat) (C:List UInt32),k<=16/\i= .int .i64 k/\C.length=64/\C.take k=zbJ blk k/\Blk wr w.heap.size 298 (C.map v32)/\Below w.heap.size w wr) (λi _=>16 - (intOf i).toNat)
 case atStart=>
  exact ⟨0,List.replicate 64 0,by omega,rfl,by simp,rfl,by rw [List.map_replicate];exact Blk.new _ _ _,(Below.refl _ _).alloc (Nat.le_refl _) _⟩
 case round=>
  obtain ⟨k,C,hk,rfl,hC,hW,hbk,hbe⟩:=hrel;have HC:=Lib.hid hC;have HW:=Lib.hid hW;have HBK:=Lib.hid hbk;have HBE:=Lib.hid hbe;clear hC hW hbk hbe;by_cases hlt:k < 16
  ·have hw0:=zk8 blk k hlt;unfold ziH at hw0;have byte: ∀j,j < 4->wr.cell? ⟨b,bo+(4*k+j),none⟩=some (v8 (blk.getD (4*k+j) 0)):=λj hj=>by
    have hbs:b < w.heap.size:=World.block_lt_of_cell? w _ (zdA HB.out (i:=0) (by rw [Hb.out];omega) 0);rw [HBE.out.cell (p:=⟨b,bo+(4*k+j),none⟩) hbs];exact zdA HB.out (by rw [Hb.out];omega) 0
   have c0:=byte 0 q_o;have c1:=byte 1 q_o;have c2:=byte 2 q_o;have c3:=byte 3 q_o;clear byte;rw [Nat.add_zero] at c0;generalize blk.getD (4*k) 0=b0 at *;generalize blk.getD (4*k+1) 0=b1 at *;generalize blk.getD (4*k+2) 0=b2 at *;generalize blk.getD (4*k+3) 0=b3 at *;rw [<-Nat.add_assoc] at c1 c2 c3;unfold v8 at c0 c1 c2 c3;have ct:=HBK.out.cellD (i:=k) (by rw [HC.out];omega) 0;have cf:=HBK.out.free k;generalize C.getD k 0=old at ct;unfold v32 at ct;have HW0:=Lib.hid hw0;clear hw0;have hk0:(0:Int)<=(k:Int):=Int.natCast_nonneg _;have hk1:(k:Int) < 16:=q_o;have hk2:(k:Int) < 64:=q_o;have e4:4*k+4-4*k=4:=q_o
   go_wp2
   go_still_tail 24,(by kernel_rfl)
   change wpList _ _ _ _ _ wr.drew
   go_wp2
   go_roundw
   case rel=>
    exact ⟨k+1,C.set k (zn2 b0 b1 b2 b3),by omega,by go_num,by rw [List.length_set];exact HC.out,by rw [HW0.out];exact za8 (by rw [HC.out];omega) HW.out _,
     (HBK.out.setMap k (zn2 b0 b1 b2 b3)).drew,(HBE.out.setCell (Nat.le_refl _) _).drew⟩
   case measure=>simp [intOf];omega
  ·have HK16:=Lib.hid (show k=16 by omega)
   go_wp2
   have hC:=HC.out;have hW:=HW.out;rw [HK16.out] at hW;have hbk:=HBK.out;have hbe:=HBE.out
   go_loopw [7] (λi wr=>∃(k:Nat) (C:List UInt32),16<=k/\k<=64/\i= .int .i64 k/\C.length=64/\C.take k=zbJ blk k/\Blk wr w.heap.size 298 (C.map v32)/\Below w.heap.size w wr) (λi _=>64 - (intOf i).toNat)
   case atStart=>exact ⟨16,C,by omega,by omega,rfl,hC,hW,hbk,hbe⟩
   case round=>
    clear hC hW hbk hbe HC HW HBK HBE;obtain ⟨t,C,ht0,ht,rfl,hC,hW,hbk,hbe⟩:=hrel;have HC:=Lib.hid hC;have HW:=Lib.hid hW;have HBK:=Lib.hid hbk;have HBE:=Lib.hid hbe;clear hC hW hbk hbe;by_cases hlt:t < 64
    ·have hw0:=zjY blk t ht0;have wd: ∀i,i < t->wr.cell? ⟨w.heap.size,i,none⟩=some (v32 ((zbJ blk t).getD i 0)):=λi hi=>by
      rw [<-zc2 HW.out hi];exact HBK.out.cellD (by rw [HC.out];omega) 0
     have c2:=wd (t - 2) q_o;have c7:=wd (t - 7) q_o;have c15:=wd (t - 15) q_o;have c16:=wd (t - 16) q_o;clear wd;generalize (zbJ blk t).getD (t - 2) 0=w2 at *;generalize (zbJ blk t).getD (t - 7) 0=w7 at *;generalize (zbJ blk t).getD (t - 15) 0=w15 at *;generalize (zbJ blk t).getD (t - 16) 0=w16 at *;unfold v32 at c2 c7 c15 c16;have ct:=HBK.out.cellD (i:=t) (by rw [HC.out];omega) 0;have cf:=HBK.out.free t;generalize C.getD t 0=old at ct;unfold v32 at ct;have HW0:=Lib.hid hw0;clear hw0;have hk0:(0:Int)<=(t:Int):=Int.natCast_nonneg _;have hk2:(t:Int) < 64:=q_o;have hk3:(16:Int)<=(t:Int):=q_o
     go_wp2
     go_quiet (fail)
     go_wp2
     rename_i nq;have c7':(wr.drewN nq).cell? ⟨w.heap.size,t - 7,none⟩=some (.int .u32 (n32 w7)):=c7;have c16':(wr.drewN nq).cell? ⟨w.heap.size,t - 16,none⟩=some (.int .u32 (n32 w16)):=c16;have ct':(wr.drewN nq).cell? ⟨w.heap.size,t,none⟩=some (.int .u32 (n32 old)):=ct;have cf':(wr.drewN nq).frozen? ⟨w.heap.size,t,none⟩=false:=cf;have HBK':Hid (Blk (wr.drewN nq) w.heap.size 298 (C.map v32)):=Lib.hid (HBK.out.drewN nq);have HBE':Hid (Below w.heap.size w (wr.drewN nq)):=Lib.hid (HBE.out.trans (zje _ _ wr));have hlt':w.heap.size < (wr.drewN nq).heap.size:=HBK'.out.lt;clear c2 c7 c15 c16 ct cf HBK HBE;generalize wr.drewN nq=wx at *;have e7:IntKind.i64.wrap ((t:Int) - 7)=(t:Int) - 7:=IntWalk.i64_in _ q_o;have e16:IntKind.i64.wrap ((t:Int) - 16)=(t:Int) - 16:=IntWalk.i64_in _ q_o;have p7:(7:Int)<=(t:Int):=q_o;have q7:(t:Int) - 7 < 64:=q_o;have q16:(t:Int) - 16 < 64:=q_o;have n7: ¬t=t - 7:=q_o;have n16: ¬t=t - 16:=q_o;have n0: ¬t=0:=q_o;have r7:((t:Int) - 7).toNat=t - 7:=q_o;have r16:((t:Int) - 16).toNat=t - 16:=q_o
     go_region_held3 (λw'=>w'.cell? ⟨w.heap.size,t - 7,none⟩=some (.int .u32 (n32 w7))/\w'.cell? ⟨w.heap.size,t - 16,none⟩=some (.int .u32 (n32 w16)))
      ((repeat' apply And.intro) <;> repeat (first|assumption|refine zlC ?_|refine zkq _ ?_|refine zsp q_o ?_))
      (first
       |(go_at_call 296;refine (zny _ _ _ ?_ ?_).mono ?_;(focus (simp [go_sem];done));(focus (simp [go_sem];done));rintro e w' ⟨rfl,rfl⟩)
       |(go_at_call 296;refine (zok _ _ _ ?_ ?_).mono ?_;(focus (simp [go_sem];done));(focus (simp [go_sem];done));rintro e w' ⟨rfl,rfl⟩))
     all_goals go_wp2
     all_goals (
      go_roundw
      case rel=>
       try simp only [zmA,zou,zkw,zr1,zi4]
       exact ⟨t+1,C.set t (next w2 w7 w15 w16),by omega,by omega,by go_num,by rw [List.length_set];exact HC.out,by rw [HW0.out];exact za8 (by rw [HC.out];omega) HW.out _,
        by repeat (first|exact HBK'.out.setMap t _|refine Blk.drew ?_|refine Blk.alloc ?_ _),
        by repeat (first|exact HBE'.out|refine Below.drew ?_|refine Below.alloc ?_ (by first|omega|(simp;omega)) _|refine Below.setCell ?_ (by exact Nat.le_refl _) _)⟩
      case measure=>simp [intOf];omega)
    ·obtain rfl:t=64:=q_o;have hW64:=HW.out;rw [List.take_of_length_le (by rw [HC.out];omega)] at hW64;obtain ⟨WW,hWW⟩: ∃x,x=zbJ blk 64:=⟨_,rfl⟩;rw [<-hWW] at hW64;have HWW:=Lib.hid hWW;clear hWW;subst hW64;have HWL:=HC;clear HC HW;have hSw:S < w.heap.size:=World.block_lt_of_cell? w _ (zdA HS.out (i:=0) (by rw [Hs.out];omega) 0);have hKw:3 < w.heap.size:=World.block_lt_of_cell? w ⟨3,0+0,none⟩ (zdA HK.out (i:=0) (by rw [zna];omega) 0);have cS: ∀i,i < 8->wr.cell? ⟨S,o+i,none⟩=some (v32 (s.getD i 0)):=λi hi=>by
      rw [HBE.out.cell (p:=⟨S,o+i,none⟩) hSw];exact zdA HS.out (by rw [Hs.out];omega) 0
     have c0:=cS 0 q_o;have c1:=cS 1 q_o;have c2:=cS 2 q_o;have c3:=cS 3 q_o;have c4:=cS 4 q_o;have c5:=cS 5 q_o;have c6:=cS 6 q_o;have c7:=cS 7 q_o;clear cS;rw [Nat.add_zero] at c0;have hSt:Hid (zc3 s C 0=⟨s.getD 0 0,s.getD 1 0,s.getD 2 0,s.getD 3 0,s.getD 4 0,s.getD 5 0,s.getD 6 0,s.getD 7 0⟩):=Lib.hid rfl;generalize s.getD 0 0=s0 at *;generalize s.getD 1 0=s1 at *;generalize s.getD 2 0=s2 at *;generalize s.getD 3 0=s3 at *;generalize s.getD 4 0=s4 at *;generalize s.getD 5 0=s5 at *;generalize s.getD 6 0=s6 at *;generalize s.getD 7 0=s7 at *;unfold v32 at c0 c1 c2 c3 c4 c5 c6 c7
     go_wp2
     go_quiet (fail)
     rename_i nq;have HBK':Hid (Blk (wr.drewN nq) w.heap.size 298 (C.map v32)):=Lib.hid (HBK.out.drewN nq);have HBE':Hid (Below w.heap.size w (wr.drewN nq)):=Lib.hid (HBE.out.trans (zje _ _ wr));clear c0 c1 c2 c3 c4 c5 c6 c7 HBK HBE;generalize wr.drewN nq=wx at *;obtain ⟨KA,hKA⟩: ∃KA,KA=(kC.map v32).toArray:=⟨_,rfl⟩;have HKA:=Lib.hid hKA;clear hKA;have hr:=Lib.hid (zlQ HK.out HBE'.out hKw);have hinfo:(Tryz.prog.info? 298).map (·.size)=some (kC.map v32).length:=zvF
     iterate 5 go_step
     refine wpList_load_mid rfl 298 _ rfl 3 0 rfl (kC.map v32) _ hr.out Tryz.underlying298 rfl hinfo ?_;rw [<-HKA.out];clear hinfo
     go_wp2
     go_loopw [12,13,14,15,16,17,18,19,134] (λva vb vc vd ve vf vg vh i wr=>∃(t:Nat) (v:St),t<=64/\zc3 s C t=v/\i= .int .i64 t/\va= .int .u32 (n32 v.a)/\vb= .int .u32 (n32 v.b)/\vc= .int .u32 (n32 v.c)/\
       vd= .int .u32 (n32 v.d)/\ve= .int .u32 (n32 v.e)/\vf= .int .u32 (n32 v.f)/\vg= .int .u32 (n32 v.g)/\vh= .int .u32 (n32 v.h)/\Blk wr w.heap.size 298 (C.map v32)/\Below w.heap.size w wr)
      (λ_ _ _ _ _ _ _ _ i _=>64 - (intOf i).toNat)
     case atStart=>exact ⟨0,_,by omega,hSt.out,rfl,rfl,rfl,rfl,rfl,rfl,rfl,rfl,rfl,HBK'.out,HBE'.out⟩
     case round=>
      clear HBK' HBE' hr hSt;obtain ⟨t,v,ht,hv,rfl,rfl,rfl,rfl,rfl,rfl,rfl,rfl,rfl,hbk,hbe⟩:=hrel;obtain ⟨va,vb,vc,vd,ve,vf,vg,vh⟩:=v;dsimp only;have HV:=Lib.hid hv;have HBK:=Lib.hid hbk;have HBE:=Lib.hid hbe;clear hv hbk hbe;by_cases hlt:t < 64
      ·have hstep:zc3 s C (t+1)=(zc3 s C t).step (kC.getD t 0) (C.getD t 0):=rfl;rw [HV.out] at hstep;have cw:=HBK.out.cellD (i:=t) (by rw [HWL.out];omega) 0;have hidx: ∀w',(Instr.index 298 (.agg KA) (.int .i64 t)).run Tryz.prog w'= .ok (v32 (kC.getD t 0)) w':=λw'=>by
        rw [HKA.out];exact zhS Tryz.underlying298 (by kernel_rfl) Tryz.underlying247 rfl hlt (zhW _ _ (by rw [zna];exact hlt) 0) w'
       generalize C.getD t 0=wt at *;generalize kC.getD t 0=kt at *;have HST:=Lib.hid hstep;clear hstep;unfold v32 at cw hidx;have hk0:(0:Int)<=(t:Int):=Int.natCast_nonneg _;have hk2:(t:Int) < 64:=q_o;have hlt':w.heap.size < wr.heap.size:=HBK.out.lt
       go_wp2
       go_region_held3 (λw'=>w'.cell? ⟨w.heap.size,t,none⟩=some (.int .u32 (n32 wt)))
        ((repeat' apply And.intro) <;> repeat (first|assumption|refine zlC ?_|refine zkq _ ?_))
        (first
         |(go_at_call 296;refine (zkV _ _ _ ?_ ?_ ?_).mono ?_;(focus (simp [go_sem];done));(focus (simp [go_sem];done));(focus (simp [go_sem];done));rintro e w' ⟨rfl,rfl⟩)
         |(go_at_call 297;refine (zpM _ _ _ _).mono ?_;rintro e w' ⟨rfl,rfl⟩))
       all_goals go_wp2_with (first
         |(go_at_call 296;refine (zkF _ _ _ ?_ ?_ ?_).mono ?_;(focus (simp [go_sem];done));(focus (simp [go_sem];done));(focus (simp [go_sem];done));rintro e w' ⟨rfl,rfl⟩)
         |(go_at_call 298;refine (zmy _ _ _ _).mono ?_;rintro e w' ⟨rfl,rfl⟩))
       all_goals (
        go_roundw
        case rel=>
         try simp only [zkw,zi4]
         exact ⟨t+1,_,by omega,HST.out,by go_num,rfl,rfl,rfl,rfl,rfl,rfl,rfl,rfl,
          by repeat (first|exact HBK.out|refine Blk.drew ?_|refine Blk.alloc ?_ _),
          by repeat (first|exact HBE.out|refine Below.drew ?_|refine Below.alloc ?_ (by first|omega|(simp;omega)) _)⟩
        case measure=>simp [intOf];omega)
      ·obtain rfl:t=64:=q_o;have hcomp:Hid (zbr s blk=List.zipWith (· + ·) s [va,vb,vc,vd,ve,vf,vg,vh]):=by
        apply Lib.hid;unfold zbr;rw [<-HWW.out,HV.out];rfl
       have hSw:S < w.heap.size:=World.block_lt_of_cell? w _ (zdA HS.out (i:=0) (by rw [Hs.out];omega) 0)
       go_wp2
       go_loopw [186] (λi wr=>∃k:Nat,k<=8/\i= .int .i64 k/\Below w.heap.size (w.setCells S o (((zbr s blk).map v32).take k)) wr) (λi _=>8 - (intOf i).toNat)
       case atStart=>exact ⟨0,by omega,rfl,HBE.out⟩
       case round=>
        clear HBK HBE;obtain ⟨k,hk,rfl,hbe⟩:=hrel;by_cases hlt8:k < 8
        ·have ck:=znk hbe hSw (zdA HS.out (i:=k) (by rw [Hs.out];omega) 0);have cf:=zkA (a:=⟨S,o+k,none⟩) hbe hSw (HT.out k hlt8).2;have hidx: ∀w',(Instr.index 248 (.agg #[.int .u32 (n32 va),.int .u32 (n32 vb),.int .u32 (n32 vc),.int .u32 (n32 vd),.int .u32 (n32 ve),.int .u32 (n32 vf),.int .u32 (n32 vg),.int .u32 (n32 vh)]) (.int .i64 k)).run Tryz.prog w' =
           .ok (v32 ([va,vb,vc,vd,ve,vf,vg,vh].getD k 0)) w':=λw'=>
          zhS (cs:=([va,vb,vc,vd,ve,vf,vg,vh].map v32).toArray) Tryz.underlying248 (by kernel_rfl) Tryz.underlying247 rfl hlt8 (zhW _ _ (by simpa using hlt8) 0) w'
         have hnew:((zbr s blk).map v32)[k]?=some (v32 (s.getD k 0+ [va,vb,vc,vd,ve,vf,vg,vh].getD k 0)):=by
          rw [hcomp.out,List.getElem?_map,List.getElem?_zipWith,getD_some (by rw [Hs.out];exact hlt8) 0,getD_some (by simpa using hlt8) 0];rfl
         generalize [va,vb,vc,vd,ve,vf,vg,vh].getD k 0=vk at *;generalize s.getD k 0=sk at *;unfold v32 at ck hidx;have HNEW:=Lib.hid hnew;have HBE:=Lib.hid hbe;clear hnew hbe;have hk0:(0:Int)<=(k:Int):=Int.natCast_nonneg _;have hk2:(k:Int) < 8:=q_o
         go_wp2
         go_region
         all_goals go_wp2
         all_goals (
          go_roundw
          case rel=>
           try simp only [zi4]
           exact ⟨k+1,by omega,by go_num,(zhX HBE.out HNEW.out).drew⟩
          case measure=>simp [intOf];omega)
        ·obtain rfl:k=8:=q_o;have HBE:=Lib.hid hbe;clear hbe
         go_wp2
         go_end0
         refine ⟨rfl,?_⟩;have:=HBE.out;rw [List.take_of_length_le (by rw [List.length_map,zc0 _ _ Hs.out];exact Nat.le_refl _)] at this;exact this
end Go.Proofs.YtdnlngbjpdbffaaGreatDoor
