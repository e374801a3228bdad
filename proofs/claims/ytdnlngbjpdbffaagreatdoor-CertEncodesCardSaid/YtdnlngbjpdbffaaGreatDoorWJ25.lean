/- Lemmas of this proof. -/
import Derived.Test.YtdnlngbjpdbffaaGreatDoorWJ24
import Derived.WalkSpells
import Derived.WalkLawsBesides
import Derived.Deep.RegionHeld3
import Derived.Deep.DrawnRows
import Derived.StillTailTactics
import Derived.BigRegion
import Derived.ScopeJumps
set_option maxHeartbeats 8000000
set_option maxRecDepth 10000
set_option linter.all false
namespace Go.Proofs.YtdnlngbjpdbffaaGreatDoor
section
open Go.RowKit Go.Wd Go.Sh
attribute [local go_sem] zv7 zvy zlo zv0 zlk zmy zeS zqx
attribute [local go_sem ↓] Go.wp_at_zero Go.wp_at_succ
theorem ztq(n:Nat)(h0:0<n)(h1:n<32):bits .and .u64 (IntKind.u64.wrap (-(n:Int))) 31=((32-n:Nat):Int):=by
 have h:n=1\/n=2\/n=3\/n=4\/n=5\/n=6\/n=7\/n=8\/n=9\/n=10\/n=11\/n=12\/n=13\/n=14\/n=15\/n=16\/n=17\/n=18\/n=19\/n=20\/n=21\/n=22\/n=23\/n=24\/n=25\/n=26\/n=27\/n=28\/n=29\/n=30\/n=31:=q_o;rcases h with h|h|h|h|h|h|h|h|h|h|h|h|h|h|h|h|h|h|h|h|h|h|h|h|h|h|h|h|h|h|h <;> subst h <;> rfl
theorem zyc(x:UInt32)(n:Nat)(h0:0<n)(h1:n<32):bits .or .u32 (n32 x*2^(32-n)%4294967296) (n32 x/2^n)=n32 (zrp x n):=by
 have j:=znd x (32-n) q_o;have m:=zio x n h1;rw[IntKind.wrap_u32] at j;simp only[EU,Int.cast_ofNat_Int] at j m;rw[j,m,zvy];rfl
theorem zwC(x:UInt32)(n:Nat)(w:World)(h0:0<n)(h1:n<32):
  Calls Tryz.prog 323 #[.int .u32 (n32 x),.int .i64 (-(n:Int))] w λe w'=>e= .returned (.int .u32 (n32 (zrp x n)))/\w'=w:=by
 have e1:=ztq n h0 h1;have e2:IntKind.u64.wrap (32-((32-n:Nat):Int))=(n:Int):=by rw[wrap_u64];omega
 go_enter Tryz.func323,Tryz.ntmps323
 go_wp2
 go_ret
 exact⟨zqw (zyc x n h0 h1),rfl⟩
theorem zgj(x:UInt32)(ns:List Nat)(B:Nat)(w:World)(hn:∀n∈ns,0<n/\n<32)(hl:ns.length<32)
  (hc:∀i (h:i<ns.length),w.cell? ⟨B,i,none⟩=some (.int .i64 (ns[i]:Nat))):
  Calls Tryz.prog 296 #[.int .u32 (n32 x),.slice (some ⟨B,0,none⟩) ns.length ns.length] w λe w'=>e= .returned (.int .u32 (n32 (turn x ns)))/\w'=w:=by
 have Hn:=Lib.hid hn;have Hc:=Lib.hid hc;clear hn hc
 go_enter Tryz.func296,Tryz.ntmps296
 go_wp2
 go_loop [4,9] (λy i=>∃k:Nat,k<=ns.length/\i= .int .i64 k/\y= .int .u32 (n32 (turn x (ns.take k)))) (λ_ i=>ns.length-(intOf i).toNat)
 case atStart=>exact⟨0,A9 _,rfl,rfl⟩
 case round=>
  obtain⟨k,hk,rfl,rfl⟩:=hrel;by_cases hlt:k<ns.length
  ·have hcell:=Hc.out k hlt;obtain⟨hn0,hn1⟩:=Hn.out _ (Ad hlt);have HS:=Lib.hid (ztg x ns k hlt);generalize ns[k]=n at*
   go_wp2_with (go_at_call 323;refine(zwC _ _ _ hn0 hn1).mono ?_;rintro e w' ⟨rfl,rfl⟩)
   go_round
   case rel=>exact⟨k+1,by omega,by go_num,by rw[HS.out]⟩
   case measure=>simp[intOf];omega
  ·go_wp2
   go_ret
   exact⟨zqw (by rw[A8 q_o]),rfl⟩
theorem zoa(x:UInt32)(B:Nat)(w:World)(h0:w.cell? ⟨B,0,none⟩=some (.int .i64 17))(h1:w.cell? ⟨B,1,none⟩=some (.int .i64 19)):
  Calls Tryz.prog 296 #[.int .u32 (n32 x),.slice (some ⟨B,0,none⟩) 2 2] w λe m=>e= .returned (.int .u32 (n32 (turn x [17,19])))/\m=w:=
 zgj x [17,19] B w q_p q_p λi j=>by
  match i,j with
  |0,_=>exact h0
  |1,_=>exact h1
theorem zps(x:UInt32)(B:Nat)(w:World)(h0:w.cell? ⟨B,0,none⟩=some (.int .i64 7))(h1:w.cell? ⟨B,1,none⟩=some (.int .i64 18)):
  Calls Tryz.prog 296 #[.int .u32 (n32 x),.slice (some ⟨B,0,none⟩) 2 2] w λe m=>e= .returned (.int .u32 (n32 (turn x [7,18])))/\m=w:=
 zgj x [7,18] B w q_p q_p λi j=>by
  match i,j with
  |0,_=>exact h0
  |1,_=>exact h1
theorem zlz(x:UInt32)(B:Nat)(w:World)(h0:w.cell? ⟨B,0,none⟩=some (.int .i64 6))(h1:w.cell? ⟨B,1,none⟩=some (.int .i64 11))(h2:w.cell? ⟨B,2,none⟩=some (.int .i64 25)):
  Calls Tryz.prog 296 #[.int .u32 (n32 x),.slice (some ⟨B,0,none⟩) 3 3] w λe m=>e= .returned (.int .u32 (n32 (turn x [6,11,25])))/\m=w:=
 zgj x [6,11,25] B w q_p q_p λi j=>by
  match i,j with
  |0,_=>exact h0
  |1,_=>exact h1
  |2,_=>exact h2
theorem zlv(x:UInt32)(B:Nat)(w:World)(h0:w.cell? ⟨B,0,none⟩=some (.int .i64 2))(h1:w.cell? ⟨B,1,none⟩=some (.int .i64 13))(h2:w.cell? ⟨B,2,none⟩=some (.int .i64 22)):
  Calls Tryz.prog 296 #[.int .u32 (n32 x),.slice (some ⟨B,0,none⟩) 3 3] w λe m=>e= .returned (.int .u32 (n32 (turn x [2,13,22])))/\m=w:=
 zgj x [2,13,22] B w q_p q_p λi j=>by
  match i,j with
  |0,_=>exact h0
  |1,_=>exact h1
  |2,_=>exact h2
theorem zrf(x y z:UInt32)(w:World):
  Calls Tryz.prog 297 #[.int .u32 (n32 x),.int .u32 (n32 y),.int .u32 (n32 z)] w λe w'=>e= .returned (.int .u32 (n32 ((x &&& y) ^^^ (~~~x &&& z))))/\w'=w:=by
 go_enter Tryz.func297,Tryz.ntmps297
 go_wp2
 go_ret
 exact⟨rfl,rfl⟩
theorem zoJ(x y z:UInt32)(w:World):
  Calls Tryz.prog 298 #[.int .u32 (n32 x),.int .u32 (n32 y),.int .u32 (n32 z)] w λe w'=>e= .returned (.int .u32 (n32 (((x &&& y) ^^^ (x &&& z)) ^^^ (y &&& z))))/\w'=w:=by
 go_enter Tryz.func298,Tryz.ntmps298
 go_wp2
 go_ret
 exact⟨rfl,rfl⟩
end
open Go.RowKit Go.Wd Go.Sh
attribute [local go_sem] zv7 zvy zlo zv0 zlk zmy zeS zqx zt4 ztU zw6 zvp zuG zwS znv zqA
attribute [local go_sem ↓] Go.wp_at_zero Go.wp_at_succ
theorem zx4:(Tryz.prog.info? 298).map (·.size)=some (kC.map v32).length:=by kernel_rfl
set_option maxRecDepth 100000 in
theorem zxz(S o b bo:Nat)(s:List UInt32)(blk:List UInt8)(w:World)(hs:s.length=8)(hb:blk.length=64)
  (hS:w.rangeAt S o (s.map v32))(hT:w.there S o 8)(hB:w.rangeAt b bo (blk.map v8))(hK:w.rangeAt 3 0 (kC.map v32)):
  Calls Tryz.prog 247 #[.pointer (some ⟨S,o,none⟩),.slice (some ⟨b,bo,none⟩) 64 64] w λe w'=>e= .returned (.tuple #[])/\
   Below w.heap.size (w.setCells S o ((zbL s blk).map v32)) w':=by
 have HS:=Lib.hid hS;have HT:=Lib.hid hT;have HB:=Lib.hid hB;have HK:=Lib.hid hK;have Hs:=Lib.hid hs;have Hb:=Lib.hid hb;clear hS hT hB hK hs hb
 go_enter Tryz.func247,Tryz.ntmps247
 go_wp2
 go_loopw [26] (λi wr=>∃(k:Nat) (C:List UInt32),k<=16/\i= .int .i64 k/\C.length=64/\C.take k=sched blk k/\Blk wr w.heap.size 298 (C.map v32)/\Below w.heap.size w wr) (λi _=>16-(intOf i).toNat)
 case atStart=>
  exact⟨0,List.replicate 64 0,by omega,rfl,by simp,rfl,by rw[BT];exact Blk.new _ _ _,(Below.refl _ _).alloc (A6 _) _⟩
 case round=>
  obtain⟨k,C,hk,rfl,hC,hW,hbk,hbe⟩:=hrel;have HC:=Lib.hid hC;have HW:=Lib.hid hW;have HBK:=Lib.hid hbk;have HBE:=Lib.hid hbe;clear hC hW hbk hbe;by_cases hlt:k<16
  ·have hw0:=zrI blk k hlt;unfold zo6 at hw0;have byte:∀j,j<4->wr.cell? ⟨b,bo+(4*k+j),none⟩=some (v8 (blk.getD (4*k+j) 0)):=λj hj=>by
    have hbs:b<w.heap.size:=World.block_lt_of_cell? w _ (zd4 HB.out (i:=0) (by rw[Hb.out];omega) 0);rw[HBE.out.cell (p:=⟨b,bo+(4*k+j),none⟩) hbs];exact zd4 HB.out (by rw[Hb.out];omega) 0
   have c0:=byte 0 q_o;have c1:=byte 1 q_o;have c2:=byte 2 q_o;have c3:=byte 3 q_o;clear byte;rw[BU] at c0;generalize blk.getD (4*k+3) 0=b3,blk.getD (4*k+2) 0=b2,blk.getD (4*k+1) 0=b1,blk.getD (4*k) 0=b0 at*;rw[<-BI] at c1 c2 c3;unfold v8 at c0 c1 c2 c3;have ct:=HBK.out.cellD (i:=k) (by rw[HC.out];omega) 0;have cf:=HBK.out.free k;generalize C.getD k 0=old at ct;unfold v32 at ct;have HW0:=Lib.hid hw0;clear hw0;have hk0:(0:Int)<=(k:Int):=Bm _;have hk1:(k:Int)<16:=q_o;have hk2:(k:Int)<64:=q_o;have e4:4*k+4-4*k=4:=q_o
   go_wp2
   go_still_tail 24,(by kernel_rfl)
   change wpList _ _ _ _ _ wr.drew
   go_wp2
   go_roundw
   case rel=>
    exact⟨k+1,C.set k (word b0 b1 b2 b3),by omega,by go_num,by rw[AO];exact HC.out,by rw[HW0.out];exact zcy (by rw[HC.out];omega) HW.out _,
     (HBK.out.setMap k (word b0 b1 b2 b3)).drew,(HBE.out.setCell (A6 _) _).drew⟩
   case measure=>simp[intOf];omega
  ·have HK16:=Lib.hid (show k=16 by omega)
   go_wp2
   have hC:=HC.out;have hW:=HW.out;rw[HK16.out] at hW;have hbk:=HBK.out;have hbe:=HBE.out
   go_loopw [7] (λi wr=>∃(k:Nat) (C:List UInt32),16<=k/\k<=64/\i= .int .i64 k/\C.length=64/\C.take k=sched blk k/\Blk wr w.heap.size 298 (C.map v32)/\Below w.heap.size w wr) (λi _=>64-(intOf i).toNat)
   case atStart=>exact⟨16,C,by omega,by omega,rfl,hC,hW,hbk,hbe⟩
   case round=>
    clear hC hW hbk hbe HC HW HBK HBE;obtain⟨t,C,ht0,ht,rfl,hC,hW,hbk,hbe⟩:=hrel;have HC:=Lib.hid hC;have HW:=Lib.hid hW;have HBK:=Lib.hid hbk;have HBE:=Lib.hid hbe;clear hC hW hbk hbe;by_cases hlt:t<64
    ·have hw0:=zqN blk t ht0;have wd:∀i,i<t->wr.cell? ⟨w.heap.size,i,none⟩=some (v32 ((sched blk t).getD i 0)):=λi hi=>by
      rw[<-zoO HW.out hi];exact HBK.out.cellD (by rw[HC.out];omega) 0
     have c2:=wd (t-2) q_o;have c7:=wd (t-7) q_o;have c15:=wd (t-15) q_o;have c16:=wd (t-16) q_o;clear wd;generalize (sched blk t).getD (t-16) 0=w16,(sched blk t).getD (t-15) 0=w15,(sched blk t).getD (t-7) 0=w7,(sched blk t).getD (t-2) 0=w2 at*;unfold v32 at c2 c7 c15 c16;have ct:=HBK.out.cellD (i:=t) (by rw[HC.out];omega) 0;have cf:=HBK.out.free t;generalize C.getD t 0=old at ct;unfold v32 at ct;have HW0:=Lib.hid hw0;clear hw0;have hk0:(0:Int)<=(t:Int):=Bm _;have hk2:(t:Int)<64:=q_o;have hk3:(16:Int)<=(t:Int):=q_o
     go_wp2
     go_quiet (fail)
     go_wp2
     rename_i nq;have c7':(wr.drewN nq).cell? ⟨w.heap.size,t-7,none⟩=some (.int .u32 (n32 w7)):=c7;have c16':(wr.drewN nq).cell? ⟨w.heap.size,t-16,none⟩=some (.int .u32 (n32 w16)):=c16;have ct':(wr.drewN nq).cell? ⟨w.heap.size,t,none⟩=some (.int .u32 (n32 old)):=ct;have cf':(wr.drewN nq).frozen? ⟨w.heap.size,t,none⟩=false:=cf;have HBK':Hid (Blk (wr.drewN nq) w.heap.size 298 (C.map v32)):=Lib.hid (HBK.out.drewN nq);have HBE':Hid (Below w.heap.size w (wr.drewN nq)):=Lib.hid (HBE.out.trans (zjU _ _ wr));have hlt':w.heap.size<(wr.drewN nq).heap.size:=HBK'.out.lt;clear c2 c7 c15 c16 ct cf HBK HBE;generalize wr.drewN nq=wx at*;have e7:IntKind.i64.wrap ((t:Int)-7)=(t:Int)-7:=IntWalk.i64_in _ q_o;have e16:IntKind.i64.wrap ((t:Int)-16)=(t:Int)-16:=IntWalk.i64_in _ q_o;have p7:(7:Int)<=(t:Int):=q_o;have q7:(t:Int)-7<64:=q_o;have q16:(t:Int)-16<64:=q_o;have n7:¬t=t-7:=q_o;have n16:¬t=t-16:=q_o;have n0:¬t=0:=q_o;have r7:((t:Int)-7).toNat=t-7:=q_o;have r16:((t:Int)-16).toNat=t-16:=q_o
     go_region_held3 (λw'=>w'.cell? ⟨w.heap.size,t-7,none⟩=some (.int .u32 (n32 w7))/\w'.cell? ⟨w.heap.size,t-16,none⟩=some (.int .u32 (n32 w16)))
      ((repeat' apply And.intro) <;> repeat (first|assumption|refine zl2 ?_|refine zk9 _ ?_|refine zuL q_o ?_))
      (first
       |(go_at_call 296;refine(zoa _ _ _ ?_ ?_).mono ?_;(focus (simp[go_sem];done));(focus (simp[go_sem];done));rintro e w' ⟨rfl,rfl⟩)
       |(go_at_call 296;refine(zps _ _ _ ?_ ?_).mono ?_;(focus (simp[go_sem];done));(focus (simp[go_sem];done));rintro e w' ⟨rfl,rfl⟩))
     all_goals go_wp2
     all_goals (
      go_roundw
      case rel=>
       try simp only[znv,zqA,zlo,add32m,zlk]
       exact⟨t+1,C.set t (next w2 w7 w15 w16),by omega,by omega,by go_num,by rw[AO];exact HC.out,by rw[HW0.out];exact zcy (by rw[HC.out];omega) HW.out _,
        by repeat (first|exact HBK'.out.setMap t _|refine Blk.drew ?_|refine Blk.alloc ?_ _),
        by repeat (first|exact HBE'.out|refine Below.drew ?_|refine Below.alloc ?_ (by first|omega|simp;omega) _|refine Below.setCell ?_ (by exact A6 _) _)⟩
      case measure=>simp[intOf];omega)
    ·obtain rfl:t=64:=q_o;have hW64:=HW.out;rw[A8 (by rw[HC.out];omega)] at hW64;obtain⟨WW,hWW⟩:∃x,x=sched blk 64:=⟨_,rfl⟩;rw[<-hWW] at hW64;have HWW:=Lib.hid hWW;clear hWW;subst hW64;have HWL:=HC;clear HC HW;have hSw:S<w.heap.size:=World.block_lt_of_cell? w _ (zd4 HS.out (i:=0) (by rw[Hs.out];omega) 0);have hKw:3<w.heap.size:=World.block_lt_of_cell? w ⟨3,0+0,none⟩ (zd4 HK.out (i:=0) (by rw[zrQ];omega) 0);have cS:∀i,i<8->wr.cell? ⟨S,o+i,none⟩=some (v32 (s.getD i 0)):=λi hi=>by
      rw[HBE.out.cell (p:=⟨S,o+i,none⟩) hSw];exact zd4 HS.out (by rw[Hs.out];omega) 0
     have c0:=cS 0 q_o;have c1:=cS 1 q_o;have c2:=cS 2 q_o;have c3:=cS 3 q_o;have c4:=cS 4 q_o;have c5:=cS 5 q_o;have c6:=cS 6 q_o;have c7:=cS 7 q_o;clear cS;rw[BU] at c0;have hSt:Hid (rounds s C 0=⟨s.getD 0 0,s.getD 1 0,s.getD 2 0,s.getD 3 0,s.getD 4 0,s.getD 5 0,s.getD 6 0,s.getD 7 0⟩):=Lib.hid rfl;generalize s.getD 7 0=s7,s.getD 6 0=s6,s.getD 5 0=s5,s.getD 4 0=s4,s.getD 3 0=s3,s.getD 2 0=s2,s.getD 1 0=s1,s.getD 0 0=s0 at*;unfold v32 at c0 c1 c2 c3 c4 c5 c6 c7
     go_wp2
     go_quiet (fail)
     rename_i nq;have HBK':Hid (Blk (wr.drewN nq) w.heap.size 298 (C.map v32)):=Lib.hid (HBK.out.drewN nq);have HBE':Hid (Below w.heap.size w (wr.drewN nq)):=Lib.hid (HBE.out.trans (zjU _ _ wr));clear c0 c1 c2 c3 c4 c5 c6 c7 HBK HBE;generalize wr.drewN nq=wx at*;obtain⟨KA,hKA⟩:∃KA,KA=(kC.map v32).toArray:=⟨_,rfl⟩;have HKA:=Lib.hid hKA;clear hKA;have hr:=Lib.hid (zm3 HK.out HBE'.out hKw);have hinfo:(Tryz.prog.info? 298).map (·.size)=some (kC.map v32).length:=zx4
     iterate 5 go_step
     refine wpList_load_mid rfl 298 _ rfl 3 0 rfl (kC.map v32) _ hr.out Tryz.underlying298 rfl hinfo ?_;rw[<-HKA.out];clear hinfo
     go_wp2
     go_loopw [12,13,14,15,16,17,18,19,134] (λva vb vc vd ve vf vg vh i wr=>∃(t:Nat) (v:St),t<=64/\rounds s C t=v/\i= .int .i64 t/\va= .int .u32 (n32 v.a)/\vb= .int .u32 (n32 v.b)/\vc= .int .u32 (n32 v.c)/\
       vd= .int .u32 (n32 v.d)/\ve= .int .u32 (n32 v.e)/\vf= .int .u32 (n32 v.f)/\vg= .int .u32 (n32 v.g)/\vh= .int .u32 (n32 v.h)/\Blk wr w.heap.size 298 (C.map v32)/\Below w.heap.size w wr)
      (λ_ _ _ _ _ _ _ _ i _=>64-(intOf i).toNat)
     case atStart=>exact⟨0,_,by omega,hSt.out,rfl,rfl,rfl,rfl,rfl,rfl,rfl,rfl,rfl,HBK'.out,HBE'.out⟩
     case round=>
      clear HBK' HBE' hr hSt;obtain⟨t,v,ht,hv,rfl,rfl,rfl,rfl,rfl,rfl,rfl,rfl,rfl,hbk,hbe⟩:=hrel;obtain⟨va,vb,vc,vd,ve,vf,vg,vh⟩:=v;dsimp only;have HV:=Lib.hid hv;have HBK:=Lib.hid hbk;have HBE:=Lib.hid hbe;clear hv hbk hbe;by_cases hlt:t<64
      ·have hstep:rounds s C (t+1)=(rounds s C t).step (kC.getD t 0) (C.getD t 0):=rfl;rw[HV.out] at hstep;have cw:=HBK.out.cellD (i:=t) (by rw[HWL.out];omega) 0;have hidx:∀w',(Instr.index 298 (.agg KA) (.int .i64 t)).run Tryz.prog w'= .ok (v32 (kC.getD t 0)) w':=λw'=>by
        rw[HKA.out];exact ziy Tryz.underlying298 (by kernel_rfl) Tryz.underlying247 rfl hlt (ziz _ _ (by rw[zrQ];exact hlt) 0) w'
       generalize kC.getD t 0=kt,C.getD t 0=wt at*;have HST:=Lib.hid hstep;clear hstep;unfold v32 at cw hidx;have hk0:(0:Int)<=(t:Int):=Bm _;have hk2:(t:Int)<64:=q_o;have hlt':w.heap.size<wr.heap.size:=HBK.out.lt
       go_wp2
       go_region_held3 (λw'=>w'.cell? ⟨w.heap.size,t,none⟩=some (.int .u32 (n32 wt)))
        ((repeat' apply And.intro) <;> repeat (first|assumption|refine zl2 ?_|refine zk9 _ ?_))
        (first
         |(go_at_call 296;refine(zlz _ _ _ ?_ ?_ ?_).mono ?_;(focus (simp[go_sem];done));(focus (simp[go_sem];done));(focus (simp[go_sem];done));rintro e w' ⟨rfl,rfl⟩)
         |(go_at_call 297;refine(zrf _ _ _ _).mono ?_;rintro e w' ⟨rfl,rfl⟩))
       all_goals go_wp2_with (first
         |(go_at_call 296;refine(zlv _ _ _ ?_ ?_ ?_).mono ?_;(focus (simp[go_sem];done));(focus (simp[go_sem];done));(focus (simp[go_sem];done));rintro e w' ⟨rfl,rfl⟩)
         |(go_at_call 298;refine(zoJ _ _ _ _).mono ?_;rintro e w' ⟨rfl,rfl⟩))
       all_goals (
        go_roundw
        case rel=>
         try simp only[zlo,zlk]
         exact⟨t+1,_,by omega,HST.out,by go_num,rfl,rfl,rfl,rfl,rfl,rfl,rfl,rfl,
          by repeat (first|exact HBK.out|refine Blk.drew ?_|refine Blk.alloc ?_ _),
          by repeat (first|exact HBE.out|refine Below.drew ?_|refine Below.alloc ?_ (by first|omega|simp;omega) _)⟩
        case measure=>simp[intOf];omega)
      ·obtain rfl:t=64:=q_o;have hcomp:Hid (zbL s blk=List.zipWith (· + ·) s [va,vb,vc,vd,ve,vf,vg,vh]):=by
        apply Lib.hid;unfold zbL;rw[<-HWW.out,HV.out];rfl
       have hSw:S<w.heap.size:=World.block_lt_of_cell? w _ (zd4 HS.out (i:=0) (by rw[Hs.out];omega) 0)
       go_wp2
       go_loopw [186] (λi wr=>∃k:Nat,k<=8/\i= .int .i64 k/\Below w.heap.size (w.setCells S o (((zbL s blk).map v32).take k)) wr) (λi _=>8-(intOf i).toNat)
       case atStart=>exact⟨0,by omega,rfl,HBE.out⟩
       case round=>
        clear HBK HBE;obtain⟨k,hk,rfl,hbe⟩:=hrel;by_cases hlt8:k<8
        ·have ck:=znJ hbe hSw (zd4 HS.out (i:=k) (by rw[Hs.out];omega) 0);have cf:=zlu (a:=⟨S,o+k,none⟩) hbe hSw (HT.out k hlt8).2;have hidx:∀w',(Instr.index 248 (.agg #[.int .u32 (n32 va),.int .u32 (n32 vb),.int .u32 (n32 vc),.int .u32 (n32 vd),.int .u32 (n32 ve),.int .u32 (n32 vf),.int .u32 (n32 vg),.int .u32 (n32 vh)]) (.int .i64 k)).run Tryz.prog w' =
           .ok (v32 ([va,vb,vc,vd,ve,vf,vg,vh].getD k 0)) w':=λw'=>
          ziy (cs:=([va,vb,vc,vd,ve,vf,vg,vh].map v32).toArray) Tryz.underlying248 (by kernel_rfl) Tryz.underlying247 rfl hlt8 (ziz _ _ (by simpa using hlt8) 0) w'
         have hnew:((zbL s blk).map v32)[k]?=some (v32 (s.getD k 0+ [va,vb,vc,vd,ve,vf,vg,vh].getD k 0)):=by
          rw[hcomp.out,AY,DW,getD_some (by rw[Hs.out];exact hlt8) 0,getD_some (by simpa using hlt8) 0];rfl
         generalize s.getD k 0=sk,[va,vb,vc,vd,ve,vf,vg,vh].getD k 0=vk at*;unfold v32 at ck hidx;have HNEW:=Lib.hid hnew;have HBE:=Lib.hid hbe;clear hnew hbe;have hk0:(0:Int)<=(k:Int):=Bm _;have hk2:(k:Int)<8:=q_o
         go_wp2
         go_region
         all_goals go_wp2
         all_goals (
          go_roundw
          case rel=>
           try simp only[zlk]
           exact⟨k+1,by omega,by go_num,(ziD HBE.out HNEW.out).drew⟩
          case measure=>simp[intOf];omega)
        ·obtain rfl:k=8:=q_o;have HBE:=Lib.hid hbe;clear hbe
         go_wp2
         go_end0
         refine⟨rfl,?_⟩;have:=HBE.out;rw[A8 (by rw[A0,zd7 _ _ Hs.out];exact A6 _)] at this;exact this
end Go.Proofs.YtdnlngbjpdbffaaGreatDoor
namespace Go.Sh
open Go.Wd Go.RowKit
theorem zz8:List.replicate 64 (Value.int .i64 0)=(List.replicate 64 (0:UInt32)).map vi:=rfl
theorem zzs(s W:List UInt32):rounds s W 0=rounds s [] 0:=rfl
theorem zz7(v:St):v.list.length=8:=rfl
theorem zAa:Value.int .u8 0=Go.Sy.v8 0:=rfl
theorem zz9:Value.int .u8 128=Go.Sy.v8 128:=rfl
theorem fold_snoc(s:List UInt32)(l:List (List UInt8))(x:List UInt8):zeK s (l++[x])=zbL (zeK s l) x:=by simp[zeK]
theorem zh1:∀(l:List (List UInt8)) (s:List UInt32),s.length=8->(zeK s l).length=8
 | [],s,h=>h
 |x::l,s,h=>zh1 l _ (zd7 s x h)
end Go.Sh
namespace Go.Proofs.YtdnlngbjpdbffaaGreatDoor
section
open Go Go.Sy Go.Sh Go.RowKit
attribute [local irreducible] Sy SyL SyX Sy.Fn callFunc
structure Tab(w:World)(M:Nat->Prop):Prop where
 start:w.rangeAt 1 0 (h0.map Sy.v32)
 konst:w.rangeAt 3 0 (kC.map Sy.v32)
 ns:¬M 1
 nk:¬M 3
theorem Tab.to{w0 w:World}{M Mi:Nat->Prop}(h:Tab w0 M)(hk:Keep M w0 w)(hm:∀b,Mi b->w0.heap.size<=b\/M b):Tab w Mi:=by
 obtain⟨a1,a2⟩:=zeB h.start q_e h.ns hk hm;obtain⟨a3,a4⟩:=zeB h.konst q_e h.nk hk hm;exact⟨a1,a3,a2,a4⟩
theorem Tab.no{w0 w:World}{M:Nat->Prop}(h:Tab w0 M)(hk:Keep M w0 w):Tab w No:=h.to hk (λ_ h=>h.elim)
theorem zuZ(S T o b q:Nat)(C:List Value)(s:List UInt32)(blk:List UInt8)(w:World)(J:s.length=8)(hb:blk.length=64)(hC:(Res.blk S T C).holds w)(m:Seg C o (s.map Sy.v32))(I:o+8<=C.length)
  (O:w.rangeAt b q (blk.map Sy.v8))(U:w.rangeAt 3 0 (kC.map Sy.v32)):
  Sy.Fn Tryz.prog 247 [.pointer (some ⟨S,o,none⟩),.slice (some ⟨b,q,none⟩) 64 64] w (λx=>x=S) (λv R=>v= .tuple #[]/\R= [.blk S T (zaI C o ((zbL s blk).map Sy.v32))]):=by
 have h:=zxz S o b q s blk w J hb (zp hC m) (ziN hC I) O U;unfold Sy.Fn;refine Calls.mono h ?_;rintro e V ⟨rfl,K⟩;have H:(w.setCells S o ((zbL s blk).map Sy.v32)).heap.size=w.heap.size:=Go.Wd.size_setCells S _ o w;have B:=Sy.Keep.setCells S ((zbL s blk).map Sy.v32) o w;have E:Sy.Keep (λx=>x=S) (w.setCells S o ((zbL s blk).map Sy.v32)) V:=Sy.Keep.of_below (by rw[H];exact K);have A:=zfe ((zbL s blk).map Sy.v32) C o w hC (by rw[A0,zd7 _ _ J];exact I);refine⟨_,_,rfl,⟨rfl,rfl⟩,B.trans E (λx j=> .inr j),⟨?_,Bi _ _,?_⟩⟩
 ·intro r G;obtain rfl:=AE.1 G;refine FK A λx j=>?_;have j:S=x:=j;subst j;exact K.block _ (FA hC rfl)
 ·intro r G x j;obtain rfl:=AE.1 G;exact .inr (De j)
theorem zwX(S T b m:Nat)(s:List UInt32)(blk:List UInt8)(w:World)(j:s.length=8)(hb:blk.length=64)(hC:(Res.blk S T (s.map Sy.v32)).holds w)
  (q:w.rangeAt b m (blk.map Sy.v8))(r:w.rangeAt 3 0 (kC.map Sy.v32)):
  Sy.Fn Tryz.prog 247 [.pointer (some ⟨S,0,none⟩),.slice (some ⟨b,m,none⟩) 64 64] w (λx=>x=S) (λv R=>v= .tuple #[]/\R= [.blk S T ((zbL s blk).map Sy.v32)]):=by
 have h:=zuZ S T 0 b m _ s blk w j hb hC Et (by simp[j]) q r;rw[zhS (by simp[j,zd7 s blk j])] at h;exact h
theorem zlS(s:List UInt32)(bs:List (List UInt8))(k:Nat)(h:k<bs.length):zeK s (bs.take (k+1))=zbL (zeK s (bs.take k)) bs[k]:=by
 rw[BK h,Sh.fold_snoc]
theorem zuM(a0:Option Addr)(n c:Nat)(l:List UInt8)(w:World)(hn:l.length=n)(hc:n<=c)(hb:n<1000000000000)(T:SlA w a0 (l.map Sy.v8))(Y:Tab w No):
  q_G 185 [.slice a0 n c] w (.agg ((sum l).map Sy.v8).toArray):=by
 refine zt Tryz.func185 Tryz.ntmps185 ?_;have G:=Y.start;repeat' (first|refine s_0 ?_|refine zf 0 ?_;refine zj ?_;intro _|refine zf 1 ?_;refine zm ?_;refine zj ?_;intro _;refine zO ?_|refine q_k 2 ?_)
 rename_i bo bs;refine q_s (zi (hc:=λm X j Z=>zsC _ _ m rfl)) ?_;rintro _ _ ⟨R,rfl,U,V,rfl,rfl⟩;repeat' (first|refine s_t ?_|fail)
 refine zgS (γ:=Nat) (xs:=blocks l n) (Arg:=zrE) zdb rfl (en rfl) rfl (λk s=>s=k) (λ_ _ _=>False) (λk=>[.blk bs 249 ((zeK h0 ((blocks l n).take k)).map Sy.v32)])
  [.blk U 23 [.slice a0 n c],.blk V 3 [.int .i64 n]] [.blk bo 199 (List.replicate 32 (.int .u8 0))] 0 rfl ?_ ?_ ?_ ?_ ?_ ?_
 ·exact(Ax (l₁:=[_,_]) (l₂:=[_])).append_right _
 ·exact λm Mi X j hm _ _=>zrj U V a0 n c n l m Mi hn hc q_o (T.to j hm)
 ·rintro O x vs RA m ⟨b,o,rfl,_⟩;rfl
 ·rintro lp k j s vs RA W rec a6 rfl ⟨b,o,rfl,rfl,S,K⟩ J q;have H:=Y.to J q;have B:(zeK h0 ((blocks l n).take s)).length=8:=zh1 _ _ rfl;have A:(blocks l n)[s].length=64:=zqX _ _ _ (Ad j);have I:=zlS h0 (blocks l n) s j;generalize (blocks l n)[s]=x,zeK h0 ((blocks l n).take s)=E at*;have a8:=zd7 E x B;repeat' (first|refine s_t ?_|apply zcH;(focus ((repeat (first|exact Es|apply Eu));done));assumption|refine q_k 3 ?_|refine q_k 4 ?_;refine q_v (znH (hc:=λm X j Z=>zwX bs 249 b o E x m B A (Z.has (Ey (F4 F1))) (zaX S j K) (H.no j).konst)) ?_)
  refine zgv (s+1) rfl ?_
  (repeat' (first|exact Er|apply F2;with_reducible (focus ((repeat (first|exact Es|apply Eu));done))|apply F7;(focus ((repeat (first|exact Es|apply Eu));done))|apply F3;(focus ((repeat (first|exact Es|apply Eu));done))|rfl))
  rw[I]
 ·rintro s rfl;rw[Bw];have r:(zeK h0 (blocks l n)).length=8:=zh1 _ _ rfl;have C:ser (zeK h0 (blocks l n))=sum l:=by subst hn;rfl
  generalize zeK h0 (blocks l n)=E at*;have a7:(ser E).length=32:=by rw[zp0,r]
  repeat' (first|refine s_0 ?_|refine zf 5 ?_;refine zm ?_;refine q_v (za (hc:=λm _ _ _=>zsn E m r)) ?_;refine zO ?_)
  exact zap rfl (zB rfl (ty rfl) rfl Ev Et (by first|rfl|simp only[A0,AO,AJ,A2];omega|(simp only[A0];first|assumption|omega)|simp;omega|fail)) Er ⟨by rw[C],rfl⟩
 ·exact λ_ _ _ _ h=>h.elim
theorem zxJ(l:List UInt8):(Sh.sum l).length=32:=by
 unfold Sh.sum;rw[zp0,zh1 _ _ rfl]
end
open Go Go.Sy Go.Nt Go.RowKit
attribute [local irreducible] Sy SyL SyX Sy.Fn callFunc zg zae zac iC gP gQ gL zaH zai za7 za1 gel zaU zbX Sh.sum
def zc3(i:Nat)(y:List UInt8)(r:Nat)(m:List UInt8):List UInt8:=UInt8.ofNat i::(y++(za7 (gL i) r++m))
theorem zwa(i:Nat)(y:List UInt8)(r:Nat)(m:List UInt8):zbX i y r m=bev 256 (bn (Sh.sum (zc3 i y r m)))%gQ i:=by unfold zbX zc3;rfl
theorem zuy{i:Nat}(h0:1<=i)(j:i<=4)(l:List UInt8):zaU (i:Int) l=(bev 256 (bn l)%gQ i,0):=by
 unfold zaU;rw[if_pos ⟨by omega,by omega⟩,Bj]
theorem zor{A J:List Value} :Seg (A++J) 0 A:=λj v m=>by
 rw[AZ,BO (AU.1 m).1];exact m
theorem zsr{j:Nat}{w:World}{M:Nat->Prop}{E n c:Nat}{a:Option Addr}{l:List UInt8}{L:List Res}(hh:Holds j M L w)(m:l.length=n)(hL:Has L (.row (.slice a n c) E 1 n (l.map v8))):(⟨a,n,c,l⟩:Bs).ok w:=
 ⟨m,FJ hh hL,zas hh hL,λh=>(Fl hh hL h).1⟩
theorem zi4(i:Nat)(T O:Option Addr)(G pc C S r:Nat)(pl ml:List UInt8)(w:World)(h0:1<=i)(V:i<=4)(hG:GT w)(hT:Tab w No)(hp:(⟨T,G,pc,pl⟩:Bs).ok w)(hm:(⟨O,C,S,ml⟩:Bs).ok w)(c0:G<=1000)(b9:C<=100000)(hr:zaH (gP i) (gQ i) r=true):
  q_G 102 [.int .i64 (i:Int),.slice T G pc,zr r,.slice O C S] w (zr (zbX i pl r ml)):=by
 refine zt Tryz.func102 Tryz.ntmps102 ?_;have b2:=Ai (zej hr) (zcg i h0 V);have b7:=zd r;have hu:=zxN i V;have W:=λj (A:Keep No w j)=>zmb i r j h0 V (hG.to A) b2 hr;unfold zjo at W
 have Z:=zdF (gL i) r (zkV h0 V (zej hr));have b4:gL i<=96:=by have:=zfY (z:=(i:Int)) ⟨by omega,by omega⟩;rwa[Bj] at this
 have hd:=λa n c j=>zoK a n c 0 j;have Y:zc3 i pl r ml=Bs.cat [⟨none,1,1,[UInt8.ofNat i]⟩,⟨T,G,pc,pl⟩,⟨none,gL i,0,za7 (gL i) r⟩,⟨O,C,S,ml⟩]:=by unfold zc3 Bs.cat;simp
 have b3:(zc3 i pl r ml).length<1000000:=by
  unfold zc3;rw[AQ,A2,A2,Z,hp.len,hm.len];show G+(gL i+C)+1<1000000;omega
 have hj:∀j,Keep No w j->∀q m I K,j.rangeAt m 0 ([UInt8.ofNat i].map v8)->(⟨I,gL i,K,za7 (gL i) r⟩:Bs).ok j->j.rangeAt q 0 [Value.slice (some ⟨m,0,none⟩) 1 1,.slice T G pc,.slice I (gL i) K,.slice O C S]->
   Sy.Fn Tryz.prog 186 [.slice (some ⟨q,0,none⟩) 4 4,.slice none 0 0] j No (ztE (zc3 i pl r ml)):=by
  intro j A q m I K a9 hF b0;have h:=zwv (some ⟨q,0,none⟩) 4 4 [⟨some ⟨m,0,none⟩,1,1,[UInt8.ofNat i]⟩,⟨T,G,pc,pl⟩,⟨I,gL i,K,za7 (gL i) r⟩,⟨O,C,S,ml⟩] j rfl q_e q_e q_e (.inr ⟨q,0,rfl,b0⟩) (λs hs=>?_) (by
    have:Bs.cat [⟨some ⟨m,0,none⟩,1,1,[UInt8.ofNat i]⟩,⟨T,G,pc,pl⟩,⟨I,gL i,K,za7 (gL i) r⟩,⟨O,C,S,ml⟩]=zc3 i pl r ml:=by rw[Y];rfl
    rw[this];omega)
  ·have e:Bs.cat [⟨some ⟨m,0,none⟩,1,1,[UInt8.ofNat i]⟩,⟨T,G,pc,pl⟩,⟨I,gL i,K,za7 (gL i) r⟩,⟨O,C,S,ml⟩]=zc3 i pl r ml:=by rw[Y];rfl
   rw[e] at h;exact h
  ·simp only[AS,BC,or_false] at hs;rcases hs with rfl|rfl|rfl|rfl
   ·exact⟨rfl,A6 _,.inr ⟨m,0,rfl,a9⟩,λh=>by cases h⟩
   ·exact hp.keep A
   ·exact hF
   ·exact hm.keep A
 have a8:=λj b (A:Keep No w j) (h:j.rangeAt b 0 ((zc3 i pl r ml).map v8))=>zuM (some ⟨b,0,none⟩) (zc3 i pl r ml).length (zc3 i pl r ml).length (zc3 i pl r ml) j rfl (A6 _) q_o (.inr ⟨b,0,rfl,h⟩) (hT.no A);have a6:=zxJ (zc3 i pl r ml);have a7:=λj b (A:Keep No w j) (h:j.rangeAt b 0 ((Sh.sum (zc3 i pl r ml)).map v8))=>zk7 i (some ⟨b,0,none⟩) 32 32 (Sh.sum (zc3 i pl r ml)) j h0 V (hG.to A) a6 (A6 _) q_e (.inr ⟨b,0,rfl,h⟩);rw[<-zwa] at a7;have b1:=λj=>zdj (zbX i pl r ml) 0 j;have b5:=zd (zbX i pl r ml);generalize gL i=len,za7 (gL i) r=lb,zc3 i pl r ml=B,zbX i pl r ml=e,Sh.sum (zc3 i pl r ml)=H at*;repeat' (first|refine s_0 ?_|refine zf 0 ?_;refine zj ?_;intro _;refine zj ?_;intro _|refine q_k 1 ?_;refine q_v (zam (hr:=hu)) ?_;(refine q_s zz ?_;rintro _ _ ⟨_,rfl,rfl⟩);refine zb ?_;refine q_v (ze (B:=zg r)) ?_;(refine q_s (zi (hc:=zu W)) ?_;rintro _ _ ⟨R,rfl,I,K,rfl,rfl⟩);refine zb ?_;refine q_v (za (hc:=λ_ _ _ _=>(hd _ _ _ _))) ?_;refine zb ?_;(refine q_s zz ?_;rintro _ _ ⟨_,rfl,rfl⟩))
 rename_i b6 b8 m q;refine q_s (zi (hc:=λj X A U=>hj j A q m I K (zp (U.has (r:=.blk m 5 ([UInt8.ofNat i].map v8)) q_h) Et) (zsr (E:=5) U Z q_h) (zp (U.has (r:=.blk q 23 [Value.slice (some ⟨m,0,none⟩) 1 1,.slice T G pc,.slice I len K,.slice O C S]) q_h) Et))) ?_;rintro _ _ ⟨R,rfl,bJ,J,rfl,rfl⟩;repeat' (first|refine s_0 ?_|refine q_k 2 ?_;refine zbN ?_;refine q_v (za (hc:=λj X A U=>a7 j _ A (zp (U.has q_h) Et))) ?_;refine zb ?_;refine q_v (za (hc:=q_c b1)) ?_;refine q_n (zl (n:=e)) ?_|(refine zy ?_;first|refine q_v (za (hc:=λj X A U=>a8 j bJ A (zp (U.has (r:=.blk bJ 5 (B.map v8++J)) q_h) zor))) ?_|refine zO ?_|refine zj ?_;intro _|fail)|fail)
 exact zap rfl (zB (B:=zg e) rfl (ty rfl) rfl Ev Et (zd _).symm) Er ⟨rfl,rfl⟩
end Go.Proofs.YtdnlngbjpdbffaaGreatDoor
namespace Go
variable {F:Fence}{n:Nat}{P:Program}{Q:Exit->Act->World->Prop}{a:Act}{w:World}
theorem zm1{c rest:Code}(l:Nat)(J:Act->World->Prop)(Z:findLabel c l=some rest)(first:c.wpIn F n P (Exit.jump l J Q) a w)
  (pass:∀a w,J a w->rest.wpIn F n P (Exit.noGoto Q) a w):(Code.scope c).wpIn F n P Q a w:=by
 intro b k T O I K;have h0:(lone (b.atR a (.code (.scope c)::k)) T w).fenced P F:=fenced_calm I K rfl;have hg:gotoIn l (.inScope c::k)=some (.code rest:: .inScope c::k):=by simp[gotoIn,Z]
 have S:∀m,exitTo m (.inScope c::k)=exitTo m k:=λm=>by simp[exitTo]
 obtain⟨e,E,G,r,j⟩:=first b (.inScope c::k) T O I K
 cases e with
 |normal=>exact⟨.normal,E,G,r,.head h0 zbn (StepsIn.trans j (.one (fenced_calm I K rfl) zfz))⟩
 |exit m=>
  exact⟨.exit m,E,G,r,λW B=> .head h0 zbn (j.1 W (by rw[S];exact B)),
   λC B=>let ⟨X,U,V⟩:=j.2 C (by rw[S];exact B);⟨X,U,.head h0 zbn V⟩⟩
 |goto l'=>
  obtain⟨rfl,Y⟩:=r;have A:=StepsIn.head h0 zbn (j.1 _ hg);obtain⟨e,H,R,r,q⟩:=pass E G Y b (.inScope c::k) T O I K;cases e with
  |normal=>exact⟨.normal,H,R,r,A.trans (StepsIn.trans q (.one (fenced_calm I K rfl) zfz))⟩
  |exit m=>
   exact⟨.exit m,H,R,r,λW B=>A.trans (q.1 W (by rw[S];exact B)),
    λC B=>let ⟨X,U,V⟩:=q.2 C (by rw[S];exact B);⟨X,U,A.trans V⟩⟩
  |goto l=>exact r.elim
  |ret=>exact⟨_,H,R,r,.of_steps A q⟩
  |panic ch=>exact⟨_,H,R,r,.of_steps A q⟩
  |outgrown=>exact⟨_,H,R,r,.of_steps A q⟩
 |ret=>exact⟨_,E,G,r,.of_steps (.one h0 zbn) j⟩
 |panic ch=>exact⟨_,E,G,r,.of_steps (.one h0 zbn) j⟩
 |outgrown=>exact⟨_,E,G,r,.of_steps (.one h0 zbn) j⟩
end Go
namespace Go.Sy
open Go
variable {P:Program}{ro:Option Nat}{N:Nat}{w0:World}{M:Nat->Prop}{ds:List Deferred}{L:List Res}{fr:Fr}{Q:Exit->Act->World->Prop}
theorem zjS{γ:Type}(l:Nat){c rest:Code}(f:γ->Fr)(R:γ->List Res)(I:γ->Prop)(r:findLabel c l=some rest)(h:Sy P ro N w0 M ds c (Exit.jump l (zvB N w0 M ds f R I) Q) fr L)
  (h2:∀g,I g->Sy P ro N w0 M ds rest (Exit.noGoto Q) (f g) (R g)):Sy P ro N w0 M ds (.scope c) Q fr L:=
 λa w A=>zm1 l _ r (h a w A) (λa w q=>by obtain⟨g,m,j⟩:=q;exact h2 g m a w j)
theorem zfI{l:Nat}{J:Act->World->Prop}(h:SyX N w0 M ds J fr L):SyX N w0 M ds (Exit.jump l J Q (.goto l)) fr L:=λa w j=>⟨rfl,h a w j⟩
end Go.Sy
