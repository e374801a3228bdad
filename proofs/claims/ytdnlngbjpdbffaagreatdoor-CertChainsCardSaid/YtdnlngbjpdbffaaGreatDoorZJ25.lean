/- Lemmas. -/
import Derived.Test.YtdnlngbjpdbffaaGreatDoorZJ24
import Derived.WalkSpells
import Derived.WalkLawsBesides
import Derived.Deep.RegionHeld3
import Derived.Deep.DrawnRows
import Derived.StillTailTactics
import Derived.BigRegion
import Derived.ScopeJumps
set_option maxHeartbeats 8000000
set_option maxRecDepth 10000
set_option linter.all false
namespace Go.Proofs.YtdnlngbjpdbffaaGreatDoor
section
open RowKit Wd Sh
attribute [local go_sem] zwt zv9 zlL zwu zlJ zmZ ze4 zp3
attribute [local go_sem ↓] Go.wp_at_zero Go.wp_at_succ
theorem zs7(n:Nat)(h0:0<n)(h1:n<32):bits .and .u64 (IntKind.u64.wrap (-(n:Int))) 31=((32-n:Nat):Int):=by
 have h:n=1\/n=2\/n=3\/n=4\/n=5\/n=6\/n=7\/n=8\/n=9\/n=10\/n=11\/n=12\/n=13\/n=14\/n=15\/n=16\/n=17\/n=18\/n=19\/n=20\/n=21\/n=22\/n=23\/n=24\/n=25\/n=26\/n=27\/n=28\/n=29\/n=30\/n=31:=q_o;rcases h with h|h|h|h|h|h|h|h|h|h|h|h|h|h|h|h|h|h|h|h|h|h|h|h|h|h|h|h|h|h|h <;> subst h <;> rfl
theorem zzo(x:UInt32)(n:Nat)(h0:0<n)(h1:n<32):bits .or .u32 (n32 x*2^(32-n)%4294967296) (n32 x/2^n)=n32 (zrY x n):=by
 have j:=znH x (32-n) q_o;have m:=ziI x n h1;rw[IntKind.wrap_u32] at j;simp only[EV,Int.cast_ofNat_Int] at j m;rw[j,m,zv9];rfl
theorem zwS(x:UInt32)(n:Nat)(w:World)(h0:0<n)(h1:n<32):
  Calls Tryz.prog 323 #[.int .u32 (n32 x),.int .i64 (-(n:Int))] w λe w'=>e= .returned (.int .u32 (n32 (zrY x n)))/\w'=w:=by
 have e1:=zs7 n h0 h1;have e2:IntKind.u64.wrap (32-((32-n:Nat):Int))=(n:Int):=by rw[wrap_u64];omega
 go_enter Tryz.func323,Tryz.ntmps323
 go_wp2
 go_ret
 exact⟨zp2 (zzo x n h0 h1),rfl⟩
theorem zgs(x:UInt32)(ns:List Nat)(B:Nat)(w:World)(hn:∀n∈ns,0<n/\n<32)(hl:ns.length<32)
  (hc:∀i (h:i<ns.length),w.cell? ⟨B,i,none⟩=some (.int .i64 (ns[i]:Nat))):
  Calls Tryz.prog 296 #[.int .u32 (n32 x),.slice (some ⟨B,0,none⟩) ns.length ns.length] w λe w'=>e= .returned (.int .u32 (n32 (turn x ns)))/\w'=w:=by
 have Hn:=Lib.hid hn;have Hc:=Lib.hid hc;clear hn hc
 go_enter Tryz.func296,Tryz.ntmps296
 go_wp2
 go_loop [4,9] (λy i=>∃k:Nat,k<=ns.length/\i= .int .i64 k/\y= .int .u32 (n32 (turn x (ns.take k)))) (λ_ i=>ns.length-(intOf i).toNat)
 case atStart=>exact⟨0,AA _,rfl,rfl⟩
 case round=>
  obtain⟨k,hk,rfl,rfl⟩:=hrel;by_cases hlt:k<ns.length
  ·have hcell:=Hc.out k hlt;obtain⟨hn0,hn1⟩:=Hn.out _ (AX hlt);have HS:=Lib.hid (zsc x ns k hlt);generalize ns[k]=n at*
   go_wp2_with (go_at_call 323;refine(zwS _ _ _ hn0 hn1).mono ?_;rintro e w' ⟨rfl,rfl⟩)
   go_round
   case rel=>exact⟨k+1,by omega,by go_num,by rw[HS.out]⟩
   case measure=>simp[intOf];omega
  ·go_wp2
   go_ret
   exact⟨zp2 (by rw[A6 q_o]),rfl⟩
theorem zo1(x:UInt32)(B:Nat)(w:World)(h0:w.cell? ⟨B,0,none⟩=some (.int .i64 17))(h1:w.cell? ⟨B,1,none⟩=some (.int .i64 19)):
  Calls Tryz.prog 296 #[.int .u32 (n32 x),.slice (some ⟨B,0,none⟩) 2 2] w λe m=>e= .returned (.int .u32 (n32 (turn x [17,19])))/\m=w:=
 zgs x [17,19] B w q_p q_p λi j=>by
  match i,j with
  |0,_=>exact h0
  |1,_=>exact h1
theorem zpE(x:UInt32)(B:Nat)(w:World)(h0:w.cell? ⟨B,0,none⟩=some (.int .i64 7))(h1:w.cell? ⟨B,1,none⟩=some (.int .i64 18)):
  Calls Tryz.prog 296 #[.int .u32 (n32 x),.slice (some ⟨B,0,none⟩) 2 2] w λe m=>e= .returned (.int .u32 (n32 (turn x [7,18])))/\m=w:=
 zgs x [7,18] B w q_p q_p λi j=>by
  match i,j with
  |0,_=>exact h0
  |1,_=>exact h1
theorem zl3(x:UInt32)(B:Nat)(w:World)(h0:w.cell? ⟨B,0,none⟩=some (.int .i64 6))(h1:w.cell? ⟨B,1,none⟩=some (.int .i64 11))(h2:w.cell? ⟨B,2,none⟩=some (.int .i64 25)):
  Calls Tryz.prog 296 #[.int .u32 (n32 x),.slice (some ⟨B,0,none⟩) 3 3] w λe m=>e= .returned (.int .u32 (n32 (turn x [6,11,25])))/\m=w:=
 zgs x [6,11,25] B w q_p q_p λi j=>by
  match i,j with
  |0,_=>exact h0
  |1,_=>exact h1
  |2,_=>exact h2
theorem zmg(x:UInt32)(B:Nat)(w:World)(h0:w.cell? ⟨B,0,none⟩=some (.int .i64 2))(h1:w.cell? ⟨B,1,none⟩=some (.int .i64 13))(h2:w.cell? ⟨B,2,none⟩=some (.int .i64 22)):
  Calls Tryz.prog 296 #[.int .u32 (n32 x),.slice (some ⟨B,0,none⟩) 3 3] w λe m=>e= .returned (.int .u32 (n32 (turn x [2,13,22])))/\m=w:=
 zgs x [2,13,22] B w q_p q_p λi j=>by
  match i,j with
  |0,_=>exact h0
  |1,_=>exact h1
  |2,_=>exact h2
theorem zru(x y z:UInt32)(w:World):
  Calls Tryz.prog 297 #[.int .u32 (n32 x),.int .u32 (n32 y),.int .u32 (n32 z)] w λe w'=>e= .returned (.int .u32 (n32 ((x &&& y) ^^^ (~~~x &&& z))))/\w'=w:=by
 go_enter Tryz.func297,Tryz.ntmps297
 go_wp2
 go_ret
 exact⟨rfl,rfl⟩
theorem zpi(x y z:UInt32)(w:World):
  Calls Tryz.prog 298 #[.int .u32 (n32 x),.int .u32 (n32 y),.int .u32 (n32 z)] w λe w'=>e= .returned (.int .u32 (n32 (((x &&& y) ^^^ (x &&& z)) ^^^ (y &&& z))))/\w'=w:=by
 go_enter Tryz.func298,Tryz.ntmps298
 go_wp2
 go_ret
 exact⟨rfl,rfl⟩
end
open RowKit Wd Sh
attribute [local go_sem] zwt zv9 zlL zwu zlJ zmZ ze4 zp3 zvq zvr zxv zuU zu9 zwY zoF zqu
attribute [local go_sem ↓] Go.wp_at_zero Go.wp_at_succ
theorem zyw:(Tryz.prog.info? 298).map (·.size)=some (kC.map v32).length:=by kernel_rfl
set_option maxRecDepth 100000 in
theorem zwQ(S o b bo:Nat)(s:List UInt32)(blk:List UInt8)(w:World)(hs:s.length=8)(hb:blk.length=64)
  (hS:w.rangeAt S o (s.map v32))(hT:w.there S o 8)(hB:w.rangeAt b bo (blk.map v8))(hK:w.rangeAt 3 0 (kC.map v32)):
  Calls Tryz.prog 247 #[.pointer (some ⟨S,o,none⟩),.slice (some ⟨b,bo,none⟩) 64 64] w λe w'=>e= .returned (.tuple #[])/\
   Below w.heap.size (w.setCells S o ((zbP s blk).map v32)) w':=by
 have HS:=Lib.hid hS;have HT:=Lib.hid hT;have HB:=Lib.hid hB;have HK:=Lib.hid hK;have Hs:=Lib.hid hs;have Hb:=Lib.hid hb;clear hS hT hB hK hs hb
 go_enter Tryz.func247,Tryz.ntmps247
 go_wp2
 go_loopw [26] (λi wr=>∃(k:Nat) (C:List UInt32),k<=16/\i= .int .i64 k/\C.length=64/\C.take k=sched blk k/\Blk wr w.heap.size 298 (C.map v32)/\Below w.heap.size w wr) (λi _=>16-(intOf i).toNat)
 case atStart=>
  exact⟨0,List.replicate 64 0,by omega,rfl,by simp,rfl,by rw[BY];exact Blk.new _ _ _,(Below.refl _ _).alloc (A7 _) _⟩
 case round=>
  obtain⟨k,C,hk,rfl,hC,hW,hbk,hbe⟩:=hrel;have HC:=Lib.hid hC;have HW:=Lib.hid hW;have HBK:=Lib.hid hbk;have HBE:=Lib.hid hbe;clear hC hW hbk hbe;by_cases hlt:k<16
  ·have hw0:=zs3 blk k hlt;unfold zpu at hw0;have byte:∀j,j<4->wr.cell? ⟨b,bo+(4*k+j),none⟩=some (v8 (blk.getD (4*k+j) 0)):=λj hj=>by
    have hbs:b<w.heap.size:=World.block_lt_of_cell? w _ (zei HB.out (i:=0) (by rw[Hb.out];omega) 0);rw[HBE.out.cell (p:=⟨b,bo+(4*k+j),none⟩) hbs];exact zei HB.out (by rw[Hb.out];omega) 0
   have c0:=byte 0 q_o;have c1:=byte 1 q_o;have c2:=byte 2 q_o;have c3:=byte 3 q_o;clear byte;rw[BZ] at c0;generalize blk.getD (4*k+3) 0=b3,blk.getD (4*k+2) 0=b2,blk.getD (4*k+1) 0=b1,blk.getD (4*k) 0=b0 at*;rw[<-BK] at c1 c2 c3;unfold v8 at c0 c1 c2 c3;have ct:=HBK.out.cellD (i:=k) (by rw[HC.out];omega) 0;have cf:=HBK.out.free k;generalize C.getD k 0=old at ct;unfold v32 at ct;have HW0:=Lib.hid hw0;clear hw0;have hk0:(0:Int)<=(k:Int):=Bq _;have hk1:(k:Int)<16:=q_o;have hk2:(k:Int)<64:=q_o;have e4:4*k+4-4*k=4:=q_o
   go_wp2
   go_still_tail 24,(by kernel_rfl)
   change wpList _ _ _ _ _ wr.drew
   go_wp2
   go_roundw
   case rel=>
    exact⟨k+1,C.set k (word b0 b1 b2 b3),by omega,by go_num,by rw[AO];exact HC.out,by rw[HW0.out];exact zcI (by rw[HC.out];omega) HW.out _,
     (HBK.out.setMap k (word b0 b1 b2 b3)).drew,(HBE.out.setCell (A7 _) _).drew⟩
   case measure=>simp[intOf];omega
  ·have HK16:=Lib.hid (show k=16 by omega)
   go_wp2
   have hC:=HC.out;have hW:=HW.out;rw[HK16.out] at hW;have hbk:=HBK.out;have hbe:=HBE.out
   go_loopw [7] (λi wr=>∃(k:Nat) (C:List UInt32),16<=k/\k<=64/\i= .int .i64 k/\C.length=64/\C.take k=sched blk k/\Blk wr w.heap.size 298 (C.map v32)/\Below w.heap.size w wr) (λi _=>64-(intOf i).toNat)
   case atStart=>exact⟨16,C,by omega,by omega,rfl,hC,hW,hbk,hbe⟩
   case round=>
    clear hC hW hbk hbe HC HW HBK HBE;obtain⟨t,C,ht0,ht,rfl,hC,hW,hbk,hbe⟩:=hrel;have HC:=Lib.hid hC;have HW:=Lib.hid hW;have HBK:=Lib.hid hbk;have HBE:=Lib.hid hbe;clear hC hW hbk hbe;by_cases hlt:t<64
    ·have hw0:=zra blk t ht0;have wd:∀i,i<t->wr.cell? ⟨w.heap.size,i,none⟩=some (v32 ((sched blk t).getD i 0)):=λi hi=>by
      rw[<-zoD HW.out hi];exact HBK.out.cellD (by rw[HC.out];omega) 0
     have c2:=wd (t-2) q_o;have c7:=wd (t-7) q_o;have c15:=wd (t-15) q_o;have c16:=wd (t-16) q_o;clear wd;generalize (sched blk t).getD (t-16) 0=w16,(sched blk t).getD (t-15) 0=w15,(sched blk t).getD (t-7) 0=w7,(sched blk t).getD (t-2) 0=w2 at*;unfold v32 at c2 c7 c15 c16;have ct:=HBK.out.cellD (i:=t) (by rw[HC.out];omega) 0;have cf:=HBK.out.free t;generalize C.getD t 0=old at ct;unfold v32 at ct;have HW0:=Lib.hid hw0;clear hw0;have hk0:(0:Int)<=(t:Int):=Bq _;have hk2:(t:Int)<64:=q_o;have hk3:(16:Int)<=(t:Int):=q_o
     go_wp2
     go_quiet (fail)
     go_wp2
     rename_i nq;have c7':(wr.drewN nq).cell? ⟨w.heap.size,t-7,none⟩=some (.int .u32 (n32 w7)):=c7;have c16':(wr.drewN nq).cell? ⟨w.heap.size,t-16,none⟩=some (.int .u32 (n32 w16)):=c16;have ct':(wr.drewN nq).cell? ⟨w.heap.size,t,none⟩=some (.int .u32 (n32 old)):=ct;have cf':(wr.drewN nq).frozen? ⟨w.heap.size,t,none⟩=false:=cf;have HBK':Hid (Blk (wr.drewN nq) w.heap.size 298 (C.map v32)):=Lib.hid (HBK.out.drewN nq);have HBE':Hid (Below w.heap.size w (wr.drewN nq)):=Lib.hid (HBE.out.trans (zkl _ _ wr));have hlt':w.heap.size<(wr.drewN nq).heap.size:=HBK'.out.lt;clear c2 c7 c15 c16 ct cf HBK HBE;generalize wr.drewN nq=wx at*;have e7:IntKind.i64.wrap ((t:Int)-7)=(t:Int)-7:=IntWalk.i64_in _ q_o;have e16:IntKind.i64.wrap ((t:Int)-16)=(t:Int)-16:=IntWalk.i64_in _ q_o;have p7:(7:Int)<=(t:Int):=q_o;have q7:(t:Int)-7<64:=q_o;have q16:(t:Int)-16<64:=q_o;have n7:¬t=t-7:=q_o;have n16:¬t=t-16:=q_o;have n0:¬t=0:=q_o;have r7:((t:Int)-7).toNat=t-7:=q_o;have r16:((t:Int)-16).toNat=t-16:=q_o
     go_region_held3 (λw'=>w'.cell? ⟨w.heap.size,t-7,none⟩=some (.int .u32 (n32 w7))/\w'.cell? ⟨w.heap.size,t-16,none⟩=some (.int .u32 (n32 w16)))
      ((repeat' apply And.intro) <;> repeat (first|assumption|refine zm6 ?_|refine zlG _ ?_|refine zvd q_o ?_))
      (first
       |(go_at_call 296;refine(zo1 _ _ _ ?_ ?_).mono ?_;(focus (simp[go_sem];done));(focus (simp[go_sem];done));rintro e w' ⟨rfl,rfl⟩)
       |(go_at_call 296;refine(zpE _ _ _ ?_ ?_).mono ?_;(focus (simp[go_sem];done));(focus (simp[go_sem];done));rintro e w' ⟨rfl,rfl⟩))
     all_goals go_wp2
     all_goals (
      go_roundw
      case rel=>
       try simp only[zoF,zqu,zlL,add32m,zlJ]
       exact⟨t+1,C.set t (next w2 w7 w15 w16),by omega,by omega,by go_num,by rw[AO];exact HC.out,by rw[HW0.out];exact zcI (by rw[HC.out];omega) HW.out _,
        by repeat (first|exact HBK'.out.setMap t _|refine Blk.drew ?_|refine Blk.alloc ?_ _),
        by repeat (first|exact HBE'.out|refine Below.drew ?_|refine Below.alloc ?_ (by first|omega|simp;omega) _|refine Below.setCell ?_ (by exact A7 _) _)⟩
      case measure=>simp[intOf];omega)
    ·obtain rfl:t=64:=q_o;have hW64:=HW.out;rw[A6 (by rw[HC.out];omega)] at hW64;obtain⟨WW,hWW⟩:∃x,x=sched blk 64:=⟨_,rfl⟩;rw[<-hWW] at hW64;have HWW:=Lib.hid hWW;clear hWW;subst hW64;have HWL:=HC;clear HC HW;have hSw:S<w.heap.size:=World.block_lt_of_cell? w _ (zei HS.out (i:=0) (by rw[Hs.out];omega) 0);have hKw:3<w.heap.size:=World.block_lt_of_cell? w ⟨3,0+0,none⟩ (zei HK.out (i:=0) (by rw[zta];omega) 0);have cS:∀i,i<8->wr.cell? ⟨S,o+i,none⟩=some (v32 (s.getD i 0)):=λi hi=>by
      rw[HBE.out.cell (p:=⟨S,o+i,none⟩) hSw];exact zei HS.out (by rw[Hs.out];omega) 0
     have c0:=cS 0 q_o;have c1:=cS 1 q_o;have c2:=cS 2 q_o;have c3:=cS 3 q_o;have c4:=cS 4 q_o;have c5:=cS 5 q_o;have c6:=cS 6 q_o;have c7:=cS 7 q_o;clear cS;rw[BZ] at c0;have hSt:Hid (rounds s C 0=⟨s.getD 0 0,s.getD 1 0,s.getD 2 0,s.getD 3 0,s.getD 4 0,s.getD 5 0,s.getD 6 0,s.getD 7 0⟩):=Lib.hid rfl;generalize s.getD 7 0=s7,s.getD 6 0=s6,s.getD 5 0=s5,s.getD 4 0=s4,s.getD 3 0=s3,s.getD 2 0=s2,s.getD 1 0=s1,s.getD 0 0=s0 at*;unfold v32 at c0 c1 c2 c3 c4 c5 c6 c7
     go_wp2
     go_quiet (fail)
     rename_i nq;have HBK':Hid (Blk (wr.drewN nq) w.heap.size 298 (C.map v32)):=Lib.hid (HBK.out.drewN nq);have HBE':Hid (Below w.heap.size w (wr.drewN nq)):=Lib.hid (HBE.out.trans (zkl _ _ wr));clear c0 c1 c2 c3 c4 c5 c6 c7 HBK HBE;generalize wr.drewN nq=wx at*;obtain⟨KA,hKA⟩:∃KA,KA=(kC.map v32).toArray:=⟨_,rfl⟩;have HKA:=Lib.hid hKA;clear hKA;have hr:=Lib.hid (znu HK.out HBE'.out hKw);have hinfo:(Tryz.prog.info? 298).map (·.size)=some (kC.map v32).length:=zyw
     iterate 5 go_step
     refine wpList_load_mid rfl 298 _ rfl 3 0 rfl (kC.map v32) _ hr.out Tryz.underlying298 rfl hinfo ?_;rw[<-HKA.out];clear hinfo
     go_wp2
     go_loopw [12,13,14,15,16,17,18,19,134] (λva vb vc vd ve vf vg vh i wr=>∃(t:Nat) (v:St),t<=64/\rounds s C t=v/\i= .int .i64 t/\va= .int .u32 (n32 v.a)/\vb= .int .u32 (n32 v.b)/\vc= .int .u32 (n32 v.c)/\
       vd= .int .u32 (n32 v.d)/\ve= .int .u32 (n32 v.e)/\vf= .int .u32 (n32 v.f)/\vg= .int .u32 (n32 v.g)/\vh= .int .u32 (n32 v.h)/\Blk wr w.heap.size 298 (C.map v32)/\Below w.heap.size w wr)
      (λ_ _ _ _ _ _ _ _ i _=>64-(intOf i).toNat)
     case atStart=>exact⟨0,_,by omega,hSt.out,rfl,rfl,rfl,rfl,rfl,rfl,rfl,rfl,rfl,HBK'.out,HBE'.out⟩
     case round=>
      clear HBK' HBE' hr hSt;obtain⟨t,v,ht,hv,rfl,rfl,rfl,rfl,rfl,rfl,rfl,rfl,rfl,hbk,hbe⟩:=hrel;obtain⟨va,vb,vc,vd,ve,vf,vg,vh⟩:=v;dsimp only;have HV:=Lib.hid hv;have HBK:=Lib.hid hbk;have HBE:=Lib.hid hbe;clear hv hbk hbe;by_cases hlt:t<64
      ·have hstep:rounds s C (t+1)=(rounds s C t).step (kC.getD t 0) (C.getD t 0):=rfl;rw[HV.out] at hstep;have cw:=HBK.out.cellD (i:=t) (by rw[HWL.out];omega) 0;have hidx:∀w',(Instr.index 298 (.agg KA) (.int .i64 t)).run Tryz.prog w'= .ok (v32 (kC.getD t 0)) w':=λw'=>by
        rw[HKA.out];exact ziR Tryz.underlying298 (by kernel_rfl) Tryz.underlying247 rfl hlt (ziT _ _ (by rw[zta];exact hlt) 0) w'
       generalize kC.getD t 0=kt,C.getD t 0=wt at*;have HST:=Lib.hid hstep;clear hstep;unfold v32 at cw hidx;have hk0:(0:Int)<=(t:Int):=Bq _;have hk2:(t:Int)<64:=q_o;have hlt':w.heap.size<wr.heap.size:=HBK.out.lt
       go_wp2
       go_region_held3 (λw'=>w'.cell? ⟨w.heap.size,t,none⟩=some (.int .u32 (n32 wt)))
        ((repeat' apply And.intro) <;> repeat (first|assumption|refine zm6 ?_|refine zlG _ ?_))
        (first
         |(go_at_call 296;refine(zl3 _ _ _ ?_ ?_ ?_).mono ?_;(focus (simp[go_sem];done));(focus (simp[go_sem];done));(focus (simp[go_sem];done));rintro e w' ⟨rfl,rfl⟩)
         |(go_at_call 297;refine(zru _ _ _ _).mono ?_;rintro e w' ⟨rfl,rfl⟩))
       all_goals go_wp2_with (first
         |(go_at_call 296;refine(zmg _ _ _ ?_ ?_ ?_).mono ?_;(focus (simp[go_sem];done));(focus (simp[go_sem];done));(focus (simp[go_sem];done));rintro e w' ⟨rfl,rfl⟩)
         |(go_at_call 298;refine(zpi _ _ _ _).mono ?_;rintro e w' ⟨rfl,rfl⟩))
       all_goals (
        go_roundw
        case rel=>
         try simp only[zlL,zlJ]
         exact⟨t+1,_,by omega,HST.out,by go_num,rfl,rfl,rfl,rfl,rfl,rfl,rfl,rfl,
          by repeat (first|exact HBK.out|refine Blk.drew ?_|refine Blk.alloc ?_ _),
          by repeat (first|exact HBE.out|refine Below.drew ?_|refine Below.alloc ?_ (by first|omega|simp;omega) _)⟩
        case measure=>simp[intOf];omega)
      ·obtain rfl:t=64:=q_o;have hcomp:Hid (zbP s blk=List.zipWith (· + ·) s [va,vb,vc,vd,ve,vf,vg,vh]):=by
        apply Lib.hid;unfold zbP;rw[<-HWW.out,HV.out];rfl
       have hSw:S<w.heap.size:=World.block_lt_of_cell? w _ (zei HS.out (i:=0) (by rw[Hs.out];omega) 0)
       go_wp2
       go_loopw [186] (λi wr=>∃k:Nat,k<=8/\i= .int .i64 k/\Below w.heap.size (w.setCells S o (((zbP s blk).map v32).take k)) wr) (λi _=>8-(intOf i).toNat)
       case atStart=>exact⟨0,by omega,rfl,HBE.out⟩
       case round=>
        clear HBK HBE;obtain⟨k,hk,rfl,hbe⟩:=hrel;by_cases hlt8:k<8
        ·have ck:=zob hbe hSw (zei HS.out (i:=k) (by rw[Hs.out];omega) 0);have cf:=zl9 (a:=⟨S,o+k,none⟩) hbe hSw (HT.out k hlt8).2;have hidx:∀w',(Instr.index 248 (.agg #[.int .u32 (n32 va),.int .u32 (n32 vb),.int .u32 (n32 vc),.int .u32 (n32 vd),.int .u32 (n32 ve),.int .u32 (n32 vf),.int .u32 (n32 vg),.int .u32 (n32 vh)]) (.int .i64 k)).run Tryz.prog w' =
           .ok (v32 ([va,vb,vc,vd,ve,vf,vg,vh].getD k 0)) w':=λw'=>
          ziR (cs:=([va,vb,vc,vd,ve,vf,vg,vh].map v32).toArray) Tryz.underlying248 (by kernel_rfl) Tryz.underlying247 rfl hlt8 (ziT _ _ (by simpa using hlt8) 0) w'
         have hnew:((zbP s blk).map v32)[k]?=some (v32 (s.getD k 0+ [va,vb,vc,vd,ve,vf,vg,vh].getD k 0)):=by
          rw[hcomp.out,AW,CW,getD_some (by rw[Hs.out];exact hlt8) 0,getD_some (by simpa using hlt8) 0];rfl
         generalize s.getD k 0=sk,[va,vb,vc,vd,ve,vf,vg,vh].getD k 0=vk at*;unfold v32 at ck hidx;have HNEW:=Lib.hid hnew;have HBE:=Lib.hid hbe;clear hnew hbe;have hk0:(0:Int)<=(k:Int):=Bq _;have hk2:(k:Int)<8:=q_o
         go_wp2
         go_region
         all_goals go_wp2
         all_goals (
          go_roundw
          case rel=>
           try simp only[zlJ]
           exact⟨k+1,by omega,by go_num,(ziU HBE.out HNEW.out).drew⟩
          case measure=>simp[intOf];omega)
        ·obtain rfl:k=8:=q_o;have HBE:=Lib.hid hbe;clear hbe
         go_wp2
         go_end0
         refine⟨rfl,?_⟩;have:=HBE.out;rw[A6 (by rw[A0,zd9 _ _ Hs.out];exact A7 _)] at this;exact this
end Go.Proofs.YtdnlngbjpdbffaaGreatDoor
namespace Go.Sh
open Wd RowKit
theorem zAG:List.replicate 64 (Value.int .i64 0)=(List.replicate 64 (0:UInt32)).map vi:=rfl
theorem zzY(s W:List UInt32):rounds s W 0=rounds s [] 0:=rfl
theorem zAE(v:St):v.list.length=8:=rfl
theorem zAH:Value.int .u8 0=Go.Sy.v8 0:=rfl
theorem zAF:Value.int .u8 128=Go.Sy.v8 128:=rfl
theorem fold_snoc(s:List UInt32)(l:List (List UInt8))(x:List UInt8):zeT s (l++[x])=zbP (zeT s l) x:=by simp[zeT]
theorem zh9:∀(l:List (List UInt8)) (s:List UInt32),s.length=8->(zeT s l).length=8
 | [],s,h=>h
 |x::l,s,h=>zh9 l _ (zd9 s x h)
end Go.Sh
namespace Go.Proofs.YtdnlngbjpdbffaaGreatDoor
section
open Sy Sh RowKit
attribute [local irreducible] Sy SyL SyX Sy.Fn callFunc
structure Tab(w:World)(M:Nat->Prop):Prop where
 start:w.rangeAt 1 0 (h0.map Sy.v32)
 konst:w.rangeAt 3 0 (kC.map Sy.v32)
 ns:¬M 1
 nk:¬M 3
theorem Tab.to{w0 w:World}{M Mi:Nat->Prop}(h:Tab w0 M)(hk:Keep M w0 w)(hm:∀b,Mi b->w0.heap.size<=b\/M b):Tab w Mi:=by
 obtain⟨a1,a2⟩:=zeM h.start q_e h.ns hk hm;obtain⟨a3,a4⟩:=zeM h.konst q_e h.nk hk hm;exact⟨a1,a3,a2,a4⟩
theorem Tab.no{w0 w:World}{M:Nat->Prop}(h:Tab w0 M)(hk:Keep M w0 w):Tab w No:=h.to hk (λ_ h=>h.elim)
theorem zvC(S T o b q:Nat)(C:List Value)(s:List UInt32)(blk:List UInt8)(w:World)(J:s.length=8)(hb:blk.length=64)(hC:(Res.blk S T C).holds w)(m:Seg C o (s.map Sy.v32))(I:o+8<=C.length)
  (O:w.rangeAt b q (blk.map Sy.v8))(U:w.rangeAt 3 0 (kC.map Sy.v32)):
  Sy.Fn Tryz.prog 247 [.pointer (some ⟨S,o,none⟩),.slice (some ⟨b,q,none⟩) 64 64] w (λx=>x=S) (λv R=>v= .tuple #[]/\R= [.blk S T (zaK C o ((zbP s blk).map Sy.v32))]):=by
 have h:=zwQ S o b q s blk w J hb (zp hC m) (zjn hC I) O U;unfold Sy.Fn;refine Calls.mono h ?_;rintro e V ⟨rfl,K⟩;have H:(w.setCells S o ((zbP s blk).map Sy.v32)).heap.size=w.heap.size:=Go.Wd.size_setCells S _ o w;have B:=Sy.Keep.setCells S ((zbP s blk).map Sy.v32) o w;have E:Sy.Keep (λx=>x=S) (w.setCells S o ((zbP s blk).map Sy.v32)) V:=Sy.Keep.of_below (by rw[H];exact K);have A:=zfg ((zbP s blk).map Sy.v32) C o w hC (by rw[A0,zd9 _ _ J];exact I);refine⟨_,_,rfl,⟨rfl,rfl⟩,B.trans E (λx j=> .inr j),⟨?_,Bl _ _,?_⟩⟩
 ·intro r G;obtain rfl:=AD.1 G;refine FN A λx j=>?_;have j:S=x:=j;subst j;exact K.block _ (FD hC rfl)
 ·intro r G x j;obtain rfl:=AD.1 G;exact .inr (Dd j)
theorem zw5(S T b m:Nat)(s:List UInt32)(blk:List UInt8)(w:World)(j:s.length=8)(hb:blk.length=64)(hC:(Res.blk S T (s.map Sy.v32)).holds w)
  (q:w.rangeAt b m (blk.map Sy.v8))(r:w.rangeAt 3 0 (kC.map Sy.v32)):
  Sy.Fn Tryz.prog 247 [.pointer (some ⟨S,0,none⟩),.slice (some ⟨b,m,none⟩) 64 64] w (λx=>x=S) (λv R=>v= .tuple #[]/\R= [.blk S T ((zbP s blk).map Sy.v32)]):=by
 have h:=zvC S T 0 b m _ s blk w j hb hC Ex (by simp[j]) q r;rw[zir (by simp[j,zd9 s blk j])] at h;exact h
theorem zme(s:List UInt32)(bs:List (List UInt8))(k:Nat)(h:k<bs.length):zeT s (bs.take (k+1))=zbP (zeT s (bs.take k)) bs[k]:=by
 rw[BN h,Sh.fold_snoc]
theorem zvs(a0:Option Addr)(n c:Nat)(l:List UInt8)(w:World)(hn:l.length=n)(hc:n<=c)(hb:n<1000000000000)(U:SlA w a0 (l.map Sy.v8))(Z:Tab w No):
  q_G 185 [.slice a0 n c] w (.agg ((sum l).map Sy.v8).toArray):=by
 refine zt Tryz.func185 Tryz.ntmps185 ?_;have H:=Z.start;repeat' first|refine s_0 ?_|refine zf 0 ?_;refine zk λ_=>?_|refine zf 1 ?_;refine zm ?_;refine zk λ_=>?_;refine zP ?_|refine q_k 2 ?_
 rename_i bo bs;refine q_s (zi (hc:=λm X j hh=>zsz _ _ m rfl)) ?_;rintro _ _ ⟨R,rfl,V,Y,rfl,rfl⟩;repeat' first|refine s_t ?_|fail
 refine zgQ (γ:=Nat) (xs:=blocks l n) (Arg:=zsa) zde rfl (en rfl) rfl (λk s=>s=k) (λ_ _ _=>False) (λk=>[.blk bs 249 ((zeT h0 ((blocks l n).take k)).map Sy.v32)])
  [.blk V 23 [.slice a0 n c],.blk Y 3 [.int .i64 n]] [.blk bo 199 (List.replicate 32 (.int .u8 0))] 0 rfl ?_ ?_ ?_ ?_ ?_ ?_
 ·exact(Aj (l₁:=[_,_]) (l₂:=[_])).append_right _
 ·exact λm Mi X j hm _ _=>zrL V Y a0 n c n l m Mi hn hc q_o (U.to j hm)
 ·rintro O x vs RA m ⟨b,o,rfl,_⟩;rfl
 ·rintro lp k j s vs RA W rec a6 rfl ⟨b,o,rfl,rfl,T,S⟩ K q;have I:=Z.to K q;have B:(zeT h0 ((blocks l n).take s)).length=8:=zh9 _ _ rfl;have A:(blocks l n)[s].length=64:=zq2 _ _ _ (AX j);have J:=zme h0 (blocks l n) s j;generalize (blocks l n)[s]=x,zeT h0 ((blocks l n).take s)=G at*;have a8:=zd9 G x B;repeat' first|refine s_t ?_|apply zcR;(focus ((repeat (first|exact Eu|apply Ew));done));assumption|refine q_k 3 ?_|refine q_k 4 ?_;refine q_v (zog (hc:=λm X j hh=>zw5 bs 249 b o G x m B A (hh.has (F1 (F8 F5))) (za0 T j S) (I.no j).konst)) ?_
  refine zgE (s+1) rfl ?_
  (repeat' (first|exact Ev|apply F3;with_reducible (focus ((repeat (first|exact Eu|apply Ew));done))|apply F9;(focus ((repeat (first|exact Eu|apply Ew));done))|apply F6;(focus ((repeat (first|exact Eu|apply Ew));done))|rfl))
  rw[J]
 ·rintro s rfl;rw[C3];have r:(zeT h0 (blocks l n)).length=8:=zh9 _ _ rfl;have E:ser (zeT h0 (blocks l n))=sum l:=by subst hn;rfl
  generalize zeT h0 (blocks l n)=G at*;have a7:(ser G).length=32:=by rw[zqH,r]
  repeat' first|refine s_0 ?_|refine zf 5 ?_;refine zm ?_;refine q_v (za (hc:=λm _ _ _=>ztx G m r)) ?_;refine zP ?_
  exact zar rfl (zE rfl (ty rfl) rfl Ey Ex (by first|rfl|simp only[A0,AO,AL,A4];omega|(simp only[A0];first|assumption|omega)|simp;omega|fail)) Ev ⟨by rw[E],rfl⟩
 ·exact λ_ _ _ _ h=>h.elim
theorem zyc(l:List UInt8):(Sh.sum l).length=32:=by
 unfold Sh.sum;rw[zqH,zh9 _ _ rfl]
end
open Sy Nt RowKit
attribute [local irreducible] Sy SyL SyX Sy.Fn callFunc zg zae zac iC gP gQ gL zaL zag zbc za5 gel zaW zb2 Sh.sum
def zda(i:Nat)(y:List UInt8)(r:Nat)(m:List UInt8):List UInt8:=UInt8.ofNat i::(y++(zbc (gL i) r++m))
theorem zxM(i:Nat)(y:List UInt8)(r:Nat)(m:List UInt8):zb2 i y r m=bev 256 (bn (Sh.sum (zda i y r m)))%gQ i:=by unfold zb2 zda;rfl
theorem zu6{i:Nat}(h0:1<=i)(j:i<=4)(l:List UInt8):zaW (i:Int) l=(bev 256 (bn l)%gQ i,0):=by
 unfold zaW;rw[if_pos ⟨by omega,by omega⟩,Bn]
theorem zoh{A J:List Value} :Seg (A++J) 0 A:=λj v m=>by
 rw[Aa,BH (AR.1 m).1];exact m
theorem zsB{j:Nat}{w:World}{M:Nat->Prop}{E n c:Nat}{a:Option Addr}{l:List UInt8}{L:List Res}(hh:Holds j M L w)(m:l.length=n)(hL:Has L (.row (.slice a n c) E 1 n (l.map v8))):(⟨a,n,c,l⟩:Bs).ok w:=
 ⟨m,FF hh hL,zat hh hL,λh=>(Fj hh hL h).1⟩
theorem zjt(i:Nat)(U S:Option Addr)(I pc G T r:Nat)(pl ml:List UInt8)(w:World)(h0:1<=i)(W:i<=4)(hG:GT w)(hT:Tab w No)(hp:(⟨U,I,pc,pl⟩:Bs).ok w)(hm:(⟨S,G,T,ml⟩:Bs).ok w)(c1:I<=1000)(c0:G<=100000)(hr:zaL (gP i) (gQ i) r=true):
  q_G 102 [.int .i64 (i:Int),.slice U I pc,zu r,.slice S G T] w (zu (zb2 i pl r ml)):=by
 refine zt Tryz.func102 Tryz.ntmps102 ?_;have b3:=Ai (zeo hr) (zcq i h0 W);have b9:=zd r;have hu:=zw0 i W;have Y:=λj (A:Keep No w j)=>zmE i r j h0 W (hG.to A) b3 hr;unfold zjI at Y
 have a6:=zdL (gL i) r (zk5 h0 W (zeo hr));have b5:gL i<=96:=by have:=zf5 (z:=(i:Int)) ⟨by omega,by omega⟩;rwa[Bn] at this
 have hd:=λa n c j=>zoY a n c 0 j;have Z:zda i pl r ml=Bs.cat [⟨none,1,1,[UInt8.ofNat i]⟩,⟨U,I,pc,pl⟩,⟨none,gL i,0,zbc (gL i) r⟩,⟨S,G,T,ml⟩]:=by unfold zda Bs.cat;simp
 have b4:(zda i pl r ml).length<1000000:=by
  unfold zda;rw[AQ,A4,A4,a6,hp.len,hm.len];show I+(gL i+G)+1<1000000;omega
 have hj:∀j,Keep No w j->∀q m K O,j.rangeAt m 0 ([UInt8.ofNat i].map v8)->(⟨K,gL i,O,zbc (gL i) r⟩:Bs).ok j->j.rangeAt q 0 [Value.slice (some ⟨m,0,none⟩) 1 1,.slice U I pc,.slice K (gL i) O,.slice S G T]->
   Sy.Fn Tryz.prog 186 [.slice (some ⟨q,0,none⟩) 4 4,.slice none 0 0] j No (zt7 (zda i pl r ml)):=by
  intro j A q m K O b0 hF b1;have h:=zwT (some ⟨q,0,none⟩) 4 4 [⟨some ⟨m,0,none⟩,1,1,[UInt8.ofNat i]⟩,⟨U,I,pc,pl⟩,⟨K,gL i,O,zbc (gL i) r⟩,⟨S,G,T,ml⟩] j rfl q_e q_e q_e (.inr ⟨q,0,rfl,b1⟩) (λs hs=>?_) (by
    have:Bs.cat [⟨some ⟨m,0,none⟩,1,1,[UInt8.ofNat i]⟩,⟨U,I,pc,pl⟩,⟨K,gL i,O,zbc (gL i) r⟩,⟨S,G,T,ml⟩]=zda i pl r ml:=by rw[Z];rfl
    rw[this];omega)
  ·have e:Bs.cat [⟨some ⟨m,0,none⟩,1,1,[UInt8.ofNat i]⟩,⟨U,I,pc,pl⟩,⟨K,gL i,O,zbc (gL i) r⟩,⟨S,G,T,ml⟩]=zda i pl r ml:=by rw[Z];rfl
   rw[e] at h;exact h
  ·simp only[AV,Bi,or_false] at hs;rcases hs with rfl|rfl|rfl|rfl
   ·exact⟨rfl,A7 _,.inr ⟨m,0,rfl,b0⟩,λh=>by cases h⟩
   ·exact hp.keep A
   ·exact hF
   ·exact hm.keep A
 have a9:=λj b (A:Keep No w j) (h:j.rangeAt b 0 ((zda i pl r ml).map v8))=>zvs (some ⟨b,0,none⟩) (zda i pl r ml).length (zda i pl r ml).length (zda i pl r ml) j rfl (A7 _) q_o (.inr ⟨b,0,rfl,h⟩) (hT.no A);have a7:=zyc (zda i pl r ml);have a8:=λj b (A:Keep No w j) (h:j.rangeAt b 0 ((Sh.sum (zda i pl r ml)).map v8))=>zlo i (some ⟨b,0,none⟩) 32 32 (Sh.sum (zda i pl r ml)) j h0 W (hG.to A) a7 (A7 _) q_e (.inr ⟨b,0,rfl,h⟩);rw[<-zxM] at a8;have b2:=λj=>zdr (zb2 i pl r ml) 0 j;have b7:=zd (zb2 i pl r ml);generalize gL i=len,zbc (gL i) r=lb,zda i pl r ml=B,zb2 i pl r ml=e,Sh.sum (zda i pl r ml)=H at*;repeat' first|refine s_0 ?_|refine zf 0 ?_;refine zk λ_=>?_;refine zk λ_=>?_|refine q_k 1 ?_;refine q_v (zam (hr:=hu)) ?_;(refine q_s zz ?_;rintro _ _ ⟨_,rfl,rfl⟩);refine zb ?_;refine q_v (ze (B:=zg r)) ?_;(refine q_s (zi (hc:=zr Y)) ?_;rintro _ _ ⟨R,rfl,K,O,rfl,rfl⟩);refine zb ?_;refine q_v (za (hc:=λ_ _ _ _=>(hd _ _ _ _))) ?_;refine zb ?_;(refine q_s zz ?_;rintro _ _ ⟨_,rfl,rfl⟩)
 rename_i b6 b8 m q;refine q_s (zi (hc:=λj X A V=>hj j A q m K O (zp (V.has (r:=.blk m 5 ([UInt8.ofNat i].map v8)) q_h) Ex) (zsB (E:=5) V a6 q_h) (zp (V.has (r:=.blk q 23 [Value.slice (some ⟨m,0,none⟩) 1 1,.slice U I pc,.slice K len O,.slice S G T]) q_h) Ex))) ?_;rintro _ _ ⟨R,rfl,bJ,J,rfl,rfl⟩;repeat' first|refine s_0 ?_|refine q_k 2 ?_;refine zbR ?_;refine q_v (za (hc:=λj X A V=>a8 j _ A (zp (V.has q_h) Ex))) ?_;refine zb ?_;refine q_v (za (hc:=q_c b2)) ?_;refine q_n (zl (n:=e)) ?_|(refine zx ?_;first|refine q_v (za (hc:=λj X A V=>a9 j bJ A (zp (V.has (r:=.blk bJ 5 (B.map v8++J)) q_h) zoh))) ?_|refine zP ?_|refine zk λ_=>?_|fail)|fail
 exact zar rfl (zE (B:=zg e) rfl (ty rfl) rfl Ey Ex (zd _).symm) Ev ⟨rfl,rfl⟩
end Go.Proofs.YtdnlngbjpdbffaaGreatDoor
namespace Go
variable {F:Fence}{n:Nat}{P:Program}{Q:Exit->Act->World->Prop}{a:Act}{w:World}
theorem zns{c rest:Code}(l:Nat)(J:Act->World->Prop)(hf:findLabel c l=some rest)(first:c.wpIn F n P (Exit.jump l J Q) a w)
  (pass:∀a w,J a w->rest.wpIn F n P (Exit.noGoto Q) a w):(Code.scope c).wpIn F n P Q a w:=by
 intro b k U R K O;have h0:(lone (b.atR a (.code (.scope c)::k)) U w).fenced P F:=fenced_calm K O rfl;have hg:gotoIn l (.inScope c::k)=some (.code rest:: .inScope c::k):=by simp[gotoIn,hf]
 have T:∀m,exitTo m (.inScope c::k)=exitTo m k:=λm=>by simp[exitTo]
 obtain⟨e,G,H,r,j⟩:=first b (.inScope c::k) U R K O
 cases e with
 |normal=>exact⟨.normal,G,H,r,.head h0 zbq (StepsIn.trans j (.one (fenced_calm K O rfl) zfD))⟩
 |exit m=>
  exact⟨.exit m,G,H,r,λX B=> .head h0 zbq (j.1 X (by rw[T];exact B)),
   λE B=>let ⟨Y,V,W⟩:=j.2 E (by rw[T];exact B);⟨Y,V,.head h0 zbq W⟩⟩
 |goto l'=>
  obtain⟨rfl,Z⟩:=r;have A:=StepsIn.head h0 zbq (j.1 _ hg);obtain⟨e,I,S,r,q⟩:=pass G H Z b (.inScope c::k) U R K O;cases e with
  |normal=>exact⟨.normal,I,S,r,A.trans (StepsIn.trans q (.one (fenced_calm K O rfl) zfD))⟩
  |exit m=>
   exact⟨.exit m,I,S,r,λX B=>A.trans (q.1 X (by rw[T];exact B)),
    λE B=>let ⟨Y,V,W⟩:=q.2 E (by rw[T];exact B);⟨Y,V,A.trans W⟩⟩
  |goto l=>exact r.elim
  |ret=>exact⟨_,I,S,r,.of_steps A q⟩
  |panic ch=>exact⟨_,I,S,r,.of_steps A q⟩
  |outgrown=>exact⟨_,I,S,r,.of_steps A q⟩
 |ret=>exact⟨_,G,H,r,.of_steps (.one h0 zbq) j⟩
 |panic ch=>exact⟨_,G,H,r,.of_steps (.one h0 zbq) j⟩
 |outgrown=>exact⟨_,G,H,r,.of_steps (.one h0 zbq) j⟩
end Go
namespace Go.Sy
variable {P:Program}{ro:Option Nat}{N:Nat}{w0:World}{M:Nat->Prop}{ds:List Deferred}{L:List Res}{fr:Fr}{Q:Exit->Act->World->Prop}
theorem zkc{γ:Type}(l:Nat){c rest:Code}(f:γ->Fr)(R:γ->List Res)(I:γ->Prop)(r:findLabel c l=some rest)(h:Sy P ro N w0 M ds c (Exit.jump l (zwh N w0 M ds f R I) Q) fr L)
  (h2:∀g,I g->Sy P ro N w0 M ds rest (Exit.noGoto Q) (f g) (R g)):Sy P ro N w0 M ds (.scope c) Q fr L:=
 λa w A=>zns l _ r (h a w A) (λa w q=>by obtain⟨g,m,j⟩:=q;exact h2 g m a w j)
theorem zfz{l:Nat}{J:Act->World->Prop}(h:SyX N w0 M ds J fr L):SyX N w0 M ds (Exit.jump l J Q (.goto l)) fr L:=λa w j=>⟨rfl,h a w j⟩
end Go.Sy
