/- The walk of layer sha's block function: the eight words that a pointer leads to are changed by a block of 64 bytes; nothing else that was there is. -/
import Derived.Test.YtcpjfilcilcekaaGreatDoorYJ22
import Derived.BigRegion
import Derived.KernelRfl
set_option linter.all false
section
namespace Go.Proofs.YtcpjfilcilcekaaGreatDoor
open Go.RowKit Go.Wd Go.Sh
attribute [local go_sem] and32 or32 xor32 not32 add32 zh4 zcc zk0 zo1 znV zqx zn1 zop zpJ zi5 zlb
attribute [local go_sem ↓] Go.wp_at_zero Go.wp_at_succ
theorem info148:(Tryz.prog.info? 215).map (·.size)=some (kC.map v32).length:=by kernel_rfl
set_option maxRecDepth 100000 in
set_option maxHeartbeats 8000000 in
theorem zpO (S o b bo:Nat) (s:List UInt32) (blk:List UInt8) (w:World) (hs:s.length=8) (hb:blk.length=64)
  (hS:w.rangeAt S o (s.map v32)) (hT:w.there S o 8) (hB:w.rangeAt b bo (blk.map v8)) (hK:w.rangeAt 3 0 (kC.map v32)):
  Calls Tryz.prog 161 #[.pointer (some ⟨S,o,none⟩),.slice (some ⟨b,bo,none⟩) 64 64] w λe w'=>e= .returned (.tuple #[])/\
   Below w.heap.size (w.setCells S o ((compress s blk).map v32)) w':=by
 have HS:=Lib.hid hS
 have HT:=Lib.hid hT
 have HB:=Lib.hid hB
 have HK:=Lib.hid hK
 have Hs:=Lib.hid hs
 have Hb:=Lib.hid hb
 clear hS hT hB hK hs hb
 go_enter Tryz.func161,Tryz.ntmps161
 go_wp2
 go_loopw [26] (λi wr=>∃(k:Nat) (C:List UInt32),k<=16/\i= .int .i64 k/\C.length=64/\C.take k=sched blk k/\Blk wr w.heap.size 215 (C.map v32)/\Below w.heap.size w wr) (λi _=>16 - (intOf i).toNat)
 case atStart=>
  exact ⟨0,List.replicate 64 0,by omega,rfl,by simp,rfl,by rw [List.map_replicate];exact Blk.new _ _ _,(Below.refl _ _).alloc (Nat.le_refl _) _⟩
 case round=>
  obtain ⟨k,C,hk,rfl,hC,hW,hbk,hbe⟩:=hrel
  have HC:=Lib.hid hC
  have HW:=Lib.hid hW
  have HBK:=Lib.hid hbk
  have HBE:=Lib.hid hbe
  clear hC hW hbk hbe
  by_cases hlt:k < 16
  ·have hw0:=zh1 blk k hlt
   unfold wordAt at hw0
   have byte: ∀j,j < 4->wr.cell? ⟨b,bo+(4*k+j),none⟩=some (v8 (blk.getD (4*k+j) 0)):=λj hj=>by
    have hbs:b < w.heap.size:=World.block_lt_of_cell? w _ (zb7 HB.out (i:=0) (by rw [Hb.out];omega) 0)
    rw [HBE.out.cell (p:=⟨b,bo+(4*k+j),none⟩) hbs]
    exact zb7 HB.out (by rw [Hb.out];omega) 0
   have c0:=byte 0 (by omega)
   have c1:=byte 1 (by omega)
   have c2:=byte 2 (by omega)
   have c3:=byte 3 (by omega)
   clear byte
   rw [Nat.add_zero] at c0
   generalize blk.getD (4*k) 0=b0 at *
   generalize blk.getD (4*k+1) 0=b1 at *
   generalize blk.getD (4*k+2) 0=b2 at *
   generalize blk.getD (4*k+3) 0=b3 at *
   rw [<-Nat.add_assoc] at c1 c2 c3
   unfold v8 at c0 c1 c2 c3
   have ct:=HBK.out.cellD (i:=k) (by rw [HC.out];omega) 0
   have cf:=HBK.out.free k
   generalize C.getD k 0=old at ct
   unfold v32 at ct
   have HW0:=Lib.hid hw0
   clear hw0
   have hk0:(0:Int)<=(k:Int):=Int.natCast_nonneg _
   have hk1:(k:Int) < 16:=by omega
   have hk2:(k:Int) < 64:=by omega
   have e4:4*k+4-4*k=4:=by omega
   go_wp2
   go_still_tail 24,(by kernel_rfl)
   change wpList _ _ _ _ _ wr.drew
   go_wp2
   go_roundw
   case rel=>
    exact ⟨k+1,C.set k (word b0 b1 b2 b3),by omega,by go_num,by rw [List.length_set];exact HC.out,by rw [HW0.out];exact zaw (by rw [HC.out];omega) HW.out _,
     (HBK.out.setMap k (word b0 b1 b2 b3)).drew,(HBE.out.setCell (Nat.le_refl _) _).drew⟩
   case measure=>simp [intOf];omega
  ·have HK16:=Lib.hid (show k=16 by omega)
   go_wp2
   have hC:=HC.out
   have hW:=HW.out
   rw [HK16.out] at hW
   have hbk:=HBK.out
   have hbe:=HBE.out
   go_loopw [7] (λi wr=>∃(k:Nat) (C:List UInt32),16<=k/\k<=64/\i= .int .i64 k/\C.length=64/\C.take k=sched blk k/\Blk wr w.heap.size 215 (C.map v32)/\Below w.heap.size w wr) (λi _=>64 - (intOf i).toNat)
   case atStart=>exact ⟨16,C,by omega,by omega,rfl,hC,hW,hbk,hbe⟩
   case round=>
    clear hC hW hbk hbe HC HW HBK HBE
    obtain ⟨t,C,ht0,ht,rfl,hC,hW,hbk,hbe⟩:=hrel
    have HC:=Lib.hid hC
    have HW:=Lib.hid hW
    have HBK:=Lib.hid hbk
    have HBE:=Lib.hid hbe
    clear hC hW hbk hbe
    by_cases hlt:t < 64
    ·have hw0:=zhn blk t ht0
     have wd: ∀i,i < t->wr.cell? ⟨w.heap.size,i,none⟩=some (v32 ((sched blk t).getD i 0)):=λi hi=>by
      rw [<-zbO HW.out hi];exact HBK.out.cellD (by rw [HC.out];omega) 0
     have c2:=wd (t - 2) (by omega)
     have c7:=wd (t - 7) (by omega)
     have c15:=wd (t - 15) (by omega)
     have c16:=wd (t - 16) (by omega)
     clear wd
     generalize (sched blk t).getD (t - 2) 0=w2 at *
     generalize (sched blk t).getD (t - 7) 0=w7 at *
     generalize (sched blk t).getD (t - 15) 0=w15 at *
     generalize (sched blk t).getD (t - 16) 0=w16 at *
     unfold v32 at c2 c7 c15 c16
     have ct:=HBK.out.cellD (i:=t) (by rw [HC.out];omega) 0
     have cf:=HBK.out.free t
     generalize C.getD t 0=old at ct
     unfold v32 at ct
     have HW0:=Lib.hid hw0
     clear hw0
     have hk0:(0:Int)<=(t:Int):=Int.natCast_nonneg _
     have hk2:(t:Int) < 64:=by omega
     have hk3:(16:Int)<=(t:Int):=by omega
     go_wp2
     go_quiet (fail)
     go_wp2
     rename_i nq
     have c7':(wr.drewN nq).cell? ⟨w.heap.size,t - 7,none⟩=some (.int .u32 (n32 w7)):=c7
     have c16':(wr.drewN nq).cell? ⟨w.heap.size,t - 16,none⟩=some (.int .u32 (n32 w16)):=c16
     have ct':(wr.drewN nq).cell? ⟨w.heap.size,t,none⟩=some (.int .u32 (n32 old)):=ct
     have cf':(wr.drewN nq).frozen? ⟨w.heap.size,t,none⟩=false:=cf
     have HBK':Hid (Blk (wr.drewN nq) w.heap.size 215 (C.map v32)):=Lib.hid (HBK.out.drewN nq)
     have HBE':Hid (Below w.heap.size w (wr.drewN nq)):=Lib.hid (HBE.out.trans (zgw _ _ wr))
     have hlt':w.heap.size < (wr.drewN nq).heap.size:=HBK'.out.lt
     clear c2 c7 c15 c16 ct cf HBK HBE
     generalize wr.drewN nq=wx at *
     have e7:IntKind.i64.wrap ((t:Int) - 7)=(t:Int) - 7:=IntWalk.i64_in _ (by omega)
     have e16:IntKind.i64.wrap ((t:Int) - 16)=(t:Int) - 16:=IntWalk.i64_in _ (by omega)
     have p7:(7:Int)<=(t:Int):=by omega
     have q7:(t:Int) - 7 < 64:=by omega
     have q16:(t:Int) - 16 < 64:=by omega
     have n7: ¬t=t - 7:=by omega
     have n16: ¬t=t - 16:=by omega
     have n0: ¬t=0:=by omega
     have r7:((t:Int) - 7).toNat=t - 7:=by omega
     have r16:((t:Int) - 16).toNat=t - 16:=by omega
     go_region_held3 (λw'=>w'.cell? ⟨w.heap.size,t - 7,none⟩=some (.int .u32 (n32 w7))/\w'.cell? ⟨w.heap.size,t - 16,none⟩=some (.int .u32 (n32 w16)))
      ((repeat' apply And.intro) <;> repeat (first|assumption|refine zhZ ?_|refine zg8 _ ?_|refine zn4 (by omega) ?_))
      (first
       |(go_at_call 177;refine (zjB _ _ _ ?_ ?_).mono ?_;(focus (simp [go_sem];done));(focus (simp [go_sem];done));rintro e w' ⟨rfl,rfl⟩)
       |(go_at_call 177;refine (zkd _ _ _ ?_ ?_).mono ?_;(focus (simp [go_sem];done));(focus (simp [go_sem];done));rintro e w' ⟨rfl,rfl⟩))
     all_goals go_wp2
     all_goals (
      go_roundw
      case rel=>
       try simp only [zi5,zlb,xor32,add32m,add32]
       exact ⟨t+1,C.set t (next w2 w7 w15 w16),by omega,by omega,by go_num,by rw [List.length_set];exact HC.out,by rw [HW0.out];exact zaw (by rw [HC.out];omega) HW.out _,
        by repeat (first|exact HBK'.out.setMap t _|refine Blk.drew ?_|refine Blk.alloc ?_ _),
        by repeat (first|exact HBE'.out|refine Below.drew ?_|refine Below.alloc ?_ (by first|omega|(simp;omega)) _|refine Below.setCell ?_ (by exact Nat.le_refl _) _)⟩
      case measure=>simp [intOf];omega)
    ·obtain rfl:t=64:=by omega
     have hW64:=HW.out
     rw [List.take_of_length_le (by rw [HC.out];omega)] at hW64
     obtain ⟨WW,hWW⟩: ∃x,x=sched blk 64:=⟨_,rfl⟩
     rw [<-hWW] at hW64
     have HWW:=Lib.hid hWW
     clear hWW
     subst hW64
     have HWL:=HC
     clear HC HW
     have hSw:S < w.heap.size:=World.block_lt_of_cell? w _ (zb7 HS.out (i:=0) (by rw [Hs.out];omega) 0)
     have hKw:3 < w.heap.size:=World.block_lt_of_cell? w ⟨3,0+0,none⟩ (zb7 HK.out (i:=0) (by rw [zjj];omega) 0)
     have cS: ∀i,i < 8->wr.cell? ⟨S,o+i,none⟩=some (v32 (s.getD i 0)):=λi hi=>by
      rw [HBE.out.cell (p:=⟨S,o+i,none⟩) hSw];exact zb7 HS.out (by rw [Hs.out];omega) 0
     have c0:=cS 0 (by omega)
     have c1:=cS 1 (by omega)
     have c2:=cS 2 (by omega)
     have c3:=cS 3 (by omega)
     have c4:=cS 4 (by omega)
     have c5:=cS 5 (by omega)
     have c6:=cS 6 (by omega)
     have c7:=cS 7 (by omega)
     clear cS
     rw [Nat.add_zero] at c0
     have hSt:Hid (rounds s C 0=⟨s.getD 0 0,s.getD 1 0,s.getD 2 0,s.getD 3 0,s.getD 4 0,s.getD 5 0,s.getD 6 0,s.getD 7 0⟩):=Lib.hid rfl
     generalize s.getD 0 0=s0 at *
     generalize s.getD 1 0=s1 at *
     generalize s.getD 2 0=s2 at *
     generalize s.getD 3 0=s3 at *
     generalize s.getD 4 0=s4 at *
     generalize s.getD 5 0=s5 at *
     generalize s.getD 6 0=s6 at *
     generalize s.getD 7 0=s7 at *
     unfold v32 at c0 c1 c2 c3 c4 c5 c6 c7
     go_wp2
     go_quiet (fail)
     rename_i nq
     have HBK':Hid (Blk (wr.drewN nq) w.heap.size 215 (C.map v32)):=Lib.hid (HBK.out.drewN nq)
     have HBE':Hid (Below w.heap.size w (wr.drewN nq)):=Lib.hid (HBE.out.trans (zgw _ _ wr))
     clear c0 c1 c2 c3 c4 c5 c6 c7 HBK HBE
     generalize wr.drewN nq=wx at *
     obtain ⟨KA,hKA⟩: ∃KA,KA=(kC.map v32).toArray:=⟨_,rfl⟩
     have HKA:=Lib.hid hKA
     clear hKA
     have hr:=Lib.hid (ziD HK.out HBE'.out hKw)
     have hinfo:(Tryz.prog.info? 215).map (·.size)=some (kC.map v32).length:=info148
     iterate 5 go_step
     refine wpList_load_mid rfl 215 _ rfl 3 0 rfl (kC.map v32) _ hr.out Tryz.underlying215 rfl hinfo ?_
     rw [<-HKA.out]
     clear hinfo
     go_wp2
     go_loopw [12,13,14,15,16,17,18,19,134] (λva vb vc vd ve vf vg vh i wr=>∃(t:Nat) (v:St),t<=64/\rounds s C t=v/\i= .int .i64 t/\va= .int .u32 (n32 v.a)/\vb= .int .u32 (n32 v.b)/\vc= .int .u32 (n32 v.c)/\
       vd= .int .u32 (n32 v.d)/\ve= .int .u32 (n32 v.e)/\vf= .int .u32 (n32 v.f)/\vg= .int .u32 (n32 v.g)/\vh= .int .u32 (n32 v.h)/\Blk wr w.heap.size 215 (C.map v32)/\Below w.heap.size w wr)
      (λ_ _ _ _ _ _ _ _ i _=>64 - (intOf i).toNat)
     case atStart=>exact ⟨0,_,by omega,hSt.out,rfl,rfl,rfl,rfl,rfl,rfl,rfl,rfl,rfl,HBK'.out,HBE'.out⟩
     case round=>
      clear HBK' HBE' hr hSt
      obtain ⟨t,v,ht,hv,rfl,rfl,rfl,rfl,rfl,rfl,rfl,rfl,rfl,hbk,hbe⟩:=hrel
      obtain ⟨va,vb,vc,vd,ve,vf,vg,vh⟩:=v
      dsimp only
      have HV:=Lib.hid hv
      have HBK:=Lib.hid hbk
      have HBE:=Lib.hid hbe
      clear hv hbk hbe
      by_cases hlt:t < 64
      ·have hstep:rounds s C (t+1)=(rounds s C t).step (kC.getD t 0) (C.getD t 0):=rfl
       rw [HV.out] at hstep
       have cw:=HBK.out.cellD (i:=t) (by rw [HWL.out];omega) 0
       have hidx: ∀w',(Instr.index 215 (.agg KA) (.int .i64 t)).run Tryz.prog w'= .ok (v32 (kC.getD t 0)) w':=λw'=>by
        rw [HKA.out];exact zfe Tryz.underlying215 (by kernel_rfl) Tryz.underlying167 rfl hlt (zfk _ _ (by rw [zjj];exact hlt) 0) w'
       generalize C.getD t 0=wt at *
       generalize kC.getD t 0=kt at *
       have HST:=Lib.hid hstep
       clear hstep
       unfold v32 at cw hidx
       have hk0:(0:Int)<=(t:Int):=Int.natCast_nonneg _
       have hk2:(t:Int) < 64:=by omega
       have hlt':w.heap.size < wr.heap.size:=HBK.out.lt
       go_wp2
       go_region_held3 (λw'=>w'.cell? ⟨w.heap.size,t,none⟩=some (.int .u32 (n32 wt)))
        ((repeat' apply And.intro) <;> repeat (first|assumption|refine zhZ ?_|refine zg8 _ ?_))
        (first
         |(go_at_call 177;refine (zhz _ _ _ ?_ ?_ ?_).mono ?_;(focus (simp [go_sem];done));(focus (simp [go_sem];done));(focus (simp [go_sem];done));rintro e w' ⟨rfl,rfl⟩)
         |(go_at_call 178;refine (zlE _ _ _ _).mono ?_;rintro e w' ⟨rfl,rfl⟩))
       all_goals go_wp2_with (first
         |(go_at_call 177;refine (zhT _ _ _ ?_ ?_ ?_).mono ?_;(focus (simp [go_sem];done));(focus (simp [go_sem];done));(focus (simp [go_sem];done));rintro e w' ⟨rfl,rfl⟩)
         |(go_at_call 179;refine (zjU _ _ _ _).mono ?_;rintro e w' ⟨rfl,rfl⟩))
       all_goals (
        go_roundw
        case rel=>
         try simp only [xor32,add32]
         exact ⟨t+1,_,by omega,HST.out,by go_num,rfl,rfl,rfl,rfl,rfl,rfl,rfl,rfl,
          by repeat (first|exact HBK.out|refine Blk.drew ?_|refine Blk.alloc ?_ _),
          by repeat (first|exact HBE.out|refine Below.drew ?_|refine Below.alloc ?_ (by first|omega|(simp;omega)) _)⟩
        case measure=>simp [intOf];omega)
      ·obtain rfl:t=64:=by omega
       have hcomp:Hid (compress s blk=List.zipWith (· + ·) s [va,vb,vc,vd,ve,vf,vg,vh]):=by
        apply Lib.hid;unfold compress;rw [<-HWW.out,HV.out];rfl
       have hSw:S < w.heap.size:=World.block_lt_of_cell? w _ (zb7 HS.out (i:=0) (by rw [Hs.out];omega) 0)
       go_wp2
       go_loopw [186] (λi wr=>∃k:Nat,k<=8/\i= .int .i64 k/\Below w.heap.size (w.setCells S o (((compress s blk).map v32).take k)) wr) (λi _=>8 - (intOf i).toNat)
       case atStart=>exact ⟨0,by omega,rfl,HBE.out⟩
       case round=>
        clear HBK HBE
        obtain ⟨k,hk,rfl,hbe⟩:=hrel
        by_cases hlt8:k < 8
        ·have ck:=zjg hbe hSw (zb7 HS.out (i:=k) (by rw [Hs.out];omega) 0)
         have cf:=zhR (a:=⟨S,o+k,none⟩) hbe hSw (HT.out k hlt8).2
         have hidx: ∀w',(Instr.index 168 (.agg #[.int .u32 (n32 va),.int .u32 (n32 vb),.int .u32 (n32 vc),.int .u32 (n32 vd),.int .u32 (n32 ve),.int .u32 (n32 vf),.int .u32 (n32 vg),.int .u32 (n32 vh)]) (.int .i64 k)).run Tryz.prog w' =
           .ok (v32 ([va,vb,vc,vd,ve,vf,vg,vh].getD k 0)) w':=λw'=>
          zfe (cs:=([va,vb,vc,vd,ve,vf,vg,vh].map v32).toArray) Tryz.underlying168 (by kernel_rfl) Tryz.underlying167 rfl hlt8 (zfk _ _ (by simpa using hlt8) 0) w'
         have hnew:((compress s blk).map v32)[k]?=some (v32 (s.getD k 0+ [va,vb,vc,vd,ve,vf,vg,vh].getD k 0)):=by
          rw [hcomp.out,List.getElem?_map,List.getElem?_zipWith,getD_some (by rw [Hs.out];exact hlt8) 0,getD_some (by simpa using hlt8) 0];rfl
         generalize [va,vb,vc,vd,ve,vf,vg,vh].getD k 0=vk at *
         generalize s.getD k 0=sk at *
         unfold v32 at ck hidx
         have HNEW:=Lib.hid hnew
         have HBE:=Lib.hid hbe
         clear hnew hbe
         have hk0:(0:Int)<=(k:Int):=Int.natCast_nonneg _
         have hk2:(k:Int) < 8:=by omega
         go_wp2
         go_region
         all_goals go_wp2
         all_goals (
          go_roundw
          case rel=>
           try simp only [add32]
           exact ⟨k+1,by omega,by go_num,(zfn HBE.out HNEW.out).drew⟩
          case measure=>simp [intOf];omega)
        ·obtain rfl:k=8:=by omega
         have HBE:=Lib.hid hbe
         clear hbe
         go_wp2
         go_end0
         refine ⟨rfl,?_⟩
         have:=HBE.out
         rw [List.take_of_length_le (by rw [List.length_map,zar _ _ Hs.out];exact Nat.le_refl _)] at this
         exact this
end Go.Proofs.YtcpjfilcilcekaaGreatDoor
end
