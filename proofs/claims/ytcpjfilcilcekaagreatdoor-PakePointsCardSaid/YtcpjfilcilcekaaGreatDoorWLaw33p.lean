/- PakePoints: the points of any group, or the error. -/
import Derived.Test.YtcpjfilcilcekaaGreatDoorWJ36
import Derived.Test.YtcpjfilcilcekaaGreatDoorWJ40
set_option linter.all false
namespace Go.Proofs.YtcpjfilcilcekaaGreatDoor
open Go Go.Sy Go.Sh Go.Nt Go.RowKit
attribute [local irreducible] Sy SyL SyX Sy.Fn callFunc natC rowN refC iC gP gQ gL memB safeC fixB Sh.sum HashIs pkPt pkH pkQ
set_option maxRecDepth 10000
set_option maxHeartbeats 4000000 in
theorem zii (hkn: ∀w,GT w->Tab w No->Sy.Fn Tryz.prog 8 [] w No (Gives (.bool true))) (z:Int) (kb ko kc:Nat) (w:World) (hT:Tab w No) (hG:GT w) (hR:RTab w No kb ko kc):
    Sy.Fn Tryz.prog 6 [.int .i64 z] w No (Gives (.bool true)):=by
  refine zk Tryz.func6 rfl Tryz.ntmps6 (by simp) Holds.nil ?_
  have hkn':=λw' (hk:Keep No w w')=>hkn w' (hG.to hk) (hT.no hk)
  have n33:=λz w'=>zgx z w'
  have hh:=λw'=>zho z w'
  by_cases hz:1<=z/\z<=4
  · obtain ⟨i,rfl⟩: ∃i:Nat,z=(i:Int):=⟨z.toNat,by omega⟩
    have h0:1<=i:=by omega
    have h5:i<=4:=by omega
    rw [hasI i h0 h5] at hh
    have hp:=λw' (hk:Keep No w w')=>zlq i w' h0 h5 (hT.no hk) (hG.to hk)
    have hq1:=λw' (hk:Keep No w w')=>zd1 i true kb ko kc w' h0 h5 (hR.no hk)
    have hq2:=λw' (hk:Keep No w w')=>zd1 i false kb ko kc w' h0 h5 (hR.no hk)
    rw [show (str (pkLab true))=str [119,97,116,99,104,119,111,114,100,32,112,97,107,101,32,99,108,105,101,110,116] from rfl] at hq1
    rw [show (str (pkLab false))=str [119,97,116,99,104,119,111,114,100,32,112,97,107,101,32,115,101,114,118,101,114] from rfl] at hq2
    have hnd:=λs=>zd2 h0 h5 (zaD.1 (zd6 i s h0 h5)).2.1
    have hb:=λs w' a c (h:SlA w' a (refC (pkPt i s)))=>zh9 i a c (pkPt i s) w' h0 h5 h (zeO (zcd h0 h5 (zd6 i s h0 h5))) (hnd s)
    have hb1:=hb true
    have hb2:=hb false
    have lp:=zbD _ _ (hnd true)
    have lq:=zbD _ _ (hnd false)
    clear hb hnd
    generalize fixB (gL i) (pkPt i true)=fp at *
    generalize fixB (gL i) (pkPt i false)=fq at *
    generalize pkPt i true=p at *
    generalize pkPt i false=q at *
    generalize gL i=l at *
    repeat' (first|refine s_0 ?_|(refine za (id:=0) ?_;refine zd ?_)|(refine za (id:=1) ?_;refine zb ?_;(refine ys (zn (f:=20) (hc:=λw' X hk hh=>hp w' hk)) (k:=?_);rintro _ _ ⟨R,rfl,a1,c1,a2,c2,rfl,rfl⟩);refine zb ?_;refine zh ?_;refine zh ?_;refine zh ?_;refine zd ?_;refine zd ?_;refine zd ?_)|(refine za (id:=2) ?_;refine zb ?_;refine yv (zf (hc:=λ_ _ _ _=>(hh _))) (k:=?_);refine zaw ?_)|fail)
    refine zai (id:=4) mixed ?_
    (refine zad 8 8 [[],[0],[],[],[3],[2,3,4],[2,3,4,5],[0,1,2,3,4,5,6],[0,1,2,3,4,5,6,7],[0,1,2,3,4,5,6,7,8],[0,1,2,3,4,5,6,7,8,9],[0,1,2,3,4,5,6,7,8],[0,1,2,3,4,5,6,7,8],[0,1,2,3,4,5,6,7,8,12],[0,1,2,3,4,5,6,7,8,11,12,13],[0,1,2,3,4,5,6,7,8,11,12,13,14],[0,1,2,3,4,5,6,7,8,9,10,11,12,13,14,15],[0,1,2,3,4,5,6,7,8,9,10,11,12,13,14,15,16],[0,1,2,3,4,5,6,7,8,9,10,11,12,13,14,15,16,17],[0,1,2,3,4,5,6,7,8,9,10,11,12,13,14,15,16,17,18],[0,1,2,3,4,5,6,7,8,9,10,11,12,13,14,15,16,17,18,19],[0,1,2,3,4,5,6,7,8,9,10,11,12,13,14,15,16,17,18,19,20],[0,1,2,3,4,5,6,7,8,9,10,11,12,13,14,15,16,17,18,19,20,21],[0,1,2,3,4,5,6,7,8,9,10,11,12,13,14,15,16,17,18,19,20,21,22],[0,1,2,3,4,5,6,7,8,9,10,11,12,13,14,15,16,17,18,19,20,21,22,23],[0,1,2,3,4,5,6,7,8,9,10,11,12,13,14,15,16,17,18,19,20,21,22,23,24],[0,1,2,3,4,5,6,7,8,9,10,11,12,13,14,15,16,17,18,19,20,21,22,23,24,25]] [[],[],[],[],[],[],[],[],[],[],[],[],[],[],[],[],[],[],[],[],[],[],[],[],[],[],[]] none rfl ?_ ?_ ?_;kernel_rfl;kernel_rfl;refine zU ?_;refine dcE (λ_ _=>zb4 (l:=fp) (hr:=Rd.row Has.go) (hn:=lp)) (k:=?_);refine zU ?_;refine zU ?_;try refine dh_0nE (h:=?_))
    refine z8 (R:=λ_=>RefG p) (λ_ _ _=>rfl) (λρ hρ=>zn (f:=23) (hc:=λw' X hk hh=>hq1 w' hk)) (h:=?_)
    refine z8 (R:=λ_=>RowOf 5 l (fp.map v8)) (λ_ _ _=>rfl) (λρ hρ=>?_) (h:=?_)
    · obtain ⟨⟨b0,d0,p1,p2⟩,-⟩:=hρ
      refine zn (f:=22) (vs:=[.int .i64 (i:Int),.slice b0 (nd 65536 p) d0]) (ha:=by show some [_,(ρ 4).1]=_;rw [p1]) (hc:=λw' X hk hh=>?_)
      have hh:Holds w.heap.size No (((ρ 4).2 ++ _) ++ X) w':=hh
      rw [p2] at hh
      exact hb1 w' b0 d0 (zM hh (by exact Has.append Has.go))
    refine dcE (u:=.string (str fp)) (λρ hρ=>zfK (v:=(ρ 5).1) (Nw:=(ρ 5).2) hρ.1 lp (λr hr=>Has.append hr)) (k:=?_)
    (skip;refine dcE (λ_ _=>zbE (hr:=decide_eq_true rfl)) (k:=?_);try refine dh_0nE (h:=?_))
    refine zaT (h:=?_)
    rintro ρ -
    (refine zad 10 18 [[],[0],[],[],[3],[2,3,4],[2,3,4,5],[0,1,2,3,4,5,6],[0,1,2,3,4,5,6,7],[0,1,2,3,4,5,6,7,8],[0,1,2,3,4,5,6,7,8,9],[0,1,2,3,4,5,6,7,8],[0,1,2,3,4,5,6,7,8],[0,1,2,3,4,5,6,7,8,12],[0,1,2,3,4,5,6,7,8,11,12,13],[0,1,2,3,4,5,6,7,8,11,12,13,14],[0,1,2,3,4,5,6,7,8,9,10,11,12,13,14,15],[0,1,2,3,4,5,6,7,8,9,10,11,12,13,14,15,16],[0,1,2,3,4,5,6,7,8,9,10,11,12,13,14,15,16,17],[0,1,2,3,4,5,6,7,8,9,10,11,12,13,14,15,16,17,18],[0,1,2,3,4,5,6,7,8,9,10,11,12,13,14,15,16,17,18,19],[0,1,2,3,4,5,6,7,8,9,10,11,12,13,14,15,16,17,18,19,20],[0,1,2,3,4,5,6,7,8,9,10,11,12,13,14,15,16,17,18,19,20,21],[0,1,2,3,4,5,6,7,8,9,10,11,12,13,14,15,16,17,18,19,20,21,22],[0,1,2,3,4,5,6,7,8,9,10,11,12,13,14,15,16,17,18,19,20,21,22,23],[0,1,2,3,4,5,6,7,8,9,10,11,12,13,14,15,16,17,18,19,20,21,22,23,24],[0,1,2,3,4,5,6,7,8,9,10,11,12,13,14,15,16,17,18,19,20,21,22,23,24,25]] [[],[],[],[],[],[],[],[],[],[],[],[],[],[],[],[],[],[],[],[],[],[],[],[],[],[],[]] none rfl ?_ ?_ ?_;kernel_rfl;kernel_rfl;refine zU ?_;refine zU ?_;refine dcE (λ_ _=>zb4 (l:=fq) (hr:=Rd.row (Has.appR (Has.appR Has.go))) (hn:=lq)) (k:=?_);refine zU ?_;refine zU ?_;try refine dh_0nE (h:=?_))
    refine z8 (R:=λ_=>RefG q) (λ_ _ _=>rfl) (λρ hρ=>zn (f:=23) (hc:=λw' X hk hh=>hq2 w' hk)) (h:=?_)
    refine z8 (R:=λ_=>RowOf 5 l (fq.map v8)) (λ_ _ _=>rfl) (λρ hρ=>?_) (h:=?_)
    · obtain ⟨⟨b0,d0,p1,p2⟩,-⟩:=hρ
      refine zn (f:=22) (vs:=[.int .i64 (i:Int),.slice b0 (nd 65536 q) d0]) (ha:=by show some [_,(ρ 13).1]=_;rw [p1]) (hc:=λw' X hk hh=>?_)
      have hh:Holds w.heap.size No (((ρ 13).2 ++ _) ++ X) w':=hh
      rw [p2] at hh
      exact hb2 w' b0 d0 (zM hh (by exact Has.append Has.go))
    refine dcE (u:=.string (str fq)) (λρ hρ=>zfK (v:=(ρ 14).1) (Nw:=(ρ 14).2) hρ.1 lq (λr hr=>Has.append hr)) (k:=?_)
    (skip;refine dcE (λ_ _=>zbE (hr:=decide_eq_true rfl)) (k:=?_);refine zmn ?_;try refine dh_0nE (h:=?_))
    refine zaT (h:=?_)
    rintro ρ' -
    (refine zah [[],[0],[],[],[3],[2,3,4],[2,3,4,5],[0,1,2,3,4,5,6],[0,1,2,3,4,5,6,7],[0,1,2,3,4,5,6,7,8],[0,1,2,3,4,5,6,7,8,9],[0,1,2,3,4,5,6,7,8],[0,1,2,3,4,5,6,7,8],[0,1,2,3,4,5,6,7,8,12],[0,1,2,3,4,5,6,7,8,11,12,13],[0,1,2,3,4,5,6,7,8,11,12,13,14],[0,1,2,3,4,5,6,7,8,9,10,11,12,13,14,15],[0,1,2,3,4,5,6,7,8,9,10,11,12,13,14,15,16],[0,1,2,3,4,5,6,7,8,9,10,11,12,13,14,15,16,17],[0,1,2,3,4,5,6,7,8,9,10,11,12,13,14,15,16,17,18],[0,1,2,3,4,5,6,7,8,9,10,11,12,13,14,15,16,17,18,19],[0,1,2,3,4,5,6,7,8,9,10,11,12,13,14,15,16,17,18,19,20],[0,1,2,3,4,5,6,7,8,9,10,11,12,13,14,15,16,17,18,19,20,21],[0,1,2,3,4,5,6,7,8,9,10,11,12,13,14,15,16,17,18,19,20,21,22],[0,1,2,3,4,5,6,7,8,9,10,11,12,13,14,15,16,17,18,19,20,21,22,23],[0,1,2,3,4,5,6,7,8,9,10,11,12,13,14,15,16,17,18,19,20,21,22,23,24],[0,1,2,3,4,5,6,7,8,9,10,11,12,13,14,15,16,17,18,19,20,21,22,23,24,25]] ?_ ?_;kernel_rfl)
    refine SyL.weaken (fr':=[(45,.bool true),(5,.int .i64 0)]) (L':=[]) ?_ (by exact Sub.go) SubR.nil
    repeat' (first|refine s_0 ?_|(refine zB ?_;first|refine yv (zf (hc:=λ_ _ _ _=>(n33 _ _))) (k:=?_)|refine yv (zf (f:=8) (hc:=λw' X hk hh=>hkn' w' hk)) (k:=?_)|refine zd ?_|refine zZ ?_|refine zb ?_|refine zp ?_|fail)|fail)
    exact ret1 rfl (resTmp rfl) SubR.nil ⟨rfl,rfl⟩
  · rw [decide_eq_false hz] at hh
    have hp:=λw'=>zjE z w' hz
    repeat' (first|refine s_0 ?_|(refine za (id:=0) ?_;refine zd ?_)|(refine za (id:=1) ?_;refine zb ?_;refine yv (zf (hc:=λ_ _ _ _=>(hp _))) (k:=?_);refine zb ?_;refine zh ?_;refine zh ?_;refine zh ?_;refine zd ?_;refine zd ?_;refine zd ?_)|(refine za (id:=2) ?_;refine zb ?_;refine yv (zf (hc:=λ_ _ _ _=>(hh _))) (k:=?_);refine zaw ?_)|(refine za (id:=3) ?_;refine zb ?_;refine zr ?_;refine zb ?_;refine zr ?_;refine zV ?_;refine zZ ?_;refine zb ?_;refine zb ?_;refine zZ ?_;refine zp ?_;refine zb ?_;refine yv (zf (f:=8) (hc:=λw' X hk hh=>hkn' w' hk)) (k:=?_);refine zp ?_;refine zd ?_)|fail)
    exact ret1 rfl (resTmp rfl) SubR.nil ⟨rfl,rfl⟩
end Go.Proofs.YtcpjfilcilcekaaGreatDoor
