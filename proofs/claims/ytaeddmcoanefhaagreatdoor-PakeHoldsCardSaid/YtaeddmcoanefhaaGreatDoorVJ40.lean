/- Layer pake, walked: the digest of a transcript is set. -/
import Derived.Test.YtaeddmcoanefhaaGreatDoorVJ39
set_option linter.all false
section
namespace Go.Proofs.YtaeddmcoanefhaaGreatDoor
open Go Go.Sy Go.Sh Go.Nt Go.RowKit
theorem subr_tail {A B R : List Res} (h : SubR A B) : SubR (A ++ R) (B ++ R) := by
  obtain ⟨X, hx⟩ := h
  refine ⟨X, (hx.append_right R).trans ?_⟩
  rw [List.append_assoc, List.append_assoc]
  exact List.perm_append_comm.append_left A
def pgs (ps : List Bs) : List Nat → List Res
  | [] => []
  | b :: bs => .blk b 5 ((four (ps[bs.length]!).n).map v8) :: pgs ps bs
def pys (ps : List Bs) : List Nat → List Bs
  | [] => []
  | b :: bs => pys ps bs ++ [⟨some ⟨b, 0, none⟩, 4, 4, four (ps[bs.length]!).n⟩, ps[bs.length]!]
theorem pys_len (ps : List Bs) : ∀ bs, (pys ps bs).length = 2 * bs.length
  | [] => rfl
  | b :: bs => by
    show (pys ps bs ++ [_, _]).length = _
    rw [List.length_append, pys_len ps bs]; rfl
theorem pys_ok {w : World} {ps : List Bs} (hp : ∀ s ∈ ps, s.ok w ∧ s.n ≤ 10000) : ∀ bs, bs.length ≤ ps.length → (∀ r ∈ pgs ps bs, r.holds w) → ∀ s ∈ pys ps bs, s.ok w ∧ s.n ≤ 10000
  | [], _, _, s, hs => by cases hs
  | b :: bs, hl, hh, s, hs => by
    have hlt : bs.length < ps.length := hl
    rcases List.mem_append.1 hs with h | h
    · exact pys_ok hp bs (Nat.le_of_lt hlt) (fun r hr => hh r (List.mem_cons_of_mem _ hr)) s h
    · simp only [List.mem_cons, List.not_mem_nil, or_false] at h
      rcases h with rfl | rfl
      · exact ⟨⟨rfl, Nat.le_refl _, .inr ⟨b, 0, rfl, blk_range (hh _ List.mem_cons_self) Seg.all⟩, fun h => by cases h⟩, by show 4 ≤ 10000; decide⟩
      · exact hp _ (by rw [getElem!_pos ps bs.length hlt]; exact List.getElem_mem _)
theorem pys_cat (ps : List Bs) (hp : ∀ s ∈ ps, s.l.length = s.n) : ∀ bs : List Nat, bs.length ≤ ps.length → Bs.cat (pys ps bs) = (ps.take bs.length).flatMap fun s => pkFr s.l
  | [], _ => rfl
  | b :: bs, hl => by
    have hlt : bs.length < ps.length := hl
    have hx : ps[bs.length]! = ps[bs.length] := getElem!_pos ps bs.length hlt
    have h1 := hp ps[bs.length] (List.getElem_mem _)
    show Bs.cat (pys ps bs ++ [_, _]) = (ps.take (bs.length + 1)).flatMap _
    rw [List.take_succ, List.getElem?_eq_getElem hlt, List.flatMap_append, ← pys_cat ps hp bs (Nat.le_of_lt hlt), hx]
    simp [Bs.cat, pkFr, h1]
theorem pk_set3 {x y z : Value} {G H Rs : List Value} (h : G.length = H.length) : setSeg (x :: y :: z :: (G ++ Rs)) 3 H = x :: y :: z :: (H ++ Rs) := by
  have e : x :: y :: z :: (G ++ Rs) = ([x, y, z] ++ G) ++ Rs := by simp
  unfold setSeg
  rw [List.drop_left' (l₁ := [x, y, z] ++ G) (by simp [h]; omega) |> fun h => (show List.drop (3 + H.length) (x :: y :: z :: (G ++ Rs)) = Rs by rw [e]; exact h)]
  simp
attribute [local irreducible] Sy SyL SyX Sy.Fn callFunc natC Sh.sum HashIs four
set_option maxRecDepth 10000
set_option maxHeartbeats 2000000 in
theorem xfinish_fn (b T i : Nat) (d : Bool) (G Rs : List Value) (hG32 : G.length = 32) (sx sc ss sh sl : Bs) (w : World) (hi : i < 256)
    (hC : (Res.blk b T (.int .i64 (i : Int) :: sx.val :: .bool d :: (G ++ Rs))).holds w) (hps : ∀ s ∈ [sx, sc, ss, sh, sl], SlF w (fun x => x = b) s.a (s.l.map v8) ∧ s.l.length = s.n ∧ s.n ≤ s.c ∧ (s.a = none → s.c = 0) ∧ s.n ≤ 10000) (hT : Tab w (fun x => x = b)) :
    Sy.Fn Tryz.prog 35 [.pointer (some ⟨b, 0, none⟩), sc.val, ss.val, sh.val, sl.val] w (fun x => x = b)
      (fun v R => v = .tuple #[] ∧ R = [.blk b T (.int .i64 (i : Int) :: sx.val :: .bool true :: ((pkDig i sx.l sc.l ss.l sh.l sl.l).map v8 ++ Rs))]) := by
  refine fn_enter Tryz.func35 rfl Tryz.ntmps35 (by simp) (holds_own hC) ?_
  have hui := u8w i hi
  repeat' (first | refine sy_seqC ?_ | refine syl_nil ?_ | refine syx_then ?_ | refine syx_go ?_ | (refine sy_region (id := 0) ?_; refine y_assign ?_) | fail)
  refine sy_drawA (id := 1) mixed ?_
  (refine sye_part 17 17 [[], [0], [0, 1], [0, 1, 2], [], [4], [4, 5], [4, 5, 6], [4, 5, 6, 7], [4, 5, 6, 7, 8], [], [], [], [], [0, 1, 2, 3, 4, 5, 6, 7, 8, 9, 10, 11, 12, 13], [0, 1, 2, 3, 4, 5, 6, 7, 8, 9, 10, 11, 12, 13, 14], []] [[], [], [], [], [], [], [], [], [], [], [], [], [], [], [], [], []] none rfl ?_ ?_ ?_; kernel_rfl; kernel_rfl; refine e_move ?_; refine e_nilCheck ?_; refine e_fieldAddr ?_; refine e_load ?_; refine e_move ?_; refine e_nilCheck ?_; refine e_fieldAddr ?_; refine e_load ?_; refine dcE (fun _ _ => op_conv (hr := hui)) (k := ?_); try refine dh_0nE (h := ?_))
  refine dh_rE (R := fun _ => LitOf 5 [v8 (UInt8.ofNat i)]) (fun _ _ _ => rfl) (fun ρ hρ => OpT.mono op_buildSlice fun v L' h => ?_) (h := ?_)
  · obtain ⟨b, rfl, rfl⟩ := h
    exact ⟨[_], rfl, b, rfl, rfl⟩
  (skip; refine e_move ?_; refine e_move ?_; refine e_move ?_; refine e_move ?_; try refine dh_0nE (h := ?_))
  refine dh_rE (R := fun ρ => LitOf 22 [sx.val, (ρ 9).1, sc.val, ss.val, sh.val, sl.val]) (fun ρ ρ' h => by rw [h 9 (by decide)]) (fun ρ hρ => ?_) (h := ?_)
  · obtain ⟨⟨b9, e9, f9⟩, -⟩ := hρ
    refine OpT.mono (op_buildSlice (hc := by show [_, (ρ 9).1, _, _, _, _].all _ = true; rw [e9]; rfl)) fun v L' h => ?_
    obtain ⟨b, rfl, rfl⟩ := h
    exact ⟨[_], rfl, b, rfl, rfl⟩
  refine dcE (u := .int .i64 ((6 : Nat) : Int)) (fun ρ hρ => ?_) (k := ?_)
  · obtain ⟨⟨b14, e14, f14⟩, -⟩ := hρ
    exact op_len (hx := by show some (ρ 14).1 = _; rw [e14]; rfl)
  (skip; refine e_move ?_; try refine dh_0nE (h := ?_))
  refine dh_0E (h := ?_)
  rintro ρ ⟨⟨b28, e14, f14⟩, ⟨b9, e9, f9⟩, -⟩
  rw [e9] at f14
  obtain ⟨ps, hps'⟩ : ∃ ps : List Bs, ps = [sx, ⟨some ⟨b9, 0, none⟩, 1, 1, [UInt8.ofNat i]⟩, sc, ss, sh, sl] := ⟨_, rfl⟩
  (refine sya_list [[], [0], [0, 1], [0, 1, 2], [], [4], [4, 5], [4, 5, 6], [4, 5, 6, 7], [4, 5, 6, 7, 8], [], [], [], [], [0, 1, 2, 3, 4, 5, 6, 7, 8, 9, 10, 11, 12, 13], [0, 1, 2, 3, 4, 5, 6, 7, 8, 9, 10, 11, 12, 13, 14], []] ?_ ?_; kernel_rfl)
  refine SyL.weaken (fr' := [(30, .int .i64 0), (29, .int .i64 ((6 : Nat) : Int)), (28, .slice (some ⟨b28, 0, none⟩) 6 6), (10, .slice none 0 0), (0, .pointer (some ⟨b, 0, none⟩))]) (L' := [.blk b28 22 (ps.map Bs.val), .blk b9 5 [v8 (UInt8.ofNat i)], .blk b T (.int .i64 (i : Int) :: sx.val :: .bool d :: (G ++ Rs))]) ?_ ?_ ?_
  rotate_left
  · (repeat' (first | exact Sub.nil | refine Sub.cons rfl ?_ ?_ | rfl))
    exact e14
  · show SubR _ ((ρ 14).2 ++ ((ρ 9).2 ++ _))
    rw [f14, f9, hps']
    exact SubR.go2
  have hpok : ∀ w', Keep (fun x => x = b) w w' → (Res.blk b9 5 [v8 (UInt8.ofNat i)]).holds w' → ∀ s ∈ ps, s.ok w' ∧ s.n ≤ 10000 := fun w' hk h9 s hs => by
    rw [hps'] at hs
    have old : ∀ s ∈ [sx, sc, ss, sh, sl], s.ok w' ∧ s.n ≤ 10000 := fun s hs => by
      obtain ⟨h1, h2, h3, h4, h5⟩ := hps s hs
      exact ⟨⟨h2, h3, (h1.to (Mi := No) hk (fun _ h => h.elim)).sla, h4⟩, h5⟩
    simp only [List.mem_cons, List.not_mem_nil, or_false] at hs
    rcases hs with rfl | rfl | rfl | rfl | rfl | rfl
    · exact old _ (by simp)
    · exact ⟨⟨rfl, Nat.le_refl _, .inr ⟨b9, 0, rfl, blk_range h9 Seg.all⟩, fun h => by cases h⟩, by show 1 ≤ 10000; decide⟩
    · exact old _ (by simp)
    · exact old _ (by simp)
    · exact old _ (by simp)
    · exact old _ (by simp)
  have hpl : ∀ s ∈ ps, s.l.length = s.n ∧ s.n ≤ 10000 := fun s hs => by
    rw [hps'] at hs
    have old : ∀ s ∈ [sx, sc, ss, sh, sl], s.l.length = s.n ∧ s.n ≤ 10000 := fun s hs => by
      obtain ⟨h1, h2, h3, h4, h5⟩ := hps s hs
      exact ⟨h2, h5⟩
    simp only [List.mem_cons, List.not_mem_nil, or_false] at hs
    rcases hs with rfl | rfl | rfl | rfl | rfl | rfl
    · exact old _ (by simp)
    · exact ⟨rfl, by show 1 ≤ 10000; decide⟩
    · exact old _ (by simp)
    · exact old _ (by simp)
    · exact old _ (by simp)
    · exact old _ (by simp)
  have hcat : Sh.sum ((ps.take 6).flatMap fun s => pkFr s.l) = pkDig i sx.l sc.l ss.l sh.l sl.l := by
    rw [hps']; unfold pkDig
    simp [List.flatMap_cons]
  have hlen : ps.length = 6 := by rw [hps']; rfl
  clear hps' hps e14 f14 e9 f9
  refine syl_conv (conv_nil 22 1) ?_
  repeat' (first | refine syl_nil ?_ | refine sy_block ?_ | refine syx_then ?_ | refine syx_go ?_ | fail)
  refine sy_loop (γ := Option Addr × Nat × List Nat) (fun g => [(30, .int .i64 (g.2.2.length : Int)), (29, .int .i64 ((6 : Nat) : Int)), (28, .slice (some ⟨b28, 0, none⟩) 6 6), (10, .slice g.1 (2 * g.2.2.length) g.2.1), (0, .pointer (some ⟨b, 0, none⟩))])
    (fun g => .row (.slice g.1 (2 * g.2.2.length) g.2.1) 22 1 (2 * g.2.2.length) ((pys ps g.2.2).map Bs.val) :: .blk b28 22 (ps.map Bs.val) :: .blk b9 5 [v8 (UInt8.ofNat i)] :: .blk b T (.int .i64 (i : Int) :: sx.val :: .bool d :: (G ++ Rs)) :: pgs ps g.2.2)
    (fun g => g.2.2.length ≤ 6) (fun g => 6 - g.2.2.length) (none, 0, []) (Nat.zero_le _) ?_ ?_ ?_
  · exact Sub.go
  · show SubR [_, _, _, _] _
    exact SubR.go2
  rintro ⟨ar, cr, bs⟩ hk
  dsimp only at hk ⊢
  rcases Nat.lt_or_ge bs.length 6 with h | h
  · have hx : ps[bs.length]! = ps[bs.length] := getElem!_pos ps bs.length (by omega)
    obtain ⟨h1, h2⟩ := hpl _ (List.getElem_mem (h := (by omega : bs.length < ps.length)))
    have hcell : (ps.map Bs.val)[0 + bs.length]? = some ps[bs.length].val := by rw [Nat.zero_add, List.getElem?_map, List.getElem?_eq_getElem (by omega)]; rfl
    have hys : ∀ bn : Nat, (pys ps bs).map Bs.val ++ [.slice (some ⟨bn, 0, none⟩) 4 4, ps[bs.length].val] = (pys ps (bn :: bs)).map Bs.val := fun bn => by
      show _ = (pys ps bs ++ [_, _]).map Bs.val
      rw [hx, List.map_append]; rfl
    have hgs : ∀ bn : Nat, pgs ps (bn :: bs) = .blk bn 5 ((four ps[bs.length].n).map v8) :: pgs ps bs := fun bn => by
      show Res.blk bn _ ((four (ps[bs.length]!).n).map v8) :: _ = _
      rw [hx]
    have hkm : 2 * bs.length + 2 = 2 * (bs.length + 1) := by omega
    have hpl' := pys_len ps bs
    generalize ps[bs.length] = p at *
    obtain ⟨pa, pn, pc, pl⟩ := p
    simp only [Bs.val] at hcell hys
    dsimp only at h1 h2 hgs
    have hlt : decide ((bs.length : Int) < ((6 : Nat) : Int)) = true := decide_eq_true (by omega)
    have g5 : IntKind.i64.wrap ((bs.length : Int) + 1) = ((bs.length + 1 : Nat) : Int) := by rw [IntWalk.i64_in _ (by omega)]; omega
    repeat' (first | refine sy_seqC ?_ | refine syl_nil ?_ | refine sy_if_t rfl ?_ | refine sy_block ?_ | refine sy_skip ?_ | refine syx_then ?_ | refine syx_go ?_ | (refine sy_region (id := 2) ?_; refine yv (op_lss (hr := hlt)) (k := ?_)) | (refine sy_region (id := 3) ?_; refine yv (op_indexAddr1 (j := bs.length)) (k := ?_); refine yv (op_load (hv := hcell)) (k := ?_); refine y_assign ?_) | (refine sy_region (id := 4) ?_; refine y_move ?_; refine y_len ?_; refine y_assign ?_) | (refine sy_region (id := 5) ?_; refine y_move ?_; refine y_move ?_; refine yv (op_shr (hr := shrI pn 24 _ (by decide))) (k := ?_); refine yv (op_conv (hr := v8_of _)) (k := ?_); refine y_move ?_; refine yv (op_shr (hr := shrI pn 16 _ (by decide))) (k := ?_); refine yv (op_conv (hr := v8_of _)) (k := ?_); refine y_move ?_; refine yv (op_shr (hr := shrI pn 8 _ (by decide))) (k := ?_); refine yv (op_conv (hr := v8_of _)) (k := ?_); refine y_move ?_; refine yv (op_conv (hr := v8_of _)) (k := ?_); (refine ys op_buildSlice (k := ?_); rintro _ _ ⟨_, rfl, rfl⟩); refine y_move ?_; (refine ys op_buildSlice (k := ?_); rintro _ _ ⟨_, rfl, rfl⟩); (refine ys (op_append (k := 2 * bs.length) (m := 2) (hn := rfl) (hkm := hkm) (hys := hys _)) (k := ?_); rintro _ _ ⟨rfl, aN, cN, rfl⟩); refine y_assign ?_) | (refine sy_region (id := 6) ?_; refine yv (op_add (hr := g5)) (k := ?_); refine y_move ?_) | fail)
    rename_i bn bp
    have h4 : (four pn).map v8 = [.int .u8 (Wd.n8 (UInt8.ofNat (pn / 2 ^ 24))), .int .u8 (Wd.n8 (UInt8.ofNat (pn / 2 ^ 16))), .int .u8 (Wd.n8 (UInt8.ofNat (pn / 2 ^ 8))), .int .u8 (Wd.n8 (UInt8.ofNat pn))] := by unfold four; rfl
    refine syx_back (aN, cN, bn :: bs) h ?_ ?_ ?_
    · show 6 - (bs.length + 1) < 6 - bs.length; omega
    · exact Sub.go
    · rw [hgs, h4]
      exact subr_tail (A := [_, _, _, _, _]) (B := [_, _, _, _, _, _]) (by exact SubR.go2)
  obtain hk6 : bs.length = 6 := by omega
  have hlt : decide ((bs.length : Int) < ((6 : Nat) : Int)) = false := decide_eq_false (by omega)
  have hG3 := pk_set3 (x := .int .i64 (i : Int)) (y := sx.val) (z := .bool d) (G := G) (H := (pkDig i sx.l sc.l ss.l sh.l sl.l).map v8) (Rs := Rs) (by rw [List.length_map, hG32]; unfold pkDig; exact (sum_len _).symm)
  have hph := fun w' (hk' : Keep (fun x => x = b) w w') (hh : ∀ r ∈ pgs ps bs, r.holds w') (h9 : (Res.blk b9 5 [v8 (UInt8.ofNat i)]).holds w') (hsx : SlA w' ar ((pys ps bs).map Bs.val)) =>
    phash_fn ar (2 * bs.length) cr (pys ps bs) w' (pys_len ps bs) (by omega) hsx (pys_ok (hpok w' hk' h9) bs (by omega) hh) (hT.no hk')
  rw [← hk6] at hcat
  rw [pys_cat ps (fun s hs => (hpl s hs).1) bs (by omega), hcat] at hph
  generalize hD : pkDig i sx.l sc.l ss.l sh.l sl.l = D at *
  have hDl : D.length = 32 := by rw [← hD]; unfold pkDig; exact sum_len _
  repeat' (first | refine sy_seqC ?_ | refine syl_nil ?_ | refine sy_if_f rfl ?_ | refine sy_exit ?_ | refine syx_then ?_ | refine syx_go ?_ | (refine sy_region (id := 2) ?_; refine yv (op_lss (hr := hlt)) (k := ?_)) | (refine sy_region (id := 7) ?_; refine y_move ?_; refine y_move ?_; refine y_move ?_; refine yv (op_callV (f := 60) (hc := fun w' X hk hh => hph w' hk (fun r hr => hh.all r (by simp [hr])) (hh.all _ (by simp)) (row_sla hh (by exact Has.append Has.here)))) (k := ?_); refine y_nilCheck ?_; refine y_fieldAddr ?_; refine yn (op_stores (hL := by rw [hG3]; exact (by repeat (first | exact Upd.here | apply Upd.there)))) (k := ?_); refine y_nilCheck ?_; refine y_fieldAddr ?_; refine yn (op_store (v := .bool true) (C := .int .i64 (i : Int) :: sx.val :: .bool d :: (D.map v8 ++ Rs)) (C' := .int .i64 (i : Int) :: sx.val :: .bool true :: (D.map v8 ++ Rs)) (hC := SetAt.there (SetAt.there SetAt.here))) (k := ?_)) | fail)
  exact end0 rfl (SubR.same (Rem.there (Rem.there (Rem.there Rem.here))) SubR.nil) ⟨rfl, rfl⟩
end Go.Proofs.YtaeddmcoanefhaaGreatDoor
end
section
namespace Go.Proofs.YtaeddmcoanefhaaGreatDoor
open Go Go.Sy Go.Sh Go.Nt Go.RowKit
theorem pk_powx {i x : Nat} (h0 : 1 ≤ i) (h5 : i ≤ 4) (h : memB (gP i) (gQ i) x = true) (e : Nat) : memB (gP i) (gQ i) (x ^ e % gP i) = true := memB_mem.2 (mem_of h0 h5 (by
  have := (mem_cg h0 h5 (memB_mem.1 h).2.2).pow e
  rwa [Nat.one_pow, ← Nat.pow_mul, Nat.mul_comm, Nat.pow_mul] at this))
theorem pk_mul {i x y : Nat} (h0 : 1 ≤ i) (h5 : i ≤ 4) (h : memB (gP i) (gQ i) x = true) (h' : memB (gP i) (gQ i) y = true) : memB (gP i) (gQ i) (x * y % gP i) = true := memB_mem.2 (mem_of h0 h5 (by
  have := (mem_cg h0 h5 (memB_mem.1 h).2.2).mul (mem_cg h0 h5 (memB_mem.1 h').2.2)
  rwa [Nat.mul_one, ← Nat.mul_pow] at this))
theorem pk_inv {i x : Nat} (h0 : 1 ≤ i) (h5 : i ≤ 4) (h : memB (gP i) (gQ i) x = true) : memB (gP i) (gQ i) (inv (gP i) x).2 = true := by
  have hP : 0 < gP i := Nat.lt_trans Nat.zero_lt_one (gP_one i h0 h5)
  have h1 := (inv_ok (gP i) x hP).2
  rw [ginv_one h0 h5 h] at h1
  have hx : Cg (gP i) (x ^ gQ i) 1 := mem_cg h0 h5 (memB_mem.1 h).2.2
  have h2 := h1.pow (gQ i)
  rw [Nat.mul_pow, Nat.one_pow] at h2
  have h3 : Cg (gP i) ((inv (gP i) x).2 ^ gQ i * 1) 1 := ((Cg.refl _ _).mul hx.symm).trans h2
  rw [Nat.mul_one] at h3
  have h4 := mem_of h0 h5 h3
  rw [Nat.mod_eq_of_lt (inv_lt (gP i) x hP)] at h4
  exact memB_mem.2 h4
theorem pk_W {i x : Nat} (h0 : 1 ≤ i) (h5 : i ≤ 4) (h : memB (gP i) (gQ i) x = true) : x < 18446744073709551616 ^ 16 := Nat.lt_trans (memB_mem.1 h).2.1 (gP_W i h0 h5)
theorem pk_pt (i : Nat) (s : Bool) (h0 : 1 ≤ i) (h5 : i ≤ 4) : memB (gP i) (gQ i) (pkPt i s) = true := memB_mem.2 (pkPt_ok i s h0 h5).2
theorem pk_four (i e : Nat) (h0 : 1 ≤ i) (h5 : i ≤ 4) : memB (gP i) (gQ i) (4 ^ e % gP i) = true := memB_mem.2 (mem_pow h0 h5 e)
theorem pk_own (s : Bool) (i w x : Nat) (h0 : 1 ≤ i) (h5 : i ≤ 4) : memB (gP i) (gQ i) (pkOwn s i w x) = true := pk_mul h0 h5 (pk_four i x h0 h5) (pk_powx h0 h5 (pk_pt i s h0 h5) w)
theorem seg_at {C A B R : List Value} {k : Nat} (h : C = A ++ (B ++ R)) (hk : A.length = k) : Seg C k B := fun j v hj => by
  subst hk
  rw [h, List.getElem?_append_right (Nat.le_add_right _ _), Nat.add_sub_cancel_left, List.getElem?_append_left (List.getElem?_eq_some_iff.1 hj).1]
  exact hj
def pkC (i : Nat) (sx : Bs) (d : Bool) (G : List Value) (s : Bool) (x wv : Nat) (so : Bs) : List Value := .int .i64 (i : Int) :: sx.val :: .bool d :: (G ++ (.int .i64 (sideI s) :: (natC x ++ (natC wv ++ [so.val]))))
section
variable {i : Nat} {sx : Bs} {d : Bool} {G : List Value} {s : Bool} {x wv : Nat} {so : Bs}
theorem pkC_0 : (pkC i sx d G s x wv so)[0]? = some (.int .i64 (i : Int)) := rfl
theorem pkC_1 : (pkC i sx d G s x wv so)[1]? = some sx.val := rfl
theorem pkC_2 : (pkC i sx d G s x wv so)[2]? = some (.bool d) := rfl
theorem pkC_3 : Seg (pkC i sx d G s x wv so) 3 G := seg_at (A := [_, _, _]) rfl rfl
theorem pkC_35 (h : G.length = 32) : (pkC i sx d G s x wv so)[35]? = some (.int .i64 (sideI s)) :=
  (seg_at (C := pkC i sx d G s x wv so) (A := .int .i64 (i : Int) :: sx.val :: .bool d :: G) (B := [.int .i64 (sideI s)]) (R := natC x ++ (natC wv ++ [so.val])) (k := 35) rfl (by simp [h])) 0 _ rfl
theorem pkC_36 (h : G.length = 32) : Seg (pkC i sx d G s x wv so) 36 (natC x) :=
  seg_at (A := .int .i64 (i : Int) :: sx.val :: .bool d :: (G ++ [.int .i64 (sideI s)])) (R := natC wv ++ [so.val]) (by unfold pkC; simp) (by simp [h])
theorem pkC_52 (h : G.length = 32) : Seg (pkC i sx d G s x wv so) 52 (natC wv) :=
  seg_at (A := .int .i64 (i : Int) :: sx.val :: .bool d :: (G ++ (.int .i64 (sideI s) :: natC x))) (R := [so.val]) (by unfold pkC; simp) (by simp [h, natC_len])
theorem pkC_68 (h : G.length = 32) : (pkC i sx d G s x wv so)[68]? = some so.val :=
  (seg_at (C := pkC i sx d G s x wv so) (A := .int .i64 (i : Int) :: sx.val :: .bool d :: (G ++ (.int .i64 (sideI s) :: (natC x ++ natC wv)))) (B := [so.val]) (R := []) (k := 68) (by unfold pkC; simp) (by simp [h, natC_len])) 0 _ rfl
end
attribute [local irreducible] Sy SyL SyX Sy.Fn callFunc natC
set_option maxRecDepth 10000
def selA : Bool → Nat
  | true => 39
  | false => 40
def ordF : Bool → Nat
  | true => 41
  | false => 42
def aggL (s : Bool) : List Value := [.string (str (pkName s)), .func (.func (selA s)) #[] #[], .func (.func (selA (!s))) #[] #[], .func (.func (ordF s)) #[] #[]]
theorem aggB_L (s : Bool) : aggB s = .agg (aggL s).toArray := by cases s <;> rfl
theorem selA_en (s : Bool) : ∀ args w, (callFunc (selA s) args).run Tryz.prog w = .ok (.enter (selA s) args) w := by
  cases s
  · exact en rfl
  · exact en rfl
theorem ordF_en (s : Bool) : ∀ args w, (callFunc (ordF s) args).run Tryz.prog w = .ok (.enter (ordF s) args) w := by
  cases s
  · exact en rfl
  · exact en rfl
theorem selA_fn (s : Bool) (f : Bool → Nat) (w : World) : Sy.Fn Tryz.prog (selA s) [natV (f true), natV (f false)] w No (Gives (natV (f s))) := by
  cases s
  · exact sel2_fn _ _ w
  · exact sel1_fn _ _ w
theorem ordF_fn (s : Bool) (so sp : Bs) (w : World) : Sy.Fn Tryz.prog (ordF s) [so.val, sp.val] w No (Gives (.tuple #[(if s then so else sp).val, (if s then sp else so).val])) := by
  cases s
  · exact ord2_fn _ _ _ _ _ _ w
  · exact ord1_fn _ _ _ _ _ _ w
section
variable {ro : Option Nat} {N : Nat} {w0 : World} {M : Nat → Prop} {ds : List Deferred} {g : Nat → Option Value} {L : List Res} {o : Oper} {m x : Operand}
theorem op_sideL {b : Nat} (s : Bool) (ho : o.op = .lookup 57 m x false := by exact rfl) (hm : ev g m = some (.map (some b)) := by exact rfl) (hx : ev g x = some (.int .i64 (sideI s)) := by exact rfl) (hL : Has L (mapR b pkMap 2) := by repeat (first | exact Has.here | apply Has.there)) :
    OpT Tryz.prog ro N w0 M ds o g L (Det (.agg (aggL s).toArray) L) := by
  rw [← aggB_L]
  exact op_side s ho hm hx hL
theorem op_sideOk {b : Nat} (s : Bool) (ho : o.op = .lookup 57 m x true := by exact rfl) (hm : ev g m = some (.map (some b)) := by exact rfl) (hx : ev g x = some (.int .i64 (sideI s)) := by exact rfl) (hL : Has L (mapR b pkMap 2) := by repeat (first | exact Has.here | apply Has.there)) :
    OpT Tryz.prog ro N w0 M ds o g L (Det (.tuple #[.agg (aggL s).toArray, .bool true]) L) := by
  rw [← aggB_L]
  exact op_lookupOk (k := 30) (e := 55) (d := .int .i64) (key := .int .i64 (sideI s)) rfl rfl rfl (side_find s) ho hm hx hL
theorem op_buildC {z : Operand} {i : Int} (ho : o.op = .build 61 #[(0, z)] := by exact rfl) (hz : ev g z = some (.int .i64 i) := by exact rfl) : OpT Tryz.prog ro N w0 M ds o g L (Det (.agg [.int .i64 i, .int .i64 0].toArray) L) :=
  op_buildP (parts := #[(0, z)]) (vs := [.int .i64 i]) (C := [.int .i64 i, .int .i64 0]) (.cons (cs := [.int .i64 i]) (off := 0) (n := 1) rfl rfl rfl (by decide) .nil) ho (by simp [evs, hz]) (ty rfl) rfl rfl (zc rfl)
end
end Go.Proofs.YtaeddmcoanefhaaGreatDoor
end
section
namespace Go.Proofs.YtaeddmcoanefhaaGreatDoor
open Go Go.Sy Go.Sh Go.Nt Go.RowKit
attribute [local irreducible] Sy SyL SyX Sy.Fn callFunc natC rowN gP gQ gL memB safeC fixB Sh.sum HashIs pkPt pkH firstN dblock hmac pkDer pkDig pkC selA ordF
set_option maxRecDepth 10000
abbrev XIs (b i : Nat) (sx : Bs) (d : Bool) (G : List Value) (s : Bool) (x wv : Nat) (so : Bs) (w : World) : Prop := (Res.blk b 46 (pkC i sx d G s x wv so)).holds w
section
variable {b i : Nat} {sx : Bs} {d : Bool} {G : List Value} {s : Bool} {x wv : Nat} {so : Bs} {w w' : World}
theorem XIs.c0 (h : XIs b i sx d G s x wv so w) : w.cell? ⟨b, 0, none⟩ = some (.int .i64 (i : Int)) := by rw [Sy.blk_cell h]; exact pkC_0
theorem XIs.c2 (h : XIs b i sx d G s x wv so w) : w.cell? ⟨b, 2, none⟩ = some (.bool d) := by rw [Sy.blk_cell h]; exact pkC_2
theorem XIs.c35 (h : XIs b i sx d G s x wv so w) (hG : G.length = 32) : w.cell? ⟨b, 35, none⟩ = some (.int .i64 (sideI s)) := by rw [Sy.blk_cell h]; exact pkC_35 hG
theorem XIs.c68 (h : XIs b i sx d G s x wv so w) (hG : G.length = 32) : w.cell? ⟨b, 68, none⟩ = some so.val := by rw [Sy.blk_cell h]; exact pkC_68 hG
theorem XIs.r3 (h : XIs b i sx d G s x wv so w) : w.rangeAt b 3 G := blk_range h pkC_3
theorem XIs.to (h : XIs b i sx d G s x wv so w) (hk : Keep No w w') : XIs b i sx d G s x wv so w' :=
  (hk.block b (Array.getElem?_eq_some_iff.1 h).1 (fun h => h)).trans h
end
theorem xfin_no (b i : Nat) (sx : Bs) (G : List Value) (s : Bool) (x wv y : Nat) (e : Int) (so sp : Bs) (w : World) (hG : G.length = 32) (hX : XIs b i sx false G s x wv so w) (hy : y < 18446744073709551616 ^ 16) (he : e ≠ 0 ∨ y = 1)
    (hel : ∀ w', Keep No w w' → Sy.Fn Tryz.prog 31 [.int .i64 (i : Int), sp.val] w' No (Gives (.tuple #[natV y, .int .i64 e]))) :
    Sy.Fn Tryz.prog 10 [.pointer (some ⟨b, 0, none⟩), sp.val] w No (Gives (.int .i64 6)) := by
  refine fn_enter Tryz.func10 rfl Tryz.ntmps10 (by simp) Holds.nil ?_
  have hch := fun w' (hk : Keep No w w') b9 h => chkO_fn b b9 s w' ((hX.to hk).c35 hG) ((hX.to hk).c2) h
  have h0 := hX.c0
  have ly := natC_len y
  have h1 := fun w' => pnum_fn 1 w' (by decide)
  by_cases h : e = 0
  · subst h
    obtain rfl : y = 1 := he.resolve_left (fun h => h rfl)
    repeat' (first | refine sy_seqC ?_ | refine syl_nil ?_ | refine sy_if_t rfl ?_ | refine sy_if_f rfl ?_ | refine sy_skip ?_ | refine sy_ret ?_ | refine syx_then ?_ | refine syx_go ?_ | refine syx_then_ret ?_ | (refine sy_region (id := 0) ?_; refine y_assign ?_) | (refine sy_region (id := 1) ?_; refine y_move ?_; refine y_makeFunc ?_; refine y_move ?_; refine y_makeFunc ?_; (refine ys op_buildSlice (k := ?_); rintro _ _ ⟨_, rfl, rfl⟩); refine yv (op_callV (f := 28) (hc := fun w' X hk hh => hch w' hk _ (blk_range (hh.has (Has.append Has.here)) Seg.all))) (k := ?_); refine y_assign ?_) | (refine sy_region (id := 2) ?_; refine y_move ?_; refine y_neq ?_) | (refine sy_region (id := 4) ?_; refine y_move ?_; refine y_nilCheck ?_; refine y_fieldAddr ?_; refine y_fieldAddr ?_; refine yv (op_load_old (hv := h0)) (k := ?_); refine y_move ?_; refine yv (op_callV (f := 31) (hc := fun w' X hk hh => hel w' hk)) (k := ?_); refine y_move ?_; refine y_extract ?_; refine y_extract ?_; (refine y_new ?_; intro _); refine yn (op_storeNat (n := 1)) (k := ?_); refine y_assign ?_) | (refine sy_draw (id := 5) 5 [[], [0], [0, 1], [0, 1, 2], [0, 1, 2], [0, 1, 2, 3, 4], [0, 1, 2, 3, 4, 5]] mixed ?_ ?_; kernel_rfl; refine d_move ?_; refine d_neq ?_; refine d_move ?_; refine dc (fun _ _ => op_loads (B := natC 1)) (k := ?_); refine dc (fun _ _ => op_callV (hc := fun _ _ _ _ => (h1 _))) (k := ?_); refine dh_0n ?_; refine yv (op_eqNat (a := 1) (b := 1) (r := true) natTy hy hy rfl) (k := ?_); refine y_pick ?_) | (refine sy_region (id := 6) ?_; refine y_assign ?_) | fail)
    exact ret1 rfl (resTmp rfl) SubR.nil ⟨rfl, rfl⟩
  · have g1 : decide (e ≠ (0 : Int)) = true := decide_eq_true h
    repeat' (first | refine sy_seqC ?_ | refine syl_nil ?_ | refine sy_if_t rfl ?_ | refine sy_if_f rfl ?_ | refine sy_skip ?_ | refine sy_ret ?_ | refine syx_then ?_ | refine syx_go ?_ | refine syx_then_ret ?_ | (refine sy_region (id := 0) ?_; refine y_assign ?_) | (refine sy_region (id := 1) ?_; refine y_move ?_; refine y_makeFunc ?_; refine y_move ?_; refine y_makeFunc ?_; (refine ys op_buildSlice (k := ?_); rintro _ _ ⟨_, rfl, rfl⟩); refine yv (op_callV (f := 28) (hc := fun w' X hk hh => hch w' hk _ (blk_range (hh.has (Has.append Has.here)) Seg.all))) (k := ?_); refine y_assign ?_) | (refine sy_region (id := 2) ?_; refine y_move ?_; refine y_neq ?_) | (refine sy_region (id := 4) ?_; refine y_move ?_; refine y_nilCheck ?_; refine y_fieldAddr ?_; refine y_fieldAddr ?_; refine yv (op_load_old (hv := h0)) (k := ?_); refine y_move ?_; refine yv (op_callV (f := 31) (hc := fun w' X hk hh => hel w' hk)) (k := ?_); refine y_move ?_; refine y_extract ?_; refine y_extract ?_; (refine y_new ?_; intro _); refine yn (op_storeNat (n := y)) (k := ?_); refine y_assign ?_) | (refine sy_draw (id := 5) 5 [[], [0], [0, 1], [0, 1, 2], [0, 1, 2], [0, 1, 2, 3, 4], [0, 1, 2, 3, 4, 5]] mixed ?_ ?_; kernel_rfl; refine d_move ?_; refine dc (fun _ _ => op_neq (hr := g1)) (k := ?_); refine d_move ?_; refine dh_skip (fun _ => rfl) rfl ?_; refine dh_skip (fun _ => rfl) rfl ?_; refine dh_0n ?_; refine syl_skip rfl rfl rfl ?_; refine y_pick ?_) | (refine sy_region (id := 6) ?_; refine y_assign ?_) | fail)
    exact ret1 rfl (resTmp rfl) SubR.nil ⟨rfl, rfl⟩
end Go.Proofs.YtaeddmcoanefhaaGreatDoor
end
