/- Layer pake, walked: the scalar of a secret. -/
import Derived.Test.YtaeddmcoanefhaaGreatDoorVJ38
set_option linter.all false
section
namespace Go.Proofs.YtaeddmcoanefhaaGreatDoor
open Go Go.Sy Go.Sh Go.Nt Go.RowKit
attribute [local irreducible] Sy SyL SyX Sy.Fn callFunc natC gP gQ gL Sh.sum HashIs firstN dblock hmac pkW
set_option maxRecDepth 10000
theorem row_capk {B0 : Nat} {w : World} {M : Nat → Prop} {E m c : Nat} {a : Option Addr} {xs : List Value} {L : List Res} (hh : Holds B0 M L w) (hL : Has L (.row (.slice a m c) E 1 m xs)) : m ≤ c := by
  have hrow : w.ownsRow 0 E 1 (.slice a m c) m xs := hh.all _ hL
  obtain ⟨h1, ⟨_, h2⟩ | ⟨b, c', cur, hv, _, _, h3, _⟩⟩ := hrow
  · omega
  · cases hv; omega
set_option maxHeartbeats 1000000 in
theorem csecret_fn (i b : Nat) (a : Option Addr) (n c : Nat) (s : List UInt8) (w : World) (h0 : 1 ≤ i) (h5 : i ≤ 4) (hT : Tab w No) (hG : GT w) (hC : CalcIs i b w) (hl : s.length = n) (hcap : n ≤ c) (hc2 : n ≤ 10000) (hb : SlA w a (s.map v8)) :
    Sy.Fn Tryz.prog 21 [.pointer (some ⟨b, 0, none⟩), .slice a n c] w No (Gives (natV (pkW i s))) := by
  refine fn_enter Tryz.func21 rfl Tryz.ntmps21 (by simp) Holds.nil ?_
  have hci := hC.cell
  have hui := u8w i (by omega)
  have hmm := fun w' (hk : Keep No w w') b9 b12 (r9 : SlA w' (some ⟨b9, 0, none⟩) (pkLabS.map v8)) (h12 : w'.rangeAt b12 0 [Value.slice a n c]) =>
    hm_fn (some ⟨b9, 0, none⟩) (some ⟨b12, 0, none⟩) 21 21 1 1 pkLabS [⟨a, n, c, s⟩] w' rfl (by decide) (Nat.le_refl _) r9 rfl (by decide) (.inr ⟨b12, 0, rfl, h12⟩) (part1 (s := ⟨a, n, c, s⟩) ⟨hl, hcap, ((SlF.of hb).to (Mi := No) hk (fun _ h => .inr h)).sla, hc2⟩) (hT.no hk)
  simp only [cat1] at hmm
  have hH : (hmac pkLabS s).length = 32 := hmac_len _ _
  have hW : pkW i s = bev 256 (bn (firstN (dblock (hmac pkLabS s) (pkLabW ++ [UInt8.ofNat i]) [] 32) 32)) % gQ i := by unfold pkW; rfl
  generalize hmac pkLabS s = H at *
  have hkd := fun w' (hk : Keep No w w') bH bL cL (s0 : SlA w' (some ⟨bH, 0, none⟩) (H.map v8)) (hcL : 7 ≤ cL) (s1 : SlA w' (some ⟨bL, 0, none⟩) ((pkLabW ++ [UInt8.ofNat i]).map v8)) =>
    kdf_fn (some ⟨bH, 0, none⟩) (some ⟨bL, 0, none⟩) none 32 32 7 cL 0 0 32 H (pkLabW ++ [UInt8.ofNat i]) [] w' ⟨hH, Nat.le_refl _, s0, fun h => by cases h⟩ ⟨rfl, hcL, s1, fun h => by cases h⟩ ⟨rfl, Nat.le_refl _, .inl rfl, fun _ => rfl⟩ (by decide) (by decide) (by decide) (by decide) (by decide) (hT.no hk)
  have hDl : (firstN (dblock H (pkLabW ++ [UInt8.ofNat i]) [] 32) 32).length = 32 := firstN_len _ (fun _ => by unfold dblock; exact hmac_len _ _) 32
  generalize firstN (dblock H (pkLabW ++ [UInt8.ofNat i]) [] 32) 32 = D at *
  have hsc := fun w' (hk : Keep No w w') aD cD (h1 : 32 ≤ cD) (h2 : SlA w' aD (D.map v8)) => gscalar_fn i aD 32 cD D w' h0 h5 (hG.to hk) hDl h1 (by decide) h2
  rw [← hW] at hsc
  generalize pkW i s = r at *
  have hn0 := fun w' (hk : Keep No w w') => note_fn i b 0 w' (hC.to hk)
  have lr := natC_len r
  have hnr := fun w' (hk : Keep No w w') => note_fn i b r w' (hC.to hk)
  repeat' (first | refine sy_seqC ?_ | refine syl_nil ?_ | refine syx_then ?_ | refine syx_go ?_ | (refine sy_region (id := 0) ?_; (refine y_new ?_; intro _)) | (refine sy_region (id := 1) ?_; (refine ys op_buildSlice (k := ?_); rintro _ _ ⟨_, rfl, rfl⟩); refine y_convert ?_; refine y_move ?_; (refine ys op_buildSlice (k := ?_); rintro _ _ ⟨_, rfl, rfl⟩)) | fail)
  rename_i b4 b9 b12
  refine yv (op_callV (f := 44) (hc := fun w' X hk hh => hmm w' hk b9 b12 ((Rd.of (Reads.obj (Has.there Has.here) Seg.all)) w' X hk hh) (blk_range (hh.has (Has.append Has.here)) Seg.all))) (k := ?_)
  repeat' (first | refine sy_seqC ?_ | refine syl_nil ?_ | refine syx_then ?_ | refine syx_go ?_ | (refine sy_region (id := 2) ?_; refine y_move ?_; refine yv op_zeroN (k := ?_); refine y_move ?_; refine yv (op_callV (f := 45) (hc := fun w' X hk hh => hn0 w' hk)) (k := ?_)) | (refine syl_id ?_; first | refine y_assign ?_ | refine y_extract ?_ | refine y_move ?_ | refine y_store ?_ | (refine y_new ?_; intro _) | fail) | fail)
  rename_i b5
  refine Sy.weaken (fr' := [(6, .int .i64 0), (5, .pointer (some ⟨b5, 0, none⟩)), (4, .pointer (some ⟨b4, 0, none⟩)), (0, .pointer (some ⟨b, 0, none⟩))]) (L' := [.blk b5 37 (H.map v8), .blk b4 44 (List.replicate 16 (.int .u64 0))]) ?_ (by exact Sub.go) (by exact SubR.go)
  refine sy_drawA (id := 3) mixed ?_
  (refine sye_part 15 15 [[], [], [1], [], [3], [3, 4], [3, 4, 5], [3, 4, 5, 6], [3, 4, 5, 6, 7], [1, 2, 3, 4, 5, 6, 7, 8], [0, 1, 2, 3, 4, 5, 6, 7, 8, 9], [0, 1, 2, 3, 4, 5, 6, 7, 8, 9, 10], [0, 1, 2, 3, 4, 5, 6, 7, 8, 9, 10, 11], [0, 1, 2, 3, 4, 5, 6, 7, 8, 9, 10, 11], [0, 1, 2, 3, 4, 5, 6, 7, 8, 9, 10, 11, 12], [0, 1, 2, 3, 4, 5, 6, 7, 8, 9, 10, 11, 12, 13, 14]] [[], [], [1], [], [], [], [], [], [], [], [], [], [], [], [], []] none rfl ?_ ?_ ?_; kernel_rfl; kernel_rfl; refine e_slice ?_; try refine dh_0nE (h := ?_))
  refine dh_rE (R := fun _ => LitOf 5 (pkLabW.map v8)) (fun _ _ _ => rfl) (fun ρ hρ => OpT.mono op_buildSlice fun v L' h => ?_) (h := ?_)
  · obtain ⟨b, rfl, rfl⟩ := h
    exact ⟨[_], rfl, b, rfl, rfl⟩
  refine dh_rE (R := fun _ v Nw => ∃ b, v = .slice (some ⟨b, 0, none⟩) 6 6 ∧ Nw = [.obj b (.cells (pkLabW.map v8).toArray 5 (6, 7))]) (fun _ _ _ => rfl) (fun ρ hρ => ?_) (h := ?_)
  · obtain ⟨⟨b1, e1, f1⟩, -⟩ := hρ
    refine OpT.mono (op_convSame (b := b1) (C := pkLabW.map v8) (hx := by show some (ρ 1).1 = _; rw [e1]) (hL := by show Upd ((ρ 1).2 ++ _) _ _ _; rw [f1]; exact Upd.here)) fun v L' h => ?_
    obtain ⟨rfl, rfl⟩ := h
    exact ⟨[_], rfl, b1, rfl, rfl⟩
  (skip; refine e_move ?_; refine e_nilCheck ?_; refine e_fieldAddr ?_; refine dcE (fun _ _ => op_load_old (hv := hci)) (k := ?_); refine dcE (fun _ _ => op_conv (hr := hui)) (k := ?_); try refine dh_0nE (h := ?_))
  refine dh_rE (R := fun _ => LitOf 5 [v8 (UInt8.ofNat i)]) (fun _ _ _ => rfl) (fun ρ hρ => OpT.mono op_buildSlice fun v L' h => ?_) (h := ?_)
  · obtain ⟨b, rfl, rfl⟩ := h
    exact ⟨[_], rfl, b, rfl, rfl⟩
  refine dh_rE (R := fun _ v Nw => ∃ b J, v = .slice (some ⟨b, 0, none⟩) 7 (7 + J.length) ∧ Nw = [.blk b 5 ((pkLabW ++ [UInt8.ofNat i]).map v8 ++ J)]) (fun _ _ _ => rfl) (fun ρ hρ => ?_) (h := ?_)
  · obtain ⟨⟨b8, e8, f8⟩, ⟨b2, e2, f2⟩, -⟩ := hρ
    refine OpT.mono (op_appendG (k := 6) (cs := 6) (m := 1) (cx := 1) (xs := pkLabW.map v8) (news := [v8 (UInt8.ofNat i)]) (hs := by show some (ρ 2).1 = _; rw [e2]) (hx := by show some (ρ 8).1 = _; rw [e8]; rfl)
      (hrs := by
        show Rd _ _ ((ρ 8).2 ++ ((ρ 2).2 ++ _)) _ _
        rw [f8, f2]
        exact Rd.of (Reads.obj (Has.there Has.here) Seg.all))
      (hrx := by
        show Rd _ _ ((ρ 8).2 ++ ((ρ 2).2 ++ _)) _ _
        rw [f8, f2]
        exact Rd.of (Reads.blk Has.here Seg.all)) (hk := rfl) (hm := rfl) (hkp := by decide) (hmp := by decide) (hg := by decide) (b1' := by decide)) fun v L' h => ?_
    obtain ⟨b9, J, rfl, rfl⟩ := h
    exact ⟨[_], rfl, b9, J, rfl, by rw [List.map_append]; rfl⟩
  refine dh_rE (R := fun _ v Nw => ∃ a c, v = .tuple #[.slice a 32 c, .int .i64 0] ∧ Nw = [.row (.slice a 32 c) 5 1 32 (D.map v8)]) (fun _ _ _ => rfl) (fun ρ hρ => ?_) (h := ?_)
  · obtain ⟨⟨b9, J, e9, f9⟩, ⟨b8, e8, f8⟩, ⟨b2, e2, f2⟩, -⟩ := hρ
    refine op_call0 (f := 46) (vs := [.slice (some ⟨b5, 0, none⟩) 32 32, .slice (some ⟨b9, 0, none⟩) 7 (7 + J.length), .slice none 0 0, .int .i64 ((32 : Nat) : Int)]) (ha := by show (some [_, (ρ 9).1, _, _] : Option (List Value)) = _; rw [e9]; rfl) (hc := fun w' X hk hh => ?_)
    · have h2 : Holds w.heap.size No ((ρ 9).2 ++ ((ρ 8).2 ++ ((ρ 2).2 ++ [.blk b5 37 (H.map v8), .blk b4 44 (List.replicate 16 (.int .u64 0))])) ++ X) w' := hh
      rw [f9, f8, f2] at h2
      exact hkd w' hk b5 b9 (7 + J.length) ((Rd.of (Reads.blk (Has.there (Has.there (Has.there Has.here))) Seg.all)) w' X hk h2) (by omega) ((Rd.of (Reads.blk Has.here segH)) w' X hk h2)
  (skip; try refine dh_0nE (h := ?_))
  refine dh_vE (u := fun ρ => (ρ 10).1) (fun ρ hρ => op_move) (fun _ => rfl) rfl (fun ρ ρ' h => by rw [h 10 (by decide)]) (h := ?_)
  refine dh_vE (u := fun ρ => tup (ρ 10).1 0) (fun ρ hρ => ?_) (fun _ => rfl) rfl (fun ρ ρ' h => by rw [h 10 (by decide)]) (h := ?_)
  · obtain ⟨⟨a, c, e1, e2⟩, -⟩ := hρ
    refine OpT.mono (op_extract (vs := #[.slice a 32 c, .int .i64 0]) (hx := by show some (ρ 10).1 = _; rw [e1])) fun v L' h => ?_
    obtain ⟨rfl, rfl⟩ := h
    exact ⟨by rw [e1]; rfl, rfl⟩
  refine dcE (u := .int .i64 0) (fun ρ hρ => ?_) (k := ?_)
  · obtain ⟨⟨a, c, e1, e2⟩, -⟩ := hρ
    exact op_extract (vs := #[.slice a 32 c, .int .i64 0]) (hx := by show some (ρ 10).1 = _; rw [e1])
  refine dh_vE (u := fun ρ => tup (ρ 10).1 0) (fun ρ hρ => op_assign) (fun _ => rfl) rfl (fun ρ ρ' h => by rw [h 10 (by decide)]) (h := ?_)
  refine dh_0E (h := ?_)
  rintro ρ ⟨⟨aF, cF, e1, e2⟩, ⟨b9', J, -, f9⟩, ⟨b8, -, f8⟩, ⟨b2, -, f2⟩, -⟩
  (refine sya_list [[], [], [1], [], [3], [3, 4], [3, 4, 5], [3, 4, 5, 6], [3, 4, 5, 6, 7], [1, 2, 3, 4, 5, 6, 7, 8], [0, 1, 2, 3, 4, 5, 6, 7, 8, 9], [0, 1, 2, 3, 4, 5, 6, 7, 8, 9, 10], [0, 1, 2, 3, 4, 5, 6, 7, 8, 9, 10, 11], [0, 1, 2, 3, 4, 5, 6, 7, 8, 9, 10, 11], [0, 1, 2, 3, 4, 5, 6, 7, 8, 9, 10, 11, 12], [0, 1, 2, 3, 4, 5, 6, 7, 8, 9, 10, 11, 12, 13, 14]] ?_ ?_; kernel_rfl)
  have e3 : tup (ρ 10).1 0 = .slice aF 32 cF := by rw [e1]; rfl
  refine SyL.weaken (fr' := [(33, .int .i64 0), (7, .slice aF 32 cF), (4, .pointer (some ⟨b4, 0, none⟩)), (0, .pointer (some ⟨b, 0, none⟩))]) (L' := [.row (.slice aF 32 cF) 5 1 32 (D.map v8), .blk b4 44 (List.replicate 16 (.int .u64 0))]) ?_ (by simp only [e3]; exact Sub.go) ?_
  rotate_left
  · show SubR _ ((ρ 10).2 ++ ((ρ 9).2 ++ ((ρ 8).2 ++ ((ρ 2).2 ++ _))))
    rw [e2, f9, f8, f2]
    exact SubR.go2
  repeat' (first | refine sy_seqC ?_ | refine syl_nil ?_ | refine sy_ret ?_ | refine syx_then ?_ | refine syx_go ?_ | (refine sy_region (id := 4) ?_; refine y_move ?_; refine yv op_zeroN (k := ?_); refine y_move ?_; refine yv (op_callV (f := 45) (hc := fun w' X hk hh => hn0 w' hk)) (k := ?_)) | (refine sy_region (id := 5) ?_; refine y_move ?_; refine y_move ?_; refine y_nilCheck ?_; refine y_fieldAddr ?_; refine yv (op_load_old (hv := hci)) (k := ?_); refine y_move ?_; refine yv (op_callV (f := 47) (hc := fun w' X hk hh => hsc w' hk aF cF (row_capk hh (by exact Has.append Has.go)) (row_sla hh (by exact Has.append Has.go)))) (k := ?_); refine y_extract ?_; refine y_extract ?_; refine yv (op_callV (f := 45) (hc := fun w' X hk hh => hnr w' hk)) (k := ?_); refine yn (op_storeNat (n := r)) (k := ?_)) | (refine syl_id ?_; first | refine y_assign ?_ | fail) | fail)
  exact ret1 rfl (resCells (B := natC r) rfl (ty rfl) rfl Has.go Seg.all (natC_len _).symm) (by exact SubR.go2) ⟨rfl, rfl⟩
end Go.Proofs.YtaeddmcoanefhaaGreatDoor
end
section
namespace Go.Proofs.YtaeddmcoanefhaaGreatDoor
open Go Go.Sy Go.Sh Go.Nt Go.RowKit
attribute [local irreducible] Sy SyL SyX Sy.Fn callFunc natC Sh.sum HashIs firstN dblock hmac pkDer
set_option maxRecDepth 10000
def sideI : Bool → Int
  | true => 1
  | false => 2
def aggB : Bool → Value
  | true => aggC
  | false => aggS
def pkMap : List MapEntry := [⟨.int .i64 1, aggC, 0⟩, ⟨.int .i64 2, aggS, 1⟩]
theorem side_find (s : Bool) : Instr.findNow (.int .i64) (.int .i64 (sideI s)) pkMap 0 = some (some (if s then 0 else 1, aggB s)) := by cases s <;> rfl
theorem side_ne (s : Bool) : sideI s ≠ 0 := by cases s <;> decide
section
variable {ro : Option Nat} {N : Nat} {w0 : World} {M : Nat → Prop} {ds : List Deferred} {g : Nat → Option Value} {L : List Res} {o : Oper} {m x : Operand}
theorem op_side {b : Nat} (s : Bool) (ho : o.op = .lookup 57 m x false := by exact rfl) (hm : ev g m = some (.map (some b)) := by exact rfl) (hx : ev g x = some (.int .i64 (sideI s)) := by exact rfl) (hL : Has L (mapR b pkMap 2) := by repeat (first | exact Has.here | apply Has.there)) :
    OpT Tryz.prog ro N w0 M ds o g L (Det (aggB s) L) :=
  op_lookup (k := 30) (e := 55) (d := .int .i64) (key := .int .i64 (sideI s)) rfl rfl rfl (side_find s) ho hm hx hL
theorem op_label (s : Bool) (ho : o.op = .field 55 x 0 := by exact rfl) (hx : ev g x = some (aggB s) := by exact rfl) : OpT Tryz.prog ro N w0 M ds o g L (Det (.string (str (pkName s))) L) :=
  OpT.still (by rw [ho]; rfl) fun a w X hs => by
    have h : (Instr.field 55 (aggB s) 0).run Tryz.prog w = .ok (.string (str (pkName s))) w := by cases s <;> rfl
    simp [execOp, ho, hs.agr.eval hx, h]
end
theorem chkC_fn (b b9 : Nat) (s : Bool) (w : World) (hc : w.cell? ⟨b, 35, none⟩ = some (.int .i64 (sideI s))) (hd : w.cell? ⟨b, 2, none⟩ = some (.bool true)) (h : w.rangeAt b9 0 [Value.func (.func 29) #[.pointer (some ⟨b, 0, none⟩)] #[], .func (.func 36) #[.pointer (some ⟨b, 0, none⟩)] #[]]) :
    Sy.Fn Tryz.prog 28 [.slice (some ⟨b9, 0, none⟩) 2 2] w No (Gives (.int .i64 0)) :=
  pcheck_fn b b9 2 2 [29, 36] w rfl (by decide) (fun f hf => by
      simp only [List.mem_cons, List.not_mem_nil, or_false] at hf
      rcases hf with rfl | rfl
      · exact en rfl
      · exact en rfl) (fun f hf w'' hk2 => by
      simp only [List.mem_cons, List.not_mem_nil, or_false] at hf
      rcases hf with rfl | rfl
      · exact exists_fn b (sideI s) w'' (side_ne s) (cell_to hc hk2)
      · exact complete_fn b w'' (cell_to hd hk2)) h
theorem chkO_fn (b b9 : Nat) (s : Bool) (w : World) (hc : w.cell? ⟨b, 35, none⟩ = some (.int .i64 (sideI s))) (hd : w.cell? ⟨b, 2, none⟩ = some (.bool false)) (h : w.rangeAt b9 0 [Value.func (.func 29) #[.pointer (some ⟨b, 0, none⟩)] #[], .func (.func 30) #[.pointer (some ⟨b, 0, none⟩)] #[]]) :
    Sy.Fn Tryz.prog 28 [.slice (some ⟨b9, 0, none⟩) 2 2] w No (Gives (.int .i64 0)) :=
  pcheck_fn b b9 2 2 [29, 30] w rfl (by decide) (fun f hf => by
      simp only [List.mem_cons, List.not_mem_nil, or_false] at hf
      rcases hf with rfl | rfl
      · exact en rfl
      · exact en rfl) (fun f hf w'' hk2 => by
      simp only [List.mem_cons, List.not_mem_nil, or_false] at hf
      rcases hf with rfl | rfl
      · exact exists_fn b (sideI s) w'' (side_ne s) (cell_to hc hk2)
      · exact open_fn b w'' (cell_to hd hk2)) h
theorem pkName_len (s : Bool) : (pkName s).length ≤ 4096 := by cases s <;> decide
set_option maxHeartbeats 1000000 in
theorem xconfirm_fn (b : Nat) (s : Bool) (dig : List UInt8) (w : World) (hc : w.cell? ⟨b, 35, none⟩ = some (.int .i64 (sideI s))) (hd : w.cell? ⟨b, 2, none⟩ = some (.bool true)) (hg : w.rangeAt b 3 (dig.map v8)) (hl : dig.length = 32) (hT : Tab w No) :
    Sy.Fn Tryz.prog 13 [.pointer (some ⟨b, 0, none⟩)] w No (fun v R => ∃ a k, v = .tuple #[.slice a 32 k, .int .i64 0] ∧ R = [.row (.slice a 32 k) 5 1 32 ((pkDer dig (pkName s)).map v8)]) := by
  refine fn_enter Tryz.func13 rfl Tryz.ntmps13 (by simp) Holds.nil ?_
  have hch := fun w' (hk : Keep No w w') b9 h => chkC_fn b b9 s w' (cell_to hc hk) (cell_to hd hk) h
  have hde := fun w' (hk : Keep No w w') => derived_fn b dig (pkName s) w' (range_keep hg hk (fun h => h)) hl (pkName_len s) (hT.no hk)
  generalize pkDer dig (pkName s) = D at *
  repeat' (first | refine sy_seqC ?_ | refine syl_nil ?_ | refine sy_if_f rfl ?_ | refine sy_skip ?_ | refine syx_then ?_ | refine syx_go ?_ | (refine sy_region (id := 0) ?_; refine y_assign ?_; refine y_assign ?_) | (refine sy_region (id := 1) ?_; refine y_move ?_; refine y_makeFunc ?_; refine y_move ?_; refine y_makeFunc ?_; (refine ys op_buildSlice (k := ?_); rintro _ _ ⟨_, rfl, rfl⟩); refine yv (op_callV (f := 28) (hc := fun w' X hk hh => hch w' hk _ (blk_range (hh.has (Has.append Has.here)) Seg.all))) (k := ?_); refine y_assign ?_) | (refine sy_region (id := 2) ?_; refine y_move ?_; refine y_neq ?_) | fail)
  refine Sy.weaken (fr' := [(0, .pointer (some ⟨b, 0, none⟩))]) (L' := []) ?_ (by exact Sub.go) (by exact SubR.go)
  refine sy_drawA (id := 4) mixed ?_
  (refine sye_part 14 14 [[], [0], [0, 1], [], [], [4], [4, 5], [4, 5, 6], [3, 4, 5, 6, 7], [3, 4, 5, 6, 7, 8], [0, 1, 2, 3, 4, 5, 6, 7, 8, 9], [0, 1, 2, 3, 4, 5, 6, 7, 8, 9, 10], [0, 1, 2, 3, 4, 5, 6, 7, 8, 9, 10], [0, 1, 2, 3, 4, 5, 6, 7, 8, 9, 10, 11, 12], [0, 1, 2, 3, 4, 5, 6, 7, 8, 9, 10, 11, 12, 13]] [[], [], [], [], [], [], [], [], [], [], [], [], [], [], []] none rfl ?_ ?_ ?_; kernel_rfl; kernel_rfl; refine e_move ?_; refine e_nilCheck ?_; refine e_fieldAddr ?_; try refine dh_0nE (h := ?_))
  refine dh_rE (R := fun _ v Nw => ∃ b, v = .map (some b) ∧ Nw = [mapR b pkMap 2]) (fun _ _ _ => rfl) (fun ρ hρ => op_call0 (f := 18) (hc := fun w' X hk hh => sides_fn w')) (h := ?_)
  (skip; refine e_move ?_; refine e_nilCheck ?_; refine e_fieldAddr ?_; refine dcE (fun _ _ => op_load_old (hv := hc)) (k := ?_); try refine dh_0nE (h := ?_))
  refine dcE (u := aggB s) (fun ρ hρ => ?_) (k := ?_)
  · obtain ⟨⟨bm, e1, e2⟩, -⟩ := hρ
    exact op_side (b := bm) s (hm := by show some (ρ 3).1 = _; rw [e1]) (hL := by show Has ((ρ 3).2 ++ _) _; rw [e2]; exact Has.here)
  refine dcE (u := .string (str (pkName s))) (fun ρ hρ => op_label s) (k := ?_)
  refine dh_rE (R := fun _ v Nw => ∃ a c, v = .tuple #[.slice a 32 c, .int .i64 0] ∧ Nw = [.row (.slice a 32 c) 5 1 32 (D.map v8)]) (fun _ _ _ => rfl) (fun ρ hρ => op_call0 (f := 37) (hc := fun w' X hk hh => hde w' hk)) (h := ?_)
  refine dh_vE (u := fun ρ => tup (ρ 10).1 0) (fun ρ hρ => ?_) (fun _ => rfl) rfl (fun ρ ρ' h => by rw [h 10 (by decide)]) (h := ?_)
  · obtain ⟨⟨a, c, e1, e2⟩, -⟩ := hρ
    refine OpT.mono (op_extract (vs := #[.slice a 32 c, .int .i64 0]) (hx := by show some (ρ 10).1 = _; rw [e1])) fun v L' h => ?_
    obtain ⟨rfl, rfl⟩ := h
    exact ⟨by rw [e1]; rfl, rfl⟩
  refine dcE (u := .int .i64 0) (fun ρ hρ => ?_) (k := ?_)
  · obtain ⟨⟨a, c, e1, e2⟩, -⟩ := hρ
    exact op_extract (vs := #[.slice a 32 c, .int .i64 0]) (hx := by show some (ρ 10).1 = _; rw [e1])
  refine dh_vE (u := fun ρ => tup (ρ 10).1 0) (fun ρ hρ => op_assign) (fun _ => rfl) rfl (fun ρ ρ' h => by rw [h 10 (by decide)]) (h := ?_)
  refine dh_0E (h := ?_)
  rintro ρ ⟨⟨aF, cF, e1, e2⟩, ⟨bm, -, f3⟩, -⟩
  (refine sya_list [[], [0], [0, 1], [], [], [4], [4, 5], [4, 5, 6], [3, 4, 5, 6, 7], [3, 4, 5, 6, 7, 8], [0, 1, 2, 3, 4, 5, 6, 7, 8, 9], [0, 1, 2, 3, 4, 5, 6, 7, 8, 9, 10], [0, 1, 2, 3, 4, 5, 6, 7, 8, 9, 10], [0, 1, 2, 3, 4, 5, 6, 7, 8, 9, 10, 11, 12], [0, 1, 2, 3, 4, 5, 6, 7, 8, 9, 10, 11, 12, 13]] ?_ ?_; kernel_rfl)
  have e3 : tup (ρ 10).1 0 = .slice aF 32 cF := by rw [e1]; rfl
  refine SyL.weaken (fr' := [(26, .int .i64 0), (2, .slice aF 32 cF)]) (L' := [.row (.slice aF 32 cF) 5 1 32 (D.map v8)]) ?_ (by simp only [e3]; exact Sub.go) ?_
  rotate_left
  · show SubR _ ((ρ 10).2 ++ ((ρ 3).2 ++ _))
    rw [e2, f3]
    exact SubR.go2
  repeat' (first | refine syl_nil ?_ | refine sy_ret ?_ | refine syx_then ?_ | refine syx_go ?_ | (refine syl_id ?_; first | refine y_assign ?_ | fail) | fail)
  exact ret2 rfl (resTmp rfl) (resTmp rfl) (by exact SubR.go2) ⟨_, _, rfl, rfl⟩
end Go.Proofs.YtaeddmcoanefhaaGreatDoor
end
section
namespace Go.Proofs.YtaeddmcoanefhaaGreatDoor
open Go Go.Sy Go.Sh Go.Nt Go.RowKit
attribute [local irreducible] Sy SyL SyX Sy.Fn callFunc natC Sh.sum HashIs firstN dblock hmac pkDer
set_option maxRecDepth 10000
set_option maxHeartbeats 1000000 in
theorem xverify_fn (b : Nat) (s : Bool) (dig : List UInt8) (ak : Option Addr) (m c : Nat) (kb : List UInt8) (w : World) (hc : w.cell? ⟨b, 35, none⟩ = some (.int .i64 (sideI s))) (hd : w.cell? ⟨b, 2, none⟩ = some (.bool true)) (hg : w.rangeAt b 3 (dig.map v8)) (hl : dig.length = 32) (hT : Tab w No)
    (hm : kb.length = m) (hmb : m < 1000000) (hsk : SlA w ak (kb.map v8)) :
    Sy.Fn Tryz.prog 14 [.pointer (some ⟨b, 0, none⟩), .slice ak m c] w No (Gives (.int .i64 (if pkDer dig (pkName (!s)) = kb then 0 else 10))) := by
  refine fn_enter Tryz.func14 rfl Tryz.ntmps14 (by simp) Holds.nil ?_
  have hch := fun w' (hk : Keep No w w') b9 h => chkC_fn b b9 s w' (cell_to hc hk) (cell_to hd hk) h
  have hde := fun w' (hk : Keep No w w') => derived_fn b dig (pkName (!s)) w' (range_keep hg hk (fun h => h)) hl (pkName_len (!s)) (hT.no hk)
  have hDl : (pkDer dig (pkName (!s))).length = 32 := by unfold pkDer; exact firstN_len _ (fun _ => by unfold dblock; exact hmac_len _ _) 32
  generalize pkDer dig (pkName (!s)) = D at *
  have heq := fun w' (hk : Keep No w w') aD cD (h2 : SlA w' aD (D.map v8)) => equal_fn aD ak 32 cD m c D kb w' hDl (by decide) h2 hm (by omega) ((SlF.of hsk).to (Mi := No) hk (fun _ h => .inr h)).sla
  have g1 : decide (sideI s = (1 : Int)) = s := by cases s <;> rfl
  repeat' (first | refine sy_seqC ?_ | refine syl_nil ?_ | refine sy_if_f rfl ?_ | refine sy_skip ?_ | refine syx_then ?_ | refine syx_go ?_ | (refine sy_region (id := 0) ?_; refine y_assign ?_) | (refine sy_region (id := 1) ?_; refine y_move ?_; refine y_makeFunc ?_; refine y_move ?_; refine y_makeFunc ?_; (refine ys op_buildSlice (k := ?_); rintro _ _ ⟨_, rfl, rfl⟩); refine yv (op_callV (f := 28) (hc := fun w' X hk hh => hch w' hk _ (blk_range (hh.has (Has.append Has.here)) Seg.all))) (k := ?_); refine y_assign ?_) | (refine sy_region (id := 2) ?_; refine y_move ?_; refine y_neq ?_) | (refine sy_region (id := 4) ?_; refine y_assign ?_) | fail)
  refine Sy.weaken (fr' := [(6, .int .i64 1), (1, .slice ak m c), (0, .pointer (some ⟨b, 0, none⟩))]) (L' := []) ?_ (by exact Sub.go) (by exact SubR.go)
  repeat' (first | refine syl_nil ?_ | refine syx_then ?_ | refine syx_go ?_ | (refine sy_region (id := 5) ?_; refine y_move ?_; refine y_nilCheck ?_; refine y_fieldAddr ?_; refine yv (op_load_old (hv := hc)) (k := ?_); refine yv (op_eql (hr := g1)) (k := ?_)) | fail)
  refine sy_cut (γ := Unit) (fun _ => [(6, .int .i64 (sideI (!s))), (1, .slice ak m c), (0, .pointer (some ⟨b, 0, none⟩))]) (fun _ => []) (fun _ => True) ?_ ?_
  · clear hch hde heq
    cases s
    · repeat' (first | refine sy_if_f rfl ?_ | refine sy_skip ?_ | refine syx_then ?_ | fail)
      exact syx_cut () trivial (by exact Sub.go) SubR.nil
    · repeat' (first | refine syl_nil ?_ | refine sy_if_t rfl ?_ | refine syx_then ?_ | (refine sy_region (id := 6) ?_; refine y_assign ?_) | fail)
      exact syx_cut () trivial (by exact Sub.go) SubR.nil
  rintro ⟨⟩ -
  refine sy_seqC ?_
  refine sy_drawA (id := 7) mixed ?_
  (refine sye_part 12 12 [[], [0], [0, 1], [], [], [3, 4], [3, 4, 5], [0, 1, 2, 3, 4, 5, 6], [0, 1, 2, 3, 4, 5, 6, 7], [0, 1, 2, 3, 4, 5, 6, 7, 8], [0, 1, 2, 3, 4, 5, 6, 7, 8], [0, 1, 2, 3, 4, 5, 6, 7, 8, 9], [0, 1, 2, 3, 4, 5, 6, 7, 8, 9, 10, 11]] [[], [], [], [], [], [], [], [], [], [], [], [], []] none rfl ?_ ?_ ?_; kernel_rfl; kernel_rfl; refine e_move ?_; refine e_nilCheck ?_; refine e_fieldAddr ?_; try refine dh_0nE (h := ?_))
  refine dh_rE (R := fun _ v Nw => ∃ b, v = .map (some b) ∧ Nw = [mapR b pkMap 2]) (fun _ _ _ => rfl) (fun ρ hρ => op_call0 (f := 18) (hc := fun w' X hk hh => sides_fn w')) (h := ?_)
  (skip; refine e_move ?_; try refine dh_0nE (h := ?_))
  refine dcE (u := aggB (!s)) (fun ρ hρ => ?_) (k := ?_)
  · obtain ⟨⟨bm, e1, e2⟩, -⟩ := hρ
    exact op_side (b := bm) (!s) (hm := by show some (ρ 3).1 = _; rw [e1]) (hL := by show Has ((ρ 3).2 ++ _) _; rw [e2]; exact Has.here)
  refine dcE (u := .string (str (pkName (!s)))) (fun ρ hρ => op_label (!s)) (k := ?_)
  refine dh_rE (R := fun _ v Nw => ∃ a c, v = .tuple #[.slice a 32 c, .int .i64 0] ∧ Nw = [.row (.slice a 32 c) 5 1 32 (D.map v8)]) (fun _ _ _ => rfl) (fun ρ hρ => op_call0 (f := 37) (hc := fun w' X hk hh => hde w' hk)) (h := ?_)
  refine dh_vE (u := fun ρ => (ρ 7).1) (fun ρ hρ => op_move) (fun _ => rfl) rfl (fun ρ ρ' h => by rw [h 7 (by decide)]) (h := ?_)
  refine dh_vE (u := fun ρ => tup (ρ 7).1 0) (fun ρ hρ => ?_) (fun _ => rfl) rfl (fun ρ ρ' h => by rw [h 7 (by decide)]) (h := ?_)
  · obtain ⟨⟨a, c, e1, e2⟩, -⟩ := hρ
    refine OpT.mono (op_extract (vs := #[.slice a 32 c, .int .i64 0]) (hx := by show some (ρ 7).1 = _; rw [e1])) fun v L' h => ?_
    obtain ⟨rfl, rfl⟩ := h
    exact ⟨by rw [e1]; rfl, rfl⟩
  refine dcE (u := .int .i64 0) (fun ρ hρ => ?_) (k := ?_)
  · obtain ⟨⟨a, c, e1, e2⟩, -⟩ := hρ
    exact op_extract (vs := #[.slice a 32 c, .int .i64 0]) (hx := by show some (ρ 7).1 = _; rw [e1])
  refine dh_vE (u := fun ρ => tup (ρ 7).1 0) (fun ρ hρ => op_assign) (fun _ => rfl) rfl (fun ρ ρ' h => by rw [h 7 (by decide)]) (h := ?_)
  refine dh_0E (h := ?_)
  rintro ρ ⟨⟨aF, cF, e1, e2⟩, ⟨bm, -, f3⟩, -⟩
  (refine sya_list [[], [0], [0, 1], [], [], [3, 4], [3, 4, 5], [0, 1, 2, 3, 4, 5, 6], [0, 1, 2, 3, 4, 5, 6, 7], [0, 1, 2, 3, 4, 5, 6, 7, 8], [0, 1, 2, 3, 4, 5, 6, 7, 8], [0, 1, 2, 3, 4, 5, 6, 7, 8, 9], [0, 1, 2, 3, 4, 5, 6, 7, 8, 9, 10, 11]] ?_ ?_; kernel_rfl)
  have e3 : tup (ρ 7).1 0 = .slice aF 32 cF := by rw [e1]; rfl
  refine SyL.weaken (fr' := [(33, .int .i64 0), (7, .slice aF 32 cF), (1, .slice ak m c)]) (L' := [.row (.slice aF 32 cF) 5 1 32 (D.map v8)]) ?_ (by simp only [e3]; exact Sub.go) ?_
  rotate_left
  · show SubR _ ((ρ 7).2 ++ ((ρ 3).2 ++ _))
    rw [e2, f3]
    exact SubR.go2
  by_cases hq : D = kb
  · rw [if_pos hq]
    simp only [hq, decide_true] at heq
    rw [hq]
    repeat' (first | refine sy_seqC ?_ | refine syl_nil ?_ | refine sy_if_f rfl ?_ | refine sy_skip ?_ | refine sy_ret ?_ | refine syx_then ?_ | refine syx_go ?_ | (refine sy_region (id := 8) ?_; refine y_move ?_; refine y_neq ?_) | (refine sy_region (id := 10) ?_; refine y_move ?_; refine y_move ?_; refine yv (op_callV (f := 38) (hc := fun w' X hk hh => heq w' hk aF cF (row_sla hh (by exact Has.append Has.go)))) (k := ?_); refine y_unOp ?_) | (refine sy_region (id := 12) ?_; refine y_assign ?_) | (refine syl_id ?_; first | refine y_assign ?_ | fail) | fail)
    exact ret1 rfl (resTmp rfl) (by exact SubR.go2) ⟨rfl, rfl⟩
  · rw [if_neg hq]
    simp only [hq, decide_false] at heq
    repeat' (first | refine sy_seqC ?_ | refine syl_nil ?_ | refine sy_if_t rfl ?_ | refine sy_if_f rfl ?_ | refine sy_skip ?_ | refine sy_ret ?_ | refine syx_then ?_ | refine syx_go ?_ | refine syx_then_ret ?_ | (refine sy_region (id := 8) ?_; refine y_move ?_; refine y_neq ?_) | (refine sy_region (id := 10) ?_; refine y_move ?_; refine y_move ?_; refine yv (op_callV (f := 38) (hc := fun w' X hk hh => heq w' hk aF cF (row_sla hh (by exact Has.append Has.go)))) (k := ?_); refine y_unOp ?_) | (refine sy_region (id := 11) ?_; refine y_assign ?_) | (refine syl_id ?_; first | refine y_assign ?_ | fail) | fail)
    exact ret1 rfl (resTmp rfl) (by exact SubR.go2) ⟨rfl, rfl⟩
end Go.Proofs.YtaeddmcoanefhaaGreatDoor
end
