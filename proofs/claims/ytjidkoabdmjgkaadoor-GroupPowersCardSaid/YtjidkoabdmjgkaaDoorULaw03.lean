/- The statements about layer group: numbers made both ways, results, errors. -/
import Derived.Test.YtjidkoabdmjgkaaDoorURef03
import Derived.Test.YtjidkoabdmjgkaaDoorUGrp4
set_option linter.all false
namespace Go.Nt
open Go Go.Sy
theorem bevW {l : List UInt8} (h : l.length ≤ 128) : bev 256 (bn l) < 18446744073709551616 ^ 16 := by
  rw [w_of 256 8 128 rfl rfl]
  refine Nat.lt_of_lt_of_le (bev_lt 256 (bn l) (bn_lt l)) ?_
  rw [show (bn l).length = l.length from List.length_map _]
  exact Nat.pow_le_pow_right (by decide) h
end Go.Nt
namespace Go.Sy
open Go
section
variable {P : Program} {ro : Option Nat} {N : Nat} {w0 : World} {M : Nat → Prop} {ds : List Deferred} {fr : Fr} {L : List Res}
theorem sy_cut2 {γ : Type} {Q : Exit → Act → World → Prop} (f : γ → Fr) (R : γ → List Res) (I : γ → Prop) {x y z : Code} (h : Sy P ro N w0 M ds x (Exit.then (CK P ro y (Exit.then (CutK N w0 M ds f R I) Q)) (Exit.then (CutK N w0 M ds f R I) Q)) fr L)
    (h2 : ∀ g, I g → Sy P ro N w0 M ds z Q (f g) (R g)) : Sy P ro N w0 M ds x (Exit.then (CK P ro (.seq y z) Q) Q) fr L :=
  fun a w hs => wpIn_mono (h a w hs) (fun e a' w' hq => by
    cases e with
    | normal =>
      exact wpIn_seq (wpIn_mono hq (fun e a' w' hq => by
        cases e with
        | normal => obtain ⟨g, hI, hst⟩ := hq; exact h2 g hI a' w' hst
        | exit id => exact hq
        | goto l => exact hq
        | ret => exact hq
        | panic c => exact hq
        | outgrown => exact hq))
    | exit id => exact hq
    | goto l => exact hq
    | ret => exact hq
    | panic c => exact hq
    | outgrown => exact hq)
end
end Go.Sy
namespace Go.Proofs.YtjidkoabdmjgkaaDoor
open Go Go.Sy Go.Nt Go.RowKit
attribute [local irreducible] Sy SyL SyX Sy.Fn callFunc natC rowN refC iC gP gQ gL memB safeC
set_option maxRecDepth 10000
theorem number3_fn (n : Nat) (w : World) (hn : n < 9223372036854775808) : Sy.Fn Tryd.prog 30 [.int .i64 (n : Int)] w No (Gives (natV n)) := by
  refine fn_enter Tryd.func30 rfl Tryd.ntmps30 (by simp) Holds.nil ?_
  have hln := natC_len n
  have h1 := fun w' => fromInt_fn n w' hn
  repeat' (first | refine sy_seqC ?_ | refine syl_nil ?_ | refine sy_ret ?_ | refine syx_then ?_ | refine syx_go ?_ | (refine sy_region (id := 0) ?_; (refine y_new ?_; intro _)) | (refine sy_region (id := 1) ?_; refine y_move ?_; refine yv (op_callV (hc := fun _ _ _ _ => (h1 _))) (k := ?_); refine y_move ?_; refine y_extract ?_; refine y_extract ?_; (refine y_new ?_; intro _); refine yn (op_storeNat (n := n)) (k := ?_); refine y_assign ?_) | (refine sy_region (id := 2) ?_; refine yv (op_loads (B := natC n)) (k := ?_); refine yn (op_storeNat (n := n)) (k := ?_)) | fail)
  exact ret1 rfl (resCells (B := natC n) rfl (ty rfl) rfl Has.go Seg.all (natC_len _).symm) SubR.nil ⟨rfl, rfl⟩
def capW (V : Nat) : Nat := if V < 18446744073709551616 ^ 16 then V else 0
theorem made3_fn (a : Option Addr) (len c : Nat) (bl : List UInt8) (w : World) (hl : bl.length = len) (hc : len ≤ c) (hb : SlA w a (bl.map v8)) (hx : len < 4611686018427387904) :
    Sy.Fn Tryd.prog 7 [.slice a len c] w No (Gives (natV (capW (bev 256 (bn bl))))) := by
  refine fn_enter Tryd.func7 rfl Tryd.ntmps7 (by simp) Holds.nil ?_
  have hfb := fun w' (hk : Keep No w w') => fromBytes_fn a len c bl w' hl hc (hb.to hk (fun _ h => .inr h)).sla (by omega)
  generalize bev 256 (bn bl) = V at *
  unfold capW
  by_cases hV : V < 18446744073709551616 ^ 16
  · simp only [if_pos hV] at hfb ⊢
    have hlV := natC_len V
    repeat' (first | refine sy_seqC ?_ | refine syl_nil ?_ | refine sy_ret ?_ | refine syx_then ?_ | refine syx_go ?_ | (refine sy_region (id := 0) ?_; (refine y_new ?_; intro _)) | (refine sy_region (id := 1) ?_; refine y_move ?_; refine yv (op_callV (hc := fun w' _ hk _ => hfb w' hk)) (k := ?_); refine y_move ?_; refine y_extract ?_; refine y_extract ?_; (refine y_new ?_; intro _); refine yn (op_storeNat (n := V)) (k := ?_); refine y_assign ?_) | (refine sy_region (id := 2) ?_; refine yv (op_loads (B := natC V)) (k := ?_); refine yn (op_storeNat (n := V)) (k := ?_)) | fail)
    exact ret1 rfl (resCells (B := natC V) rfl (ty rfl) rfl Has.go Seg.all (natC_len _).symm) SubR.nil ⟨rfl, rfl⟩
  · simp only [if_neg hV] at hfb ⊢
    have hl0 := natC_len 0
    repeat' (first | refine sy_seqC ?_ | refine syl_nil ?_ | refine sy_ret ?_ | refine syx_then ?_ | refine syx_go ?_ | (refine sy_region (id := 0) ?_; (refine y_new ?_; intro _)) | (refine sy_region (id := 1) ?_; refine y_move ?_; refine yv (op_callV (hc := fun w' _ hk _ => hfb w' hk)) (k := ?_); refine y_move ?_; refine y_extract ?_; refine y_extract ?_; (refine y_new ?_; intro _); refine yn (op_storeNat (n := 0)) (k := ?_); refine y_assign ?_) | (refine sy_region (id := 2) ?_; refine yv (op_loads (B := natC 0)) (k := ?_); refine yn (op_storeNat (n := 0)) (k := ?_)) | fail)
    exact ret1 rfl (resCells (B := natC 0) rfl (ty rfl) rfl Has.go Seg.all (natC_len _).symm) SubR.nil ⟨rfl, rfl⟩
theorem made3s_fn (a : Option Addr) (len c : Nat) (bl : List UInt8) (w : World) (hl : bl.length = len) (hc : len ≤ c) (hb : SlA w a (bl.map v8)) (hx : len ≤ 128) :
    Sy.Fn Tryd.prog 7 [.slice a len c] w No (Gives (natV (bev 256 (bn bl)))) := by
  have h := made3_fn a len c bl w hl hc hb (by omega)
  unfold capW at h
  rwa [if_pos (bevW (by omega))] at h
theorem same3_no (e : Int) (a : Option Addr) (n c : Nat) (w : World) (he : e ≠ 0) :
    Sy.Fn Tryd.prog 17 [natV 0, .int .i64 e, .slice a n c, .int .i64 e] w No (Gives (.bool true)) := by
  refine fn_enter Tryd.func17 rfl Tryd.ntmps17 (by simp) Holds.nil ?_
  have l0 := natC_len 0
  have hz := fun w' => isZero_fn 0 w' (by decide)
  have g1 : decide (e ≠ 0) = true := decide_eq_true he
  have g2 : decide (e = e) = true := decide_eq_true rfl
  repeat' (first | refine sy_seqC ?_ | refine syl_nil ?_ | refine sy_if_t rfl ?_ | refine sy_ret ?_ | refine syx_then ?_ | refine syx_go ?_ | refine syx_then_ret ?_ | (refine sy_region (id := 0) ?_; (refine y_new ?_; intro _); refine y_assign ?_) | (refine sy_region (id := 1) ?_; refine y_move ?_; refine yv (op_neq (hr := g1)) (k := ?_)) | (refine sy_region (id := 2) ?_; refine yv (op_loads (B := natC 0)) (k := ?_); refine yv (op_callV (hc := fun _ _ _ _ => (hz _))) (k := ?_); refine y_move ?_; refine y_move ?_; refine y_move ?_; refine yv (op_eql (hr := g2)) (k := ?_); refine y_pick ?_; refine y_assign ?_) | fail)
  exact ret1 rfl (resTmp rfl) SubR.nil ⟨rfl, rfl⟩
theorem same3_fn (x : Nat) (a : Option Addr) (c : Nat) (w : World) (hx : x < 18446744073709551616 ^ 16) (hs : SlA w a (refC x)) :
    Sy.Fn Tryd.prog 17 [natV x, .int .i64 0, .slice a (nd 65536 x) c, .int .i64 0] w No (Gives (.bool true)) := by
  refine fn_enter Tryd.func17 rfl Tryd.ntmps17 (by simp) Holds.nil ?_
  have hlx := natC_len x
  have hy := ndW hx
  have hbx := fun w => bytes_fn x w hx
  have hby := fun w' (hk : Keep No w w') => rbytes_fn a c x w' (hs.to hk (fun _ h => .inr h)).sla (by omega)
  have hlen := byt_len x
  have he : decide (byt x = byt x) = true := decide_eq_true rfl
  generalize byt x = lx at *
  generalize nd 256 x = nx at *
  repeat' (first | refine sy_seqC ?_ | refine syl_nil ?_ | refine sy_if_f rfl ?_ | refine sy_skip ?_ | refine syx_then ?_ | refine syx_go ?_ | (refine sy_region (id := 0) ?_; (refine y_new ?_; intro _); refine y_assign ?_) | (refine sy_region (id := 1) ?_; refine y_move ?_; refine y_neq ?_) | fail)
  refine sy_drawA (id := 3) mixed ?_
  (refine sye_part 11 11 [[], [0], [0, 1], [0, 1, 2], [0, 1, 2, 3], [0, 1, 2, 3, 4], [0, 1, 2], [0, 1, 2, 3, 4, 6], [0, 1, 2, 3, 4, 6, 7], [0, 1, 2, 3, 4, 5, 6, 7, 8], [0, 1, 2, 3, 4, 5, 6, 7, 8, 9], [0, 1, 2, 3, 4, 5, 6, 7, 8, 9, 10]] [[], [], [], [], [], [], [], [], [], [], [], []] none rfl ?_ ?_ ?_; kernel_rfl; kernel_rfl; refine e_move ?_; refine e_eql ?_; refine e_move ?_; refine dcE (fun _ _ => op_loads (B := natC x)) (k := ?_); try refine dh_0nE (h := ?_))
  refine dh_rE (R := fun _ v Nw => ∃ b, v = .slice (some ⟨b, 0, none⟩) nx nx ∧ Nw = [.blk b 5 (lx.map v8)]) (fun _ _ _ => rfl) (fun ρ hρ => OpT.mono (op_call0 (hc := fun w' X hk hh => hbx w')) fun v L' h => ?_) (h := ?_)
  · obtain ⟨R, rfl, b, rfl, rfl⟩ := h
    exact ⟨_, rfl, b, rfl, rfl⟩
  refine dcE (u := .string (str lx)) (fun ρ hρ => ?_) (k := ?_)
  · obtain ⟨⟨b, e1, e2⟩, -⟩ := hρ
    exact op_toStrD (l := lx) (n := nx) (hx := by show some (ρ 4).1 = _; rw [e1]) (hr := Rd.of (Reads.blk (T := 5) (by show Has ((ρ 4).2 ++ _) _; rw [e2]; exact Has.here) Seg.all)) (hn := hlen)
  (skip; refine e_move ?_; try refine dh_0nE (h := ?_))
  refine dh_rE (R := fun _ => RowOf 5 nx (lx.map v8)) (fun _ _ _ => rfl) (fun ρ hρ => OpT.mono (op_call0 (hc := fun w' X hk hh => hby w' hk)) fun v L' h => ?_) (h := ?_)
  · obtain ⟨R, rfl, a1, c1, rfl, rfl⟩ := h
    exact ⟨_, rfl, a1, c1, rfl, rfl⟩
  refine dcE (u := .string (str lx)) (fun ρ hρ => ?_) (k := ?_)
  · obtain ⟨⟨a1, c1, e1, e2⟩, -⟩ := hρ
    rw [e1] at e2
    exact op_toStrD (l := lx) (n := nx) (hx := by show some (ρ 7).1 = _; rw [e1]) (hr := Rd.row (by show Has ((ρ 7).2 ++ _) _; rw [e2]; exact Has.here)) (hn := hlen)
  (skip; refine dcE (fun _ _ => op_eqStr (a := lx) (b := lx) (hr := he)) (k := ?_); refine e_pick ?_; try refine dh_0nE (h := ?_))
  refine dh_0E (h := ?_)
  rintro ρ -
  (refine sya_list [[], [0], [0, 1], [0, 1, 2], [0, 1, 2, 3], [0, 1, 2, 3, 4], [0, 1, 2], [0, 1, 2, 3, 4, 6], [0, 1, 2, 3, 4, 6, 7], [0, 1, 2, 3, 4, 5, 6, 7, 8], [0, 1, 2, 3, 4, 5, 6, 7, 8, 9], [0, 1, 2, 3, 4, 5, 6, 7, 8, 9, 10]] ?_ ?_; kernel_rfl)
  refine SyL.weaken (fr' := [(28, .bool true)]) (L' := []) ?_ (by exact Sub.go) SubR.nil
  repeat' (first | refine syl_nil ?_ | refine sy_ret ?_ | refine syx_then ?_ | refine syx_go ?_ | (refine syl_id ?_; first | refine y_assign ?_ | fail) | fail)
  exact ret1 rfl (resTmp rfl) SubR.nil ⟨rfl, rfl⟩
theorem wrong_bad (z : Int) (a : Option Addr) (n c : Nat) (w : World) (hz : ¬ (1 ≤ z ∧ z ≤ 4)) : Sy.Fn Tryd.prog 12 [.int .i64 z, .slice a n c] w No (Gives (.int .i64 2)) := by
  refine fn_enter Tryd.func12 rfl Tryd.ntmps12 (by simp) Holds.nil ?_
  have hh := fun w' => zhas_fn z w'
  rw [decide_eq_false hz] at hh
  repeat' (first | refine sy_seqC ?_ | refine syl_nil ?_ | refine sy_if_t rfl ?_ | refine sy_ret ?_ | refine syx_then ?_ | refine syx_go ?_ | refine syx_then_ret ?_ | (refine sy_region (id := 0) ?_; refine y_assign ?_) | (refine sy_region (id := 1) ?_; refine y_move ?_; refine yv (op_callV (hc := fun _ _ _ _ => (hh _))) (k := ?_); refine y_unOp ?_) | (refine sy_region (id := 2) ?_; refine y_assign ?_) | fail)
  exact ret1 rfl (resTmp rfl) SubR.nil ⟨rfl, rfl⟩
theorem wrong_fn (i ab ao n c : Nat) (bs : List Bool) (w : World) (h0 : 1 ≤ i) (h5 : i ≤ 4) (hn : bs.length = n) (hn2 : n ≤ 1000) (hs : w.rangeAt ab ao (bs.map Value.bool)) :
    Sy.Fn Tryd.prog 12 [.int .i64 (i : Int), .slice (some ⟨ab, ao, none⟩) n c] w No (Gives (.int .i64 (if bs.all id then 0 else 3))) := by
  refine fn_enter Tryd.func12 rfl Tryd.ntmps12 (by simp) Holds.nil ?_
  have hh := fun w' => zhas_fn (i : Int) w'
  rw [hasI i h0 h5] at hh
  repeat' (first | refine sy_seqC ?_ | refine syl_nil ?_ | refine sy_if_f rfl ?_ | refine sy_block ?_ | refine sy_skip ?_ | refine syx_then ?_ | refine syx_go ?_ | (refine sy_region (id := 0) ?_; refine y_assign ?_) | (refine sy_region (id := 1) ?_; refine y_move ?_; refine yv (op_callV (hc := fun _ _ _ _ => (hh _))) (k := ?_); refine y_unOp ?_) | (refine sy_region (id := 3) ?_; refine y_assign ?_) | fail)
  refine sy_loop (γ := Nat) (fun k => [(1, .slice (some ⟨ab, ao, none⟩) n c), (5, .int .i64 (k : Int))]) (fun _ => []) (fun k => k ≤ n ∧ (bs.take k).all id = true) (fun k => n - k) 0 ⟨Nat.zero_le _, rfl⟩ ?_ ?_ ?_
  · exact Sub.go
  · exact SubR.nil
  rintro k ⟨hk, hall⟩
  rcases Nat.lt_or_ge k n with h | h
  · obtain ⟨b, hb⟩ : ∃ b, bs[k]? = some b := ⟨_, List.getElem?_eq_getElem (by omega)⟩
    have hcell : w.cell? ⟨ab, ao + k, none⟩ = some (.bool b) := hs k _ (by rw [List.getElem?_map, hb]; rfl)
    have hlt : decide ((k : Int) < (n : Int)) = true := decide_eq_true (by omega)
    have hadd : IntKind.i64.wrap ((k : Int) + 1) = ((k + 1 : Nat) : Int) := by rw [IntWalk.i64_in _ (by omega)]; omega
    cases b with
    | true =>
      repeat' (first | refine sy_seqC ?_ | refine syl_nil ?_ | refine sy_if_t rfl ?_ | refine sy_if_f rfl ?_ | refine sy_block ?_ | refine sy_skip ?_ | refine syx_then ?_ | refine syx_go ?_ | (refine sy_region (id := 4) ?_; refine y_move ?_; refine y_move ?_; refine y_len ?_; refine yv (op_lss (hr := hlt)) (k := ?_)) | (refine sy_region (id := 6) ?_; refine y_move ?_; refine y_move ?_; refine yv (op_indexAddr1 (j := k)) (k := ?_); refine yv (op_load_old (hv := hcell)) (k := ?_); refine y_unOp ?_) | (refine sy_region (id := 5) ?_; refine y_move ?_; refine yv (op_add (hr := hadd)) (k := ?_); refine y_assign ?_) | fail)
      refine syx_back (k + 1) ⟨h, by rw [List.take_succ, hb, List.all_append, hall]; rfl⟩ ?_ ?_ ?_
      · show n - (k + 1) < n - k; omega
      · exact Sub.go
      · exact SubR.nil
    | false =>
      have hno : bs.all id = false := by
        rw [List.all_eq_false]; exact ⟨false, List.mem_of_getElem? hb, by decide⟩
      rw [hno]
      repeat' (first | refine sy_seqC ?_ | refine syl_nil ?_ | refine sy_if_t rfl ?_ | refine sy_block ?_ | refine sy_skip ?_ | refine sy_ret ?_ | refine syx_then ?_ | refine syx_go ?_ | refine syx_then_ret ?_ | refine syx_in_ret ?_ | (refine sy_region (id := 4) ?_; refine y_move ?_; refine y_move ?_; refine y_len ?_; refine yv (op_lss (hr := hlt)) (k := ?_)) | (refine sy_region (id := 6) ?_; refine y_move ?_; refine y_move ?_; refine yv (op_indexAddr1 (j := k)) (k := ?_); refine yv (op_load_old (hv := hcell)) (k := ?_); refine y_unOp ?_) | (refine sy_region (id := 7) ?_; refine y_assign ?_) | fail)
      exact ret1 rfl (resTmp rfl) SubR.nil ⟨rfl, rfl⟩
  · obtain rfl : k = n := by omega
    rw [List.take_of_length_le (by omega)] at hall
    have hlt : decide ((k : Int) < (k : Int)) = false := decide_eq_false (by omega)
    rw [hall]
    repeat' (first | refine sy_seqC ?_ | refine syl_nil ?_ | refine sy_if_f rfl ?_ | refine sy_ret ?_ | refine sy_exit ?_ | refine syx_then ?_ | refine syx_go ?_ | (refine sy_region (id := 4) ?_; refine y_move ?_; refine y_move ?_; refine y_len ?_; refine yv (op_lss (hr := hlt)) (k := ?_)) | (refine sy_region (id := 8) ?_; refine y_assign ?_) | fail)
    exact ret1 rfl (resTmp rfl) SubR.nil ⟨rfl, rfl⟩
theorem scalar3_bad (z : Int) (a : Option Addr) (n c : Nat) (w : World) (hz : ¬ (1 ≤ z ∧ z ≤ 4)) : Sy.Fn Tryd.prog 20 [.int .i64 z, .slice a n c] w No (Gives (.bool false)) := by
  refine fn_enter Tryd.func20 rfl Tryd.ntmps20 (by simp) Holds.nil ?_
  have hh := fun w' => zhas_fn z w'
  rw [decide_eq_false hz] at hh
  repeat' (first | refine sy_seqC ?_ | refine syl_nil ?_ | refine sy_ret ?_ | refine syx_then ?_ | refine syx_go ?_ | (refine sy_region (id := 0) ?_; refine y_assign ?_) | (refine sy_region (id := 1) ?_; refine y_move ?_; refine yv (op_callV (hc := fun _ _ _ _ => (hh _))) (k := ?_); refine y_move ?_; refine syl_skip rfl rfl rfl ?_; refine syl_skip rfl rfl rfl ?_; refine syl_skip rfl rfl rfl ?_; refine y_pick ?_; refine y_assign ?_) | fail)
  exact ret1 rfl (resTmp rfl) SubR.nil ⟨rfl, rfl⟩
theorem scalar3_fn (i : Nat) (a : Option Addr) (ca x : Nat) (w : World) (h0 : 1 ≤ i) (h5 : i ≤ 4) (ha : SlA w a (refC x)) (hx : nd 65536 x < 20000) :
    Sy.Fn Tryd.prog 20 [.int .i64 (i : Int), .slice a (nd 65536 x) ca] w No (Gives (.bool (decide (x < gQ i)))) := by
  refine fn_enter Tryd.func20 rfl Tryd.ntmps20 (by simp) Holds.nil ?_
  have hh := fun w' => zhas_fn (i : Int) w'
  rw [hasI i h0 h5] at hh
  have hs := fun w' (hk : Keep No w w') => zisScalar_fn i a ca x w' h0 h5 (ha.to hk (fun _ h => .inr h)).sla hx
  generalize decide (x < gQ i) = b at *
  repeat' (first | refine sy_seqC ?_ | refine syl_nil ?_ | refine sy_ret ?_ | refine syx_then ?_ | refine syx_go ?_ | (refine sy_region (id := 0) ?_; refine y_assign ?_) | (refine sy_region (id := 1) ?_; refine y_move ?_; refine yv (op_callV (hc := fun _ _ _ _ => (hh _))) (k := ?_); refine y_move ?_; refine y_move ?_; refine y_move ?_; refine yv (op_callV (f := 47) (hc := fun w' _ hk _ => hs w' hk)) (k := ?_); refine y_pick ?_; refine y_assign ?_) | fail)
  exact ret1 rfl (resTmp rfl) SubR.nil ⟨rfl, rfl⟩
end Go.Proofs.YtjidkoabdmjgkaaDoor
