/- PakeNone: what nil and zero exchanges give. -/
import Derived.Test.YtaeddmcoanefhaaGreatDoorVJ45
set_option linter.all false
namespace Go.Proofs.YtaeddmcoanefhaaGreatDoor
open Go Go.Sy Go.Sh Go.Nt Go.RowKit
attribute [local irreducible] Sy SyL SyX Sy.Fn callFunc natC
set_option maxRecDepth 10000
def zX : List Value := [Value.int .i64 0] ++ [Value.slice none 0 0] ++ [Value.bool false] ++ List.replicate 32 (Value.int .u8 0) ++ [Value.int .i64 0] ++ List.replicate 32 (Value.int .u64 0) ++ [Value.slice none 0 0]
set_option maxHeartbeats 4000000 in
theorem pakeNone_fn (hkn : ∀ w, GT w → Tab w No → Sy.Fn Tryz.prog 7 [] w No (Gives (.bool true))) (a1 : Option Addr) (n1 c1 : Nat) (w : World) (hT : Tab w No) (hG : GT w) :
    Sy.Fn Tryz.prog 4 [.slice a1 n1 c1] w No (Gives (.bool true)) := by
  refine fn_enter Tryz.func4 rfl Tryz.ntmps4 (by simp) Holds.nil ?_
  have hkn' := fun w' (hk : Keep No w w') => hkn w' (hG.to hk) (hT.no hk)
  by_cases h : 128 < n1
  · repeat' (first | refine sy_seqC ?_ | refine syl_nil ?_ | refine sy_if_t rfl ?_ | refine sy_ret ?_ | refine syx_then ?_ | refine syx_go ?_ | refine syx_then_ret ?_ | (refine sy_region (id := 0) ?_; refine y_assign ?_) | (refine sy_region (id := 1) ?_; refine y_move ?_; refine y_len ?_; refine y_gtr ?_) | (refine sy_region (id := 2) ?_; refine yv (op_callV (f := 7) (hc := fun w' X hk hh => hkn' w' hk)) (k := ?_); refine y_assign ?_) | fail)
    exact ret1 rfl (resTmp rfl) SubR.nil ⟨rfl, rfl⟩
  repeat' (first | refine sy_seqC ?_ | refine syl_nil ?_ | refine sy_if_f rfl ?_ | refine sy_block ?_ | refine sy_skip ?_ | refine syx_then ?_ | refine syx_go ?_ | (refine sy_region (id := 0) ?_; refine y_assign ?_) | (refine sy_region (id := 1) ?_; refine y_move ?_; refine y_len ?_; refine y_gtr ?_) | (refine sy_region (id := 3) ?_; refine y_assign ?_) | (refine sy_region (id := 4) ?_; refine y_move ?_; refine y_build ?_; (refine y_new ?_; intro _); (refine ys op_buildSlice (k := ?_); rintro _ _ ⟨_, rfl, rfl⟩); refine y_len ?_; refine y_move ?_) | fail)
  rename_i bz b17
  refine sy_loop (γ := Nat) (fun k => [(0, .slice a1 n1 c1), (17, .slice (some ⟨b17, 0, none⟩) 2 2), (18, .int .i64 ((2 : Nat) : Int)), (19, .int .i64 k)]) (fun _ => [.blk b17 26 [.pointer none, .pointer (some ⟨bz, 0, none⟩)], .blk bz 46 zX]) (fun k => k ≤ 2) (fun k => 2 - k) 0 (Nat.zero_le _) ?_ ?_ ?_
  · exact Sub.go
  · exact SubR.go2
  rintro k hk
  have hz : zX[35]? = some (.int .i64 0) := rfl
  generalize zX = Z at *
  rcases Nat.lt_or_ge k 2 with h2 | h2
  · obtain ⟨a, hc, hN⟩ : ∃ a, [Value.pointer none, .pointer (some ⟨bz, 0, none⟩)][0 + k]? = some (.pointer a) ∧ ∀ w' X, Keep No w w' → Holds w.heap.size No ([.blk b17 26 [.pointer none, .pointer (some ⟨bz, 0, none⟩)], .blk bz 46 Z] ++ X) w' → NoX a w' := by
      have hk2 : k = 0 ∨ k = 1 := by omega
      rcases hk2 with rfl | rfl
      · exact ⟨none, rfl, fun _ _ _ _ => .inl rfl⟩
      · exact ⟨some ⟨bz, 0, none⟩, rfl, fun w' X _ hh => .inr ⟨bz, rfl, by rw [Sy.blk_cell (hh.has (r := .blk bz 46 Z) (Has.append (Has.there Has.here)))]; exact hz⟩⟩
    have hlt : decide ((k : Int) < ((2 : Nat) : Int)) = true := decide_eq_true (by omega)
    have g5 : IntKind.i64.wrap ((k : Int) + 1) = ((k + 1 : Nat) : Int) := by rw [IntWalk.i64_in _ (by omega)]; omega
    repeat' (first | refine sy_seqC ?_ | refine syl_nil ?_ | refine sy_if_t rfl ?_ | refine sy_if_f rfl ?_ | refine sy_block ?_ | refine sy_skip ?_ | refine syx_then ?_ | refine syx_go ?_ | (refine sy_region (id := 5) ?_; refine yv (op_lss (hr := hlt)) (k := ?_)) | (refine sy_region (id := 6) ?_; refine yv (op_indexAddr1 (j := k)) (k := ?_); refine yv (op_load (hv := hc)) (k := ?_); refine y_assign ?_) | (refine sy_region (id := 7) ?_; refine y_move ?_; refine yv (op_callV (f := 12) (hc := fun w' X hk hh => xkeyE_fn a 1 w' (by decide) (chk_none a _ w' (hN w' X hk hh) (en rfl)))) (k := ?_); refine y_move ?_; refine y_extract ?_; refine y_extract ?_; refine y_assign ?_; refine y_assign ?_) | (refine sy_region (id := 8) ?_; refine y_move ?_; refine yv (op_callV (f := 13) (hc := fun w' X hk hh => xconfirmE_fn a 1 w' (by decide) (chk_none a _ w' (hN w' X hk hh) (en rfl)))) (k := ?_); refine y_move ?_; refine y_extract ?_; refine y_extract ?_; refine y_assign ?_; refine y_assign ?_) | (refine sy_region (id := 9) ?_; refine y_move ?_; refine yv (op_callV (f := 11) (hc := fun w' X hk hh => xelementN_fn a w' (hN w' X hk hh))) (k := ?_); refine y_len ?_; refine y_move ?_; refine y_len ?_; refine y_add ?_; refine y_move ?_; refine y_len ?_; refine y_add ?_; refine y_neq ?_; refine y_move ?_; refine y_move ?_; refine y_neq ?_; refine y_pick ?_; refine y_move ?_; refine y_move ?_; refine y_neq ?_; refine y_pick ?_; refine y_move ?_; refine y_move ?_; refine y_move ?_; refine yv (op_callV (f := 10) (hc := fun w' X hk hh => xfinE_fn a 1 _ w' (by decide) (chk_none a _ w' (hN w' X hk hh) (en rfl)))) (k := ?_); refine y_neq ?_; refine y_pick ?_; refine y_move ?_; refine y_move ?_; refine y_move ?_; refine yv (op_callV (f := 14) (hc := fun w' X hk hh => xverifyE_fn a 1 _ w' (by decide) (chk_none a _ w' (hN w' X hk hh) (en rfl)))) (k := ?_); refine y_neq ?_; refine y_pick ?_; refine y_move ?_; refine y_move ?_; refine yv (op_callV (f := 15) (hc := fun w' X hk hh => xcopyN_fn a w' (hN w' X hk hh))) (k := ?_); refine y_neq ?_; refine y_pick ?_) | (refine sy_region (id := 11) ?_; refine yv (op_add (hr := g5)) (k := ?_); refine y_move ?_) | fail)
    refine syx_back (k + 1) h2 ?_ ?_ ?_
    · show 2 - (k + 1) < 2 - k; omega
    · exact Sub.go
    · exact SubR.go2
  have hlt : decide ((k : Int) < ((2 : Nat) : Int)) = false := decide_eq_false (by omega)
  repeat' (first | refine sy_seqC ?_ | refine syl_nil ?_ | refine sy_if_f rfl ?_ | refine sy_ret ?_ | refine sy_exit ?_ | refine syx_then ?_ | refine syx_go ?_ | (refine sy_region (id := 5) ?_; refine yv (op_lss (hr := hlt)) (k := ?_)) | (refine sy_region (id := 12) ?_; refine yv (op_callV (f := 7) (hc := fun w' X hk hh => hkn' w' hk)) (k := ?_); refine y_assign ?_) | fail)
  exact ret1 rfl (resTmp rfl) SubR.nil ⟨rfl, rfl⟩
end Go.Proofs.YtaeddmcoanefhaaGreatDoor
