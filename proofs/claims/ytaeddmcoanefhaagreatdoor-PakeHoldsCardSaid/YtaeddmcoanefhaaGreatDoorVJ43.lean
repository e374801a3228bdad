/- Layer pake, walked: Start with arguments that are not valid. -/
import Derived.Test.YtaeddmcoanefhaaGreatDoorVJ42
set_option linter.all false
section
namespace Go.Proofs.YtaeddmcoanefhaaGreatDoor
open Go Go.Sy Go.Sh Go.Nt Go.RowKit
attribute [local irreducible] Sy SyL SyX Sy.Fn callFunc natC gL glen selA ordF
set_option maxRecDepth 10000
theorem xstart_no (s : Bool) (z : Int) (a1 a2 a3 : Option Addr) (n1 n2 n3 c1 c2 c3 : Nat) (w : World) (hG : GT w) (hn1 : n1 ≤ 256) (hn2 : n2 ≤ 4096) (h : glen z = 0 ∨ n1 = 0 ∨ n3 ≠ 32) :
    Sy.Fn Tryz.prog 8 [.int .i64 (sideI s), .int .i64 z, .slice a1 n1 c1, .slice a2 n2 c2, .slice a3 n3 c3] w No (Gives (.tuple #[.pointer none, .int .i64 2])) := by
  refine fn_enter Tryz.func8 rfl Tryz.ntmps8 (by simp) Holds.nil ?_
  have hlen := fun w' (hk : Keep No w w') => glenz_fn z w' (hG.to hk)
  have e3 : decide ((256 : Int) < ((n1 : Nat) : Int)) = false := decide_eq_false (by omega)
  have e4 : decide ((4096 : Int) < ((n2 : Nat) : Int)) = false := decide_eq_false (by omega)
  have h' : glen z = 0 ∨ (0 < glen z ∧ n1 = 0) ∨ (0 < glen z ∧ 0 < n1 ∧ n3 ≠ 32) := by omega
  rcases h' with hz | ⟨hz, h1⟩ | ⟨hz, h1, h2⟩
  all_goals repeat' (first | refine sy_seqC ?_ | refine syl_nil ?_ | refine sy_if_t rfl ?_ | refine sy_ret ?_ | refine syx_then ?_ | refine syx_go ?_ | refine syx_then_ret ?_ | (refine sy_region (id := 0) ?_; refine y_assign ?_; refine y_assign ?_) | (refine sy_region (id := 1) ?_; (refine ys (op_call0 (f := 18) (hc := fun w' X hk hh => sides_fn w')) (k := ?_); rintro _ _ ⟨R, rfl, bm, rfl, rfl⟩); refine y_move ?_; refine yv (op_sideOk s) (k := ?_); refine y_move ?_; refine y_extract ?_; refine y_extract ?_; (refine y_new ?_; intro _); refine y_store ?_; refine y_assign ?_) | (refine sy_region (id := 2) ?_; refine y_move ?_; refine y_unOp ?_; refine y_move ?_; refine y_move ?_; refine yv (op_callV (f := 19) (hc := fun w' X hk hh => hlen w' hk)) (k := ?_); refine y_eql ?_; refine y_pick ?_; refine y_move ?_; (first | refine y_move ?_ | refine syl_skip rfl rfl rfl ?_ | fail); (first | refine y_len ?_ | refine syl_skip rfl rfl rfl ?_ | fail); (first | refine y_eql ?_ | refine syl_skip rfl rfl rfl ?_ | fail); refine y_pick ?_; refine y_move ?_; (first | refine y_move ?_ | refine syl_skip rfl rfl rfl ?_ | fail); (first | refine y_len ?_ | refine syl_skip rfl rfl rfl ?_ | fail); (first | refine yv (op_gtr (hr := e3)) (k := ?_) | refine syl_skip rfl rfl rfl ?_ | fail); refine y_pick ?_; refine y_move ?_; (first | refine y_move ?_ | refine syl_skip rfl rfl rfl ?_ | fail); (first | refine y_len ?_ | refine syl_skip rfl rfl rfl ?_ | fail); (first | refine yv (op_gtr (hr := e4)) (k := ?_) | refine syl_skip rfl rfl rfl ?_ | fail); refine y_pick ?_; refine y_move ?_; (first | refine y_move ?_ | refine syl_skip rfl rfl rfl ?_ | fail); (first | refine y_len ?_ | refine syl_skip rfl rfl rfl ?_ | fail); (first | refine y_neq ?_ | refine syl_skip rfl rfl rfl ?_ | fail); refine y_pick ?_) | (refine sy_region (id := 3) ?_; refine y_assign ?_; refine y_assign ?_) | fail)
  all_goals exact ret2 rfl (resTmp rfl) (resTmp rfl) SubR.nil ⟨rfl, rfl⟩
theorem zero_side : ∃ Z : List Value, Z.length = 4 ∧ Z.all (·.oneCell') = true ∧ ∀ w : World, (zeroValue 55).run Tryz.prog w = .ok (.agg Z.toArray) w := ⟨[_, _, _, _], rfl, rfl, fun w => rfl⟩
theorem xstart_side (z : Value) (a1 a2 a3 : Option Addr) (n1 n2 n3 c1 c2 c3 : Nat) (w : World) :
    Sy.Fn Tryz.prog 8 [.int .i64 3, z, .slice a1 n1 c1, .slice a2 n2 c2, .slice a3 n3 c3] w No (Gives (.tuple #[.pointer none, .int .i64 2])) := by
  refine fn_enter Tryz.func8 rfl Tryz.ntmps8 (by simp) Holds.nil ?_
  obtain ⟨Z, l4, z1, hz⟩ := zero_side
  have hf : Instr.findNow (.int .i64) (.int .i64 3) pkMap 0 = some none := rfl
  repeat' (first | refine sy_seqC ?_ | refine syl_nil ?_ | refine sy_if_t rfl ?_ | refine sy_ret ?_ | refine syx_then ?_ | refine syx_go ?_ | refine syx_then_ret ?_ | (refine sy_region (id := 0) ?_; refine y_assign ?_; refine y_assign ?_) | (refine sy_region (id := 1) ?_; (refine ys (op_call0 (f := 18) (hc := fun w' X hk hh => sides_fn w')) (k := ?_); rintro _ _ ⟨R, rfl, bm, rfl, rfl⟩); refine y_move ?_; refine yv (op_lookupOkNo (k := 30) (e := 55) (d := .int .i64) (key := .int .i64 3) rfl rfl rfl hf hz) (k := ?_); refine y_move ?_; refine y_extract ?_; refine y_extract ?_; (refine y_new ?_; intro _); refine yn (op_storesAll (B := Z) (hv := z1) (h1 := by rw [l4]) (hC := by rw [l4]; rfl)) (k := ?_); refine y_assign ?_) | (refine sy_region (id := 2) ?_; refine y_move ?_; refine y_unOp ?_; refine y_move ?_; refine syl_skip rfl rfl rfl ?_; refine syl_skip rfl rfl rfl ?_; refine syl_skip rfl rfl rfl ?_; refine y_pick ?_; refine y_move ?_; refine syl_skip rfl rfl rfl ?_; refine syl_skip rfl rfl rfl ?_; refine syl_skip rfl rfl rfl ?_; refine y_pick ?_; refine y_move ?_; refine syl_skip rfl rfl rfl ?_; refine syl_skip rfl rfl rfl ?_; refine syl_skip rfl rfl rfl ?_; refine y_pick ?_; refine y_move ?_; refine syl_skip rfl rfl rfl ?_; refine syl_skip rfl rfl rfl ?_; refine syl_skip rfl rfl rfl ?_; refine y_pick ?_; refine y_move ?_; refine syl_skip rfl rfl rfl ?_; refine syl_skip rfl rfl rfl ?_; refine syl_skip rfl rfl rfl ?_; refine y_pick ?_) | (refine sy_region (id := 3) ?_; refine y_assign ?_; refine y_assign ?_) | fail)
  exact ret2 rfl (resTmp rfl) (resTmp rfl) SubR.nil ⟨rfl, rfl⟩
end Go.Proofs.YtaeddmcoanefhaaGreatDoor
end
section
namespace Go.Proofs.YtaeddmcoanefhaaGreatDoor
open Go Go.Sy Go.Sh Go.Nt Go.RowKit
attribute [local irreducible] Sy SyL SyX Sy.Fn callFunc natC
set_option maxRecDepth 10000
theorem num33_fn (z : Int) (w : World) : Sy.Fn Tryz.prog 9 [.int .i64 z] w No (Gives (.int .i64 z)) := by
  refine fn_enter Tryz.func9 rfl Tryz.ntmps9 (by simp) Holds.nil ?_
  repeat' (first | refine sy_seqC ?_ | refine syl_nil ?_ | refine sy_ret ?_ | refine syx_then ?_ | refine syx_go ?_ | (refine sy_region (id := 0) ?_; refine y_assign ?_) | (refine sy_region (id := 1) ?_; refine y_move ?_; refine y_assign ?_) | fail)
  exact ret1 rfl (resTmp rfl) SubR.nil ⟨rfl, rfl⟩
theorem fill_set (x : UInt8) (k : Nat) (h : k < 32) : SetAt (List.replicate k (v8 x) ++ List.replicate (32 - k) (.int .u8 0)) k (v8 x) (List.replicate (k + 1) (v8 x) ++ List.replicate (32 - (k + 1)) (.int .u8 0)) := by
  refine ⟨by simp; omega, ?_⟩
  rw [List.set_append_right _ _ (by simp), List.length_replicate, Nat.sub_self, show 32 - k = (32 - (k + 1)) + 1 by omega]
  show _ = _ ++ v8 x :: List.replicate (32 - (k + 1)) (.int .u8 0)
  rw [List.replicate_succ' (n := k), List.append_assoc]
  rfl
theorem fill33_fn (x : UInt8) (w : World) : Sy.Fn Tryz.prog 17 [v8 x] w No (fun v R => ∃ b, v = .slice (some ⟨b, 0, none⟩) 32 32 ∧ R = [.blk b 5 ((pkFill x).map v8)]) := by
  refine fn_enter Tryz.func17 rfl Tryz.ntmps17 (by simp) Holds.nil ?_
  repeat' (first | refine sy_seqC ?_ | refine syl_nil ?_ | refine sy_block ?_ | refine syx_then ?_ | refine syx_go ?_ | (refine sy_region (id := 0) ?_; refine y_assign ?_) | (refine sy_region (id := 1) ?_) | (refine sy_region (id := 2) ?_; refine y_assign ?_) | (refine ys (op_makeB (n := 32)) (k := ?_); rintro _ _ ⟨b5, rfl, rfl⟩) | (refine syl_id ?_; first | refine y_assign ?_ | fail) | fail)
  refine sy_loop (γ := Nat) (fun k => [(0, v8 x), (3, .slice (some ⟨b5, 0, none⟩) 32 32), (4, .int .i64 k)]) (fun k => [.blk b5 5 (List.replicate k (v8 x) ++ List.replicate (32 - k) (.int .u8 0))]) (fun k => k ≤ 32) (fun k => 32 - k) 0 (Nat.zero_le _) ?_ ?_ ?_
  · exact Sub.go
  · exact SubR.go2
  rintro k hk
  rcases Nat.lt_or_ge k 32 with h | h
  · have hlt : decide ((k : Int) < (32 : Int)) = true := decide_eq_true (by omega)
    have g5 : IntKind.i64.wrap ((k : Int) + 1) = ((k + 1 : Nat) : Int) := by rw [IntWalk.i64_in _ (by omega)]; omega
    have hset := fill_set x k h
    repeat' (first | refine sy_seqC ?_ | refine syl_nil ?_ | refine sy_if_t rfl ?_ | refine sy_block ?_ | refine sy_skip ?_ | refine syx_then ?_ | refine syx_go ?_ | (refine sy_region (id := 3) ?_; refine y_move ?_; refine yv (op_lss (hr := hlt)) (k := ?_)) | (refine sy_region (id := 5) ?_; refine y_move ?_; refine y_move ?_; refine y_move ?_; refine yv (op_indexAddr1 (j := k)) (k := ?_); refine yn (op_store (v := v8 x) (hC := by rw [Nat.zero_add]; exact hset)) (k := ?_)) | (refine sy_region (id := 4) ?_; refine y_move ?_; refine yv (op_add (hr := g5)) (k := ?_); refine y_assign ?_) | fail)
    refine syx_back (k + 1) h ?_ ?_ ?_
    · show 32 - (k + 1) < 32 - k; omega
    · exact Sub.go
    · exact SubR.go2
  obtain rfl : k = 32 := by omega
  have hlt : decide (((32 : Nat) : Int) < (32 : Int)) = false := rfl
  repeat' (first | refine sy_seqC ?_ | refine syl_nil ?_ | refine sy_if_f rfl ?_ | refine sy_ret ?_ | refine sy_exit ?_ | refine syx_then ?_ | refine syx_go ?_ | (refine sy_region (id := 3) ?_; refine y_move ?_; refine yv (op_lss (hr := hlt)) (k := ?_)) | (refine sy_region (id := 6) ?_; refine y_move ?_; refine y_assign ?_) | fail)
  exact ret1 rfl (resTmp rfl) (R := [.blk b5 5 (List.replicate 32 (v8 x) ++ List.replicate (32 - 32) (.int .u8 0))]) (by exact SubR.go2) ⟨b5, rfl, by unfold pkFill; rw [List.map_replicate, Nat.sub_self, List.replicate_zero, List.append_nil]⟩
theorem has33_fn (z : Int) (w : World) : Sy.Fn Tryz.prog 16 [.int .i64 z] w No (Gives (.bool (decide (1 ≤ z ∧ z ≤ 4)))) := by
  refine fn_enter Tryz.func16 rfl Tryz.ntmps16 (by simp) Holds.nil ?_
  have h : z < 1 ∨ 4 < z ∨ (1 ≤ z ∧ z ≤ 4) := by omega
  rcases h with h | h | h
  all_goals repeat' (first | refine sy_seqC ?_ | refine syl_nil ?_ | refine sy_ret ?_ | refine syx_then ?_ | refine syx_go ?_ | (refine sy_region (id := 0) ?_; refine y_assign ?_) | (refine sy_region (id := 1) ?_; refine y_move ?_; refine y_geq ?_; refine y_move ?_; (first | refine y_move ?_ | refine syl_skip rfl rfl rfl ?_ | fail); (first | refine y_leq ?_ | refine syl_skip rfl rfl rfl ?_ | fail); refine y_pick ?_; refine y_assign ?_) | fail)
  all_goals exact ret1 rfl (resTmp rfl) SubR.nil ⟨congrArg Value.bool (by first | exact (decide_eq_true (by omega)).symm | exact (decide_eq_false (by omega)).symm), rfl⟩
theorem large33_fn (v : Value) (a1 a2 a3 : Option Addr) (n1 n2 n3 c1 c2 c3 : Nat) (w : World) :
    Sy.Fn Tryz.prog 5 [v, .slice a1 n1 c1, .slice a2 n2 c2, .slice a3 n3 c3] w No (Gives (.bool (decide (300 < n1 ∨ 40 < n3 ∨ (300 < n2 ∧ n2 ≤ 4096) ∨ 5000 < n2)))) := by
  refine fn_enter Tryz.func5 rfl Tryz.ntmps5 (by simp) Holds.nil ?_
  have h : 300 < n1 ∨ (n1 ≤ 300 ∧ 40 < n3) ∨ (n1 ≤ 300 ∧ n3 ≤ 40 ∧ 300 < n2 ∧ n2 ≤ 4096) ∨ (n1 ≤ 300 ∧ n3 ≤ 40 ∧ 5000 < n2) ∨ (n1 ≤ 300 ∧ n3 ≤ 40 ∧ 4096 < n2 ∧ n2 ≤ 5000) ∨ (n1 ≤ 300 ∧ n3 ≤ 40 ∧ n2 ≤ 300) := by omega
  rcases h with h | h | h | h | h | h
  all_goals repeat' (first | refine sy_seqC ?_ | refine syl_nil ?_ | refine sy_ret ?_ | refine syx_then ?_ | refine syx_go ?_ | (refine sy_region (id := 0) ?_; refine y_assign ?_) | (refine sy_region (id := 1) ?_; refine y_move ?_; refine y_len ?_; refine y_gtr ?_; refine y_move ?_; (first | refine y_move ?_ | refine syl_skip rfl rfl rfl ?_ | fail); (first | refine y_len ?_ | refine syl_skip rfl rfl rfl ?_ | fail); (first | refine y_gtr ?_ | refine syl_skip rfl rfl rfl ?_ | fail); refine y_pick ?_; refine y_move ?_; (first | refine y_move ?_ | refine syl_skip rfl rfl rfl ?_ | fail); (first | refine y_len ?_ | refine syl_skip rfl rfl rfl ?_ | fail); (first | refine y_gtr ?_ | refine syl_skip rfl rfl rfl ?_ | fail); (first | refine y_move ?_ | refine syl_skip rfl rfl rfl ?_ | fail); (first | refine y_move ?_ | refine syl_skip rfl rfl rfl ?_ | fail); (first | refine y_len ?_ | refine syl_skip rfl rfl rfl ?_ | fail); (first | refine y_leq ?_ | refine syl_skip rfl rfl rfl ?_ | fail); (first | refine y_pick ?_ | refine syl_skip rfl rfl rfl ?_ | fail); refine y_pick ?_; refine y_move ?_; (first | refine y_move ?_ | refine syl_skip rfl rfl rfl ?_ | fail); (first | refine y_len ?_ | refine syl_skip rfl rfl rfl ?_ | fail); (first | refine y_gtr ?_ | refine syl_skip rfl rfl rfl ?_ | fail); refine y_pick ?_; refine y_assign ?_) | fail)
  all_goals exact ret1 rfl (resTmp rfl) SubR.nil ⟨congrArg Value.bool (by first | exact (decide_eq_true (by omega)).symm | exact (decide_eq_false (by omega)).symm), rfl⟩
theorem valid33_fn (z : Int) (a1 a2 a3 : Option Addr) (n1 n2 n3 c1 c2 c3 : Nat) (w : World) :
    Sy.Fn Tryz.prog 6 [.int .i64 1, .int .i64 z, .slice a1 n1 c1, .slice a2 n2 c2, .slice a3 n3 c3] w No (Gives (.bool (decide ((1 ≤ z ∧ z ≤ 4) ∧ 1 ≤ n1 ∧ n1 ≤ 256 ∧ n2 ≤ 4096 ∧ n3 = 32)))) := by
  refine fn_enter Tryz.func6 rfl Tryz.ntmps6 (by simp) Holds.nil ?_
  have hh := fun w' => has33_fn z w'
  by_cases hz : 1 ≤ z ∧ z ≤ 4
  · simp only [hz, decide_true, and_self, true_and] at hh ⊢
    have h : n1 < 1 ∨ 256 < n1 ∨ (1 ≤ n1 ∧ n1 ≤ 256 ∧ 4096 < n2) ∨ (1 ≤ n1 ∧ n1 ≤ 256 ∧ n2 ≤ 4096 ∧ n3 ≠ 32) ∨ (1 ≤ n1 ∧ n1 ≤ 256 ∧ n2 ≤ 4096 ∧ n3 = 32) := by omega
    rcases h with h | h | h | h | h
    all_goals repeat' (first | refine sy_seqC ?_ | refine syl_nil ?_ | refine sy_ret ?_ | refine syx_then ?_ | refine syx_go ?_ | (refine sy_region (id := 0) ?_; refine y_assign ?_) | (refine sy_region (id := 1) ?_; refine y_move ?_; refine y_eql ?_; refine y_move ?_; refine syl_skip rfl rfl rfl ?_; refine syl_skip rfl rfl rfl ?_; refine y_pick ?_; refine y_move ?_; refine y_move ?_; refine yv (op_callV (hc := fun _ _ _ _ => (hh _))) (k := ?_); refine y_pick ?_; refine y_move ?_; refine y_move ?_; refine y_len ?_; refine y_geq ?_; refine y_pick ?_; refine y_move ?_; (first | refine y_move ?_ | refine syl_skip rfl rfl rfl ?_ | fail); (first | refine y_len ?_ | refine syl_skip rfl rfl rfl ?_ | fail); (first | refine y_leq ?_ | refine syl_skip rfl rfl rfl ?_ | fail); refine y_pick ?_; refine y_move ?_; (first | refine y_move ?_ | refine syl_skip rfl rfl rfl ?_ | fail); (first | refine y_len ?_ | refine syl_skip rfl rfl rfl ?_ | fail); (first | refine y_leq ?_ | refine syl_skip rfl rfl rfl ?_ | fail); refine y_pick ?_; refine y_move ?_; (first | refine y_move ?_ | refine syl_skip rfl rfl rfl ?_ | fail); (first | refine y_len ?_ | refine syl_skip rfl rfl rfl ?_ | fail); (first | refine y_eql ?_ | refine syl_skip rfl rfl rfl ?_ | fail); refine y_pick ?_; refine y_assign ?_) | fail)
    all_goals exact ret1 rfl (resTmp rfl) SubR.nil ⟨congrArg Value.bool (by first | exact (decide_eq_true (by omega)).symm | exact (decide_eq_false (by omega)).symm), rfl⟩
  · simp only [hz, decide_false, false_and] at hh ⊢
    repeat' (first | refine sy_seqC ?_ | refine syl_nil ?_ | refine sy_ret ?_ | refine syx_then ?_ | refine syx_go ?_ | (refine sy_region (id := 0) ?_; refine y_assign ?_) | (refine sy_region (id := 1) ?_; refine y_move ?_; refine y_eql ?_; refine y_move ?_; refine syl_skip rfl rfl rfl ?_; refine syl_skip rfl rfl rfl ?_; refine y_pick ?_; refine y_move ?_; refine y_move ?_; refine yv (op_callV (hc := fun _ _ _ _ => (hh _))) (k := ?_); refine y_pick ?_; refine y_move ?_; refine syl_skip rfl rfl rfl ?_; refine syl_skip rfl rfl rfl ?_; refine syl_skip rfl rfl rfl ?_; refine y_pick ?_; refine y_move ?_; refine syl_skip rfl rfl rfl ?_; refine syl_skip rfl rfl rfl ?_; refine syl_skip rfl rfl rfl ?_; refine y_pick ?_; refine y_move ?_; refine syl_skip rfl rfl rfl ?_; refine syl_skip rfl rfl rfl ?_; refine syl_skip rfl rfl rfl ?_; refine y_pick ?_; refine y_move ?_; refine syl_skip rfl rfl rfl ?_; refine syl_skip rfl rfl rfl ?_; refine syl_skip rfl rfl rfl ?_; refine y_pick ?_; refine y_assign ?_) | fail)
    exact ret1 rfl (resTmp rfl) SubR.nil ⟨rfl, rfl⟩
end Go.Proofs.YtaeddmcoanefhaaGreatDoor
end
section
namespace Go.Proofs.YtaeddmcoanefhaaGreatDoor
open Go Go.Sy Go.Sh Go.Nt Go.RowKit
attribute [local irreducible] Sy SyL SyX Sy.Fn callFunc natC rowN gP gQ gL memB safeC fixB Sh.sum HashIs pkPt pkH firstN dblock hmac pkDer pkDig pkC selA ordF pkW pkX pkOwn pkSh gCells
set_option maxRecDepth 10000
def pkD (i : Nat) (ctx : List UInt8) (s : Bool) (own peer shared scalar : List UInt8) : List UInt8 := pkDig i ctx (if s then own else peer) (if s then peer else own) shared scalar
theorem pkD_len (i : Nat) (ctx : List UInt8) (s : Bool) (own peer shared scalar : List UInt8) : (pkD i ctx s own peer shared scalar).length = 32 := by unfold pkD pkDig; exact sum_len _
section
variable {L X : List Res} {w0 w : World} {bx i : Nat} {ac ao ap : Option Addr} {n kc ko kp x wv y : Nat} {ctx l : List UInt8} {s d : Bool} {G : List Value}
theorem gt_at {T : Nat} {C : List Value} (h : GT w0) (hk : Keep No w0 w) (hh : Holds w0.heap.size No (L ++ X) w) (hL : Has L (.blk bx T C)) {w2 : World} (hk2 : Keep (fun z => z = bx) w w2) : GT w2 := by
  have hne : gCells ≠ [] := by unfold gCells; exact List.cons_ne_nil _ _
  obtain ⟨a1, a2⟩ := range_to (Mi := fun z => z = bx) h hne (fun h => h) hk (hh.one hL)
  exact (range_to (Mi := No) a1 hne a2 hk2 (fun _ h => h.elim)).1
theorem own_nd (s : Bool) (i w x : Nat) (h0 : 1 ≤ i) (h5 : i ≤ 4) : nd 256 (pkOwn s i w x) ≤ gL i := gP_nd h0 h5 (memB_mem.1 (pk_own s i w x h0 h5)).2.1
theorem el_at {T : Nat} {C : List Value} (hk : Keep No w0 w) (hh : Holds w0.heap.size No (L ++ X) w) (hG : GT w0) (h0 : 1 ≤ i) (h5 : i ≤ 4) (hX : Has L (.blk bx T C)) (hrp : Has L (.row (.slice ap (gL i) kp) 5 1 (gL i) ((fixB (gL i) y).map v8))) (hy : memB (gP i) (gQ i) y = true) :
    ∀ w2, Keep (fun z => z = bx) w w2 → Sy.Fn Tryz.prog 31 [.int .i64 (i : Int), .slice ap (gL i) kp] w2 No (Gives (.tuple #[natV y, .int .i64 0])) := fun w2 hk2 => by
  have hnd : nd 256 y ≤ gL i := gP_nd h0 h5 (memB_mem.1 hy).2.1
  have := gelement_fn i ap (gL i) kp (fixB (gL i) y) w2 h0 h5 (gt_at hG hk hh hX hk2) rfl (fixB_len _ _ hnd) (Row.cap hh (Has.append hrp)) ((SlF.rowB hh hX hrp).to (Mi := No) hk2 (fun _ h => h.elim)).sla (by rw [bev_fixB]; exact hy)
  rwa [bev_fixB] at this
theorem xfin_at (hk : Keep No w0 w) (hh : Holds w0.heap.size No (L ++ X) w) (hG : GT w0) (hT : Tab w0 No) (h0 : 1 ≤ i) (h5 : i ≤ 4) (hx : x < gQ i) (hw : wv < gQ i) (hn : ctx.length = n) (hn2 : n ≤ 4096)
    (hX : Has L (.blk bx 46 (pkC i ⟨ac, n, kc, ctx⟩ false zG s x wv ⟨ao, gL i, ko, fixB (gL i) (pkOwn s i wv x)⟩))) (hrc : Has L (.row (.slice ac n kc) 5 1 n (ctx.map v8))) (hro : Has L (.row (.slice ao (gL i) ko) 5 1 (gL i) ((fixB (gL i) (pkOwn s i wv x)).map v8)))
    (hrp : Has L (.row (.slice ap (gL i) kp) 5 1 (gL i) ((fixB (gL i) y).map v8))) (hy : memB (gP i) (gQ i) y = true) (hy1 : y ≠ 1) :
    Sy.Fn Tryz.prog 10 [.pointer (some ⟨bx, 0, none⟩), .slice ap (gL i) kp] w (fun z => z = bx) (fun v R => v = .int .i64 0 ∧
      R = [.blk bx 46 (pkC i ⟨ac, n, kc, ctx⟩ true ((pkD i ctx s (fixB (gL i) (pkOwn s i wv x)) (fixB (gL i) y) (fixB (gL i) (pkSh s i wv x y)) (fixB (gL i) wv)).map v8) s x wv ⟨ao, gL i, ko, fixB (gL i) (pkOwn s i wv x)⟩)]) := by
  have hnd : nd 256 y ≤ gL i := gP_nd h0 h5 (memB_mem.1 hy).2.1
  have hgl := (gL_le i h0 h5).2
  have := xfin_fn bx i ⟨ac, n, kc, ctx⟩ zG s x wv y ⟨ao, gL i, ko, fixB (gL i) (pkOwn s i wv x)⟩ ⟨ap, gL i, kp, fixB (gL i) y⟩ w h0 h5 (by unfold zG; rfl) (hh.has (Has.append hX)) hy1 hy hx hw (el_at hk hh hG h0 h5 hX hrp hy) (fun t ht => ?_) (hT.to hk (hh.one hX)) (fun w2 hk2 => gt_at hG hk hh hX hk2)
  · unfold pkD
    cases s
    · exact this
    · exact this
  · simp only [List.mem_cons, List.not_mem_nil, or_false] at ht
    rcases ht with rfl | rfl | rfl
    · exact ⟨SlF.rowB hh hX hrc, hn, Row.cap hh (Has.append hrc), fun h => (Row.nil hh (Has.append hrc) h).1, by show n ≤ 10000; omega⟩
    · exact ⟨SlF.rowB hh hX hro, fixB_len _ _ (own_nd s i wv x h0 h5), Row.cap hh (Has.append hro), fun h => (Row.nil hh (Has.append hro) h).1, by show gL i ≤ 10000; omega⟩
    · exact ⟨SlF.rowB hh hX hrp, fixB_len _ _ hnd, Row.cap hh (Has.append hrp), fun h => (Row.nil hh (Has.append hrp) h).1, by show gL i ≤ 10000; omega⟩
theorem xfin_one {sx so : Bs} (hk : Keep No w0 w) (hh : Holds w0.heap.size No (L ++ X) w) (hG : GT w0) (h0 : 1 ≤ i) (h5 : i ≤ 4) (hGl : G.length = 32) (hX : Has L (.blk bx 46 (pkC i sx false G s x wv so)))
    (hrp : Has L (.row (.slice ap (gL i) kp) 5 1 (gL i) ((fixB (gL i) y).map v8))) (hy : memB (gP i) (gQ i) y = true) (hy1 : y = 1) :
    Sy.Fn Tryz.prog 10 [.pointer (some ⟨bx, 0, none⟩), .slice ap (gL i) kp] w No (Gives (.int .i64 6)) :=
  xfin_no bx i sx G s x wv y 0 so ⟨ap, gL i, kp, fixB (gL i) y⟩ w hGl (hh.has (Has.append hX)) (pk_W h0 h5 hy) (.inr hy1) (fun w2 hk2 => el_at hk hh hG h0 h5 hX hrp hy w2 (hk2.mono (fun _ h => h.elim)))
theorem xelem_at {sx : Bs} (hh : Holds w0.heap.size No (L ++ X) w) (hGl : G.length = 32) (hX : Has L (.blk bx 46 (pkC i sx d G s x wv ⟨ao, n, ko, l⟩))) (hro : Has L (.row (.slice ao n ko) 5 1 n (l.map v8))) (hl : l.length = n) (hb : n < 1000000) :
    Sy.Fn Tryz.prog 11 [.pointer (some ⟨bx, 0, none⟩)] w No (fun v R => ∃ a k, v = .slice a n k ∧ R = [.row (.slice a n k) 5 1 n (l.map v8)]) := by
  have hx : XIs bx i sx d G s x wv ⟨ao, n, ko, l⟩ w := hh.has (Has.append hX)
  exact xelement_fn bx (sideI s) ao n ko l w (side_ne s) (hx.c35 hGl) (hx.c68 hGl) hl (by omega) (row_sla hh (Has.append hro)) (fun h => (Row.nil hh (Has.append hro) h))
theorem xkey_at {sx so : Bs} {D : List UInt8} (hk : Keep No w0 w) (hh : Holds w0.heap.size No (L ++ X) w) (hT : Tab w0 No) (hD : D.length = 32) (hX : Has L (.blk bx 46 (pkC i sx true (D.map v8) s x wv so))) :
    Sy.Fn Tryz.prog 12 [.pointer (some ⟨bx, 0, none⟩)] w No (fun v R => ∃ a k, v = .tuple #[.slice a 32 k, .int .i64 0] ∧ R = [.row (.slice a 32 k) 5 1 32 ((pkDer D pkKey).map v8)]) := by
  have hx : XIs bx i sx true (D.map v8) s x wv so w := hh.has (Has.append hX)
  exact xkey_fn bx (sideI s) D w (side_ne s) (hx.c35 (by rw [List.length_map, hD])) hx.c2 hx.r3 hD (hT.no hk)
theorem xconf_at {sx so : Bs} {D : List UInt8} (hk : Keep No w0 w) (hh : Holds w0.heap.size No (L ++ X) w) (hT : Tab w0 No) (hD : D.length = 32) (hX : Has L (.blk bx 46 (pkC i sx true (D.map v8) s x wv so))) :
    Sy.Fn Tryz.prog 13 [.pointer (some ⟨bx, 0, none⟩)] w No (fun v R => ∃ a k, v = .tuple #[.slice a 32 k, .int .i64 0] ∧ R = [.row (.slice a 32 k) 5 1 32 ((pkDer D (pkName s)).map v8)]) := by
  have hx : XIs bx i sx true (D.map v8) s x wv so w := hh.has (Has.append hX)
  exact xconfirm_fn bx s D w (hx.c35 (by rw [List.length_map, hD])) hx.c2 hx.r3 hD (hT.no hk)
theorem der_len (D lab : List UInt8) : (pkDer D lab).length = 32 := by unfold pkDer; exact firstN_len _ (fun _ => by unfold dblock; exact hmac_len _ _) 32
theorem xver_at {sx so : Bs} {D : List UInt8} {s2 : Bool} (hk : Keep No w0 w) (hh : Holds w0.heap.size No (L ++ X) w) (hT : Tab w0 No) (hD : D.length = 32) (hX : Has L (.blk bx 46 (pkC i sx true (D.map v8) s x wv so)))
    (hrp : Has L (.row (.slice ap 32 kp) 5 1 32 ((pkDer D (pkName s2)).map v8))) :
    Sy.Fn Tryz.prog 14 [.pointer (some ⟨bx, 0, none⟩), .slice ap 32 kp] w No (Gives (.int .i64 (if pkDer D (pkName (!s)) = pkDer D (pkName s2) then 0 else 10))) := by
  have hx : XIs bx i sx true (D.map v8) s x wv so w := hh.has (Has.append hX)
  exact xverify_fn bx s D ap 32 kp (pkDer D (pkName s2)) w (hx.c35 (by rw [List.length_map, hD])) hx.c2 hx.r3 hD (hT.no hk) (der_len _ _) (by decide) (row_sla hh (Has.append hrp))
end
end Go.Proofs.YtaeddmcoanefhaaGreatDoor
end
