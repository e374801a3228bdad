/- The specification of primes, walked. -/
import Derived.Test.YtkipmhcmdejcfaaDoorRMod6
set_option linter.all false
namespace Go.Nt
theorem pr_iff {d v : Nat} (h : Cl d v) (hs : v < d * d) : Pr v ↔ 2 ≤ v := ⟨fun x => x.1, fun h2 => pr_end h2 h hs⟩
theorem facs_len (p r : Nat) (hp : 2 ≤ p) : (facs p r).length ≤ r + 1 - p + 1 := by
  by_cases h2 : 2 ≤ r
  · by_cases hs : r < p * p
    · rw [facs_end hp h2 hs, List.length_singleton]; omega
    · rw [facs_more hp h2 (by omega), List.length_append]
      have h1 := facs_len (p + 1) (strip p r).2 (by omega)
      have h3 := (strip_ok p hp r (by omega)).2.1
      have h4 : p * 1 ≤ p * p := Nat.mul_le_mul_left p (by omega)
      have h5 : (if 0 < (strip p r).1 then [(p, (strip p r).1)] else []).length ≤ 1 := by split <;> simp
      omega
  · rw [facs_one p r (by omega)]; exact Nat.zero_le _
termination_by r + 1 - p
decreasing_by
  have h1 := (strip_ok p hp r (by omega)).2.1
  have h2 : p * 1 ≤ p * p := Nat.mul_le_mul_left p (by omega)
  omega
end Go.Nt
namespace Go.Proofs.YtkipmhcmdejcfaaDoor
open Go Go.Sy Go.Nt Go.RowKit
attribute [local irreducible] Sy SyL SyX Sy.Fn callFunc facsI
set_option maxRecDepth 10000
theorem qprime_fn (v : Nat) (b : Bool) (w : World) (hv : v < 4294967296) (hb : b = true ↔ Pr v) :
    Sy.Fn Tryd.prog 68 [.int .i64 (v : Int)] w No (Gives (.bool b)) := by
  refine fn_enter Tryd.func68 rfl Tryd.ntmps68 (by simp) Holds.nil ?_
  repeat' (first | refine sy_seqC ?_ | refine syl_nil ?_ | refine sy_if_t rfl ?_ | refine sy_if_f rfl ?_ | refine sy_block ?_ | refine sy_skip ?_ | refine sy_ret ?_ | refine sy_exit ?_ | refine sy_label ?_ | refine syx_then ?_ | refine syx_go ?_ | refine syx_then_ret ?_ | refine syx_then_exit ?_ | refine syx_in ?_ | refine syx_in_ret ?_ | refine syx_in_here ?_ | refine syx_in_past rfl ?_ | (apply syx_begin; (focus ((repeat (first | exact Rem.here | apply Rem.there)); done)); assumption) | (refine sy_region (id := 0) ?_; try refine y_assign ?_) | (refine sy_region (id := 1) ?_; try refine y_assign ?_) | (refine syl_id ?_; first | refine y_assign ?_ | fail) | fail)
  refine sy_loop (γ := Nat) (fun d => [(0, .int .i64 (v : Int)), (3, .int .i64 (d : Int))]) (fun _ => []) (fun d => 2 ≤ d ∧ d ≤ 65536 ∧ Cl d v) (fun d => v + 2 - d) 2 ⟨Nat.le_refl 2, (by decide : 2 ≤ 65536), cl_two v⟩ ?_ ?_ ?_
  · (repeat' (first | exact Sub.nil | refine Sub.cons rfl ?_ ?_ | rfl))
  · exact SubR.nil
  rintro d ⟨h1, h2, h3⟩
  have hdd : d * d ≤ 65536 * 65536 := Nat.mul_le_mul h2 h2
  have hmul : IntKind.i64.wrap ((d : Int) * (d : Int)) = ((d * d : Nat) : Int) := by
    rw [← Int.natCast_mul, IntWalk.i64_in _ (by omega)]
  by_cases hs : v < d * d
  · have hle : decide (((d * d : Nat) : Int) ≤ (v : Int)) = false := decide_eq_false (by omega)
    have hge : decide ((v : Int) ≥ 2) = b := by
      have hi := pr_iff h3 hs
      cases b with
      | true => exact decide_eq_true (by have := hi.1 (hb.1 rfl); omega)
      | false => exact decide_eq_false (fun h => by have := hb.2 (hi.2 (by omega)); cases this)
    repeat' (first | refine sy_seqC ?_ | refine syl_nil ?_ | refine sy_if_t rfl ?_ | refine sy_if_f rfl ?_ | refine sy_block ?_ | refine sy_skip ?_ | refine sy_ret ?_ | refine sy_exit ?_ | refine sy_label ?_ | refine syx_then ?_ | refine syx_go ?_ | refine syx_then_ret ?_ | refine syx_then_exit ?_ | refine syx_in ?_ | refine syx_in_ret ?_ | refine syx_in_here ?_ | refine syx_in_past rfl ?_ | (apply syx_begin; (focus ((repeat (first | exact Rem.here | apply Rem.there)); done)); assumption) | (refine sy_region (id := 2) ?_; try refine y_move ?_; try refine y_move ?_; try (first | refine yv (op_mul (hr := hmul)) (k := ?_) | refine y_mul ?_ | fail); try refine y_move ?_; try (first | refine yv (op_leq (hr := hle)) (k := ?_) | refine y_leq ?_ | fail)) | (refine sy_region (id := 6) ?_; try refine y_move ?_; try (first | refine yv (op_geq (hr := hge)) (k := ?_) | refine y_geq ?_ | fail); try refine y_assign ?_) | (refine syl_id ?_; first | refine yv (op_mul (hr := hmul)) (k := ?_) | refine yv (op_leq (hr := hle)) (k := ?_) | refine yv (op_geq (hr := hge)) (k := ?_) | refine y_assign ?_ | refine y_geq ?_ | refine y_leq ?_ | refine y_mul ?_ | refine y_move ?_ | fail) | refine sy_region ?_ | fail)
    exact ret1 rfl (resTmp rfl) SubR.nil ⟨rfl, rfl⟩
  · have hle : decide (((d * d : Nat) : Int) ≤ (v : Int)) = true := decide_eq_true (by omega)
    have hdv : d ≤ v := by
      have := Nat.mul_le_mul_left d (show 1 ≤ d by omega)
      omega
    have hd65 : d < 65536 := by
      rcases Nat.lt_or_ge d 65536 with h | h
      · exact h
      · have := Nat.mul_le_mul h h; omega
    have hrem : (v : Int).tmod (d : Int) = ((v % d : Nat) : Int) := remI v d
    have hadd : IntKind.i64.wrap ((d : Int) + 1) = ((d + 1 : Nat) : Int) := by rw [IntWalk.i64_in _ (by omega)]; omega
    by_cases hm : v % d = 0
    · have heq : decide (((v % d : Nat) : Int) = 0) = true := decide_eq_true (by omega)
      have hbf : b = false := by
        cases b with
        | false => rfl
        | true => exact absurd hm ((hb.1 rfl).2 d h1 (by omega))
      subst hbf
      repeat' (first | refine sy_seqC ?_ | refine syl_nil ?_ | refine sy_if_t rfl ?_ | refine sy_if_f rfl ?_ | refine sy_block ?_ | refine sy_skip ?_ | refine sy_ret ?_ | refine sy_exit ?_ | refine sy_label ?_ | refine syx_then ?_ | refine syx_go ?_ | refine syx_then_ret ?_ | refine syx_then_exit ?_ | refine syx_in ?_ | refine syx_in_ret ?_ | refine syx_in_here ?_ | refine syx_in_past rfl ?_ | (apply syx_begin; (focus ((repeat (first | exact Rem.here | apply Rem.there)); done)); assumption) | (refine sy_region (id := 2) ?_; try refine y_move ?_; try refine y_move ?_; try (first | refine yv (op_mul (hr := hmul)) (k := ?_) | refine y_mul ?_ | fail); try refine y_move ?_; try (first | refine yv (op_leq (hr := hle)) (k := ?_) | refine y_leq ?_ | fail)) | (refine sy_region (id := 4) ?_; try refine y_move ?_; try refine y_move ?_; try (first | refine yv (op_rem (hr := hrem)) (k := ?_) | refine y_rem ?_ | fail); try (first | refine yv (op_eql (hr := heq)) (k := ?_) | refine y_eql ?_ | fail)) | (refine sy_region (id := 5) ?_; try refine y_assign ?_) | (refine syl_id ?_; first | refine yv (op_mul (hr := hmul)) (k := ?_) | refine yv (op_leq (hr := hle)) (k := ?_) | refine yv (op_rem (hr := hrem)) (k := ?_) | refine yv (op_eql (hr := heq)) (k := ?_) | refine y_assign ?_ | refine y_eql ?_ | refine y_leq ?_ | refine y_mul ?_ | refine y_rem ?_ | refine y_move ?_ | fail) | refine sy_region ?_ | fail)
      exact ret1 rfl (resTmp rfl) SubR.nil ⟨rfl, rfl⟩
    · have heq : decide (((v % d : Nat) : Int) = 0) = false := decide_eq_false (by omega)
      have hn := cl_next h3 hm
      repeat' (first | refine sy_seqC ?_ | refine syl_nil ?_ | refine sy_if_t rfl ?_ | refine sy_if_f rfl ?_ | refine sy_block ?_ | refine sy_skip ?_ | refine sy_ret ?_ | refine sy_exit ?_ | refine sy_label ?_ | refine syx_then ?_ | refine syx_go ?_ | refine syx_then_ret ?_ | refine syx_then_exit ?_ | refine syx_in ?_ | refine syx_in_ret ?_ | refine syx_in_here ?_ | refine syx_in_past rfl ?_ | (apply syx_begin; (focus ((repeat (first | exact Rem.here | apply Rem.there)); done)); assumption) | (refine sy_region (id := 2) ?_; try refine y_move ?_; try refine y_move ?_; try (first | refine yv (op_mul (hr := hmul)) (k := ?_) | refine y_mul ?_ | fail); try refine y_move ?_; try (first | refine yv (op_leq (hr := hle)) (k := ?_) | refine y_leq ?_ | fail)) | (refine sy_region (id := 4) ?_; try refine y_move ?_; try refine y_move ?_; try (first | refine yv (op_rem (hr := hrem)) (k := ?_) | refine y_rem ?_ | fail); try (first | refine yv (op_eql (hr := heq)) (k := ?_) | refine y_eql ?_ | fail)) | (refine sy_region (id := 3) ?_; try refine y_move ?_; try (first | refine yv (op_add (hr := hadd)) (k := ?_) | refine y_add ?_ | fail); try refine y_assign ?_) | (refine syl_id ?_; first | refine yv (op_mul (hr := hmul)) (k := ?_) | refine yv (op_leq (hr := hle)) (k := ?_) | refine yv (op_rem (hr := hrem)) (k := ?_) | refine yv (op_eql (hr := heq)) (k := ?_) | refine yv (op_add (hr := hadd)) (k := ?_) | refine y_assign ?_ | refine y_add ?_ | refine y_eql ?_ | refine y_leq ?_ | refine y_mul ?_ | refine y_rem ?_ | refine y_move ?_ | fail) | refine sy_region ?_ | fail)
      refine syx_back (d + 1) ⟨by show 2 ≤ d + 1; omega, by show d + 1 ≤ 65536; omega, hn⟩ ?_ ?_ ?_
      · show v + 2 - (d + 1) < v + 2 - d; omega
      · (repeat' (first | exact Sub.nil | refine Sub.cons rfl ?_ ?_ | rfl))
      · exact SubR.nil
end Go.Proofs.YtkipmhcmdejcfaaDoor
