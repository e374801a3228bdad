/- The statements about layer modular: numbers made both ways, the chapter's examples. -/
import Derived.Test.YtkipmhcmdejcfaaDoorRMod5
import Derived.Test.YtkipmhcmdejcfaaDoorRMod6
import Derived.Test.YtkipmhcmdejcfaaDoorRRefM
set_option linter.all false
namespace Go.Sy
open Go
end Go.Sy
namespace Go.Nt
open Go Go.Sy
theorem bev_128 {l : List UInt8} (h : l.length ≤ 128) : bev 256 (bn l) < 18446744073709551616 ^ 16 := by
  rw [w_of 256 8 128 rfl rfl]
  refine Nat.lt_of_lt_of_le (bev_lt 256 (bn l) (bn_lt l)) ?_
  rw [show (bn l).length = l.length from List.length_map _]
  exact Nat.pow_le_pow_right (by decide) h
end Go.Nt
namespace Go.Proofs.YtkipmhcmdejcfaaDoor
open Go Go.Sy Go.Nt Go.RowKit
attribute [local irreducible] Sy SyL SyX Sy.Fn callFunc natC rowN facsI
set_option maxRecDepth 10000
theorem wfI64 {z : Int} (h : (Lit.int .i64 z).wf = true) : -9223372036854775808 ≤ z ∧ z < 9223372036854775808 := by
  have h1 : IntKind.i64.min = -9223372036854775808 := rfl
  have h2 : IntKind.i64.max = 9223372036854775807 := rfl
  simp only [Lit.wf, Bool.and_eq_true, decide_eq_true_eq] at h
  omega
theorem number_fn (n : Nat) (w : World) (hn : n < 9223372036854775808) : Sy.Fn Tryd.prog 75 [.int .i64 (n : Int)] w No (Gives (natV n)) := by
  refine fn_enter Tryd.func75 rfl Tryd.ntmps75 (by simp) Holds.nil ?_
  have hln := natC_len n
  have h1 := fun w' => fromInt_fn n w' hn
  repeat' (first | refine sy_seqC ?_ | refine syl_nil ?_ | refine sy_if_t rfl ?_ | refine sy_if_f rfl ?_ | refine sy_block ?_ | refine sy_skip ?_ | refine sy_ret ?_ | refine sy_exit ?_ | refine sy_label ?_ | refine syx_then ?_ | refine syx_go ?_ | refine syx_then_ret ?_ | refine syx_then_exit ?_ | refine syx_in ?_ | refine syx_in_ret ?_ | refine syx_in_here ?_ | refine syx_in_past rfl ?_ | (apply syx_begin; (focus ((repeat (first | exact Rem.here | apply Rem.there)); done)); assumption) | (refine sy_region (id := 0) ?_; try (refine y_new ?_; intro _)) | (refine sy_region (id := 1) ?_; try refine y_move ?_; try refine yv (op_callV (hc := fun _ _ _ _ => (h1 _))) (k := ?_); try refine y_move ?_; try refine y_extract ?_; try refine y_extract ?_; try (refine y_new ?_; intro _); try refine yn (op_storeNat (n := n)) (k := ?_); try refine y_assign ?_) | (refine sy_region (id := 2) ?_; try refine yv (op_loads (B := natC n)) (k := ?_); try refine yn (op_storeNat (n := n)) (k := ?_)) | refine sy_region ?_ | fail)
  exact ret1 rfl (resCells (B := natC n) rfl (ty rfl) rfl (by repeat (first | exact Has.here | apply Has.there)) Seg.all (natC_len _).symm) SubR.nil ⟨rfl, rfl⟩
def cut128 (V : Nat) : Nat := if V < 18446744073709551616 ^ 16 then V else 0
theorem cut128_lt (V : Nat) : cut128 V < 18446744073709551616 ^ 16 := by
  unfold cut128
  by_cases h : V < 18446744073709551616 ^ 16
  · rw [if_pos h]; exact h
  · rw [if_neg h]; decide
theorem made2_fn (a : Option Addr) (len c : Nat) (bl : List UInt8) (w : World) (hl : bl.length = len) (hc : len ≤ c) (hb : SlA w a (bl.map v8)) (hx : len < 9223372036854775808) :
    Sy.Fn Tryd.prog 59 [.slice a len c] w No (Gives (natV (cut128 (bev 256 (bn bl))))) := by
  refine fn_enter Tryd.func59 rfl Tryd.ntmps59 (by simp) Holds.nil ?_
  have hfb := fun w' (hk : Keep No w w') => fromBytes_fn a len c bl w' hl hc (hb.to hk (fun _ h => .inr h)).sla (by omega)
  generalize bev 256 (bn bl) = V at *
  unfold cut128
  by_cases hV : V < 18446744073709551616 ^ 16
  · simp only [if_pos hV] at hfb ⊢
    have hlV := natC_len V
    repeat' (first | refine sy_seqC ?_ | refine syl_nil ?_ | refine sy_if_t rfl ?_ | refine sy_if_f rfl ?_ | refine sy_block ?_ | refine sy_skip ?_ | refine sy_ret ?_ | refine sy_exit ?_ | refine sy_label ?_ | refine syx_then ?_ | refine syx_go ?_ | refine syx_then_ret ?_ | refine syx_then_exit ?_ | refine syx_in ?_ | refine syx_in_ret ?_ | refine syx_in_here ?_ | refine syx_in_past rfl ?_ | (apply syx_begin; (focus ((repeat (first | exact Rem.here | apply Rem.there)); done)); assumption) | (refine sy_region (id := 0) ?_; try (refine y_new ?_; intro _)) | (refine sy_region (id := 1) ?_; try refine y_move ?_; try refine yv (op_callV (hc := fun w' _ hk _ => hfb w' hk)) (k := ?_); try refine y_move ?_; try refine y_extract ?_; try refine y_extract ?_; try (refine y_new ?_; intro _); try refine yn (op_storeNat (n := V)) (k := ?_); try refine y_assign ?_) | (refine sy_region (id := 2) ?_; try refine yv (op_loads (B := natC V)) (k := ?_); try refine yn (op_storeNat (n := V)) (k := ?_)) | refine sy_region ?_ | fail)
    exact ret1 rfl (resCells (B := natC V) rfl (ty rfl) rfl (by repeat (first | exact Has.here | apply Has.there)) Seg.all (natC_len _).symm) SubR.nil ⟨rfl, rfl⟩
  · simp only [if_neg hV] at hfb ⊢
    have hl0 := natC_len 0
    repeat' (first | refine sy_seqC ?_ | refine syl_nil ?_ | refine sy_if_t rfl ?_ | refine sy_if_f rfl ?_ | refine sy_block ?_ | refine sy_skip ?_ | refine sy_ret ?_ | refine sy_exit ?_ | refine sy_label ?_ | refine syx_then ?_ | refine syx_go ?_ | refine syx_then_ret ?_ | refine syx_then_exit ?_ | refine syx_in ?_ | refine syx_in_ret ?_ | refine syx_in_here ?_ | refine syx_in_past rfl ?_ | (apply syx_begin; (focus ((repeat (first | exact Rem.here | apply Rem.there)); done)); assumption) | (refine sy_region (id := 0) ?_; try (refine y_new ?_; intro _)) | (refine sy_region (id := 1) ?_; try refine y_move ?_; try refine yv (op_callV (hc := fun w' _ hk _ => hfb w' hk)) (k := ?_); try refine y_move ?_; try refine y_extract ?_; try refine y_extract ?_; try (refine y_new ?_; intro _); try refine yn (op_storeNat (n := 0)) (k := ?_); try refine y_assign ?_) | (refine sy_region (id := 2) ?_; try refine yv (op_loads (B := natC 0)) (k := ?_); try refine yn (op_storeNat (n := 0)) (k := ?_)) | refine sy_region ?_ | fail)
    exact ret1 rfl (resCells (B := natC 0) rfl (ty rfl) rfl (by repeat (first | exact Has.here | apply Has.there)) Seg.all (natC_len _).symm) SubR.nil ⟨rfl, rfl⟩
theorem result_fn (x : Nat) (w : World) (hx : x ≤ 4611686018427387904) : Sy.Fn Tryd.prog 122 [natV x, .int .i64 0, .int .i64 (x : Int)] w No (Gives (.bool true)) := by
  refine fn_enter Tryd.func122 rfl Tryd.ntmps122 (by simp) Holds.nil ?_
  have hlx := natC_len x
  have h1 := fun w' => int_fn x w' hx
  have he : decide ((x : Int) = (x : Int)) = true := decide_eq_true rfl
  repeat' (first | refine sy_seqC ?_ | refine syl_nil ?_ | refine sy_if_t rfl ?_ | refine sy_if_f rfl ?_ | refine sy_block ?_ | refine sy_skip ?_ | refine sy_ret ?_ | refine sy_exit ?_ | refine sy_label ?_ | refine syx_then ?_ | refine syx_go ?_ | refine syx_then_ret ?_ | refine syx_then_exit ?_ | refine syx_in ?_ | refine syx_in_ret ?_ | refine syx_in_here ?_ | refine syx_in_past rfl ?_ | (apply syx_begin; (focus ((repeat (first | exact Rem.here | apply Rem.there)); done)); assumption) | (refine sy_region (id := 0) ?_; try (refine y_new ?_; intro _); try refine y_assign ?_) | (refine sy_region (id := 1) ?_; try refine yv (op_loads (B := natC x)) (k := ?_); try refine yv (op_callV (hc := fun _ _ _ _ => (h1 _))) (k := ?_); try refine y_move ?_; try refine y_extract ?_; try refine y_extract ?_; try refine y_assign ?_; try refine y_assign ?_) | (refine sy_region (id := 2) ?_; try refine y_move ?_; try refine y_move ?_; try refine yv (op_eql (hr := he)) (k := ?_); try refine y_move ?_; try refine y_move ?_; try refine y_eql ?_; try refine y_pick ?_; try refine y_move ?_; try refine y_move ?_; try refine y_eql ?_; try refine y_pick ?_; try refine y_assign ?_) | refine sy_region ?_ | fail)
  exact ret1 rfl (resTmp rfl) SubR.nil ⟨rfl, rfl⟩
theorem made128_fn (a : Option Addr) (len c : Nat) (bl : List UInt8) (w : World) (hl : bl.length = len) (hc : len ≤ c) (hb : SlA w a (bl.map v8)) (hx : len ≤ 128) :
    Sy.Fn Tryd.prog 59 [.slice a len c] w No (Gives (natV (bev 256 (bn bl)))) := by
  have h := made2_fn a len c bl w hl hc hb (by omega)
  unfold cut128 at h
  rwa [if_pos (bev_128 (by omega))] at h
end Go.Proofs.YtkipmhcmdejcfaaDoor
