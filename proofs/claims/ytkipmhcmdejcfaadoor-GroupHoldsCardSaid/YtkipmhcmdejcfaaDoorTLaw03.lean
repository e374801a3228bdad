/- The statements about layer group: numbers made both ways, results, errors. -/
import Derived.Test.YtkipmhcmdejcfaaDoorTRef03
import Derived.Test.YtkipmhcmdejcfaaDoorTGrp4
set_option linter.all false
namespace Go.Nt
open Go Go.Sy
end Go.Nt
namespace Go.Sy
open Go
section
variable {P : Program} {ro : Option Nat} {N : Nat} {w0 : World} {M : Nat → Prop} {ds : List Deferred} {fr : Fr} {L : List Res}
end
end Go.Sy
namespace Go.Proofs.YtkipmhcmdejcfaaDoor
open Go Go.Sy Go.Nt Go.RowKit
attribute [local irreducible] Sy SyL SyX Sy.Fn callFunc natC rowN gP gQ gL memB safeC
set_option maxRecDepth 10000
theorem number3_fn (n : Nat) (w : World) (hn : n < 9223372036854775808) : Sy.Fn Tryd.prog 98 [.int .i64 (n : Int)] w No (Gives (natV n)) := by
  refine fn_enter Tryd.func98 rfl Tryd.ntmps98 (by simp) Holds.nil ?_
  have hln := natC_len n
  have h1 := fun w' => fromInt_fn n w' hn
  repeat' (first | refine sy_seqC ?_ | refine syl_nil ?_ | refine sy_if_t rfl ?_ | refine sy_if_f rfl ?_ | refine sy_block ?_ | refine sy_skip ?_ | refine sy_ret ?_ | refine sy_exit ?_ | refine sy_label ?_ | refine syx_then ?_ | refine syx_go ?_ | refine syx_then_ret ?_ | refine syx_then_exit ?_ | refine syx_in ?_ | refine syx_in_ret ?_ | refine syx_in_here ?_ | refine syx_in_past rfl ?_ | (apply syx_begin; (focus ((repeat (first | exact Rem.here | apply Rem.there)); done)); assumption) | (refine sy_region (id := 0) ?_; try (refine y_new ?_; intro _)) | (refine sy_region (id := 1) ?_; try refine y_move ?_; try refine yv (op_callV (hc := fun _ _ _ _ => (h1 _))) (k := ?_); try refine y_move ?_; try refine y_extract ?_; try refine y_extract ?_; try (refine y_new ?_; intro _); try refine yn (op_storeNat (n := n)) (k := ?_); try refine y_assign ?_) | (refine sy_region (id := 2) ?_; try refine yv (op_loads (B := natC n)) (k := ?_); try refine yn (op_storeNat (n := n)) (k := ?_)) | refine sy_region ?_ | fail)
  exact ret1 rfl (resCells (B := natC n) rfl (ty rfl) rfl (by repeat (first | exact Has.here | apply Has.there)) Seg.all (natC_len _).symm) SubR.nil ⟨rfl, rfl⟩
end Go.Proofs.YtkipmhcmdejcfaaDoor
