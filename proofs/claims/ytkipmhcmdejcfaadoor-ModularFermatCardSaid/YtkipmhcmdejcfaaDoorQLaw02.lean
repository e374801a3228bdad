/- The statements about layer modular: numbers made both ways, the chapter's examples. -/
import Derived.Test.YtkipmhcmdejcfaaDoorQMod5
import Derived.Test.YtkipmhcmdejcfaaDoorQMod6
import Derived.Test.YtkipmhcmdejcfaaDoorQRefM
set_option linter.all false
namespace Go.Sy
open Go
theorem Has.app_r {A L : List Res} {r : Res} (h : Has L r) : Has (A ++ L) r := List.mem_append_right _ h
end Go.Sy
namespace Go.Nt
open Go Go.Sy
theorem bev_128 {l : List UInt8} (h : l.length ≤ 128) : bev 256 (bn l) < 18446744073709551616 ^ 16 := by
  rw [w_of 256 8 128 rfl rfl]
  refine Nat.lt_of_lt_of_le (bev_lt 256 (bn l) (bn_lt l)) ?_
  rw [show (bn l).length = l.length from List.length_map _]
  exact Nat.pow_le_pow_right (by decide) h
theorem w64 : 18446744073709551616 ^ 16 = 65536 ^ 64 := w_of 65536 16 64 rfl rfl
theorem nd_w64 {x : Nat} (h : x < 18446744073709551616 ^ 16) : nd 65536 x ≤ 64 := nd_le _ _ _ (by decide) (by rw [← w64]; exact h)
end Go.Nt
namespace Go.Proofs.YtkipmhcmdejcfaaDoor
open Go Go.Sy Go.Nt Go.RowKit
attribute [local irreducible] Sy SyL SyX Sy.Fn callFunc natC rowN refC iC facsI
set_option maxRecDepth 10000
theorem number_fn (n : Nat) (w : World) (hn : n < 9223372036854775808) : Sy.Fn Tryd.prog 75 [.int .i64 (n : Int)] w No (Gives (natV n)) := by
  refine fn_enter Tryd.func75 rfl Tryd.ntmps75 (by simp) Holds.nil ?_
  have hln := natC_len n
  have h1 := fun w' => fromInt_fn n w' hn
  repeat' (first | refine sy_seqC ?_ | refine syl_nil ?_ | refine sy_if_t rfl ?_ | refine sy_if_f rfl ?_ | refine sy_block ?_ | refine sy_skip ?_ | refine sy_ret ?_ | refine sy_exit ?_ | refine sy_label ?_ | refine syx_then ?_ | refine syx_go ?_ | refine syx_then_ret ?_ | refine syx_then_exit ?_ | refine syx_in ?_ | refine syx_in_ret ?_ | refine syx_in_here ?_ | refine syx_in_past rfl ?_ | (apply syx_begin; (focus ((repeat (first | exact Rem.here | apply Rem.there)); done)); assumption) | (refine sy_region (id := 0) ?_; try (refine y_new ?_; intro _)) | (refine sy_region (id := 1) ?_; try refine y_move ?_; try refine yv (op_callV (hc := fun _ _ _ _ => (h1 _))) (k := ?_); try refine y_move ?_; try refine y_extract ?_; try refine y_extract ?_; try (refine y_new ?_; intro _); try refine yn (op_storeNat (n := n)) (k := ?_); try refine y_assign ?_) | (refine sy_region (id := 2) ?_; try refine yv (op_loads (B := natC n)) (k := ?_); try refine yn (op_storeNat (n := n)) (k := ?_)) | refine sy_region ?_ | fail)
  exact ret1 rfl (resCells (B := natC n) rfl (ty rfl) rfl (by repeat (first | exact Has.here | apply Has.there)) Seg.all (natC_len _).symm) SubR.nil ⟨rfl, rfl⟩
def cut128 (V : Nat) : Nat := if V < 18446744073709551616 ^ 16 then V else 0
theorem made2_fn (a : Option Addr) (len c : Nat) (bl : List UInt8) (w : World) (hl : bl.length = len) (hc : len ≤ c) (hb : SlA w a (bl.map v8)) (hx : len < 4611686018427387904) :
    Sy.Fn Tryd.prog 59 [.slice a len c] w No (Gives (natV (cut128 (bev 256 (bn bl))))) := by
  refine fn_enter Tryd.func59 rfl Tryd.ntmps59 (by simp) Holds.nil ?_
  have hfb := fun w' (hk : Keep No w w') => fromBytes_fn a len c bl w' hl hc (hb.to hk (fun _ h => .inr h)).sla (by omega)
  generalize bev 256 (bn bl) = V at *
  unfold cut128
  by_cases hV : V < 18446744073709551616 ^ 16
  · simp only [if_pos hV] at hfb ⊢
    have hlV := natC_len V
    repeat' (first | refine sy_seqC ?_ | refine syl_nil ?_ | refine sy_if_t rfl ?_ | refine sy_if_f rfl ?_ | refine sy_block ?_ | refine sy_skip ?_ | refine sy_ret ?_ | refine sy_exit ?_ | refine sy_label ?_ | refine syx_then ?_ | refine syx_go ?_ | refine syx_then_ret ?_ | refine syx_then_exit ?_ | refine syx_in ?_ | refine syx_in_ret ?_ | refine syx_in_here ?_ | refine syx_in_past rfl ?_ | (apply syx_begin; (focus ((repeat (first | exact Rem.here | apply Rem.there)); done)); assumption) | (refine sy_region (id := 0) ?_; try (refine y_new ?_; intro _)) | (refine sy_region (id := 1) ?_; try refine y_move ?_; try refine yv (op_callV (hc := fun w' _ hk _ => hfb w' hk)) (k := ?_); try refine y_move ?_; try refine y_extract ?_; try refine y_extract ?_; try (refine y_new ?_; intro _); try refine yn (op_storeNat (n := V)) (k := ?_); try refine y_assign ?_) | (refine sy_region (id := 2) ?_; try refine yv (op_loads (B := natC V)) (k := ?_); try refine yn (op_storeNat (n := V)) (k := ?_)) | refine sy_region ?_ | fail)
    exact ret1 rfl (resCells (B := natC V) rfl (ty rfl) rfl (by repeat (first | exact Has.here | apply Has.there)) Seg.all (natC_len _).symm) SubR.nil ⟨rfl, rfl⟩
  · simp only [if_neg hV] at hfb ⊢
    have hl0 := natC_len 0
    repeat' (first | refine sy_seqC ?_ | refine syl_nil ?_ | refine sy_if_t rfl ?_ | refine sy_if_f rfl ?_ | refine sy_block ?_ | refine sy_skip ?_ | refine sy_ret ?_ | refine sy_exit ?_ | refine sy_label ?_ | refine syx_then ?_ | refine syx_go ?_ | refine syx_then_ret ?_ | refine syx_then_exit ?_ | refine syx_in ?_ | refine syx_in_ret ?_ | refine syx_in_here ?_ | refine syx_in_past rfl ?_ | (apply syx_begin; (focus ((repeat (first | exact Rem.here | apply Rem.there)); done)); assumption) | (refine sy_region (id := 0) ?_; try (refine y_new ?_; intro _)) | (refine sy_region (id := 1) ?_; try refine y_move ?_; try refine yv (op_callV (hc := fun w' _ hk _ => hfb w' hk)) (k := ?_); try refine y_move ?_; try refine y_extract ?_; try refine y_extract ?_; try (refine y_new ?_; intro _); try refine yn (op_storeNat (n := 0)) (k := ?_); try refine y_assign ?_) | (refine sy_region (id := 2) ?_; try refine yv (op_loads (B := natC 0)) (k := ?_); try refine yn (op_storeNat (n := 0)) (k := ?_)) | refine sy_region ?_ | fail)
    exact ret1 rfl (resCells (B := natC 0) rfl (ty rfl) rfl (by repeat (first | exact Has.here | apply Has.there)) Seg.all (natC_len _).symm) SubR.nil ⟨rfl, rfl⟩
theorem same2_fn (x y : Nat) (a : Option Addr) (c : Nat) (w : World) (hx : x < 18446744073709551616 ^ 16) (hs : SlA w a (refC y)) (hy : nd 65536 y < 100000000) :
    Sy.Fn Tryd.prog 60 [natV x, .slice a (nd 65536 y) c] w No (Gives (.bool (decide (x = y)))) := by
  refine fn_enter Tryd.func60 rfl Tryd.ntmps60 (by simp) Holds.nil ?_
  have hlx := natC_len x
  have he : decide (byt x = byt y) = decide (x = y) := decide_eq_decide.2 ⟨byt_inj x y, fun h => by rw [h]⟩
  have hbx := fun w => bytes_fn x w hx
  have hby := fun w' (hk : Keep No w w') => rbytes_fn a c y w' (hs.to hk (fun _ h => .inr h)).sla hy
  have hlen := byt_len x
  have hlen' := byt_len y
  generalize byt x = lx at *
  generalize byt y = ly at *
  generalize nd 256 x = nx at *
  generalize nd 256 y = ny at *
  repeat' (first | refine sy_seqC ?_ | refine syl_nil ?_ | refine sy_if_t rfl ?_ | refine sy_if_f rfl ?_ | refine sy_block ?_ | refine sy_skip ?_ | refine sy_ret ?_ | refine sy_exit ?_ | refine sy_label ?_ | refine syx_then ?_ | refine syx_go ?_ | refine syx_then_ret ?_ | refine syx_then_exit ?_ | refine syx_in ?_ | refine syx_in_ret ?_ | refine syx_in_here ?_ | refine syx_in_past rfl ?_ | (apply syx_begin; (focus ((repeat (first | exact Rem.here | apply Rem.there)); done)); assumption) | (refine sy_region (id := 0) ?_; try (refine y_new ?_; intro _); try refine y_assign ?_) | fail)
  refine sy_drawA (id := 1) mixed ?_
  (refine sye_part 6 6 [[], [0], [0, 1], [], [0, 1, 3], [0, 1, 3, 4], [0, 1, 2, 3, 4, 5], [0, 1, 2, 3, 4, 5, 6]] [[], [], [], [], [], [], [], []] none rfl ?_ ?_ ?_; kernel_rfl; kernel_rfl; try refine dcE (fun _ _ => op_loads (B := natC x)) (k := ?_); try refine dh_0nE (h := ?_))
  refine dh_rE (R := fun _ v Nw => ∃ b, v = .slice (some ⟨b, 0, none⟩) nx nx ∧ Nw = [.blk b 5 (lx.map v8)]) (fun _ _ _ => rfl) (fun ρ hρ => OpT.mono (op_call0 (hc := fun w' X hk hh => hbx w')) fun v L' h => ?_) (h := ?_)
  · obtain ⟨R, rfl, b, rfl, rfl⟩ := h
    exact ⟨_, rfl, b, rfl, rfl⟩
  refine dcE (u := .string (str lx)) (fun ρ hρ => ?_) (k := ?_)
  · obtain ⟨⟨b, e1, e2⟩, -⟩ := hρ
    exact op_toStrD (l := lx) (n := nx) (hx := by show some (ρ 1).1 = _; rw [e1]) (hr := Rd.of (Reads.blk (T := 5) (by show Has ((ρ 1).2 ++ _) _; rw [e2]; exact Has.here) Seg.all)) (hn := hlen)
  (skip; try refine e_move ?_; try refine dh_0nE (h := ?_))
  refine dh_rE (R := fun _ => RowOf 5 ny (ly.map v8)) (fun _ _ _ => rfl) (fun ρ hρ => OpT.mono (op_call0 (hc := fun w' X hk hh => hby w' hk)) fun v L' h => ?_) (h := ?_)
  · obtain ⟨R, rfl, a1, c1, rfl, rfl⟩ := h
    exact ⟨_, rfl, a1, c1, rfl, rfl⟩
  refine dcE (u := .string (str ly)) (fun ρ hρ => ?_) (k := ?_)
  · obtain ⟨⟨a1, c1, e1, e2⟩, -⟩ := hρ
    rw [e1] at e2
    exact op_toStrD (l := ly) (n := ny) (hx := by show some (ρ 4).1 = _; rw [e1]) (hr := Rd.row (by show Has ((ρ 4).2 ++ _) _; rw [e2]; exact Has.here)) (hn := hlen')
  refine dh_0E (h := ?_)
  rintro ρ -
  (refine sya_list [[], [0], [0, 1], [], [0, 1, 3], [0, 1, 3, 4], [0, 1, 2, 3, 4, 5], [0, 1, 2, 3, 4, 5, 6]] ?_ ?_; kernel_rfl)
  refine SyL.weaken (fr' := [(7, .string (str lx)), (10, .string (str ly))]) (L' := []) ?_ (by (repeat' (first | exact Sub.nil | refine Sub.cons rfl ?_ ?_ | rfl))) SubR.nil
  repeat' (first | refine sy_seqC ?_ | refine syl_nil ?_ | refine sy_if_t rfl ?_ | refine sy_if_f rfl ?_ | refine sy_block ?_ | refine sy_skip ?_ | refine sy_ret ?_ | refine sy_exit ?_ | refine sy_label ?_ | refine syx_then ?_ | refine syx_go ?_ | refine syx_then_ret ?_ | refine syx_then_exit ?_ | refine syx_in ?_ | refine syx_in_ret ?_ | refine syx_in_here ?_ | refine syx_in_past rfl ?_ | (apply syx_begin; (focus ((repeat (first | exact Rem.here | apply Rem.there)); done)); assumption) | (refine sy_draw (id := 1) 6 [[], [0], [0, 1], [], [0, 1, 3], [0, 1, 3, 4], [0, 1, 2, 3, 4, 5], [0, 1, 2, 3, 4, 5, 6]] mixed ?_ ?_; kernel_rfl) | (refine syl_id ?_; first | refine yv (op_eqStr (a := lx) (b := ly) (hr := he)) (k := ?_) | refine y_assign ?_ | fail) | refine dh_0n ?_ | refine sy_region ?_ | fail)
  exact ret1 rfl (resTmp rfl) SubR.nil ⟨rfl, rfl⟩
theorem result_fn (x : Nat) (w : World) (hx : x ≤ 4611686018427387904) : Sy.Fn Tryd.prog 122 [natV x, .int .i64 0, .int .i64 (x : Int)] w No (Gives (.bool true)) := by
  refine fn_enter Tryd.func122 rfl Tryd.ntmps122 (by simp) Holds.nil ?_
  have hlx := natC_len x
  have h1 := fun w' => int_fn x w' hx
  have he : decide ((x : Int) = (x : Int)) = true := decide_eq_true rfl
  repeat' (first | refine sy_seqC ?_ | refine syl_nil ?_ | refine sy_if_t rfl ?_ | refine sy_if_f rfl ?_ | refine sy_block ?_ | refine sy_skip ?_ | refine sy_ret ?_ | refine sy_exit ?_ | refine sy_label ?_ | refine syx_then ?_ | refine syx_go ?_ | refine syx_then_ret ?_ | refine syx_then_exit ?_ | refine syx_in ?_ | refine syx_in_ret ?_ | refine syx_in_here ?_ | refine syx_in_past rfl ?_ | (apply syx_begin; (focus ((repeat (first | exact Rem.here | apply Rem.there)); done)); assumption) | (refine sy_region (id := 0) ?_; try (refine y_new ?_; intro _); try refine y_assign ?_) | (refine sy_region (id := 1) ?_; try refine yv (op_loads (B := natC x)) (k := ?_); try refine yv (op_callV (hc := fun _ _ _ _ => (h1 _))) (k := ?_); try refine y_move ?_; try refine y_extract ?_; try refine y_extract ?_; try refine y_assign ?_; try refine y_assign ?_) | (refine sy_region (id := 2) ?_; try refine y_move ?_; try refine y_move ?_; try refine yv (op_eql (hr := he)) (k := ?_); try refine y_move ?_; try refine y_move ?_; try refine y_eql ?_; try refine y_pick ?_; try refine y_move ?_; try refine y_move ?_; try refine y_eql ?_; try refine y_pick ?_; try refine y_assign ?_) | refine sy_region ?_ | fail)
  exact ret1 rfl (resTmp rfl) SubR.nil ⟨rfl, rfl⟩
theorem made128_fn (a : Option Addr) (len c : Nat) (bl : List UInt8) (w : World) (hl : bl.length = len) (hc : len ≤ c) (hb : SlA w a (bl.map v8)) (hx : len ≤ 128) :
    Sy.Fn Tryd.prog 59 [.slice a len c] w No (Gives (natV (bev 256 (bn bl)))) := by
  have h := made2_fn a len c bl w hl hc hb (by omega)
  unfold cut128 at h
  rwa [if_pos (bev_128 (by omega))] at h
end Go.Proofs.YtkipmhcmdejcfaaDoor
