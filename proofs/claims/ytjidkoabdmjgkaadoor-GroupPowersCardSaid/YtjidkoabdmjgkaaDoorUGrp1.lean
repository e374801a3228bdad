/- The groups: their primes out of the program's table; elements, scalars, powers. -/
import Derived.Test.YtjidkoabdmjgkaaDoorUGrPlain
import Derived.Test.YtjidkoabdmjgkaaDoorUMod5
import Derived.Test.YtjidkoabdmjgkaaDoorUNat16
set_option linter.all false
namespace Go.Nt
open Go Go.Sy
def gS : Nat → List UInt8
  | 1 => [98, 51, 102]
  | 2 => [52, 52, 56, 53, 56, 102, 102]
  | 3 => [57, 49, 98, 56, 56, 55, 102, 102]
  | _ => [102, 102, 102, 102, 102, 102, 102, 102, 102, 102, 102, 102, 102, 102, 102, 102, 99, 57, 48, 102, 100, 97, 97, 50, 50, 49, 54, 56, 99, 50, 51, 52, 99, 52, 99, 54, 54, 50, 56, 98, 56, 48, 100, 99, 49, 99, 100, 49, 50, 57, 48, 50, 52, 101, 48, 56, 56, 97, 54, 55, 99, 99, 55, 52, 48, 50, 48, 98, 98, 101, 97, 54, 51, 98, 49, 51, 57, 98, 50, 50, 53, 49, 52, 97, 48, 56, 55, 57, 56, 101, 51, 52, 48, 52, 100, 100, 101, 102, 57, 53, 49, 57, 98, 51, 99, 100, 51, 97, 52, 51, 49, 98, 51, 48, 50, 98, 48, 97, 54, 100, 102, 50, 53, 102, 49, 52, 51, 55, 52, 102, 101, 49, 51, 53, 54, 100, 54, 100, 53, 49, 99, 50, 52, 53, 101, 52, 56, 53, 98, 53, 55, 54, 54, 50, 53, 101, 55, 101, 99, 54, 102, 52, 52, 99, 52, 50, 101, 57, 97, 54, 51, 97, 51, 54, 50, 48, 102, 102, 102, 102, 102, 102, 102, 102, 102, 102, 102, 102, 102, 102, 102, 102]
theorem parse_gS (i : Nat) (h0 : 1 ≤ i) (h5 : i ≤ 4) : parse (gS i) = some (gP i) :=
  gP_cases (p := fun i => parse (gS i) = some (gP i)) (by decide +kernel) (by decide +kernel) (by decide +kernel) (by decide +kernel) i h0 h5
theorem gS_len (i : Nat) (h0 : 1 ≤ i) (h5 : i ≤ 4) : (gS i).length ≤ 192 :=
  gP_cases (p := fun i => (gS i).length ≤ 192) (by decide +kernel) (by decide +kernel) (by decide +kernel) (by decide +kernel) i h0 h5
theorem gQ_shr (i : Nat) : gP i / 2 ^ 1 = gQ i := rfl
def gCells : List Value := [.string (str (gS 1)), .string (str (gS 2)), .string (str (gS 3)), .string (str (gS 4))]
theorem gCells_get (i : Nat) (h0 : 1 ≤ i) (h5 : i ≤ 4) : gCells[i - 1]? = some (.string (str (gS i))) :=
  gP_cases (p := fun i => gCells[i - 1]? = some (.string (str (gS i)))) rfl rfl rfl rfl i h0 h5
theorem gL_le (i : Nat) (h0 : 1 ≤ i) (h5 : i ≤ 4) : 1 ≤ gL i ∧ gL i ≤ 96 :=
  gP_cases (p := fun i => 1 ≤ gL i ∧ gL i ≤ 96) (by decide) (by decide) (by decide) (by decide) i h0 h5
theorem gP_W (i : Nat) (h0 : 1 ≤ i) (h5 : i ≤ 4) : gP i < 18446744073709551616 ^ 16 := by
  rw [w_of 256 8 128 rfl rfl]
  have h := nd_lt 256 (gP i) (by decide)
  rw [gP_len i h0 h5] at h
  exact Nat.lt_of_lt_of_le h (Nat.pow_le_pow_right (by decide) (by have := (gL_le i h0 h5).2; omega))
theorem gQ_W (i : Nat) (h0 : 1 ≤ i) (h5 : i ≤ 4) : gQ i < 18446744073709551616 ^ 16 := Nat.lt_of_le_of_lt (Nat.div_le_self _ _) (gP_W i h0 h5)
def safeC (p q l : Nat) : List Value := natC p ++ (natC q ++ [.int .i64 l])
theorem safeC_len (p q l : Nat) : (safeC p q l).length = 33 := by
  unfold safeC; rw [List.length_append, List.length_append, natC_len, natC_len]; rfl
theorem safeC_one (p q l : Nat) : (safeC p q l).all (·.oneCell') = true := by
  unfold safeC; rw [List.all_append, List.all_append, natC_one, natC_one]; rfl
theorem safe_p (p q l : Nat) : Seg (safeC p q l) 0 (natC p) := by
  have := Seg.mid (A := []) (B := natC p) (D := natC q ++ [Value.int .i64 l])
  rw [List.nil_append] at this
  exact this
theorem safe_q (p q l : Nat) : Seg (safeC p q l) 16 (natC q) := by
  have := Seg.mid (A := natC p) (B := natC q) (D := [Value.int .i64 l])
  rw [natC_len, List.append_assoc] at this
  exact this
theorem safe_l (p q l : Nat) : (safeC p q l)[32]? = some (.int .i64 (l : Int)) := by
  unfold safeC
  rw [List.getElem?_append_right (by rw [natC_len]; decide), List.getElem?_append_right (by rw [natC_len, natC_len]; decide), natC_len, natC_len]; rfl
theorem fill_safe (p q l : Nat) : FillTo (nth [(0, 16), (16, 16), (32, 1)]) [(0, natV p), (1, natV q), (2, Value.int .i64 l)] (List.replicate 32 (Value.int IntKind.u64 0) ++ [.int .i64 0]) (safeC p q l) := by
  have hz : List.replicate 32 (Value.int IntKind.u64 0) = List.replicate 16 (Value.int IntKind.u64 0) ++ List.replicate 16 (Value.int IntKind.u64 0) := rfl
  have s1 : setSeg (List.replicate 32 (Value.int IntKind.u64 0) ++ [.int .i64 0]) 0 (natC p) = natC p ++ (List.replicate 16 (Value.int IntKind.u64 0) ++ [.int .i64 0]) := by
    unfold setSeg
    rw [natC_len, hz]; simp
  have s2 : setSeg (natC p ++ (List.replicate 16 (Value.int IntKind.u64 0) ++ [.int .i64 0])) 16 (natC q) = natC p ++ (natC q ++ [.int .i64 0]) := by
    unfold setSeg
    rw [natC_len, List.take_append_of_le_length (by rw [natC_len]; decide), List.take_of_length_le (by rw [natC_len]; decide), List.drop_append, natC_len, List.drop_of_length_le (by rw [natC_len]; decide)]; simp
  have s3 : setSeg (natC p ++ (natC q ++ [.int .i64 0])) 32 [Value.int .i64 (l : Int)] = safeC p q l := by
    have e : natC p ++ (natC q ++ [Value.int .i64 0]) = (natC p ++ natC q) ++ [Value.int .i64 0] := by rw [List.append_assoc]
    have hl : (natC p ++ natC q).length = 32 := by rw [List.length_append, natC_len, natC_len]
    unfold setSeg safeC
    rw [e, List.take_append_of_le_length (by rw [hl]; decide), List.take_of_length_le (by rw [hl]; decide), List.drop_of_length_le (by rw [List.length_append, hl]; exact Nat.le_refl _)]; simp
  refine .cons (cs := natC p) rfl rfl (natC_len p) (by simp) ?_
  rw [s1]
  refine .cons (cs := natC q) rfl rfl (natC_len q) (by simp [natC_len]) ?_
  rw [s2]
  refine .cons (cs := [.int .i64 l]) rfl rfl rfl (by simp [natC_len]) ?_
  rw [s3]
  exact .nil
theorem safe_zero : List.replicate 32 (Value.int IntKind.u64 0) ++ [Value.int .i64 0] = safeC 0 0 0 := by
  unfold safeC natC
  rw [dg_zero, List.map_replicate]; rfl
end Go.Nt
namespace Go.Proofs.YtjidkoabdmjgkaaDoor
open Go Go.Sy Go.Nt Go.RowKit
def safeV (p q l : Nat) : Value := .agg (safeC p q l).toArray
def GT (w : World) : Prop := w.rangeAt 0 0 gCells
theorem GT.to {w w' : World} (h : GT w) (hk : Keep No w w') : GT w' := range_keep h hk (fun h => h)
section
variable {ro : Option Nat} {N : Nat} {w0 : World} {M : Nat → Prop} {ds : List Deferred} {g : Nat → Option Value} {L : List Res} {o : Oper} {z z' z'' : Operand}
theorem op_buildSafe {p q l : Nat} (ho : o.op = .build 65 #[(0, z), (1, z'), (2, z'')] := by exact rfl) (hz : ev g z = some (natV p) := by exact rfl) (hz' : ev g z' = some (natV q) := by exact rfl) (hz'' : ev g z'' = some (.int .i64 (l : Int)) := by exact rfl) : OpT Tryd.prog ro N w0 M ds o g L (Det (safeV p q l) L) :=
  op_buildP (parts := #[(0, z), (1, z'), (2, z'')]) (vs := [natV p, natV q, .int .i64 l]) (C := safeC p q l) (fill_safe p q l) ho (by simp [evs, hz, hz', hz'']) (ty rfl) rfl rfl (zc rfl)
theorem op_zeroSafe (ho : o.op = .build 65 #[] := by exact rfl) : OpT Tryd.prog ro N w0 M ds o g L (Det (safeV 0 0 0) L) := by
  unfold safeV; rw [← safe_zero]
  exact op_build0 ho (ty rfl) (.inl ⟨rfl, rfl⟩) (zc rfl)
end
attribute [local irreducible] Sy SyL SyX Sy.Fn callFunc natC rowN safeC gP gQ gL gS gCells
set_option maxRecDepth 10000
theorem find_bad (z : Int) (w : World) (hz : ¬ (1 ≤ z ∧ z ≤ 4)) : Sy.Fn Tryd.prog 39 [.int .i64 z] w No (Gives (.tuple #[safeV 0 0 0, .int .i64 2])) := by
  refine fn_enter Tryd.func39 rfl Tryd.ntmps39 (by simp) Holds.nil ?_
  have hl := safeC_len 0 0 0
  by_cases h : z < 1
  · have g1 : decide (z < 1) = true := decide_eq_true h
    repeat' (first | refine sy_seqC ?_ | refine syl_nil ?_ | refine sy_if_t rfl ?_ | refine sy_ret ?_ | refine syx_then ?_ | refine syx_go ?_ | refine syx_then_ret ?_ | (refine sy_region (id := 0) ?_; (refine y_new ?_; intro _); refine y_assign ?_) | (refine sy_region (id := 1) ?_; refine y_move ?_; refine yv (op_lss (hr := g1)) (k := ?_); refine y_move ?_; refine syl_skip rfl rfl rfl ?_; refine syl_skip rfl rfl rfl ?_; refine y_pick ?_) | (refine sy_region (id := 2) ?_; refine yv op_zeroSafe (k := ?_); refine yn (op_storesAll (B := safeC 0 0 0) (hv := safeC_one 0 0 0) (h1 := (safeC_len 0 0 0).symm)) (k := ?_); refine y_assign ?_) | fail)
    exact ret2 rfl (resCells (B := safeC 0 0 0) rfl (ty rfl) rfl Has.go Seg.all (safeC_len _ _ _).symm) (resTmp rfl) SubR.nil ⟨rfl, rfl⟩
  · have g1 : decide (z < 1) = false := decide_eq_false h
    have g2 : decide (z > 4) = true := decide_eq_true (by omega)
    repeat' (first | refine sy_seqC ?_ | refine syl_nil ?_ | refine sy_if_t rfl ?_ | refine sy_ret ?_ | refine syx_then ?_ | refine syx_go ?_ | refine syx_then_ret ?_ | (refine sy_region (id := 0) ?_; (refine y_new ?_; intro _); refine y_assign ?_) | (refine sy_region (id := 1) ?_; refine y_move ?_; refine yv (op_lss (hr := g1)) (k := ?_); refine y_move ?_; refine y_move ?_; refine yv (op_gtr (hr := g2)) (k := ?_); refine y_pick ?_) | (refine sy_region (id := 2) ?_; refine yv op_zeroSafe (k := ?_); refine yn (op_storesAll (B := safeC 0 0 0) (hv := safeC_one 0 0 0) (h1 := (safeC_len 0 0 0).symm)) (k := ?_); refine y_assign ?_) | fail)
    exact ret2 rfl (resCells (B := safeC 0 0 0) rfl (ty rfl) rfl Has.go Seg.all (safeC_len _ _ _).symm) (resTmp rfl) SubR.nil ⟨rfl, rfl⟩
theorem find_fn (i : Nat) (w : World) (h0 : 1 ≤ i) (h5 : i ≤ 4) (hG : GT w) : Sy.Fn Tryd.prog 39 [.int .i64 (i : Int)] w No (Gives (.tuple #[safeV (gP i) (gQ i) (gL i), .int .i64 0])) := by
  refine fn_enter Tryd.func39 rfl Tryd.ntmps39 (by simp) Holds.nil ?_
  have g1 : decide ((i : Int) < 1) = false := decide_eq_false (by omega)
  have g2 : decide ((i : Int) > 4) = false := decide_eq_false (by omega)
  have g3 : IntKind.i64.wrap ((i : Int) - 1) = ((i - 1 : Nat) : Int) := by rw [IntWalk.i64_in _ (by omega)]; omega
  have hcell : w.cell? ⟨0, i - 1, none⟩ = some (.string (str (gS i))) := by
    have := hG (i - 1) _ (gCells_get i h0 h5)
    rwa [Nat.zero_add] at this
  have hW := gP_W i h0 h5
  have hsl := gS_len i h0 h5
  have hpa := fun w' => parse_fn (gS i) w' (by omega)
  rw [parse_gS i h0 h5] at hpa
  dsimp only at hpa
  rw [if_pos hW] at hpa
  have hsh := fun w' => shr_fn (gP i) 1 w' hW (by decide)
  rw [gQ_shr] at hsh
  have hbl := fun w' => bitLen_fn (gP i) w' hW
  have hn := nd_pow 8 (gP i) (by decide)
  rw [show (2 : Nat) ^ 8 = 256 from rfl, gP_len i h0 h5] at hn
  have hnb := nd2_W hW
  have lP := natC_len (gP i)
  have lQ := natC_len (gQ i)
  have lS := safeC_len (gP i) (gQ i) (gL i)
  generalize nd 2 (gP i) = m at *
  have g4 : IntKind.i64.wrap ((m : Int) + 7) = ((m + 7 : Nat) : Int) := by rw [IntWalk.i64_in _ (by omega)]; omega
  have g5 : IntKind.i64.wrap (((m + 7 : Nat) : Int).tdiv 8) = ((gL i : Nat) : Int) := by
    have := quoI (p := m + 7) (k := 8) (by omega)
    rw [show m + 7 = m + (8 - 1) from rfl, ← hn] at this
    exact this
  clear hn hsl
  generalize gP i = p at *
  generalize gQ i = q at *
  generalize gL i = l at *
  repeat' (first | refine sy_seqC ?_ | refine syl_nil ?_ | refine sy_if_f rfl ?_ | refine sy_skip ?_ | refine sy_ret ?_ | refine syx_then ?_ | refine syx_go ?_ | (refine sy_region (id := 0) ?_; (refine y_new ?_; intro _); refine y_assign ?_) | (refine sy_region (id := 1) ?_; refine y_move ?_; refine yv (op_lss (hr := g1)) (k := ?_); refine y_move ?_; refine y_move ?_; refine yv (op_gtr (hr := g2)) (k := ?_); refine y_pick ?_) | (refine sy_region (id := 3) ?_; refine y_move ?_; refine yv (op_sub (hr := g3)) (k := ?_); refine yv (op_indexArr10 (j := i - 1)) (k := ?_); refine yv (op_load_old (hv := hcell)) (k := ?_); refine yv (op_callV (hc := fun _ _ _ _ => (hpa _))) (k := ?_); refine y_move ?_; refine y_extract ?_; refine y_extract ?_; (refine y_new ?_; intro _); refine yn (op_storeNat (n := p)) (k := ?_); refine y_assign ?_) | (refine sy_region (id := 4) ?_; refine yv (op_loads (B := natC p)) (k := ?_); refine yv (op_callV (hc := fun _ _ _ _ => (hsh _))) (k := ?_); refine y_move ?_; refine y_extract ?_; refine y_extract ?_; (refine y_new ?_; intro _); refine yn (op_storeNat (n := q)) (k := ?_); refine y_assign ?_) | (refine sy_draw (id := 5) 6 [[], [], [], [2], [2, 3], [2, 3, 4], [0, 1, 2, 3, 4, 5], [0, 1, 2, 3, 4, 5, 6], [0, 1, 2, 3, 4, 5, 6, 7]] mixed ?_ ?_; kernel_rfl; refine dc (fun _ _ => op_loads (B := natC p)) (k := ?_); refine dc (fun _ _ => op_loads (B := natC q)) (k := ?_); refine dc (fun _ _ => op_loads (B := natC p)) (k := ?_); refine dc (fun _ _ => op_callV (hc := fun _ _ _ _ => (hbl _))) (k := ?_); refine dc (fun _ _ => op_add (hr := g4)) (k := ?_); refine dc (fun _ _ => op_quo (hr := g5)) (k := ?_); refine dh_0n ?_; refine yv (op_buildSafe (p := p) (q := q) (l := l)) (k := ?_); refine yn (op_storesAll (B := safeC p q l) (hv := safeC_one p q l) (h1 := (safeC_len p q l).symm)) (k := ?_); refine y_assign ?_) | fail)
  exact ret2 rfl (resCells (B := safeC p q l) rfl (ty rfl) rfl Has.go Seg.all (safeC_len _ _ _).symm) (resTmp rfl) SubR.nil ⟨rfl, rfl⟩
end Go.Proofs.YtjidkoabdmjgkaaDoor
