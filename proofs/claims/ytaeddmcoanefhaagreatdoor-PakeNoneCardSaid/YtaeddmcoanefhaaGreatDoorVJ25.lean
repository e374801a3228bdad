/- The groups: their primes out of the program's table; elements, scalars, powers. -/
import Derived.Test.YtaeddmcoanefhaaGreatDoorVJ07
import Derived.Test.YtaeddmcoanefhaaGreatDoorVJ24
import Derived.Test.YtaeddmcoanefhaaGreatDoorVJ13
import Derived.Test.YtaeddmcoanefhaaGreatDoorVJ05
import Derived.Test.YtaeddmcoanefhaaGreatDoorVJ01
import Derived.Test.YtaeddmcoanefhaaGreatDoorVJ08
import Derived.Test.YtaeddmcoanefhaaGreatDoorVJ02
set_option linter.all false
section
namespace Go.Nt
open Go Go.Sy
def gS : Nat → List UInt8
  | 1 => [98, 51, 102]
  | 2 => [52, 52, 56, 53, 56, 102, 102]
  | 3 => [57, 49, 98, 56, 56, 55, 102, 102]
  | _ => [102, 102, 102, 102, 102, 102, 102, 102, 102, 102, 102, 102, 102, 102, 102, 102, 99, 57, 48, 102, 100, 97, 97, 50, 50, 49, 54, 56, 99, 50, 51, 52, 99, 52, 99, 54, 54, 50, 56, 98, 56, 48, 100, 99, 49, 99, 100, 49, 50, 57, 48, 50, 52, 101, 48, 56, 56, 97, 54, 55, 99, 99, 55, 52, 48, 50, 48, 98, 98, 101, 97, 54, 51, 98, 49, 51, 57, 98, 50, 50, 53, 49, 52, 97, 48, 56, 55, 57, 56, 101, 51, 52, 48, 52, 100, 100, 101, 102, 57, 53, 49, 57, 98, 51, 99, 100, 51, 97, 52, 51, 49, 98, 51, 48, 50, 98, 48, 97, 54, 100, 102, 50, 53, 102, 49, 52, 51, 55, 52, 102, 101, 49, 51, 53, 54, 100, 54, 100, 53, 49, 99, 50, 52, 53, 101, 52, 56, 53, 98, 53, 55, 54, 54, 50, 53, 101, 55, 101, 99, 54, 102, 52, 52, 99, 52, 50, 101, 57, 97, 54, 51, 97, 51, 54, 50, 48, 102, 102, 102, 102, 102, 102, 102, 102, 102, 102, 102, 102, 102, 102, 102, 102]
theorem parse_gS (i : Nat) (h0 : 1 ≤ i) (h5 : i ≤ 4) : parse (gS i) = some (gP i) :=
  gP_cases (p := fun i => parse (gS i) = some (gP i)) (by decide +kernel) (by decide +kernel) (by decide +kernel) (by decide +kernel) i h0 h5
theorem gS_len (i : Nat) (h0 : 1 ≤ i) (h5 : i ≤ 4) : (gS i).length ≤ 192 :=
  gP_cases (p := fun i => (gS i).length ≤ 192) (by decide +kernel) (by decide +kernel) (by decide +kernel) (by decide +kernel) i h0 h5
theorem gQ_shr (i : Nat) : gP i / 2 ^ 1 = gQ i := rfl
def gCells : List Value := [.string (str (gS 1)), .string (str (gS 2)), .string (str (gS 3)), .string (str (gS 4))]
theorem gCells_get (i : Nat) (h0 : 1 ≤ i) (h5 : i ≤ 4) : gCells[i - 1]? = some (.string (str (gS i))) :=
  gP_cases (p := fun i => gCells[i - 1]? = some (.string (str (gS i)))) rfl rfl rfl rfl i h0 h5
theorem gL_le (i : Nat) (h0 : 1 ≤ i) (h5 : i ≤ 4) : 1 ≤ gL i ∧ gL i ≤ 96 :=
  gP_cases (p := fun i => 1 ≤ gL i ∧ gL i ≤ 96) (by decide) (by decide) (by decide) (by decide) i h0 h5
theorem gP_W (i : Nat) (h0 : 1 ≤ i) (h5 : i ≤ 4) : gP i < 18446744073709551616 ^ 16 := by
  rw [w_of 256 8 128 rfl rfl]
  have h := nd_lt 256 (gP i) (by decide)
  rw [gP_len i h0 h5] at h
  exact Nat.lt_of_lt_of_le h (Nat.pow_le_pow_right (by decide) (by have := (gL_le i h0 h5).2; omega))
theorem gQ_W (i : Nat) (h0 : 1 ≤ i) (h5 : i ≤ 4) : gQ i < 18446744073709551616 ^ 16 := Nat.lt_of_le_of_lt (Nat.div_le_self _ _) (gP_W i h0 h5)
def safeC (p q l : Nat) : List Value := natC p ++ (natC q ++ [.int .i64 l])
theorem safeC_len (p q l : Nat) : (safeC p q l).length = 33 := by
  unfold safeC; rw [List.length_append, List.length_append, natC_len, natC_len]; rfl
theorem safeC_one (p q l : Nat) : (safeC p q l).all (·.oneCell') = true := by
  unfold safeC; rw [List.all_append, List.all_append, natC_one, natC_one]; rfl
theorem safe_p (p q l : Nat) : Seg (safeC p q l) 0 (natC p) := by
  have := Seg.mid (A := []) (B := natC p) (D := natC q ++ [Value.int .i64 l])
  rw [List.nil_append] at this
  exact this
theorem safe_q (p q l : Nat) : Seg (safeC p q l) 16 (natC q) := by
  have := Seg.mid (A := natC p) (B := natC q) (D := [Value.int .i64 l])
  rw [natC_len, List.append_assoc] at this
  exact this
theorem safe_l (p q l : Nat) : (safeC p q l)[32]? = some (.int .i64 (l : Int)) := by
  unfold safeC
  rw [List.getElem?_append_right (by rw [natC_len]; decide), List.getElem?_append_right (by rw [natC_len, natC_len]; decide), natC_len, natC_len]; rfl
theorem fill_safe (p q l : Nat) : FillTo (nth [(0, 16), (16, 16), (32, 1)]) [(0, natV p), (1, natV q), (2, Value.int .i64 l)] (List.replicate 32 (Value.int IntKind.u64 0) ++ [.int .i64 0]) (safeC p q l) := by
  have hz : List.replicate 32 (Value.int IntKind.u64 0) = List.replicate 16 (Value.int IntKind.u64 0) ++ List.replicate 16 (Value.int IntKind.u64 0) := rfl
  have s1 : setSeg (List.replicate 32 (Value.int IntKind.u64 0) ++ [.int .i64 0]) 0 (natC p) = natC p ++ (List.replicate 16 (Value.int IntKind.u64 0) ++ [.int .i64 0]) := by
    unfold setSeg
    rw [natC_len, hz]; simp
  have s2 : setSeg (natC p ++ (List.replicate 16 (Value.int IntKind.u64 0) ++ [.int .i64 0])) 16 (natC q) = natC p ++ (natC q ++ [.int .i64 0]) := by
    unfold setSeg
    rw [natC_len, List.take_append_of_le_length (by rw [natC_len]; decide), List.take_of_length_le (by rw [natC_len]; decide), List.drop_append, natC_len, List.drop_of_length_le (by rw [natC_len]; decide)]; simp
  have s3 : setSeg (natC p ++ (natC q ++ [.int .i64 0])) 32 [Value.int .i64 (l : Int)] = safeC p q l := by
    have e : natC p ++ (natC q ++ [Value.int .i64 0]) = (natC p ++ natC q) ++ [Value.int .i64 0] := by rw [List.append_assoc]
    have hl : (natC p ++ natC q).length = 32 := by rw [List.length_append, natC_len, natC_len]
    unfold setSeg safeC
    rw [e, List.take_append_of_le_length (by rw [hl]; decide), List.take_of_length_le (by rw [hl]; decide), List.drop_of_length_le (by rw [List.length_append, hl]; exact Nat.le_refl _)]; simp
  refine .cons (cs := natC p) rfl rfl (natC_len p) (by simp) ?_
  rw [s1]
  refine .cons (cs := natC q) rfl rfl (natC_len q) (by simp [natC_len]) ?_
  rw [s2]
  refine .cons (cs := [.int .i64 l]) rfl rfl rfl (by simp [natC_len]) ?_
  rw [s3]
  exact .nil
theorem safe_zero : List.replicate 32 (Value.int IntKind.u64 0) ++ [Value.int .i64 0] = safeC 0 0 0 := by
  unfold safeC natC
  rw [dg_zero, List.map_replicate]; rfl
end Go.Nt
namespace Go.Proofs.YtaeddmcoanefhaaGreatDoor
open Go Go.Sy Go.Nt Go.RowKit
def safeV (p q l : Nat) : Value := .agg (safeC p q l).toArray
def GT (w : World) : Prop := w.rangeAt 0 0 gCells
theorem GT.to {w w' : World} (h : GT w) (hk : Keep No w w') : GT w' := range_keep h hk (fun h => h)
section
variable {ro : Option Nat} {N : Nat} {w0 : World} {M : Nat → Prop} {ds : List Deferred} {g : Nat → Option Value} {L : List Res} {o : Oper} {z z' z'' : Operand}
theorem op_buildSafe {p q l : Nat} (ho : o.op = .build 79 #[(0, z), (1, z'), (2, z'')] := by exact rfl) (hz : ev g z = some (natV p) := by exact rfl) (hz' : ev g z' = some (natV q) := by exact rfl) (hz'' : ev g z'' = some (.int .i64 (l : Int)) := by exact rfl) : OpT Tryz.prog ro N w0 M ds o g L (Det (safeV p q l) L) :=
  op_buildP (parts := #[(0, z), (1, z'), (2, z'')]) (vs := [natV p, natV q, .int .i64 l]) (C := safeC p q l) (fill_safe p q l) ho (by simp [evs, hz, hz', hz'']) (ty rfl) rfl rfl (zc rfl)
theorem op_zeroSafe (ho : o.op = .build 79 #[] := by exact rfl) : OpT Tryz.prog ro N w0 M ds o g L (Det (safeV 0 0 0) L) := by
  unfold safeV; rw [← safe_zero]
  exact op_build0 ho (ty rfl) (.inl ⟨rfl, rfl⟩) (zc rfl)
end
attribute [local irreducible] Sy SyL SyX Sy.Fn callFunc natC rowN safeC gP gQ gL gS gCells
set_option maxRecDepth 10000
theorem find_bad (z : Int) (w : World) (hz : ¬ (1 ≤ z ∧ z ≤ 4)) : Sy.Fn Tryz.prog 43 [.int .i64 z] w No (Gives (.tuple #[safeV 0 0 0, .int .i64 2])) := by
  refine fn_enter Tryz.func43 rfl Tryz.ntmps43 (by simp) Holds.nil ?_
  have hl := safeC_len 0 0 0
  by_cases h : z < 1
  · have g1 : decide (z < 1) = true := decide_eq_true h
    repeat' (first | refine sy_seqC ?_ | refine syl_nil ?_ | refine sy_if_t rfl ?_ | refine sy_ret ?_ | refine syx_then ?_ | refine syx_go ?_ | refine syx_then_ret ?_ | (refine sy_region (id := 0) ?_; (refine y_new ?_; intro _); refine y_assign ?_) | (refine sy_region (id := 1) ?_; refine y_move ?_; refine yv (op_lss (hr := g1)) (k := ?_); refine y_move ?_; refine syl_skip rfl rfl rfl ?_; refine syl_skip rfl rfl rfl ?_; refine y_pick ?_) | (refine sy_region (id := 2) ?_; refine yv op_zeroSafe (k := ?_); refine yn (op_storesAll (B := safeC 0 0 0) (hv := safeC_one 0 0 0) (h1 := (safeC_len 0 0 0).symm)) (k := ?_); refine y_assign ?_) | fail)
    exact ret2 rfl (resCells (B := safeC 0 0 0) rfl (ty rfl) rfl Has.go Seg.all (safeC_len _ _ _).symm) (resTmp rfl) SubR.nil ⟨rfl, rfl⟩
  · have g1 : decide (z < 1) = false := decide_eq_false h
    have g2 : decide (z > 4) = true := decide_eq_true (by omega)
    repeat' (first | refine sy_seqC ?_ | refine syl_nil ?_ | refine sy_if_t rfl ?_ | refine sy_ret ?_ | refine syx_then ?_ | refine syx_go ?_ | refine syx_then_ret ?_ | (refine sy_region (id := 0) ?_; (refine y_new ?_; intro _); refine y_assign ?_) | (refine sy_region (id := 1) ?_; refine y_move ?_; refine yv (op_lss (hr := g1)) (k := ?_); refine y_move ?_; refine y_move ?_; refine yv (op_gtr (hr := g2)) (k := ?_); refine y_pick ?_) | (refine sy_region (id := 2) ?_; refine yv op_zeroSafe (k := ?_); refine yn (op_storesAll (B := safeC 0 0 0) (hv := safeC_one 0 0 0) (h1 := (safeC_len 0 0 0).symm)) (k := ?_); refine y_assign ?_) | fail)
    exact ret2 rfl (resCells (B := safeC 0 0 0) rfl (ty rfl) rfl Has.go Seg.all (safeC_len _ _ _).symm) (resTmp rfl) SubR.nil ⟨rfl, rfl⟩
theorem find_fn (i : Nat) (w : World) (h0 : 1 ≤ i) (h5 : i ≤ 4) (hG : GT w) : Sy.Fn Tryz.prog 43 [.int .i64 (i : Int)] w No (Gives (.tuple #[safeV (gP i) (gQ i) (gL i), .int .i64 0])) := by
  refine fn_enter Tryz.func43 rfl Tryz.ntmps43 (by simp) Holds.nil ?_
  have g1 : decide ((i : Int) < 1) = false := decide_eq_false (by omega)
  have g2 : decide ((i : Int) > 4) = false := decide_eq_false (by omega)
  have g3 : IntKind.i64.wrap ((i : Int) - 1) = ((i - 1 : Nat) : Int) := by rw [IntWalk.i64_in _ (by omega)]; omega
  have hcell : w.cell? ⟨0, i - 1, none⟩ = some (.string (str (gS i))) := by
    have := hG (i - 1) _ (gCells_get i h0 h5)
    rwa [Nat.zero_add] at this
  have hW := gP_W i h0 h5
  have hsl := gS_len i h0 h5
  have hpa := fun w' => parse_fn (gS i) w' (by omega)
  rw [parse_gS i h0 h5] at hpa
  dsimp only at hpa
  rw [if_pos hW] at hpa
  have hsh := fun w' => shr_fn (gP i) 1 w' hW (by decide)
  rw [gQ_shr] at hsh
  have hbl := fun w' => bitLen_fn (gP i) w' hW
  have hn := nd_pow 8 (gP i) (by decide)
  rw [show (2 : Nat) ^ 8 = 256 from rfl, gP_len i h0 h5] at hn
  have hnb := nd2_W hW
  have lP := natC_len (gP i)
  have lQ := natC_len (gQ i)
  have lS := safeC_len (gP i) (gQ i) (gL i)
  generalize nd 2 (gP i) = m at *
  have g4 : IntKind.i64.wrap ((m : Int) + 7) = ((m + 7 : Nat) : Int) := by rw [IntWalk.i64_in _ (by omega)]; omega
  have g5 : IntKind.i64.wrap (((m + 7 : Nat) : Int).tdiv 8) = ((gL i : Nat) : Int) := by
    have := quoI (p := m + 7) (k := 8) (by omega)
    rw [show m + 7 = m + (8 - 1) from rfl, ← hn] at this
    exact this
  clear hn hsl
  generalize gP i = p at *
  generalize gQ i = q at *
  generalize gL i = l at *
  repeat' (first | refine sy_seqC ?_ | refine syl_nil ?_ | refine sy_if_f rfl ?_ | refine sy_skip ?_ | refine sy_ret ?_ | refine syx_then ?_ | refine syx_go ?_ | (refine sy_region (id := 0) ?_; (refine y_new ?_; intro _); refine y_assign ?_) | (refine sy_region (id := 1) ?_; refine y_move ?_; refine yv (op_lss (hr := g1)) (k := ?_); refine y_move ?_; refine y_move ?_; refine yv (op_gtr (hr := g2)) (k := ?_); refine y_pick ?_) | (refine sy_region (id := 3) ?_; refine y_move ?_; refine yv (op_sub (hr := g3)) (k := ?_); refine yv (op_indexArr10 (j := i - 1)) (k := ?_); refine yv (op_load_old (hv := hcell)) (k := ?_); refine yv (op_callV (hc := fun _ _ _ _ => (hpa _))) (k := ?_); refine y_move ?_; refine y_extract ?_; refine y_extract ?_; (refine y_new ?_; intro _); refine yn (op_storeNat (n := p)) (k := ?_); refine y_assign ?_) | (refine sy_region (id := 4) ?_; refine yv (op_loads (B := natC p)) (k := ?_); refine yv (op_callV (hc := fun _ _ _ _ => (hsh _))) (k := ?_); refine y_move ?_; refine y_extract ?_; refine y_extract ?_; (refine y_new ?_; intro _); refine yn (op_storeNat (n := q)) (k := ?_); refine y_assign ?_) | (refine sy_draw (id := 5) 6 [[], [], [], [2], [2, 3], [2, 3, 4], [0, 1, 2, 3, 4, 5], [0, 1, 2, 3, 4, 5, 6], [0, 1, 2, 3, 4, 5, 6, 7]] mixed ?_ ?_; kernel_rfl; refine dc (fun _ _ => op_loads (B := natC p)) (k := ?_); refine dc (fun _ _ => op_loads (B := natC q)) (k := ?_); refine dc (fun _ _ => op_loads (B := natC p)) (k := ?_); refine dc (fun _ _ => op_callV (hc := fun _ _ _ _ => (hbl _))) (k := ?_); refine dc (fun _ _ => op_add (hr := g4)) (k := ?_); refine dc (fun _ _ => op_quo (hr := g5)) (k := ?_); refine dh_0n ?_; refine yv (op_buildSafe (p := p) (q := q) (l := l)) (k := ?_); refine yn (op_storesAll (B := safeC p q l) (hv := safeC_one p q l) (h1 := (safeC_len p q l).symm)) (k := ?_); refine y_assign ?_) | fail)
  exact ret2 rfl (resCells (B := safeC p q l) rfl (ty rfl) rfl Has.go Seg.all (safeC_len _ _ _).symm) (resTmp rfl) SubR.nil ⟨rfl, rfl⟩
end Go.Proofs.YtaeddmcoanefhaaGreatDoor
end
section
namespace Go.Proofs.YtaeddmcoanefhaaGreatDoor
open Go Go.Sy Go.Nt Go.RowKit
theorem cells_of_strs {H : Type} {enc : TypeId × Value → H} {P : Program} {w : World} {base : Nat} {sp : Nat → Bool} {held : Bool} {fuel : Nat} {t e : TypeId} {n : Nat} {cs : List Value} {ss : List (List UInt8)} {p : List MemPlace}
    (ht : P.underlying t = some (.array n e)) (he : P.underlying e = some .string) (hce : P.cellsOf e = 1) (hct : P.cellsOf t = n)
    (h : DataW.trod enc P w base sp held fuel t cs = some (.agg (ss.map fun s => .lit (.string s)), p)) : cs = ss.map fun s => Value.string (str s) := by
  cases fuel with
  | zero => simp [DataW.trod] at h
  | succ fuel =>
    simp only [DataW.trod, ht, hce, hct, Nat.mul_one] at h
    split at h
    · rename_i hl
      obtain ⟨xs, hm, hx⟩ := Option.map_eq_some_iff.1 h
      have hxs : xs.map (·.1) = ss.map fun s => (DataW.lit (.string s) : DataW H) := by
        have := congrArg Prod.fst hx
        simpa using this
      have hxl : xs.length = n := by simpa using Lib.mapM_length hm
      have hzl : ss.length = n := by
        have := congrArg List.length hxs
        simp at this
        omega
      apply List.ext_getElem?
      intro i
      by_cases hi : i < n
      · obtain ⟨b, hb, hf⟩ := Lib.mapM_at hm i i (by simp [hi])
        obtain ⟨s, hc, rfl, _⟩ := DataW.trod_string he hf
        have h1 : cs[i]? = some (.string s) := by
          have := congrArg (·[0]?) hc
          simpa [List.getElem?_take, List.getElem?_drop] using this
        have h2 : (xs.map (·.1))[i]? = some (DataW.lit (.string s.data.toList) : DataW H) := by simp [hb]
        rw [hxs] at h2
        simp only [List.getElem?_map, Option.map_eq_some_iff, DataW.lit.injEq, Lit.string.injEq] at h2
        obtain ⟨z', hz', rfl⟩ := h2
        have h3 : str s.data.toList = s := rfl
        rw [h1, List.getElem?_map, hz', Option.map_some, h3]
      · rw [List.getElem?_eq_none (by omega), List.getElem?_eq_none (by simp; omega)]
    · cases h
theorem laid_strs {P : Program} {w : World} {l : List (String × DataW Unit)} (h : laidMet P l w) {n : String} {ss : List (List UInt8)} {g t e m : Nat} (hm : (n, (.agg (ss.map fun s => .lit (.string s)) : DataW Unit)) ∈ l) (hg : P.globalNamed n = some g) (hty : (P.globals[g]?).map (·.type) = some t)
    (ht : P.underlying t = some (.array m e)) (he : P.underlying e = some .string) (hce : P.cellsOf e = 1) (hct : P.cellsOf t = m) : w.rangeAt g 0 (ss.map fun s => Value.string (str s)) := by
  obtain ⟨ps, hl, _⟩ := h
  obtain ⟨g', t', cs, fuel, p, hg', ht', hvar, hd⟩ := laid_at hl hm
  obtain rfl := Option.some.inj (hg.symm.trans hg')
  obtain rfl := Option.some.inj (hty.symm.trans ht')
  have hcs := cells_of_strs ht he hce hct hd
  intro j v hj
  rw [World.var?_cell hg hvar, Nat.zero_add, ← Array.getElem?_toList, hcs]; exact hj
theorem gPrimes : Tryz.prog.globalNamed "watchword/group.primes" = some 0 := by kernel_rfl
theorem tyPrimes : (Tryz.prog.globals[0]?).map (·.type) = some 101 := by kernel_rfl
theorem undPrimes : Tryz.prog.underlying 101 = some (.array 4 9) := by kernel_rfl
theorem undStr : Tryz.prog.underlying 9 = some .string := by kernel_rfl
theorem cellsStr : Tryz.prog.cellsOf 9 = 1 := by kernel_rfl
theorem cellsPrimes : Tryz.prog.cellsOf 101 = 4 := by kernel_rfl
theorem dPrimes : (Rows.laid_watchword_group_primes : DataW Unit) = .agg ([gS 1, gS 2, gS 3, gS 4].map fun s => .lit (.string s)) := by kernel_rfl
theorem gt_of {W : World} {l : List (String × DataW Unit)} (h : laidMet Tryz.prog l W) (h1 : ("watchword/group.primes", Rows.laid_watchword_group_primes) ∈ l) : GT W := by
  rw [dPrimes] at h1
  exact laid_strs h h1 gPrimes tyPrimes undPrimes undStr cellsStr cellsPrimes
def datG : Nat → DataW Unit → List Value
  | n + 1, .agg l => l.flatMap (datG n)
  | _, .lit (.int k z) => [.int k z]
  | _, .lit (.string s) => [.string (str s)]
  | _, _ => []
noncomputable def laidWorldG (os : Os) : World :=
  { laidWorld os with heap := (laidWorld os).heap.modify 0 (putCells (datG 3 Rows.laid_watchword_group_primes)) }
end Go.Proofs.YtaeddmcoanefhaaGreatDoor
end
section
namespace Go.Sh
def rotr (x : UInt32) (n : Nat) : UInt32 := (x <<< UInt32.ofNat (32 - n)) ||| (x >>> UInt32.ofNat n)
def turn (x : UInt32) (ns : List Nat) : UInt32 := ns.foldl (fun y n => y ^^^ rotr x n) 0
theorem turn_succ (x : UInt32) (ns : List Nat) (k : Nat) (h : k < ns.length) : turn x (ns.take (k + 1)) = turn x (ns.take k) ^^^ rotr x ns[k] := by
  unfold turn; rw [List.take_succ_eq_append_getElem h, List.foldl_append]; rfl
def kC : List UInt32 := [
  0x428a2f98, 0x71374491, 0xb5c0fbcf, 0xe9b5dba5, 0x3956c25b, 0x59f111f1, 0x923f82a4, 0xab1c5ed5,
  0xd807aa98, 0x12835b01, 0x243185be, 0x550c7dc3, 0x72be5d74, 0x80deb1fe, 0x9bdc06a7, 0xc19bf174,
  0xe49b69c1, 0xefbe4786, 0x0fc19dc6, 0x240ca1cc, 0x2de92c6f, 0x4a7484aa, 0x5cb0a9dc, 0x76f988da,
  0x983e5152, 0xa831c66d, 0xb00327c8, 0xbf597fc7, 0xc6e00bf3, 0xd5a79147, 0x06ca6351, 0x14292967,
  0x27b70a85, 0x2e1b2138, 0x4d2c6dfc, 0x53380d13, 0x650a7354, 0x766a0abb, 0x81c2c92e, 0x92722c85,
  0xa2bfe8a1, 0xa81a664b, 0xc24b8b70, 0xc76c51a3, 0xd192e819, 0xd6990624, 0xf40e3585, 0x106aa070,
  0x19a4c116, 0x1e376c08, 0x2748774c, 0x34b0bcb5, 0x391c0cb3, 0x4ed8aa4a, 0x5b9cca4f, 0x682e6ff3,
  0x748f82ee, 0x78a5636f, 0x84c87814, 0x8cc70208, 0x90befffa, 0xa4506ceb, 0xbef9a3f7, 0xc67178f2]
theorem kC_len : kC.length = 64 := rfl
def h0 : List UInt32 := [0x6a09e667, 0xbb67ae85, 0x3c6ef372, 0xa54ff53a, 0x510e527f, 0x9b05688c, 0x1f83d9ab, 0x5be0cd19]
def word (a b c d : UInt8) : UInt32 := (((a.toUInt32 <<< 24) ||| (b.toUInt32 <<< 16)) ||| (c.toUInt32 <<< 8)) ||| d.toUInt32
def wordAt (b : List UInt8) (t : Nat) : UInt32 := word (b.getD (4 * t) 0) (b.getD (4 * t + 1) 0) (b.getD (4 * t + 2) 0) (b.getD (4 * t + 3) 0)
def next (y w7 x w16 : UInt32) : UInt32 := (((turn y [17, 19] ^^^ (y >>> 10)) + w7) + (turn x [7, 18] ^^^ (x >>> 3))) + w16
def sched (b : List UInt8) : Nat → List UInt32
  | 0 => []
  | t + 1 => let w := sched b t
    w ++ [if t < 16 then wordAt b t else next (w.getD (t - 2) 0) (w.getD (t - 7) 0) (w.getD (t - 15) 0) (w.getD (t - 16) 0)]
theorem sched_low (b : List UInt8) (t : Nat) (h : t < 16) : sched b (t + 1) = sched b t ++ [wordAt b t] := by simp [sched, h]
theorem sched_high (b : List UInt8) (t : Nat) (h : 16 ≤ t) : sched b (t + 1) = sched b t ++ [next ((sched b t).getD (t - 2) 0) ((sched b t).getD (t - 7) 0) ((sched b t).getD (t - 15) 0) ((sched b t).getD (t - 16) 0)] := by
  simp [sched, Nat.not_lt.2 h]
structure St where
  a : UInt32
  b : UInt32
  c : UInt32
  d : UInt32
  e : UInt32
  f : UInt32
  g : UInt32
  h : UInt32
def St.list (v : St) : List UInt32 := [v.a, v.b, v.c, v.d, v.e, v.f, v.g, v.h]
def St.of (l : List UInt32) : St := ⟨l.getD 0 0, l.getD 1 0, l.getD 2 0, l.getD 3 0, l.getD 4 0, l.getD 5 0, l.getD 6 0, l.getD 7 0⟩
def t1 (v : St) (k w : UInt32) : UInt32 := (((v.h + turn v.e [6, 11, 25]) + ((v.e &&& v.f) ^^^ (~~~v.e &&& v.g))) + k) + w
def t2 (v : St) : UInt32 := turn v.a [2, 13, 22] + (((v.a &&& v.b) ^^^ (v.a &&& v.c)) ^^^ (v.b &&& v.c))
def St.step (v : St) (k w : UInt32) : St := ⟨t1 v k w + t2 v, v.a, v.b, v.c, v.d + t1 v k w, v.e, v.f, v.g⟩
def rounds (s : List UInt32) (W : List UInt32) : Nat → St
  | 0 => St.of s
  | t + 1 => (rounds s W t).step (kC.getD t 0) (W.getD t 0)
def compress (s : List UInt32) (b : List UInt8) : List UInt32 := List.zipWith (· + ·) s (rounds s (sched b 64) 64).list
theorem compress_len (s : List UInt32) (b : List UInt8) (h : s.length = 8) : (compress s b).length = 8 := by simp [compress, h, St.list]
def be8 (n : Nat) : List UInt8 := (List.range 8).map fun i => UInt8.ofNat (n / 256 ^ (7 - i))
def tail (b : List UInt8) (total : Nat) : List UInt8 := b ++ 128 :: List.replicate ((if b.length + 9 > 64 then 128 else 64) - b.length - 9) 0 ++ be8 (8 * total)
def whole : Nat → List UInt8 → List (List UInt8)
  | 0, _ => []
  | n + 1, b => b.take 64 :: whole n (b.drop 64)
def blocks (b : List UInt8) (total : Nat) : List (List UInt8) :=
  let n := b.length / 64
  let t := tail (b.drop (64 * n)) total
  whole n b ++ whole (t.length / 64) t
def fold (s : List UInt32) (l : List (List UInt8)) : List UInt32 := l.foldl compress s
def be4 (v : UInt32) : List UInt8 := [(v >>> 24).toUInt8, (v >>> 16).toUInt8, (v >>> 8).toUInt8, v.toUInt8]
def ser (s : List UInt32) : List UInt8 := s.flatMap be4
def sum (b : List UInt8) : List UInt8 := ser (fold h0 (blocks b b.length))
theorem whole_len (n : Nat) (b : List UInt8) : (whole n b).length = n := by induction n generalizing b with | zero => rfl | succ n ih => simp [whole, ih]
theorem whole_get (n j : Nat) (b : List UInt8) (h : j < n) : (whole n b)[j]? = some ((b.drop (64 * j)).take 64) := by
  induction n generalizing b j with
  | zero => omega
  | succ n ih =>
    cases j with
    | zero => simp [whole]
    | succ j => simp only [whole, List.getElem?_cons_succ]; rw [ih j (b.drop 64) (by omega), List.drop_drop]; congr 3; omega
theorem be8_len (n : Nat) : (be8 n).length = 8 := by simp [be8]
theorem tail_len (r : List UInt8) (total : Nat) (h : r.length < 64) : (tail r total).length = if r.length + 9 > 64 then 128 else 64 := by
  simp only [tail, List.length_append, List.length_cons, List.length_replicate, be8_len]; split <;> omega
theorem blocks_len (b : List UInt8) (total : Nat) : (blocks b total).length = b.length / 64 + (tail (b.drop (64 * (b.length / 64))) total).length / 64 := by
  simp [blocks, whole_len]
theorem blocks_low (b : List UInt8) (total j : Nat) (h : j < b.length / 64) : (blocks b total)[j]? = some ((b.drop (64 * j)).take 64) := by
  simp only [blocks]; rw [List.getElem?_append_left (by rw [whole_len]; exact h)]; exact whole_get _ _ _ h
theorem blocks_high (b : List UInt8) (total i : Nat) (h : i < (tail (b.drop (64 * (b.length / 64))) total).length / 64) :
    (blocks b total)[b.length / 64 + i]? = some (((tail (b.drop (64 * (b.length / 64))) total).drop (64 * i)).take 64) := by
  simp only [blocks]; rw [List.getElem?_append_right (by rw [whole_len]; omega), whole_len, show b.length / 64 + i - b.length / 64 = i from by omega]; exact whole_get _ _ _ h
theorem blocks_all (b : List UInt8) (total : Nat) : ∀ x ∈ blocks b total, x.length = 64 := by
  have hw : ∀ (n : Nat) (b : List UInt8), 64 * n ≤ b.length → ∀ x ∈ whole n b, x.length = 64 := by
    intro n
    induction n with
    | zero => intro b _ x hx; simp [whole] at hx
    | succ n ih =>
      intro b hb x hx
      simp only [whole, List.mem_cons] at hx
      rcases hx with rfl | hx
      · rw [List.length_take]; omega
      · exact ih _ (by rw [List.length_drop]; omega) x hx
  intro x hx
  simp only [blocks, List.mem_append] at hx
  rcases hx with hx | hx
  · exact hw _ _ (by omega) x hx
  · exact hw _ _ (by omega) x hx
theorem be8_get (n j : Nat) (h : j < 8) : (be8 n).drop j = UInt8.ofNat (n / 256 ^ (7 - j)) :: (be8 n).drop (j + 1) := by
  have hl : j < (be8 n).length := by rw [be8_len]; exact h
  rw [List.drop_eq_getElem_cons hl]; congr 1; simp [be8]
theorem pad_step (r : List UInt8) (d n i : Nat) (hi : i < 8) :
    (r ++ 128 :: (List.replicate (d + 8 - i) 0 ++ (be8 n).drop (8 - i))).set (r.length + 1 + (d + 7 - i)) (UInt8.ofNat (n / 256 ^ i)) =
      r ++ 128 :: (List.replicate (d + 8 - (i + 1)) 0 ++ (be8 n).drop (8 - (i + 1))) := by
  rw [List.set_append_right _ _ (by omega), show r.length + 1 + (d + 7 - i) - r.length = (d + 7 - i) + 1 from by omega, List.set_cons_succ]
  congr 2
  rw [show d + 8 - i = (d + 7 - i) + 1 from by omega, List.replicate_succ', List.append_assoc, List.set_append_right _ _ (by simp)]
  rw [List.length_replicate, Nat.sub_self, List.cons_append, List.set_cons_zero, List.nil_append]
  rw [show d + 8 - (i + 1) = d + 7 - i from by omega, be8_get n (8 - (i + 1)) (by omega), show 7 - (8 - (i + 1)) = i from by omega, show 8 - (i + 1) + 1 = 8 - i from by omega]
end Go.Sh
end
section
namespace Go.Wd
open Go Go.RowKit Go.Sy
theorem wrapi (a : Int) (h0 : -9223372036854775808 ≤ a) (h1 : a < 9223372036854775808) : IntKind.i64.wrap a = a := IntWalk.i64_in _ (by omega)
section sums
variable (a b c d e f g : UInt32)
end sums
end Go.Wd
namespace Go.Sh
open Go.Wd Go.RowKit
end Go.Sh
namespace Go.Proofs.YtaeddmcoanefhaaGreatDoor
open Go Go.Sy Go.Wd Go.Sh
attribute [local irreducible] Sy SyL SyX
set_option maxRecDepth 10000
end Go.Proofs.YtaeddmcoanefhaaGreatDoor
end
