/- Digits: length, order. -/
import Derived.Test.YtaeddmcoanefhaaGreatDoorVJ07
import Derived.Test.YtaeddmcoanefhaaGreatDoorVJ06
import Derived.Test.YtaeddmcoanefhaaGreatDoorVJ08
import Derived.Shelf.Spec.BitsCarry
set_option linter.all false
section
namespace Go.Proofs.YtaeddmcoanefhaaGreatDoor
open Go Go.Sy Go.Nt Go.RowKit
attribute [local irreducible] Sy SyL SyX Sy.Fn callFunc natC
set_option maxRecDepth 10000
def cmpI (x y : Nat) : Int := if x < y then -1 else if x = y then 0 else 1
theorem cmpI_self (x : Nat) : cmpI x x = 0 := by unfold cmpI; simp
theorem cmpI_lt {x y : Nat} (h : x < y) : cmpI x y = -1 := by unfold cmpI; simp [h]
theorem cmpI_gt {x y : Nat} (h : y < x) : cmpI x y = 1 := by unfold cmpI; rw [if_neg (by omega), if_neg (by omega)]
theorem length_fn (x : Nat) (w : World) (hx : x < 18446744073709551616 ^ 16) :
    Sy.Fn Tryz.prog 87 [natV x] w No (Gives (.int .i64 ((nd 18446744073709551616 x : Nat) : Int))) := by
  refine fn_enter Tryz.func87 rfl Tryz.ntmps87 (by simp) Holds.nil ?_
  have hget := natC_get x
  have hlen := natC_len x
  repeat' (first | refine sy_seqC ?_ | refine syl_nil ?_ | refine sy_block ?_ | refine syx_then ?_ | refine syx_go ?_ | (refine sy_region (id := 0) ?_; (refine y_new ?_; intro _); refine y_assign ?_) | (refine sy_region (id := 1) ?_; refine y_assign ?_) | fail)
  rename_i b1
  refine sy_loop (γ := Nat) (fun i => [(1, .pointer (some ⟨b1, 0, none⟩)), (3, .int .i64 i)]) (fun _ => [.blk b1 42 (natC x)]) (fun i => i ≤ 16 ∧ x < 18446744073709551616 ^ i) (fun i => i) 16 ⟨Nat.le_refl _, hx⟩ ?_ ?_ ?_
  · exact Sub.go
  · exact SubR.go
  rintro i ⟨hi, hxi⟩
  have hfin : (i = 0 ∨ x / 18446744073709551616 ^ (i - 1) % 18446744073709551616 ≠ 0) → nd 18446744073709551616 x = i := fun h => by
    refine nd_uniq _ _ _ (by decide) hxi fun hp => ?_
    rcases h with h | h
    · omega
    · rcases Nat.lt_or_ge x (18446744073709551616 ^ (i - 1)) with hl | hl
      · rw [Nat.div_eq_of_lt hl] at h; exact absurd rfl h
      · exact hl
  have hsub : IntKind.i64.wrap ((i : Int) - 1) = ((i - 1 : Nat) : Int) ∨ i = 0 := by
    rcases Nat.eq_zero_or_pos i with h | h
    · exact .inr h
    · rw [IntWalk.i64_in _ (by omega)]; exact .inl (by omega)
  rcases Nat.eq_zero_or_pos i with h0 | hpos
  · have hf := hfin (.inl h0)
    subst h0
    repeat' (first | refine sy_seqC ?_ | refine syl_nil ?_ | refine sy_if_f rfl ?_ | refine sy_ret ?_ | refine sy_exit ?_ | refine syx_then ?_ | refine syx_go ?_ | (refine sy_region (id := 2) ?_; refine y_move ?_; refine y_gtr ?_; refine y_move ?_; refine syl_skip rfl rfl rfl ?_; refine syl_skip rfl rfl rfl ?_; refine syl_skip rfl rfl rfl ?_; refine syl_skip rfl rfl rfl ?_; refine syl_skip rfl rfl rfl ?_; refine y_pick ?_) | (refine sy_region (id := 4) ?_; refine y_move ?_; refine y_assign ?_) | fail)
    exact ret1 rfl (resTmp rfl) SubR.nil ⟨by rw [hf], rfl⟩
  have hs : IntKind.i64.wrap ((i : Int) - 1) = ((i - 1 : Nat) : Int) := by
    rcases hsub with h | h
    · exact h
    · omega
  have hd := hget (i - 1) (by omega)
  by_cases hz : x / 18446744073709551616 ^ (i - 1) % 18446744073709551616 = 0
  · rw [hz] at hd
    repeat' (first | refine sy_seqC ?_ | refine syl_nil ?_ | refine sy_if_t rfl ?_ | refine sy_block ?_ | refine sy_skip ?_ | refine syx_then ?_ | refine syx_go ?_ | refine syx_in ?_ | (refine sy_region (id := 2) ?_; refine y_move ?_; refine y_gtr ?_; refine y_move ?_; refine y_move ?_; refine yv (op_sub (hr := hs)) (k := ?_); refine y_indexAddr ?_; refine yv (op_load (hv := hd)) (k := ?_); refine y_eql ?_; refine y_pick ?_) | (refine sy_region (id := 3) ?_; refine y_move ?_; refine yv (op_sub (hr := hs)) (k := ?_); refine y_assign ?_) | fail)
    refine syx_back (i - 1) ⟨by omega, ?_⟩ ?_ ?_ ?_
    · have := (Nat.div_lt_iff_lt_mul (x := x) (y := 18446744073709551616) (k := 18446744073709551616 ^ (i - 1)) (Nat.pow_pos (by decide))).2 (by rw [Nat.mul_comm, ← Nat.pow_succ, show (i - 1).succ = i by omega]; exact hxi)
      rcases Nat.lt_or_ge x (18446744073709551616 ^ (i - 1)) with hl | hl
      · exact hl
      · rw [Nat.mod_eq_of_lt this] at hz
        have := Nat.div_pos hl (Nat.pow_pos (by decide))
        omega
    · show i - 1 < i; omega
    · exact Sub.go
    · exact SubR.go
  · have hf := hfin (.inr hz)
    generalize x / 18446744073709551616 ^ (i - 1) % 18446744073709551616 = d at *
    repeat' (first | refine sy_seqC ?_ | refine syl_nil ?_ | refine sy_if_f rfl ?_ | refine sy_ret ?_ | refine sy_exit ?_ | refine syx_then ?_ | refine syx_go ?_ | (refine sy_region (id := 2) ?_; refine y_move ?_; refine y_gtr ?_; refine y_move ?_; refine y_move ?_; refine yv (op_sub (hr := hs)) (k := ?_); refine y_indexAddr ?_; refine yv (op_load (hv := hd)) (k := ?_); refine yv (op_eql (a := ((d : Nat) : Int)) (hr := decide_eq_false (by omega))) (k := ?_); refine y_pick ?_) | (refine sy_region (id := 4) ?_; refine y_move ?_; refine y_assign ?_) | fail)
    exact ret1 rfl (resTmp rfl) SubR.nil ⟨by rw [hf], rfl⟩
theorem order_fn (x y : Nat) (w : World) (hx : x < 18446744073709551616 ^ 16) (hy : y < 18446744073709551616 ^ 16) :
    Sy.Fn Tryz.prog 106 [natV x, natV y] w No (Gives (.int .i64 (cmpI x y))) := by
  refine fn_enter Tryz.func106 rfl Tryz.ntmps106 (by simp) Holds.nil ?_
  have hgx := natC_get x
  have hgy := natC_get y
  have hlx := natC_len x
  have hly := natC_len y
  repeat' (first | refine sy_seqC ?_ | refine syl_nil ?_ | refine sy_block ?_ | refine syx_then ?_ | refine syx_go ?_ | (refine sy_region (id := 0) ?_; (refine y_new ?_; intro _); (refine y_new ?_; intro _); refine y_assign ?_) | (refine sy_region (id := 1) ?_; refine y_assign ?_) | fail)
  rename_i b2 b3
  refine sy_loop (γ := Nat) (fun i => [(2, .pointer (some ⟨b2, 0, none⟩)), (3, .pointer (some ⟨b3, 0, none⟩)), (5, .int .i64 ((i : Int) - 1))]) (fun _ => [.blk b2 42 (natC x), .blk b3 42 (natC y)]) (fun i => i ≤ 16 ∧ x / 18446744073709551616 ^ i = y / 18446744073709551616 ^ i) (fun i => i) 16 ⟨Nat.le_refl _, by rw [Nat.div_eq_of_lt hx, Nat.div_eq_of_lt hy]⟩ ?_ ?_ ?_
  · exact Sub.go
  · exact SubR.go
  rintro i ⟨hi, he⟩
  rcases Nat.eq_zero_or_pos i with h0 | hpos
  · subst h0
    simp only [Nat.pow_zero, Nat.div_one] at he
    subst he
    repeat' (first | refine sy_seqC ?_ | refine syl_nil ?_ | refine sy_if_f rfl ?_ | refine sy_ret ?_ | refine sy_exit ?_ | refine syx_then ?_ | refine syx_go ?_ | (refine sy_region (id := 2) ?_; refine y_move ?_; refine y_geq ?_) | (refine sy_region (id := 8) ?_; refine y_assign ?_) | fail)
    exact ret1 rfl (resTmp rfl) SubR.nil ⟨by rw [cmpI_self], rfl⟩
  obtain ⟨j, rfl⟩ : ∃ j, i = j + 1 := ⟨i - 1, by omega⟩
  have hij : (((j + 1 : Nat) : Int) - 1) = ((j : Nat) : Int) := by omega
  have hs : IntKind.i64.wrap ((j : Int) - 1) = (j : Int) - 1 := IntWalk.i64_in _ (by omega)
  rw [hij]
  have h1 := hgx j (by omega)
  have h2 := hgy j (by omega)
  have hlt := lt_of_digit 18446744073709551616 x y j (by decide) he
  have hgt := lt_of_digit 18446744073709551616 y x j (by decide) he.symm
  have heq := eq_digit 18446744073709551616 x y j he
  generalize hdx : x / 18446744073709551616 ^ j % 18446744073709551616 = d at *
  generalize hdy : y / 18446744073709551616 ^ j % 18446744073709551616 = e at *
  rcases Nat.lt_trichotomy d e with h | h | h
  · repeat' (first | refine sy_seqC ?_ | refine syl_nil ?_ | refine sy_if_t rfl ?_ | refine sy_block ?_ | refine sy_skip ?_ | refine sy_ret ?_ | refine syx_then ?_ | refine syx_go ?_ | refine syx_then_ret ?_ | refine syx_in_ret ?_ | (refine sy_region (id := 2) ?_; refine y_move ?_; refine y_geq ?_) | (refine sy_draw (id := 4) 6 [[], [0], [0, 1], [], [3], [3, 4], [0, 1, 2, 3, 4, 5]] mixed ?_ ?_; kernel_rfl; refine d_move ?_; refine d_indexAddr ?_; refine dc (fun _ _ => op_load (hv := h1)) (k := ?_); refine d_move ?_; refine d_indexAddr ?_; refine dc (fun _ _ => op_load (hv := h2)) (k := ?_); refine dh_0n ?_; refine y_lss ?_) | (refine sy_region (id := 5) ?_; refine y_assign ?_) | fail)
    exact ret1 rfl (resTmp rfl) SubR.nil ⟨by rw [cmpI_lt (hlt h)], rfl⟩
  · subst h
    repeat' (first | refine sy_seqC ?_ | refine syl_nil ?_ | refine sy_if_t rfl ?_ | refine sy_if_f rfl ?_ | refine sy_block ?_ | refine sy_skip ?_ | refine syx_then ?_ | refine syx_go ?_ | (refine sy_region (id := 2) ?_; refine y_move ?_; refine y_geq ?_) | (refine sy_draw (id := 4) 6 [[], [0], [0, 1], [], [3], [3, 4], [0, 1, 2, 3, 4, 5]] mixed ?_ ?_; kernel_rfl; refine d_move ?_; refine d_indexAddr ?_; refine dc (fun _ _ => op_load (hv := h1)) (k := ?_); refine d_move ?_; refine d_indexAddr ?_; refine dc (fun _ _ => op_load (hv := h2)) (k := ?_); refine dh_0n ?_; refine y_lss ?_) | (refine sy_draw (id := 6) 6 [[], [0], [0, 1], [], [3], [3, 4], [0, 1, 2, 3, 4, 5]] mixed ?_ ?_; kernel_rfl; refine d_move ?_; refine d_indexAddr ?_; refine dc (fun _ _ => op_load (hv := h1)) (k := ?_); refine d_move ?_; refine d_indexAddr ?_; refine dc (fun _ _ => op_load (hv := h2)) (k := ?_); refine dh_0n ?_; refine y_gtr ?_) | (refine sy_region (id := 3) ?_; refine y_move ?_; refine yv (op_sub (hr := hs)) (k := ?_); refine y_assign ?_) | fail)
    refine syx_back j ⟨by omega, heq rfl⟩ ?_ ?_ ?_
    · show j < j + 1; omega
    · exact Sub.go
    · exact SubR.go
  · repeat' (first | refine sy_seqC ?_ | refine syl_nil ?_ | refine sy_if_t rfl ?_ | refine sy_if_f rfl ?_ | refine sy_block ?_ | refine sy_skip ?_ | refine sy_ret ?_ | refine syx_then ?_ | refine syx_go ?_ | refine syx_then_ret ?_ | refine syx_in_ret ?_ | (refine sy_region (id := 2) ?_; refine y_move ?_; refine y_geq ?_) | (refine sy_draw (id := 4) 6 [[], [0], [0, 1], [], [3], [3, 4], [0, 1, 2, 3, 4, 5]] mixed ?_ ?_; kernel_rfl; refine d_move ?_; refine d_indexAddr ?_; refine dc (fun _ _ => op_load (hv := h1)) (k := ?_); refine d_move ?_; refine d_indexAddr ?_; refine dc (fun _ _ => op_load (hv := h2)) (k := ?_); refine dh_0n ?_; refine y_lss ?_) | (refine sy_draw (id := 6) 6 [[], [0], [0, 1], [], [3], [3, 4], [0, 1, 2, 3, 4, 5]] mixed ?_ ?_; kernel_rfl; refine d_move ?_; refine d_indexAddr ?_; refine dc (fun _ _ => op_load (hv := h1)) (k := ?_); refine d_move ?_; refine d_indexAddr ?_; refine dc (fun _ _ => op_load (hv := h2)) (k := ?_); refine dh_0n ?_; refine y_gtr ?_) | (refine sy_region (id := 7) ?_; refine y_assign ?_) | fail)
    exact ret1 rfl (resTmp rfl) SubR.nil ⟨by rw [cmpI_gt (hgt h)], rfl⟩
theorem compare_fn (x y : Nat) (w : World) (hx : x < 18446744073709551616 ^ 16) (hy : y < 18446744073709551616 ^ 16) :
    Sy.Fn Tryz.prog 81 [natV x, natV y] w No (Gives (.int .i64 (cmpI x y))) := by
  refine fn_enter Tryz.func81 rfl Tryz.ntmps81 (by simp) Holds.nil ?_
  have hlx := natC_len x
  have hly := natC_len y
  repeat' (first | refine sy_seqC ?_ | refine syl_nil ?_ | refine sy_ret ?_ | refine syx_then ?_ | refine syx_go ?_ | (refine sy_region (id := 0) ?_; (refine y_new ?_; intro _); (refine y_new ?_; intro _); refine y_assign ?_) | (refine sy_region (id := 1) ?_; refine y_fieldAddr ?_; refine y_load ?_; refine y_fieldAddr ?_; refine y_load ?_; refine yv (op_callV (hc := fun _ _ _ _ => (order_fn x y _ hx hy))) (k := ?_); refine y_assign ?_) | fail)
  exact ret1 rfl (resTmp rfl) SubR.nil ⟨rfl, rfl⟩
end Go.Proofs.YtaeddmcoanefhaaGreatDoor
namespace Go.Proofs.YtaeddmcoanefhaaGreatDoor
open Go Go.Sy Go.Nt Go.RowKit
theorem natTy : NatTy Tryz.prog 44 42 40 16 where
  und := by kernel_rfl
  stood := by kernel_rfl
  flds := by kernel_rfl
  arr := ⟨_, ty rfl, rfl, rfl⟩
  elem := ⟨_, ty rfl, rfl, rfl⟩
  guard := by kernel_rfl
theorem natC0 : List.replicate 16 (Value.int IntKind.u64 0) = natC 0 := by
  unfold natC; rw [dg_zero, List.map_replicate]; rfl
theorem natC1 (n : Nat) (h : n < 18446744073709551616) : Value.int IntKind.u64 (n : Int) :: List.replicate 15 (Value.int IntKind.u64 0) = natC n := by
  unfold natC; rw [dg, Nat.mod_eq_of_lt h, Nat.div_eq_of_lt h, dg_zero, List.map_cons, List.map_replicate]; rfl
theorem natV0 : Value.agg (List.replicate 16 (Value.int IntKind.u64 0)).toArray = natV 0 := congrArg (fun l : List Value => Value.agg l.toArray) natC0
theorem fill_dig (n : Nat) (h : n < 18446744073709551616) : FillTo (fun i => some (i * 1, 1)) [(0, Value.int IntKind.u64 (n : Int))] (List.replicate 16 (Value.int IntKind.u64 0)) (natC n) := by
  refine .cons (cs := [.int .u64 n]) rfl rfl rfl (by decide) ?_
  rw [← natC1 n h]
  exact .nil
theorem fill_nat (n : Nat) : FillTo (nth [(0, 16)]) [(0, natV n)] (List.replicate 16 (Value.int IntKind.u64 0)) (natC n) := by
  refine .cons (cs := natC n) rfl rfl (natC_len n) (by decide) ?_
  rw [show setSeg (List.replicate 16 (Value.int IntKind.u64 0)) 0 (natC n) = natC n by unfold setSeg; rw [natC_len]; simp]
  exact .nil
section
variable {ro : Option Nat} {N : Nat} {w0 : World} {M : Nat → Prop} {ds : List Deferred} {g : Nat → Option Value} {L : List Res} {o : Oper} {t' : TypeId} {x z : Operand}
theorem op_buildNat {n : Nat} (ho : o.op = .build 44 #[(0, z)] := by exact rfl) (hz : ev g z = some (natV n) := by exact rfl) : OpT Tryz.prog ro N w0 M ds o g L (Det (natV n) L) :=
  op_buildP (parts := #[(0, z)]) (vs := [natV n]) (C := natC n) (fill_nat n) ho (by simp [evs, hz]) (ty rfl) rfl rfl (zc rfl)
theorem op_buildDig {n : Nat} (hn : n < 18446744073709551616 := by omega) (ho : o.op = .build 42 #[(0, z)] := by exact rfl) (hz : ev g z = some (.int .u64 (n : Int)) := by exact rfl) : OpT Tryz.prog ro N w0 M ds o g L (Det (natV n) L) :=
  op_buildPA (parts := #[(0, z)]) (n := 16) (e := 40) (vs := [.int .u64 n]) (C := natC n) (ty rfl) (fill_dig n hn) ho (by simp [evs, hz]) (ty rfl) rfl (zc rfl)
theorem op_storeNat {t : TypeId} {b T n : Nat} {C : List Value} {y : Ty} {L' : List Res} (ho : o.op = .store t x z := by exact rfl) (hx : ev g x = some (.pointer (some ⟨b, 0, none⟩)) := by exact rfl) (hz : ev g z = some (natV n) := by exact rfl) (ht : tyOf Tryz.prog t = some y := by exact ty rfl) (h1 : y.size = 16 := by exact rfl)
    (hL : Upd L (.blk b T C) (.blk b T (natC n)) L' := by repeat (first | exact Upd.here | apply Upd.there)) (hC : C.length = 16 := by first | exact natC_len _ | rfl | assumption | (simp; done) | fail) : OpT Tryz.prog ro N w0 M ds o g L (Det undef L') :=
  op_storesAll (B := natC n) ho hx hz ht (by rw [h1, natC_len]) (natC_one n) hL (by rw [hC, natC_len])
theorem op_eq0 {n : Nat} {r : Bool} (hn : n < 18446744073709551616 ^ 16) (hr : decide (n = 0) = r) (ho : o.op = .binOp .eql 44 x z t' := by exact rfl) (hx : ev g x = some (natV n) := by exact rfl) (hz : ev g z = some (.agg (List.replicate 16 (Value.int IntKind.u64 0)).toArray) := by exact rfl) : OpT Tryz.prog ro N w0 M ds o g L (Det (.bool r) L) :=
  op_eqNat natTy hn (by decide) hr ho hx (natV0 ▸ hz)
end
attribute [local irreducible] Sy SyL SyX Sy.Fn callFunc natC
set_option maxRecDepth 10000
theorem isZero_fn (x : Nat) (w : World) (hx : x < 18446744073709551616 ^ 16) :
    Sy.Fn Tryz.prog 48 [natV x] w No (Gives (.bool (decide (x = 0)))) := by
  refine fn_enter Tryz.func48 rfl Tryz.ntmps48 (by simp) Holds.nil ?_
  have hlx := natC_len x
  repeat' (first | refine sy_seqC ?_ | refine syl_nil ?_ | refine sy_ret ?_ | refine syx_then ?_ | refine syx_go ?_ | (refine sy_region (id := 0) ?_; (refine y_new ?_; intro _); refine y_assign ?_) | (refine sy_region (id := 1) ?_; refine y_load ?_; refine y_build ?_; refine yv (op_eq0 (n := x) hx rfl) (k := ?_); refine y_assign ?_) | fail)
  exact ret1 rfl (resTmp rfl) SubR.nil ⟨rfl, rfl⟩
theorem fromInt_fn (n : Nat) (w : World) (hn : n < 9223372036854775808) :
    Sy.Fn Tryz.prog 57 [.int .i64 n] w No (Gives (.tuple #[natV n, .int .i64 0])) := by
  refine fn_enter Tryz.func57 rfl Tryz.ntmps57 (by simp) Holds.nil ?_
  have hlen := natC_len n
  repeat' (first | refine sy_seqC ?_ | refine syl_nil ?_ | refine sy_if_f rfl ?_ | refine sy_skip ?_ | refine sy_ret ?_ | refine syx_then ?_ | refine syx_go ?_ | (refine sy_region (id := 0) ?_; (refine y_new ?_; intro _); refine y_assign ?_) | (refine sy_region (id := 1) ?_; refine y_move ?_; refine y_lss ?_) | (refine sy_region (id := 3) ?_; refine y_move ?_; refine y_convert ?_; refine yv (op_buildDig (n := n)) (k := ?_); refine yv (op_buildNat (n := n)) (k := ?_); refine yn (op_storeNat (n := n)) (k := ?_); refine y_assign ?_) | fail)
  exact ret2 rfl (resCells rfl (ty rfl) rfl Has.go Seg.all (by first | rfl | (simp only [List.length_map, List.length_set, List.length_replicate, List.length_append]; omega) | (simp only [List.length_map]; first | assumption | omega) | (simp; omega) | fail)) (resTmp rfl) SubR.nil ⟨rfl, rfl⟩
end Go.Proofs.YtaeddmcoanefhaaGreatDoor
namespace Go.Sy
open Go
section
variable {P : Program} {ro : Option Nat} {N : Nat} {w0 : World} {M : Nat → Prop} {ds : List Deferred} {g : Nat → Option Value} {L : List Res} {o : Oper}
theorem op_ext {fo : Operand} {args : Array Operand} {tys : Array TypeId} {f : Nat} {vs : List Value} {v : Value}
    (hr : ∀ w, (callFunc f vs.toArray).run P w = .ok (.value v) w) (ho : o.op = .call { callee := .value fo, args := args, argTypes := tys } := by exact rfl) (hf : ev g fo = some (.func (.func f) #[] #[]) := by exact rfl) (ha : evs g args.toList = some vs := by exact rfl) : OpT P ro N w0 M ds o g L (Det v L) :=
  OpT.still (by rw [ho]; rfl) fun a w X hs => by
    have hargs : args.map a.eval = vs.toArray := Array.toList_inj.1 (by rw [Array.toList_map, hs.agr.evals ha])
    simp only [execOp, ho, resolve, hs.agr.eval hf, Deferred.ofValue, hargs, Sem.run_bind, Sem.run_pure, Result.andThen_ok, invoke]
    rw [show (#[] ++ vs.toArray ++ #[] : Array Value) = vs.toArray by simp]
    exact hr w
end
end Go.Sy
namespace Go.Proofs.YtaeddmcoanefhaaGreatDoor
open Go Go.Sy Go.Nt Go.RowKit
theorem add64_call (x y c : Nat) (hc : c ≤ 1) (w : World) : (callFunc 139 [nv x, nv y, nv c].toArray).run Tryz.prog w = .ok (.value (.tuple #[nv ((x + y + c) % 18446744073709551616), nv ((x + y + c) / 18446744073709551616)])) w := by
  show (callFunc 139 #[.int .u64 x, .int .u64 y, .int .u64 c]).run Tryz.prog w = _
  rw [run_callFunc_extern Tryz.func139 (by kernel_rfl) (by kernel_rfl) (by kernel_rfl) (e := add64Entry) (by kernel_rfl), run_add64 x y c (by omega) (by omega) (by omega) (by omega)]
  simp only [Result.andThen, nv]
  congr 5 <;> omega
theorem sub64_call (x y b : Nat) (hb : b ≤ 1) (w : World) : (callFunc 137 [nv x, nv y, nv b].toArray).run Tryz.prog w = .ok (.value (.tuple #[nv ((x + 18446744073709551616 - y - b) % 18446744073709551616), nv (if x < y + b then 1 else 0)])) w := by
  show (callFunc 137 #[.int .u64 x, .int .u64 y, .int .u64 b]).run Tryz.prog w = _
  rw [run_callFunc_extern Tryz.func137 (by kernel_rfl) (by kernel_rfl) (by kernel_rfl) (e := sub64Entry) (by kernel_rfl), run_sub64 x y b hb]
  rfl
attribute [local irreducible] Sy SyL SyX Sy.Fn callFunc natC
set_option maxRecDepth 10000
theorem add1_fn (B x y c : Nat) (w : World) (hc : c ≤ 1) (hC : (Res.blk B 40 [nv c]).holds w) :
    Sy.Fn Tryz.prog 138 [nv x, nv y, .pointer (some ⟨B, 0, none⟩)] w (fun x => x = B) (fun v R => v = nv ((x + y + c) % 18446744073709551616) ∧ R = [.blk B 40 [nv ((x + y + c) / 18446744073709551616)]]) := by
  have hL0 : Holds w.heap.size (fun x => x = B) [.blk B 40 [nv c]] w := ⟨fun x hx => by obtain rfl := List.mem_singleton.1 hx; exact hC, List.pairwise_singleton _ _, fun x hx y hy => by obtain rfl := List.mem_singleton.1 hx; exact .inr (Eq.symm hy)⟩
  refine fn_enter Tryz.func138 rfl Tryz.ntmps138 (by simp) hL0 ?_
  repeat' (first | refine sy_seqC ?_ | refine syl_nil ?_ | refine sy_ret ?_ | refine syx_then ?_ | refine syx_go ?_ | (refine sy_region (id := 0) ?_; refine y_assign ?_) | (refine sy_region (id := 1) ?_; refine y_move ?_; refine y_move ?_; refine y_load ?_; refine yv (op_ext (hr := add64_call x y c hc)) (k := ?_); refine y_move ?_; refine y_extract ?_; refine y_extract ?_; refine y_assign ?_; refine y_store ?_) | (refine sy_region (id := 2) ?_; refine y_move ?_; refine y_assign ?_) | fail)
  exact ret1 rfl (resTmp rfl) (by exact SubR.go) ⟨rfl, rfl⟩
theorem sub1_fn (B x y c : Nat) (w : World) (hc : c ≤ 1) (hC : (Res.blk B 40 [nv c]).holds w) :
    Sy.Fn Tryz.prog 136 [nv x, nv y, .pointer (some ⟨B, 0, none⟩)] w (fun x => x = B) (fun v R => v = nv ((x + 18446744073709551616 - y - c) % 18446744073709551616) ∧ R = [.blk B 40 [nv (if x < y + c then 1 else 0)]]) := by
  have hL0 : Holds w.heap.size (fun x => x = B) [.blk B 40 [nv c]] w := ⟨fun x hx => by obtain rfl := List.mem_singleton.1 hx; exact hC, List.pairwise_singleton _ _, fun x hx y hy => by obtain rfl := List.mem_singleton.1 hx; exact .inr (Eq.symm hy)⟩
  refine fn_enter Tryz.func136 rfl Tryz.ntmps136 (by simp) hL0 ?_
  repeat' (first | refine sy_seqC ?_ | refine syl_nil ?_ | refine sy_ret ?_ | refine syx_then ?_ | refine syx_go ?_ | (refine sy_region (id := 0) ?_; refine y_assign ?_) | (refine sy_region (id := 1) ?_; refine y_move ?_; refine y_move ?_; refine y_load ?_; refine yv (op_ext (hr := sub64_call x y c hc)) (k := ?_); refine y_move ?_; refine y_extract ?_; refine y_extract ?_; refine y_assign ?_; refine y_store ?_) | (refine sy_region (id := 2) ?_; refine y_move ?_; refine y_assign ?_) | fail)
  exact ret1 rfl (resTmp rfl) (by exact SubR.go) ⟨rfl, rfl⟩
end Go.Proofs.YtaeddmcoanefhaaGreatDoor
namespace Go.Proofs.YtaeddmcoanefhaaGreatDoor
open Go Go.Sy Go.Nt Go.RowKit
attribute [local irreducible] Sy SyL SyX Sy.Fn callFunc natC
set_option maxRecDepth 10000
theorem with_fn (f B x y : Nat) (z k : Nat → Nat → Nat → Nat) (J : Nat → List Nat → Nat → Prop) (w : World)
    (hen : ∀ args w, (callFunc f args).run Tryz.prog w = .ok (.enter f args) w)
    (hf : ∀ a d c w, c ≤ 1 → (Res.blk B 40 [nv c]).holds w → Sy.Fn Tryz.prog f [nv a, nv d, .pointer (some ⟨B, 0, none⟩)] w (fun x => x = B) (fun v R => v = nv (z a d c) ∧ R = [.blk B 40 [nv (k a d c)]]))
    (h0 : J 0 (dg 18446744073709551616 16 x) 0)
    (hJ : ∀ i l c, i < 16 → J i l c → c ≤ 1 ∧ l.length = 16 ∧ l[i]? = some (x / 18446744073709551616 ^ i % 18446744073709551616) ∧ J (i + 1) (l.set i (z (x / 18446744073709551616 ^ i % 18446744073709551616) (y / 18446744073709551616 ^ i % 18446744073709551616) c)) (k (x / 18446744073709551616 ^ i % 18446744073709551616) (y / 18446744073709551616 ^ i % 18446744073709551616) c))
    (hC : (Res.blk B 40 [nv 0]).holds w) :
    Sy.Fn Tryz.prog 135 [natV x, natV y, .func (.func f) #[] #[.pointer (some ⟨B, 0, none⟩)]] w (fun x => x = B) (fun v R => ∃ l c, J 16 l c ∧ l.length = 16 ∧ v = .agg (l.map nv).toArray ∧ R = [.blk B 40 [nv c]]) := by
  have hL0 : Holds w.heap.size (fun x => x = B) [.blk B 40 [nv 0]] w := ⟨fun x hx => by obtain rfl := List.mem_singleton.1 hx; exact hC, List.pairwise_singleton _ _, fun x hx y hy => by obtain rfl := List.mem_singleton.1 hx; exact .inr (Eq.symm hy)⟩
  refine fn_enter Tryz.func135 rfl Tryz.ntmps135 (by simp) hL0 ?_
  have hly := natC_len y
  have hlx : natC x = (dg 18446744073709551616 16 x).map nv := by unfold natC; rfl
  have hgy := natC_get y
  repeat' (first | refine sy_seqC ?_ | refine syl_nil ?_ | refine sy_block ?_ | refine syx_then ?_ | refine syx_go ?_ | (refine sy_region (id := 0) ?_; (refine y_new ?_; intro _); (refine y_new ?_; intro _); (refine y_new ?_; intro _)) | (refine sy_region (id := 1) ?_; refine y_move ?_) | fail)
  rename_i b3 b4 b6
  refine sy_loop (γ := Nat × List Nat × Nat) (fun g => [(2, .func (.func f) #[] #[.pointer (some ⟨B, 0, none⟩)]), (3, .pointer (some ⟨b3, 0, none⟩)), (4, .pointer (some ⟨b4, 0, none⟩)), (6, .pointer (some ⟨b6, 0, none⟩)), (8, .int .i64 g.1)])
    (fun g => [.blk B 40 [nv g.2.2], .blk b3 42 (g.2.1.map nv), .blk b4 42 (natC y), .blk b6 42 (List.replicate 16 (Value.int IntKind.u64 0))])
    (fun g => g.1 ≤ 16 ∧ g.2.1.length = 16 ∧ J g.1 g.2.1 g.2.2) (fun g => 16 - g.1) (0, dg 18446744073709551616 16 x, 0) ⟨Nat.zero_le _, dg_len _ _ _, h0⟩ ?_ ?_ ?_
  · exact Sub.go
  · show SubR [.blk B 40 [nv 0], .blk b3 42 ((dg 18446744073709551616 16 x).map nv), .blk b4 42 (natC y), .blk b6 42 (List.replicate 16 (Value.int IntKind.u64 0))] _
    rw [← hlx]
    exact SubR.go
  rintro ⟨i, l, c⟩ ⟨hi, hl, hj⟩
  dsimp only at hi hl hj ⊢
  by_cases hlt : i < 16
  · obtain ⟨hc1, -, hli, hJ'⟩ := hJ i l c hlt hj
    have hd1 : (l.map nv)[i]? = some (nv (x / 18446744073709551616 ^ i % 18446744073709551616)) := by rw [List.getElem?_map, hli]; rfl
    have hd2 := hgy i hlt
    have hml : (l.map nv).length = 16 := by rw [List.length_map, hl]
    generalize x / 18446744073709551616 ^ i % 18446744073709551616 = a at *
    generalize y / 18446744073709551616 ^ i % 18446744073709551616 = d at *
    repeat' (first | refine sy_seqC ?_ | refine syl_nil ?_ | refine sy_if_t rfl ?_ | refine sy_block ?_ | refine sy_skip ?_ | refine syx_then ?_ | refine syx_go ?_ | (refine sy_region (id := 2) ?_; refine y_lss ?_) | (refine sy_region (id := 3) ?_; refine y_move ?_; refine y_assign ?_) | fail)
    refine sy_drawA (id := 4) mixed ?_
    (refine sye_part 9 9 [[], [], [], [2], [2, 3], [], [5], [5, 6], [1, 2, 3, 4, 5, 6, 7], [0, 1, 2, 3, 4, 5, 6, 7, 8], [0, 1, 2, 3, 4, 5, 6, 7, 8, 9]] [[], [], [], [], [], [], [], [], [], [], []] (some 8) rfl ?_ ?_ ?_; kernel_rfl; kernel_rfl; refine e_move ?_; refine e_move ?_; refine e_move ?_; refine e_indexAddr ?_; refine dcE (fun _ _ => op_load (hv := hd1)) (k := ?_); refine e_move ?_; refine e_indexAddr ?_; refine dcE (fun _ _ => op_load (hv := hd2)) (k := ?_); try refine dh_0nE (h := ?_))
    refine dh_rE (R := fun _ v Nw => v = nv (z a d c) ∧ Nw = [.blk B 40 [nv (k a d c)], .blk b3 42 (l.map nv), .blk b4 42 (natC y), .blk b6 42 (List.replicate 16 (Value.int IntKind.u64 0))]) (fun _ _ _ => rfl)
      (fun ρ hρ => OpT.mono (op_callB (b := B) (T := 40) (C := [nv c]) (C' := [nv (k a d c)]) (v := nv (z a d c)) (vs := [nv a, nv d]) (cap := [.pointer (some ⟨B, 0, none⟩)]) (he := hen) (hL := Upd.here) (hc := fun w' X hk hh => hf a d c w' hc1 (hh.has (by exact Has.append Has.here)))) fun v L' h => ?_) (h := ?_)
    · obtain ⟨rfl, rfl⟩ := h
      exact ⟨_, (List.append_nil _).symm, rfl, rfl⟩
    refine dh_0E (h := ?_)
    rintro ρ ⟨⟨e, f'⟩, -⟩
    (refine sya_list [[], [], [], [2], [2, 3], [], [5], [5, 6], [1, 2, 3, 4, 5, 6, 7], [0, 1, 2, 3, 4, 5, 6, 7, 8], [0, 1, 2, 3, 4, 5, 6, 7, 8, 9]] ?_ ?_; kernel_rfl)
    have e : (ρ 8).1 = nv (z a d c) := e
    have f' : (ρ 8).2 = [.blk B 40 [nv (k a d c)], .blk b3 42 (l.map nv), .blk b4 42 (natC y), .blk b6 42 (List.replicate 16 (Value.int IntKind.u64 0))] := f'
    refine SyL.weaken (fr' := [(19, nv (z a d c)), (11, .int .i64 i), (2, .func (.func f) #[] #[.pointer (some ⟨B, 0, none⟩)]), (3, .pointer (some ⟨b3, 0, none⟩)), (4, .pointer (some ⟨b4, 0, none⟩)), (6, .pointer (some ⟨b6, 0, none⟩)), (8, .int .i64 i)])
      (L' := [.blk B 40 [nv (k a d c)], .blk b3 42 (l.map nv), .blk b4 42 (natC y), .blk b6 42 (List.replicate 16 (Value.int IntKind.u64 0))]) ?_ ?_ ?_
    · repeat' (first | refine syl_nil ?_ | refine syx_then ?_ | refine syx_go ?_ | (refine sy_region (id := 5) ?_; refine y_add ?_; refine y_move ?_) | (refine syl_id ?_; first | refine y_indexAddr ?_ | refine y_store ?_ | fail) | fail)
      refine syx_back (i + 1, l.set i (z a d c), k a d c) ⟨by show i + 1 ≤ 16; omega, by rw [List.length_set, hl], hJ'⟩ ?_ ?_ ?_
      · show 16 - (i + 1) < 16 - i; omega
      · exact Sub.go
      · show SubR [.blk B 40 [nv (k a d c)], .blk b3 42 ((l.set i (z a d c)).map nv), .blk b4 42 (natC y), .blk b6 42 (List.replicate 16 (Value.int IntKind.u64 0))] _
        rw [List.map_set]
        exact SubR.go
    · (repeat' (first | exact Sub.nil | refine Sub.cons rfl ?_ ?_ | rfl))
      exact e
    · show SubR _ ((ρ 8).2 ++ [])
      rw [f']
      exact SubR.go2
  obtain rfl : i = 16 := by omega
  repeat' (first | refine sy_seqC ?_ | refine syl_nil ?_ | refine sy_if_f rfl ?_ | refine sy_ret ?_ | refine sy_exit ?_ | refine syx_then ?_ | refine syx_go ?_ | (refine sy_region (id := 2) ?_; refine y_lss ?_) | (refine sy_region (id := 6) ?_; refine y_load ?_; refine y_store ?_) | fail)
  exact ret1 rfl (resCells (B := l.map nv) rfl (ty rfl) rfl Has.go Seg.all (by rw [List.length_map, hl])) (by exact SubR.go) ⟨l, c, hj, hl, rfl, rfl⟩
end Go.Proofs.YtaeddmcoanefhaaGreatDoor
namespace Go.Proofs.YtaeddmcoanefhaaGreatDoor
open Go Go.Sy Go.Nt Go.RowKit
attribute [local irreducible] Sy SyL SyX Sy.Fn callFunc natC
set_option maxRecDepth 10000
theorem with_add (B x y : Nat) (w : World) (hx : x < 18446744073709551616 ^ 16) (hy : y < 18446744073709551616 ^ 16) (hC : (Res.blk B 40 [nv 0]).holds w) :
    Sy.Fn Tryz.prog 135 [natV x, natV y, .func (.func 138) #[] #[.pointer (some ⟨B, 0, none⟩)]] w (fun x => x = B) (fun v R => ∃ s c, s < 18446744073709551616 ^ 16 ∧ s + c * 18446744073709551616 ^ 16 = x + y ∧ v = natV s ∧ R = [.blk B 40 [nv c]]) := by
  refine Sy.Fn.mono (with_fn 138 B x y (fun a d c => (a + d + c) % 18446744073709551616) (fun a d c => (a + d + c) / 18446744073709551616) (AddJ 18446744073709551616 16 x y) w (en rfl)
    (fun a d c w hc hC => add1_fn B a d c w hc hC) (AddJ.start _ _ _ _ (by decide) hx) (fun i l c hi h => ⟨h.bit, h.len, h.rest i (Nat.le_refl _) hi, ?_⟩) hC) ?_
  · have hm : x / 18446744073709551616 ^ i % 18446744073709551616 < 18446744073709551616 := Nat.mod_lt _ (by decide)
    have hm' : y / 18446744073709551616 ^ i % 18446744073709551616 < 18446744073709551616 := Nat.mod_lt _ (by decide)
    have hb := h.bit
    refine h.step hi (Nat.mod_lt _ (by decide)) ?_ ?_
    · generalize x / 18446744073709551616 ^ i % 18446744073709551616 = a at *
      generalize y / 18446744073709551616 ^ i % 18446744073709551616 = d at *
      omega
    · omega
  · rintro v R ⟨l, c, h, hl, rfl, rfl⟩
    obtain ⟨h1, h2, h3⟩ := h.done hy
    exact ⟨_, c, h2, h3, by unfold natV natC; rw [← h1], rfl⟩
theorem with_sub (B x y : Nat) (w : World) (hx : x < 18446744073709551616 ^ 16) (hy : y < 18446744073709551616 ^ 16) (hC : (Res.blk B 40 [nv 0]).holds w) :
    Sy.Fn Tryz.prog 135 [natV x, natV y, .func (.func 136) #[] #[.pointer (some ⟨B, 0, none⟩)]] w (fun x => x = B) (fun v R => ∃ s c, s < 18446744073709551616 ^ 16 ∧ s + y = x + c * 18446744073709551616 ^ 16 ∧ v = natV s ∧ R = [.blk B 40 [nv c]]) := by
  refine Sy.Fn.mono (with_fn 136 B x y (fun a d c => (a + 18446744073709551616 - d - c) % 18446744073709551616) (fun a d c => if a < d + c then 1 else 0) (SubJ 18446744073709551616 16 x y) w (en rfl)
    (fun a d c w hc hC => sub1_fn B a d c w hc hC) (SubJ.start _ _ _ _ (by decide) hx) (fun i l c hi h => ⟨h.bit, h.len, h.rest i (Nat.le_refl _) hi, ?_⟩) hC) ?_
  · have hm : x / 18446744073709551616 ^ i % 18446744073709551616 < 18446744073709551616 := Nat.mod_lt _ (by decide)
    have hm' : y / 18446744073709551616 ^ i % 18446744073709551616 < 18446744073709551616 := Nat.mod_lt _ (by decide)
    have hb := h.bit
    refine h.step hi (Nat.mod_lt _ (by decide)) ?_ ?_
    · split <;> omega
    · generalize x / 18446744073709551616 ^ i % 18446744073709551616 = a at *
      generalize y / 18446744073709551616 ^ i % 18446744073709551616 = d at *
      split <;> omega
  · rintro v R ⟨l, c, h, hl, rfl, rfl⟩
    obtain ⟨h1, h2, h3⟩ := h.done hy
    exact ⟨_, c, h2, h3, by unfold natV natC; rw [← h1], rfl⟩
theorem add_fn (x y : Nat) (w : World) (hx : x < 18446744073709551616 ^ 16) (hy : y < 18446744073709551616 ^ 16) :
    Sy.Fn Tryz.prog 123 [natV x, natV y] w No (Gives (if x + y < 18446744073709551616 ^ 16 then .tuple #[natV (x + y), .int .i64 0] else .tuple #[natV 0, .int .i64 7])) := by
  refine fn_enter Tryz.func123 rfl Tryz.ntmps123 (by simp) Holds.nil ?_
  have hlx := natC_len x
  have hly := natC_len y
  repeat' (first | refine sy_seqC ?_ | refine syl_nil ?_ | refine syx_then ?_ | refine syx_go ?_ | (refine sy_region (id := 0) ?_; (refine y_new ?_; intro _); (refine y_new ?_; intro _); (refine y_new ?_; intro _); refine y_assign ?_) | (refine sy_region (id := 1) ?_; (refine y_new ?_; intro _)) | (refine sy_region (id := 2) ?_; refine y_fieldAddr ?_; refine y_load ?_; refine y_fieldAddr ?_; refine y_load ?_; refine y_makeFunc ?_) | fail)
  rename_i b2 b3 b4 b6
  refine ys (op_call (vs := [natV x, natV y, .func (.func 138) #[] #[.pointer (some ⟨b6, 0, none⟩)]]) (cap := []) (C := [.blk b6 40 [nv 0]]) (M' := fun x => x = b6) (hC := RemL.cons Rem.here rfl RemL.nil) (hM := fun b hb => ⟨_, List.mem_singleton.2 rfl, hb.symm⟩) (hc := fun w' X hk hh => with_add b6 x y w' hx hy (hh.has (by exact Has.append Has.here)))) (k := ?_)
  rintro _ _ ⟨R, rfl, s, c, hs, e, rfl, rfl⟩
  have hls := natC_len s
  by_cases hc : c = 0
  · subst hc
    obtain rfl : s = x + y := by omega
    repeat' (first | refine sy_seqC ?_ | refine syl_nil ?_ | refine sy_if_f rfl ?_ | refine sy_skip ?_ | refine sy_ret ?_ | refine syx_then ?_ | refine syx_go ?_ | (refine sy_region (id := 3) ?_; refine y_load ?_; refine y_neq ?_) | (refine sy_region (id := 5) ?_; refine y_load ?_; refine yv (op_buildNat (n := x + y)) (k := ?_); refine yn (op_storeNat (n := x + y)) (k := ?_); refine y_assign ?_) | (refine syl_id ?_; first | refine yn (op_storeNat (n := x + y)) (k := ?_) | (refine y_new ?_; intro _) | fail) | fail)
    rw [if_pos (by omega)]
    exact ret2 rfl (resCells (B := natC (x + y)) rfl (ty rfl) rfl Has.go Seg.all (natC_len _).symm) (resTmp rfl) SubR.nil ⟨rfl, rfl⟩
  · repeat' (first | refine sy_seqC ?_ | refine syl_nil ?_ | refine sy_if_t rfl ?_ | refine sy_ret ?_ | refine syx_then ?_ | refine syx_go ?_ | refine syx_then_ret ?_ | (refine sy_region (id := 3) ?_; refine y_load ?_; refine y_neq ?_) | (refine sy_region (id := 4) ?_; refine y_build ?_; refine y_store ?_; refine y_assign ?_) | (refine syl_id ?_; first | refine yn (op_storeNat (n := s)) (k := ?_) | (refine y_new ?_; intro _) | fail) | fail)
    have hov : 18446744073709551616 ^ 16 ≤ c * 18446744073709551616 ^ 16 := Nat.le_mul_of_pos_left _ (by omega)
    rw [if_neg (by omega)]
    exact ret2 rfl (resCells (B := List.replicate 16 (Value.int IntKind.u64 0)) rfl (ty rfl) rfl Has.go Seg.all rfl) (resTmp rfl) SubR.nil ⟨by rw [← natV0], rfl⟩
theorem sub_fn (x y : Nat) (w : World) (hx : x < 18446744073709551616 ^ 16) (hy : y < 18446744073709551616 ^ 16) :
    Sy.Fn Tryz.prog 122 [natV x, natV y] w No (Gives (if y ≤ x then .tuple #[natV (x - y), .int .i64 0] else .tuple #[natV 0, .int .i64 3])) := by
  refine fn_enter Tryz.func122 rfl Tryz.ntmps122 (by simp) Holds.nil ?_
  have hlx := natC_len x
  have hly := natC_len y
  repeat' (first | refine sy_seqC ?_ | refine syl_nil ?_ | refine syx_then ?_ | refine syx_go ?_ | (refine sy_region (id := 0) ?_; (refine y_new ?_; intro _); (refine y_new ?_; intro _); (refine y_new ?_; intro _); refine y_assign ?_) | (refine sy_region (id := 1) ?_; (refine y_new ?_; intro _)) | (refine sy_region (id := 2) ?_; refine y_fieldAddr ?_; refine y_load ?_; refine y_fieldAddr ?_; refine y_load ?_; refine y_makeFunc ?_) | fail)
  rename_i b2 b3 b4 b6
  refine ys (op_call (vs := [natV x, natV y, .func (.func 136) #[] #[.pointer (some ⟨b6, 0, none⟩)]]) (cap := []) (C := [.blk b6 40 [nv 0]]) (M' := fun x => x = b6) (hC := RemL.cons Rem.here rfl RemL.nil) (hM := fun b hb => ⟨_, List.mem_singleton.2 rfl, hb.symm⟩) (hc := fun w' X hk hh => with_sub b6 x y w' hx hy (hh.has (by exact Has.append Has.here)))) (k := ?_)
  rintro _ _ ⟨R, rfl, s, c, hs, e, rfl, rfl⟩
  have hls := natC_len s
  by_cases hc : c = 0
  · subst hc
    obtain rfl : s = x - y := by omega
    repeat' (first | refine sy_seqC ?_ | refine syl_nil ?_ | refine sy_if_f rfl ?_ | refine sy_skip ?_ | refine sy_ret ?_ | refine syx_then ?_ | refine syx_go ?_ | (refine sy_region (id := 3) ?_; refine y_load ?_; refine y_neq ?_) | (refine sy_region (id := 5) ?_; refine y_load ?_; refine yv (op_buildNat (n := x - y)) (k := ?_); refine yn (op_storeNat (n := x - y)) (k := ?_); refine y_assign ?_) | (refine syl_id ?_; first | refine yn (op_storeNat (n := x - y)) (k := ?_) | (refine y_new ?_; intro _) | fail) | fail)
    rw [if_pos (by omega)]
    exact ret2 rfl (resCells (B := natC (x - y)) rfl (ty rfl) rfl Has.go Seg.all (natC_len _).symm) (resTmp rfl) SubR.nil ⟨rfl, rfl⟩
  · repeat' (first | refine sy_seqC ?_ | refine syl_nil ?_ | refine sy_if_t rfl ?_ | refine sy_ret ?_ | refine syx_then ?_ | refine syx_go ?_ | refine syx_then_ret ?_ | (refine sy_region (id := 3) ?_; refine y_load ?_; refine y_neq ?_) | (refine sy_region (id := 4) ?_; refine y_build ?_; refine y_store ?_; refine y_assign ?_) | (refine syl_id ?_; first | refine yn (op_storeNat (n := s)) (k := ?_) | (refine y_new ?_; intro _) | fail) | fail)
    have hov : 18446744073709551616 ^ 16 ≤ c * 18446744073709551616 ^ 16 := Nat.le_mul_of_pos_left _ (by omega)
    rw [if_neg (by omega)]
    exact ret2 rfl (resCells (B := List.replicate 16 (Value.int IntKind.u64 0)) rfl (ty rfl) rfl Has.go Seg.all rfl) (resTmp rfl) SubR.nil ⟨by rw [← natV0], rfl⟩
end Go.Proofs.YtaeddmcoanefhaaGreatDoor
end
