/- Blocks known whole, and worlds compared below a block number: small laws for walks that keep arrays of their own. -/
import Derived.WalkKit
import Derived.Deep.MidRow
import Derived.Deep.QuietTactic
import Derived.BigQuiet
import Derived.Lib.Hide
import Derived.Test.YtcahnkdnhejkkaaDoorWords
set_option linter.all false
namespace Go.Wd
open Go Go.RowKit

def v8 (x : UInt8) : Value := .int .u8 (n8 x)
def v32 (x : UInt32) : Value := .int .u32 (n32 x)
def v64 (x : UInt64) : Value := .int .u64 (n64 x)
/-- Block B is known whole. -/
def Blk (w : World) (B T : Nat) (C : List Value) : Prop := w.heap[B]? = some (.cells C.toArray T (0, 0))

theorem Blk.cell {w : World} {B T : Nat} {C : List Value} (h : Blk w B T C) (i : Nat) : w.cell? ⟨B, i, none⟩ = C[i]? := by
  unfold Blk at h; simp [World.cell?, h]
theorem Blk.cellMap {w : World} {B T : Nat} {α : Type} {f : α → Value} {L : List α} (h : Blk w B T (L.map f)) {i : Nat} {x : α} (hx : L[i]? = some x) : w.cell? ⟨B, i, none⟩ = some (f x) := by
  rw [h.cell, List.getElem?_map, hx]; rfl
theorem Blk.free {w : World} {B T : Nat} {C : List Value} (h : Blk w B T C) (i : Nat) : w.frozen? ⟨B, i, none⟩ = false := by
  unfold Blk at h; simp [World.frozen?, h]
theorem Blk.lt {w : World} {B T : Nat} {C : List Value} (h : Blk w B T C) : B < w.heap.size := lt_of_block h
theorem Blk.new (w : World) (T : Nat) (C : List Value) : Blk (w.alloc (.cells C.toArray T)) w.heap.size T C := by
  unfold Blk; show (w.heap.push _)[w.heap.size]? = _; simp
theorem Blk.alloc {w : World} {B T : Nat} {C : List Value} (h : Blk w B T C) (o : Obj) : Blk (w.alloc o) B T C := by
  unfold Blk at *; rw [Below.heap_alloc _ _ _ (lt_of_block h)]; exact h
theorem Blk.drew {w : World} {B T : Nat} {C : List Value} (h : Blk w B T C) : Blk w.drew B T C := h
theorem Blk.drewN {w : World} {B T : Nat} {C : List Value} (h : Blk w B T C) (n : Nat) : Blk (w.drewN n) B T C := h
theorem Blk.set {w : World} {B T : Nat} {C : List Value} (h : Blk w B T C) (i : Nat) (v : Value) : Blk (w.setCell ⟨B, i, none⟩ v) B T (C.set i v) := by
  unfold Blk at *; simp [World.setCell, Array.getElem?_modify, h]
theorem Blk.setMap {w : World} {B T : Nat} {α : Type} {f : α → Value} {L : List α} (h : Blk w B T (L.map f)) (i : Nat) (x : α) : Blk (w.setCell ⟨B, i, none⟩ (f x)) B T ((L.set i x).map f) := by
  rw [List.map_set]; exact h.set i (f x)
theorem Blk.other {w : World} {B T : Nat} {C : List Value} (h : Blk w B T C) {a : Addr} (ha : a.block ≠ B) (v : Value) : Blk (w.setCell a v) B T C := by
  unfold Blk at *; rw [Below.heap_setCell _ _ _ _ (fun e => ha e.symm)]; exact h
theorem Blk.below {w w' : World} {n B T : Nat} {C : List Value} (h : Blk w B T C) (hb : Below n w w') (hB : B < n) : Blk w' B T C := by
  unfold Blk at *; rw [hb.block B hB]; exact h

/-- The world behind draws. -/
theorem below_draws (n k : Nat) (w : World) : Below n w (w.drewN k) := ⟨rfl, rfl, rfl, Nat.le_refl _, fun _ _ => rfl⟩
theorem Below.setCell_both {n : Nat} {a w : World} (h : Below n a w) (p : Addr) (v : Value) : Below n (a.setCell p v) (w.setCell p v) := by
  refine ⟨h.os, h.tape, h.output, by simpa using h.size, fun k hk => ?_⟩
  simp only [World.setCell, Array.getElem?_modify]
  rw [h.block k hk]
theorem setCells_snoc (B : Nat) : ∀ (l : List Value) (o : Nat) (w : World) (v : Value), (w.setCells B o l).setCell ⟨B, o + l.length, none⟩ v = w.setCells B o (l ++ [v])
  | [], o, w, v => by simp [World.setCells]
  | x :: l, o, w, v => by
    have := setCells_snoc B l (o + 1) (w.setCell ⟨B, o, none⟩ x) v
    simp only [World.setCells, List.cons_append, List.length_cons]
    rw [← this]; congr 2; omega
theorem size_setCells (B : Nat) : ∀ (l : List Value) (o : Nat) (w : World), (w.setCells B o l).heap.size = w.heap.size
  | [], _, _ => rfl
  | x :: l, o, w => by simp only [World.setCells]; rw [size_setCells B l]; simp
theorem setCells_block (B : Nat) : ∀ (l : List Value) (o : Nat) (w : World) (k : Nat), k ≠ B → (w.setCells B o l).heap[k]? = w.heap[k]?
  | [], _, _, _, _ => rfl
  | x :: l, o, w, k, hk => by simp only [World.setCells]; rw [setCells_block B l _ _ k hk, Below.heap_setCell _ _ _ _ hk]
/-- Cells written into a block that is known whole. -/
theorem Blk.setCells {B T : Nat} {D : List Value} : ∀ (l M A : List Value) (w : World), Blk w B T (A ++ M ++ D) → M.length = l.length → Blk (w.setCells B A.length l) B T (A ++ l ++ D)
  | [], M, A, w, h, hm => by
    obtain rfl : M = [] := List.length_eq_zero_iff.1 (by simpa using hm)
    exact h
  | x :: l, M, A, w, h, hm => by
    cases M with
    | nil => simp at hm
    | cons m M =>
      simp only [World.setCells]
      have h1 := h.set A.length x
      rw [List.append_assoc, List.set_append_right _ _ (Nat.le_refl _), Nat.sub_self] at h1
      have h2 := Blk.setCells (D := D) l M (A ++ [x]) (w.setCell ⟨B, A.length, none⟩ x) (by simpa using h1) (by simpa using hm)
      simpa using h2
theorem rangeAt_below {w w' : World} {n b o : Nat} {cs : List Value} (h : w.rangeAt b o cs) (hb : Below n w w') (hB : b < n) : w'.rangeAt b o cs := fun j v hv => by
  rw [hb.cell (p := ⟨b, o + j, none⟩) hB]; exact h j v hv
theorem there_below {w w' : World} {n b o k : Nat} (h : w.there b o k) (hb : Below n w w') (hB : b < n) : w'.there b o k := fun j hj => by
  rw [hb.cell (p := ⟨b, o + j, none⟩) hB, hb.frozen (p := ⟨b, o + j, none⟩) hB]; exact h j hj
theorem Blk.rangeAt {w : World} {B T : Nat} {C : List Value} (h : Blk w B T C) (o : Nat) (l : List Value) (hl : ∀ j v, l[j]? = some v → C[o + j]? = some v) : w.rangeAt B o l := fun j v hv => by
  rw [h.cell]; exact hl j v hv
theorem Blk.there {w : World} {B T : Nat} {C : List Value} (h : Blk w B T C) (o n : Nat) (hn : o + n ≤ C.length) : w.there B o n := fun j hj => by
  refine ⟨?_, h.free _⟩
  rw [h.cell, List.getElem?_eq_getElem (by omega)]; rfl
theorem rangeAt_map {w : World} {b o : Nat} {α : Type} {f : α → Value} {L : List α} (h : w.rangeAt b o (L.map f)) {i : Nat} {x : α} (hx : L[i]? = some x) : w.cell? ⟨b, o + i, none⟩ = some (f x) :=
  h i (f x) (by rw [List.getElem?_map, hx]; rfl)
theorem run_index_agg {P : Program} {T E n : Nat} {d : TypeDesc} {cs : Array Value} {i : Nat} {v : Value} (hu : P.underlying T = some (.array n E)) (hs : (P.info? E).map (·.size) = some 1)
    (he : P.underlying E = some d) (hd : d.isRow = false) (hi : i < n) (hv : cs[i]? = some v) (w : World) : (Instr.index T (.agg cs) (.int .i64 i)).run P w = .ok v w := by
  cases hq : P.info? E with
  | none => simp [hq] at hs
  | some j =>
    have hj : j.size = 1 := by simpa [hq] using hs
    have hagg : (isAgg E).run P w = .ok false w := by
      unfold isAgg
      rw [Sem.run_bind, run_underlying he w]
      cases d <;> simp_all
    have h0 : (0 : Int) ≤ (i : Int) ∧ (i : Int) < (n : Int) := by omega
    simp [Instr.index, asIntOf, Sem.run_bind, run_underlying hu w, h0, sizeOf, typeInfo, hq, hj, part, hagg, hv, hi]
theorem ret_int {k : IntKind} {a b : Int} (h : a = b) : Ending.returned (.int k a) = .returned (.int k b) := by rw [h]
theorem take_set_snoc {α : Type} {C L : List α} {k : Nat} (h : k < C.length) (hL : C.take k = L) (v : α) : (C.set k v).take (k + 1) = L ++ [v] := by
  rw [List.take_succ_eq_append_getElem (by simpa using h), List.take_set_of_le (Nat.le_refl k), hL]; simp
theorem getD_of_take {α : Type} {C L : List α} {k i : Nat} (hL : C.take k = L) (hi : i < k) (d : α) : C.getD i d = L.getD i d := by
  subst hL; simp [List.getD, hi]
theorem Blk.cellD {w : World} {B T : Nat} {α : Type} {f : α → Value} {L : List α} (h : Blk w B T (L.map f)) {i : Nat} (hi : i < L.length) (d : α) : w.cell? ⟨B, i, none⟩ = some (f (L.getD i d)) := by
  rw [h.cell]; simp [hi, List.getD]
theorem rangeAt_D {w : World} {b o : Nat} {α : Type} {f : α → Value} {L : List α} (h : w.rangeAt b o (L.map f)) {i : Nat} (hi : i < L.length) (d : α) : w.cell? ⟨b, o + i, none⟩ = some (f (L.getD i d)) :=
  h i _ (by simp [hi, List.getD])
theorem map_toArray_D {α : Type} (f : α → Value) (L : List α) {i : Nat} (hi : i < L.length) (d : α) : (L.map f).toArray[i]? = some (f (L.getD i d)) := by
  simp [List.getD, hi]
/-- One more cell of a range has been written. -/
theorem below_setCells_step {w wr : World} {S o n k : Nat} {L : List Value} {v : Value} (h : Below n (w.setCells S o (L.take k)) wr) (hv : L[k]? = some v) :
    Below n (w.setCells S o (L.take (k + 1))) (wr.setCell ⟨S, o + k, none⟩ v) := by
  obtain ⟨hk, rfl⟩ := List.getElem?_eq_some_iff.1 hv
  have := Below.setCell_both h ⟨S, o + k, none⟩ L[k]
  have e := setCells_snoc S (L.take k) o w L[k]
  rw [List.length_take, Nat.min_eq_left (Nat.le_of_lt hk)] at e
  rw [e] at this
  rw [List.take_succ_eq_append_getElem hk]; exact this
theorem frozen_setCells (S : Nat) : ∀ (l : List Value) (o : Nat) (w : World) (a : Addr), (w.setCells S o l).frozen? a = w.frozen? a
  | [], _, _, _ => rfl
  | x :: l, o, w, a => by simp only [World.setCells]; rw [frozen_setCells S l, World.frozen?_setCell]
/-- A cell of the range that has not been written yet. -/
theorem cell_not_yet {w wr : World} {S o n k : Nat} {L : List Value} {v : Value} (h : Below n (w.setCells S o (L.take k)) wr) (hS : S < n) (hv : w.cell? ⟨S, o + k, none⟩ = some v) : wr.cell? ⟨S, o + k, none⟩ = some v := by
  rw [h.cell (p := ⟨S, o + k, none⟩) hS, World.cell?_setCells_out S _ _ _ _ (fun _ _ => Or.inr (by have := List.length_take_le k L; show o + _ ≤ o + k; omega))]
  exact hv
theorem frozen_not_yet {w wr : World} {S o n : Nat} {L : List Value} {a : Addr} {x : Bool} (h : Below n (w.setCells S o L) wr) (hS : a.block < n) (hv : w.frozen? a = x) : wr.frozen? a = x := by
  rw [h.frozen hS, frozen_setCells]; exact hv
theorem getD_some {α : Type} {L : List α} {i : Nat} (hi : i < L.length) (d : α) : L[i]? = some (L.getD i d) := by simp [List.getD, hi]
theorem frozen_alloc_some {w : World} {a : Addr} (o : Obj) (h : (w.cell? a).isSome = true) : (w.alloc o).frozen? a = w.frozen? a := by
  obtain ⟨v, hv⟩ := Option.isSome_iff_exists.1 h
  exact World.frozen?_alloc_old w o a (Nat.ne_of_lt (World.block_lt_of_cell? w a hv))
theorem keep_drew {w : World} {a : Addr} {x : Option Value} (h : w.cell? a = x) : w.drew.cell? a = x := h
theorem keep_alloc {w : World} {a : Addr} {x : Value} (o : Obj) (h : w.cell? a = some x) : (w.alloc o).cell? a = some x := by
  rw [World.cell?_alloc_lt _ _ _ (World.block_lt_of_cell? w a h)]; exact h
theorem keep_off {w : World} {b i j : Nat} {v : Value} {x : Option Value} (hij : i ≠ j) (h : w.cell? ⟨b, j, none⟩ = x) : (w.setCell ⟨b, i, none⟩ v).cell? ⟨b, j, none⟩ = x := by
  rw [World.cell?_setCell_other _ _ _ _ (fun e => hij (congrArg Addr.off e))]; exact h
theorem keep_far {w : World} {p a : Addr} {v : Value} {x : Option Value} (hp : p.block ≠ a.block) (h : w.cell? a = x) : (w.setCell p v).cell? a = x := by
  rw [World.cell?_setCell_other _ _ _ _ (fun e => hp (congrArg Addr.block e))]; exact h
theorem keepf_drew {w : World} {a : Addr} {x : Bool} (h : w.frozen? a = x) : w.drew.frozen? a = x := h
theorem keepf_set {w : World} {p a : Addr} {v : Value} {x : Bool} (h : w.frozen? a = x) : (w.setCell p v).frozen? a = x := by rw [World.frozen?_setCell]; exact h
theorem keepf_alloc {w : World} {a : Addr} {x : Bool} (o : Obj) (hl : a.block < w.heap.size) (h : w.frozen? a = x) : (w.alloc o).frozen? a = x := by
  rw [World.frozen?_alloc_old w o a (Nat.ne_of_lt hl)]; exact h
theorem Blk.whole {w : World} {B T : Nat} {C : List Value} (h : Blk w B T C) : w.rangeAt B 0 C := h.rangeAt 0 C (fun j v hj => by rw [Nat.zero_add]; exact hj)
theorem Blk.thereAll {w : World} {B T : Nat} {C : List Value} (h : Blk w B T C) : w.there B 0 C.length := h.there 0 _ (by omega)
theorem Blk.setAll {w : World} {B T : Nat} {C L : List Value} (h : Blk w B T C) (hL : C.length = L.length) : Blk (w.setCells B 0 L) B T L := by
  have := Blk.setCells (D := []) L C [] w (by simpa using h) hL
  simpa using this
theorem one8 (L : List UInt8) : ∀ v ∈ L.map v8, v.oneCell' = true := fun v hv => by obtain ⟨x, _, rfl⟩ := List.mem_map.1 hv; rfl
theorem one32 (L : List UInt32) : ∀ v ∈ L.map v32, v.oneCell' = true := fun v hv => by obtain ⟨x, _, rfl⟩ := List.mem_map.1 hv; rfl
theorem one64 (L : List UInt64) : ∀ v ∈ L.map v64, v.oneCell' = true := fun v hv => by obtain ⟨x, _, rfl⟩ := List.mem_map.1 hv; rfl
theorem results_blk {P : Program} {fn : Func} {p : Tmp} {ty : TypeId} (h : fn.results = #[.cell p ty]) {tmps : Array Value} {w : World} {g T : Nat} {C : List Value} {d : TypeDesc}
    (hp : tmps.getD p undef = .pointer (some ⟨g, 0, none⟩)) (hg : Blk w g T C) (hu : P.underlying ty = some d) (hd : (match d with | .struct _ | .array _ _ => true | _ => false) = true) (hi : (P.info? ty).map (·.size) = some C.length) :
    (results fn tmps).run P w = .ok (.agg C.toArray) w := results_cell_row h tmps w g T C.toArray (0, 0) d hp hg hu hd (by simpa using hi)
theorem below_setCells_new {n B : Nat} {w w' : World} (h : Below n w w') (hB : n ≤ B) (l : List Value) (o : Nat) : Below n w (w'.setCells B o l) := by
  induction l generalizing o w' with
  | nil => exact h
  | cons x l ih => exact ih (h.setCell (p := ⟨B, o, none⟩) hB x) (o + 1)
end Go.Wd
