/- The logic of walks: what touches memory. -/
import Derived.Test.YtcahnkdnhejkkaaDoorSyOp
set_option linter.all false
namespace Go.Sy
open Go

/-! ### Types, in short -/
def slim : TypeDesc → TypeDesc
  | .struct _ => .struct #[]
  | .interface _ => .interface #[]
  | .func _ _ _ => .func #[] #[] false
  | d => d
structure Ty where
  desc : TypeDesc
  size : Nat
  bytes : Nat
  flds : List (Nat × Nat)      -- a field's offset, its number of cells
def tyOf (P : Program) (t : TypeId) : Option Ty :=
  match P.underlying t, P.info? t with
  | some d, some i => some ⟨slim d, i.size, i.bytes, match d with
    | .struct fs => fs.toList.map fun f => (f.offset, P.cellsOf f.type)
    | _ => []⟩
  | _, _ => none
def nth {α : Type} : List α → Nat → Option α
  | [], _ => none
  | x :: _, 0 => some x
  | _ :: l, n + 1 => nth l n
theorem nth_eq {α : Type} : ∀ (l : List α) (n : Nat), nth l n = l[n]?
  | [], _ => by simp [nth]
  | _ :: _, 0 => by simp [nth]
  | _ :: l, n + 1 => by simp [nth, nth_eq l n]
theorem tyOf_tbl {P : Program} {tbl : List Ty} (h : (List.range tbl.length).map (tyOf P) = tbl.map some) {t : Nat} {y : Ty} (hy : nth tbl t = some y) : tyOf P t = some y := by
  rw [nth_eq] at hy
  have hlt : t < tbl.length := (List.getElem?_eq_some_iff.1 hy).1
  have := congrArg (fun l => l[t]?) h
  simp only [List.getElem?_map, List.getElem?_range hlt, Option.map_some, hy, Option.some.injEq] at this
  exact this
theorem tyOf_spec {P : Program} {t : TypeId} {y : Ty} (h : tyOf P t = some y) : ∃ d i, P.underlying t = some d ∧ P.info? t = some i ∧ slim d = y.desc ∧ i.size = y.size ∧ i.bytes = y.bytes ∧
    y.flds = (match d with | .struct fs => fs.toList.map fun f => (f.offset, P.cellsOf f.type) | _ => []) := by
  unfold tyOf at h
  split at h
  · rename_i d i hd hi; cases h; exact ⟨d, i, hd, hi, rfl, rfl, rfl, rfl⟩
  · cases h
theorem slim_row (d : TypeDesc) : (slim d).isRow = d.isRow := by cases d <;> rfl
theorem slim_slice {d : TypeDesc} {e : TypeId} (h : slim d = .slice e) : d = .slice e := by cases d <;> simp_all [slim]
theorem slim_array {d : TypeDesc} {n : Nat} {e : TypeId} (h : slim d = .array n e) : d = .array n e := by cases d <;> simp_all [slim]
theorem slim_int {d : TypeDesc} {k : IntKind} (h : slim d = .int k) : d = .int k := by cases d <;> simp_all [slim]
theorem slim_string {d : TypeDesc} (h : slim d = .string) : d = .string := by cases d <;> simp_all [slim]
theorem slim_bool {d : TypeDesc} (h : slim d = .bool) : d = .bool := by cases d <;> simp_all [slim]
theorem slim_pointer {d : TypeDesc} {e : TypeId} (h : slim d = .pointer e) : d = .pointer e := by cases d <;> simp_all [slim]
theorem slim_struct {d : TypeDesc} (h : slim d = .struct #[]) : ∃ fs, d = .struct fs := by cases d <;> simp_all [slim]

section
variable {P : Program}
theorem run_isAgg_no {t : TypeId} {y : Ty} (ht : tyOf P t = some y) (hr : y.desc.isRow = false) (w : World) : (isAgg t).run P w = .ok false w := by
  obtain ⟨d, i, hd, hi, hs, _⟩ := tyOf_spec ht
  rw [← hs, slim_row] at hr
  unfold isAgg
  rw [Sem.run_bind, run_underlying hd w]
  cases d <;> simp_all
theorem run_sizeOf_ty {t : TypeId} {y : Ty} (ht : tyOf P t = some y) (w : World) : (sizeOf t).run P w = .ok y.size w := by
  obtain ⟨d, i, hd, hi, hs, hz, _⟩ := tyOf_spec ht
  simp [sizeOf, typeInfo, hi, hz]
theorem run_load_one {t : TypeId} {y : Ty} (ht : tyOf P t = some y) (hr : y.desc.isRow = false) (w : World) (a : Addr) {v : Value} (hc : w.cell? a = some v) : (Instr.loadAt t (.pointer (some a))).run P w = .ok v w := by
  simp only [Instr.loadAt, Instr.sureAddr, Sem.run_bind, Sem.run_pure, Result.andThen_ok, loadVar, run_isAgg_no ht hr]
  simp [load, Sem.run, hc]
theorem run_store_one {t : TypeId} {y : Ty} (ht : tyOf P t = some y) (hz : y.size = 1) (w : World) (a : Addr) {v u : Value} (hc : w.cell? a = some u) (hf : w.frozen? a = false) (h1 : v.oneCell' = true) : (Instr.storeAt t (.pointer (some a)) v).run P w = .ok () (w.setCell a v) := by
  have hv : v.cells = #[v] := by cases v <;> first | rfl | (simp [Value.oneCell'] at h1)
  have ha : a.add 0 = a := by simp [Addr.add]
  simp only [Instr.storeAt, Instr.sureAddr, Sem.run_bind, Sem.run_pure, Result.andThen_ok, storeVar, hv, run_sizeOf_ty ht, hz]
  cases v <;> first
    | (simp [Value.oneCell'] at h1; done)
    | simp [storeCells, store, Sem.run, ha, hc, hf]
theorem blk_cell {w : World} {b T : Nat} {C : List Value} (h : (Res.blk b T C).holds w) (o : Nat) : w.cell? ⟨b, o, none⟩ = C[o]? := by
  have h : w.heap[b]? = some (.cells C.toArray T (0, 0)) := h
  simp [World.cell?, h]
theorem blk_free {w : World} {b T : Nat} {C : List Value} (h : (Res.blk b T C).holds w) (o : Nat) : w.frozen? ⟨b, o, none⟩ = false := by
  have h : w.heap[b]? = some (.cells C.toArray T (0, 0)) := h
  simp [World.frozen?, h]
theorem blk_set {w : World} {b T : Nat} {C : List Value} (h : (Res.blk b T C).holds w) (o : Nat) (v : Value) : (Res.blk b T (C.set o v)).holds (w.setCell ⟨b, o, none⟩ v) := by
  have h : w.heap[b]? = some (.cells C.toArray T (0, 0)) := h
  show (w.setCell ⟨b, o, none⟩ v).heap[b]? = _
  simp [World.setCell, Array.getElem?_modify, h]
/-- Cells overwritten from offset o on. -/
def setSeg (C : List Value) (o : Nat) (l : List Value) : List Value := C.take o ++ l ++ C.drop (o + l.length)
theorem setSeg_length {C : List Value} {o : Nat} {l : List Value} (h : o + l.length ≤ C.length) : (setSeg C o l).length = C.length := by
  simp only [setSeg, List.length_append, List.length_take, List.length_drop]; omega
theorem blk_setCells {b T : Nat} : ∀ (l : List Value) (C : List Value) (o : Nat) (w : World), (Res.blk b T C).holds w → o + l.length ≤ C.length → (Res.blk b T (setSeg C o l)).holds (w.setCells b o l)
  | [], C, o, w, h, _ => by simpa [setSeg, World.setCells] using h
  | x :: l, C, o, w, h, hl => by
    simp only [List.length_cons] at hl
    have := blk_setCells l (C.set o x) (o + 1) _ (blk_set h o x) (by rw [List.length_set]; omega)
    have e : setSeg (C.set o x) (o + 1) l = setSeg C o (x :: l) := by
      unfold setSeg
      rw [List.take_succ_eq_append_getElem (by rw [List.length_set]; omega), List.getElem_set_self, List.take_set_of_le (Nat.le_refl o), List.drop_set_of_lt (by omega)]
      simp [Nat.add_assoc, Nat.add_comm 1]
    rw [e] at this; exact this
theorem Keep.setCells (b : Nat) : ∀ (l : List Value) (o : Nat) (w : World), Keep (· = b) w (w.setCells b o l)
  | [], _, w => Keep.refl _ w
  | x :: l, o, w => (Keep.setCell w ⟨b, o, none⟩ x).trans (Keep.setCells b l (o + 1) _) (fun _ h => .inr h)
end

section
variable {P : Program} {ro : Option Nat} {N : Nat} {w0 : World} {M : Nat → Prop} {ds : List Deferred} {g : Nat → Option Value} {L : List Res} {o : Oper}
theorem St.blk {a : Act} {w : World} {X : List Res} (h : St N w0 M ds g (L ++ X) a w) {r : Res} (hr : Has L r) : r.holds w := h.hold.has (Has.append hr)
theorem St.old {a : Act} {w : World} {X : List Res} (h : St N w0 M ds g (L ++ X) a w) {ad : Addr} {v : Value} (hv : w0.cell? ad = some v) (hn : ¬ M ad.block) : w.cell? ad = some v := h.keep.cell hv hn
theorem St.oldRange {a : Act} {w : World} {X : List Res} (h : St N w0 M ds g (L ++ X) a w) {b off : Nat} {cs : List Value} (hv : w0.rangeAt b off cs) (hn : ¬ M b) : w.rangeAt b off cs :=
  fun j v hj => h.old (hv j v hj) hn
/-- The segment of a block. -/
def Seg (C : List Value) (off : Nat) (B : List Value) : Prop := ∀ j v, B[j]? = some v → C[off + j]? = some v
theorem Seg.all {C : List Value} : Seg C 0 C := fun j v h => by rw [Nat.zero_add]; exact h
theorem Seg.mid {A B D : List Value} : Seg (A ++ B ++ D) A.length B := fun j v h => by
  have hj : j < B.length := (List.getElem?_eq_some_iff.1 h).1
  rw [List.append_assoc, List.getElem?_append_right (by omega), List.getElem?_append_left (by omega), Nat.add_sub_cancel_left]; exact h
theorem Seg.at {C B : List Value} {off : Nat} (h : (C.drop off).take B.length = B) : Seg C off B := fun j v hj => by
  have hj' : j < B.length := (List.getElem?_eq_some_iff.1 hj).1
  rw [← h, List.getElem?_take_of_lt hj', List.getElem?_drop] at hj; exact hj
theorem blk_range {w : World} {b T : Nat} {C B : List Value} {off : Nat} (h : (Res.blk b T C).holds w) (hs : Seg C off B) : w.rangeAt b off B := fun j v hj => by rw [blk_cell h]; exact hs j v hj
theorem blk_there {w : World} {b T : Nat} {C : List Value} {off n : Nat} (h : (Res.blk b T C).holds w) (hl : off + n ≤ C.length) : w.there b off n := fun j hj =>
  ⟨by rw [blk_cell h, List.getElem?_eq_getElem (by omega)]; rfl, blk_free h _⟩

/-- These cells lie there, in whatever world the walk has come to. -/
def Reads (w0 : World) (M : Nat → Prop) (L : List Res) (b off : Nat) (B : List Value) : Prop := ∀ w X, Keep M w0 w → Holds w0.heap.size M (L ++ X) w → w.rangeAt b off B
theorem Reads.blk {b off T : Nat} {C B : List Value} (hL : Has L (.blk b T C)) (hs : Seg C off B) : Reads w0 M L b off B := fun _ _ _ hh => blk_range (hh.has (Has.append hL)) hs
theorem Reads.old {b off : Nat} {B : List Value} (hv : w0.rangeAt b off B) (hn : ¬ M b) : Reads w0 M L b off B := fun _ _ hk _ j v hj => hk.cell (hv j v hj) hn
theorem Reads.sub {b off : Nat} {B B' : List Value} {k : Nat} (h : Reads w0 M L b off B) (hs : ∀ j v, B'[j]? = some v → B[k + j]? = some v) : Reads w0 M L b (off + k) B' := fun w X hk hh j v hj => by
  rw [Nat.add_assoc]; exact h w X hk hh _ v (hs j v hj)
theorem Reads.take {b off : Nat} {B : List Value} (h : Reads w0 M L b off B) (k : Nat) : Reads w0 M L b off (B.take k) := fun w X hk hh j v hj => by
  rw [List.getElem?_take] at hj
  split at hj
  · exact h w X hk hh _ v hj
  · cases hj
theorem Reads.drop {b off : Nat} {B : List Value} (h : Reads w0 M L b off B) (k : Nat) : Reads w0 M L b (off + k) (B.drop k) := h.sub fun j v hj => by rw [List.getElem?_drop] at hj; exact hj
/-- What a slice's address leads to. -/
def SlA (w : World) (a : Option Addr) (B : List Value) : Prop := B = [] ∨ ∃ b off, a = some ⟨b, off, none⟩ ∧ w.rangeAt b off B
def Rd (w0 : World) (M : Nat → Prop) (L : List Res) (a : Option Addr) (B : List Value) : Prop := ∀ w X, Keep M w0 w → Holds w0.heap.size M (L ++ X) w → SlA w a B
theorem SlA.drop {w : World} {a : Option Addr} {B : List Value} (h : SlA w a B) (k : Nat) : SlA w (a.map (·.add k)) (B.drop k) := by
  rcases h with rfl | ⟨b, o, rfl, hr⟩
  · exact .inl (by simp)
  · refine .inr ⟨b, o + k, by simp [Addr.add_mid], fun j v hj => ?_⟩
    rw [List.getElem?_drop] at hj
    rw [Nat.add_assoc]; exact hr _ v hj
theorem SlA.take {w : World} {a : Option Addr} {B : List Value} (h : SlA w a B) (k : Nat) : SlA w a (B.take k) := by
  rcases h with rfl | ⟨b, o, rfl, hr⟩
  · exact .inl (by simp)
  · refine .inr ⟨b, o, rfl, fun j v hj => ?_⟩
    rw [List.getElem?_take] at hj
    split at hj
    · exact hr j v hj
    · cases hj
theorem SlA.keep {M' : Nat → Prop} {w w' : World} {a : Option Addr} {B : List Value} (h : SlA w a B) (hk : Keep M' w w') (hn : ∀ ad, a = some ad → ¬ M' ad.block) : SlA w' a B := by
  rcases h with rfl | ⟨b, o, rfl, hr⟩
  · exact .inl rfl
  · exact .inr ⟨b, o, rfl, fun j v hj => hk.cell (hr j v hj) (hn ⟨b, o, none⟩ rfl)⟩
theorem SlA.nil {w : World} {a : Option Addr} : SlA w a [] := .inl rfl
theorem Rd.nil {a : Option Addr} : Rd w0 M L a [] := fun _ _ _ _ => .inl rfl
theorem Rd.of {b off : Nat} {B : List Value} (h : Reads w0 M L b off B) : Rd w0 M L (some ⟨b, off, none⟩) B := fun w X hk hh => .inr ⟨b, off, rfl, h w X hk hh⟩
theorem Rd.old {a : Option Addr} {B : List Value} (h : SlA w0 a B) (hn : ∀ ad, a = some ad → ¬ M ad.block) : Rd w0 M L a B := fun _ _ hk _ => h.keep hk hn
theorem Rd.drop {a : Option Addr} {B : List Value} (h : Rd w0 M L a B) (k : Nat) : Rd w0 M L (a.map (·.add k)) (B.drop k) := fun w X hk hh => (h w X hk hh).drop k
theorem Rd.take {a : Option Addr} {B : List Value} (h : Rd w0 M L a B) (k : Nat) : Rd w0 M L a (B.take k) := fun w X hk hh => (h w X hk hh).take k
theorem Rd.weak {L' : List Res} {a : Option Addr} {B : List Value} (h : Rd w0 M L a B) (hs : SubR L L') : Rd w0 M L' a B := fun w X hk hh => by
  obtain ⟨Y, hY⟩ := hs
  refine h w (Y ++ X) hk (hh.perm ?_)
  rw [← List.append_assoc]; exact List.Perm.append_right X hY
/-- What an owned slice holds can be read. -/
theorem Rd.row {E n m c : Nat} {a : Option Addr} {xs : List Value} (hL : Has L (.row (.slice a m c) E 1 n xs)) : Rd w0 M L a xs := fun w X _ hh => by
  have hrow : w.ownsRow 0 E 1 (.slice a m c) n xs := hh.has (Has.append hL)
  obtain ⟨h1, ⟨_, h2⟩ | ⟨b, cc, cur, hv, _, h3, h4, h5, h6, h7⟩⟩ := hrow
  · exact .inl (List.length_eq_zero_iff.1 (by omega))
  · cases hv
    refine .inr ⟨b, 0, rfl, fun j v hj => ?_⟩
    rw [← h7, List.getElem?_take] at hj
    split at hj
    · simp only [World.cell?, h3, Nat.zero_add]; simpa using hj
    · cases hj

/-! ### Loads -/
theorem op_load {t : TypeId} {x : Operand} {b off T : Nat} {C : List Value} {v : Value} {y : Ty} (ho : o.op = .load t x := by exact rfl) (hx : ev g x = some (.pointer (some ⟨b, off, none⟩)) := by exact rfl) (ht : tyOf P t = some y := by exact ty rfl) (hr : y.desc.isRow = false := by exact rfl)
    (hL : Has L (.blk b T C) := by repeat (first | exact Has.here | apply Has.there)) (hv : C[off]? = some v := by first | rfl | assumption) : OpT P ro N w0 M ds o g L (Det v L) :=
  OpT.still (by rw [ho]; rfl) fun a w X hs => by
    simp [execOp, ho, hs.agr.eval hx, run_load_one ht hr w _ ((blk_cell (hs.blk hL) off).trans hv)]
theorem op_load_old {t : TypeId} {x : Operand} {ad : Addr} {v : Value} {y : Ty} (ho : o.op = .load t x := by exact rfl) (hx : ev g x = some (.pointer (some ad)) := by exact rfl) (ht : tyOf P t = some y := by exact ty rfl) (hr : y.desc.isRow = false := by exact rfl)
    (hv : w0.cell? ad = some v := by assumption) (hn : ¬ M ad.block := by exact fun h => h) : OpT P ro N w0 M ds o g L (Det v L) :=
  OpT.still (by rw [ho]; rfl) fun a w X hs => by
    simp [execOp, ho, hs.agr.eval hx, run_load_one ht hr w _ (hs.old hv hn)]
theorem run_load_rows {t : TypeId} {y : Ty} (ht : tyOf P t = some y) (hr : y.desc.isRow = true) {w : World} {b off : Nat} {B : List Value} (hz : y.size = B.length) (hc : w.rangeAt b off B) :
    (Instr.loadAt t (.pointer (some ⟨b, off, none⟩))).run P w = .ok (.agg B.toArray) w := by
  obtain ⟨d, i, hd, hi, hs, hz', _⟩ := tyOf_spec ht
  exact run_loadAt_mid w b off t B d hc hd (by rw [← slim_row, hs]; exact hr) (by rw [hi, Option.map_some, hz', hz])
theorem op_loads {t : TypeId} {x : Operand} {b off T : Nat} {C B : List Value} {y : Ty} (ho : o.op = .load t x := by exact rfl) (hx : ev g x = some (.pointer (some ⟨b, off, none⟩)) := by exact rfl) (ht : tyOf P t = some y := by exact ty rfl) (hr : y.desc.isRow = true := by exact rfl)
    (hL : Has L (.blk b T C) := by repeat (first | exact Has.here | apply Has.there)) (hv : Seg C off B := by exact Seg.all) (hz : y.size = B.length := by first | rfl | (simp only [List.length_map, List.length_set, List.length_replicate, List.length_append]; omega) | (simp only [List.length_map]; first | assumption | omega) | (simp; omega) | fail) : OpT P ro N w0 M ds o g L (Det (.agg B.toArray) L) :=
  OpT.still (by rw [ho]; rfl) fun a w X hs => by
    simp [execOp, ho, hs.agr.eval hx, run_load_rows ht hr hz (blk_range (hs.blk hL) hv)]
theorem op_loads_old {t : TypeId} {x : Operand} {b off : Nat} {B : List Value} {y : Ty} (ho : o.op = .load t x := by exact rfl) (hx : ev g x = some (.pointer (some ⟨b, off, none⟩)) := by exact rfl) (ht : tyOf P t = some y := by exact ty rfl) (hr : y.desc.isRow = true := by exact rfl)
    (hv : w0.rangeAt b off B := by assumption) (hz : y.size = B.length := by first | rfl | (simp only [List.length_map, List.length_set, List.length_replicate, List.length_append]; omega) | (simp only [List.length_map]; first | assumption | omega) | (simp; omega) | fail) (hn : ¬ M b := by exact fun h => h) : OpT P ro N w0 M ds o g L (Det (.agg B.toArray) L) :=
  OpT.still (by rw [ho]; rfl) fun a w X hs => by
    simp [execOp, ho, hs.agr.eval hx, run_load_rows ht hr hz (hs.oldRange hv hn)]

/-! ### Stores -/
def SetAt (C : List Value) (n : Nat) (v : Value) (C' : List Value) : Prop := n < C.length ∧ C' = C.set n v
theorem SetAt.here {x v : Value} {C : List Value} : SetAt (x :: C) 0 v (v :: C) := ⟨by simp, rfl⟩
theorem SetAt.there {x v : Value} {C C' : List Value} {n : Nat} (h : SetAt C n v C') : SetAt (x :: C) (n + 1) v (x :: C') := ⟨by simpa using h.1, by rw [h.2]; rfl⟩
theorem SetAt.any {v : Value} {C : List Value} {n : Nat} (h : n < C.length) : SetAt C n v (C.set n v) := ⟨h, rfl⟩
theorem keep_mine {w w' : World} {b : Nat} (hk : Keep M w0 w) (hk' : Keep (· = b) w w') (hm : w0.heap.size ≤ b ∨ M b) : Keep M w0 w' := hk.trans hk' (fun x hx => by subst hx; exact hm)
theorem op_store {t : TypeId} {x z : Operand} {b off T : Nat} {C C' : List Value} {v : Value} {y : Ty} {L' : List Res} (ho : o.op = .store t x z := by exact rfl) (hx : ev g x = some (.pointer (some ⟨b, off, none⟩)) := by exact rfl) (hz : ev g z = some v := by exact rfl) (ht : tyOf P t = some y := by exact ty rfl) (h1 : y.size = 1 := by exact rfl) (hv : v.oneCell' = true := by exact rfl)
    (hL : Upd L (.blk b T C) (.blk b T C') L' := by repeat (first | exact Upd.here | apply Upd.there)) (hC : SetAt C off v C' := by first | (refine SetAt.any ?_; first | omega | (simp only [List.length_map, List.length_set]; omega) | (simp; omega) | fail) | (repeat (first | exact SetAt.here | apply SetAt.there); done) | fail) : OpT P ro N w0 M ds o g L (Det undef L') :=
  OpT.run (by rw [ho]; rfl) fun a w X hs => by
    obtain ⟨hlt, rfl⟩ := hC
    have hb := hs.hold.has (r := .blk b T C) (by
      obtain ⟨A, B, e, _⟩ := hL; subst e; simp [Has])
    have hm := hs.hold.mine (.blk b T C) (by obtain ⟨A, B, e, _⟩ := hL; subst e; simp) b rfl
    refine ⟨.skip, undef, w.setCell ⟨b, off, none⟩ v, L', ?_, .inr ⟨rfl, rfl⟩, ⟨rfl, rfl⟩, keep_mine hs.keep (Keep.setCell w _ v) hm, ?_⟩
    · simp [execOp, ho, hs.agr.eval hx, hs.agr.eval hz, run_store_one ht h1 w ⟨b, off, none⟩ ((blk_cell hb off).trans (List.getElem?_eq_getElem hlt)) (blk_free hb off) hv]
    · exact hs.hold.upd hL.append (fun b' hb' => .inl hb') (blk_set hb off v) ((Keep.setCell w _ v).mono (fun x hx => by rw [hx]; rfl))
theorem op_stores {t : TypeId} {x z : Operand} {b off T : Nat} {C B : List Value} {y : Ty} {L' : List Res} (ho : o.op = .store t x z := by exact rfl) (hx : ev g x = some (.pointer (some ⟨b, off, none⟩)) := by exact rfl) (hz : ev g z = some (.agg B.toArray) := by exact rfl) (ht : tyOf P t = some y := by exact ty rfl) (h1 : y.size = B.length := by first | rfl | (simp only [List.length_map, List.length_set, List.length_replicate, List.length_append]; omega) | (simp only [List.length_map]; first | assumption | omega) | (simp; omega) | fail) (hv : B.all (·.oneCell') = true := by first | exact one_map _ (fun _ => rfl) _ | rfl | fail)
    (hL : Upd L (.blk b T C) (.blk b T (setSeg C off B)) L' := by repeat (first | exact Upd.here | apply Upd.there)) (hC : off + B.length ≤ C.length := by first | omega | (simp only [List.length_map, List.length_set]; omega) | (simp; omega) | fail) : OpT P ro N w0 M ds o g L (Det undef L') :=
  OpT.run (by rw [ho]; rfl) fun a w X hs => by
    have hb := hs.hold.has (r := .blk b T C) (by
      obtain ⟨A, B, e, _⟩ := hL; subst e; simp [Has])
    have hm := hs.hold.mine (.blk b T C) (by obtain ⟨A, B, e, _⟩ := hL; subst e; simp) b rfl
    obtain ⟨d, i, hd, hi, hs', hz', _⟩ := tyOf_spec ht
    refine ⟨.skip, undef, w.setCells b off B, L', ?_, .inr ⟨rfl, rfl⟩, ⟨rfl, rfl⟩, keep_mine hs.keep (Keep.setCells b B off w) hm, ?_⟩
    · have := run_storeAt_mid (P := P) w b off t B.toArray (by simpa using blk_there hb hC) (by rw [hi, Option.map_some, hz', h1]; simp) (by simpa using hv)
      simp only [execOp, ho, hs.agr.eval hx, hs.agr.eval hz, Sem.run_bind, this, Result.andThen_ok]; rfl
    · exact hs.hold.upd hL.append (fun b' hb' => .inl hb') (blk_setCells B C off w hb hC) ((Keep.setCells b B off w).mono (fun x hx => by rw [hx]; rfl))

theorem setSeg_all {C B : List Value} (h : C.length = B.length) : setSeg C 0 B = B := by
  simp [setSeg, ← h]
theorem op_storesAll {t : TypeId} {x z : Operand} {b T : Nat} {C B : List Value} {y : Ty} {L' : List Res} (ho : o.op = .store t x z := by exact rfl) (hx : ev g x = some (.pointer (some ⟨b, 0, none⟩)) := by exact rfl) (hz : ev g z = some (.agg B.toArray) := by exact rfl) (ht : tyOf P t = some y := by exact ty rfl) (h1 : y.size = B.length := by first | rfl | (simp only [List.length_map, List.length_set, List.length_replicate, List.length_append]; omega) | (simp only [List.length_map]; first | assumption | omega) | (simp; omega) | fail) (hv : B.all (·.oneCell') = true := by first | exact one_map _ (fun _ => rfl) _ | rfl | fail)
    (hL : Upd L (.blk b T C) (.blk b T B) L' := by repeat (first | exact Upd.here | apply Upd.there)) (hC : C.length = B.length := by first | rfl | (simp only [List.length_map, List.length_set, List.length_replicate, List.length_append]; omega) | (simp only [List.length_map]; first | assumption | omega) | (simp; omega) | fail) : OpT P ro N w0 M ds o g L (Det undef L') :=
  op_stores ho hx hz ht h1 hv (by rw [setSeg_all hC]; exact hL) (by omega)

/-! ### New blocks -/
/-- A pointer to a new block with these cells. -/
def NewP (T : Nat) (C : List Value) (L : List Res) (v : Value) (L' : List Res) : Prop := ∃ b, v = .pointer (some ⟨b, 0, none⟩) ∧ L' = .blk b T C :: L
def zeroC (P : Program) (t : TypeId) : Option (List Value) := ((P.info? t).bind (·.zero)).map (·.cells.toList)
def zfind : List (Nat × List Value) → Nat → Option (List Value)
  | [], _ => none
  | (k, C) :: l, t => bif Nat.beq k t then some C else zfind l t
theorem zfind_ok {P : Program} : ∀ (l : List (Nat × List Value)), l.map (fun p => zeroC P p.1) = l.map (fun p => some p.2) → ∀ {t : Nat} {C : List Value}, zfind l t = some C → zeroC P t = some C
  | [], _, _, _, h => by cases h
  | (k, D) :: l, hl, t, C, h => by
    simp only [List.map_cons, List.cons.injEq] at hl
    simp only [zfind] at h
    cases hb : Nat.beq k t with
    | true => rw [hb] at h; rw [← Nat.eq_of_beq_eq_true hb, hl.1]; simpa using h
    | false => rw [hb] at h; exact zfind_ok l hl.2 h
theorem run_zero {t : TypeId} {C : List Value} (h : zeroC P t = some C) (w : World) : ∃ z, (zeroValue t).run P w = .ok z w ∧ z.cells = C.toArray := by
  unfold zeroC at h
  cases hi : P.info? t with
  | none => rw [hi] at h; cases h
  | some i =>
    rw [hi] at h
    simp only [Option.bind_some, Option.map_eq_some_iff] at h
    obtain ⟨z, hz, rfl⟩ := h
    exact ⟨z, by simp [zeroValue, typeInfo, hi, hz], by simp⟩
theorem alloc_holds {a : Act} {w : World} {X : List Res} (hs : St N w0 M ds g (L ++ X) a w) (T : Nat) (C : List Value) : Keep M w0 (w.alloc (.cells C.toArray T)) ∧ Holds w0.heap.size M ((.blk w.heap.size T C :: L) ++ X) (w.alloc (.cells C.toArray T)) :=
  ⟨hs.keep.trans (Keep.alloc No w _) (fun _ h => h.elim), hs.hold.new hs.keep.size T C⟩
theorem op_alloc {t : TypeId} {C : List Value} (ho : o.op = .alloc t := by exact rfl) (hz : zeroC P t = some C := by exact zc rfl) : OpT P ro N w0 M ds o g L (NewP t C L) :=
  OpT.run (by rw [ho]; rfl) fun a w X hs => by
    obtain ⟨z, hr, hc⟩ := run_zero hz w
    obtain ⟨h1, h2⟩ := alloc_holds hs t C
    refine ⟨_, _, w.alloc (.cells C.toArray t), _, ?_, .inl rfl, ⟨w.heap.size, rfl, rfl⟩, h1, h2⟩
    simp [execOp, ho, Instr.alloc, Sem.run_bind, hr, newVar, newRow, hc]
theorem op_box {t : TypeId} {x : Operand} {v : Value} (ho : o.op = .box t x := by exact rfl) (hx : ev g x = some v := by exact rfl) (hv : v.oneCell' = true := by exact rfl) : OpT P ro N w0 M ds o g L (NewP t [v] L) :=
  OpT.run (by rw [ho]; rfl) fun a w X hs => by
    obtain ⟨h1, h2⟩ := alloc_holds hs t [v]
    have hc : v.cells = #[v] := by cases v <;> first | rfl | (simp [Value.oneCell'] at hv)
    refine ⟨_, _, w.alloc (.cells [v].toArray t), _, ?_, .inl rfl, ⟨w.heap.size, rfl, rfl⟩, h1, h2⟩
    simp [execOp, ho, hs.agr.eval hx, Instr.box, newVar, newRow, hc]
theorem op_boxs {t : TypeId} {x : Operand} {B : List Value} (ho : o.op = .box t x := by exact rfl) (hx : ev g x = some (.agg B.toArray) := by exact rfl) : OpT P ro N w0 M ds o g L (NewP t B L) :=
  OpT.run (by rw [ho]; rfl) fun a w X hs => by
    obtain ⟨h1, h2⟩ := alloc_holds hs t B
    refine ⟨_, _, w.alloc (.cells B.toArray t), _, ?_, .inl rfl, ⟨w.heap.size, rfl, rfl⟩, h1, h2⟩
    simp [execOp, ho, hs.agr.eval hx, Instr.box, newVar, newRow, Value.cells]
/-- A new block, in a list of operations. -/
theorem ya {ops : Array Oper} {Q : Exit → Act → World → Prop} {rest : List Oper} {fr : Fr} {o : Oper} {d T : Nat} {C : List Value} (h : OpT P ro N w0 M ds o (get fr) L (NewP T C L)) (hw : wants ops o (get fr) = some true := by exact rfl) (hd : o.dst = some d := by exact rfl) (hN : Nat.blt d N = true := by exact rfl)
    (k : ∀ b, SyL P ro N w0 M ds ops Q rest ((d, .pointer (some ⟨b, 0, none⟩)) :: fr) (.blk b T C :: L)) : SyL P ro N w0 M ds ops Q (o :: rest) fr L :=
  syl h hw hd hN fun _ _ ⟨b, e1, e2⟩ => by subst e1; subst e2; exact k b
end
end Go.Sy
