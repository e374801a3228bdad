/- What the cards of the second form share: the bound on the bulk of what came in. -/
import Derived.Test.YtcahnkdnhejkkaaDoorCardKit2
set_option linter.all false
namespace Go.Proofs.YtcahnkdnhejkkaaDoor
open Go Go.Sy Go.Wd Go.Sh Go.RowKit Go.ChangeShapes Go.WideShapes Go.ChangeAt
theorem bulk_one {H : Type} (d : DataW H) : 1 ≤ Rows.uptoBulk d := by
  cases d with
  | lit l => cases l <;> simp [Rows.uptoBulk]
  | nil => simp [Rows.uptoBulk]
  | ptr d => simp [Rows.uptoBulk]
  | slice elems spare => simp [Rows.uptoBulk]
  | agg parts => simp [Rows.uptoBulk]
  | iface t d => simp [Rows.uptoBulk]
  | map entries => simp [Rows.uptoBulk]
  | held h => simp [Rows.uptoBulk]
theorem bulk_len {H : Type} : ∀ l : List (DataW H), l.length ≤ Rows.uptoBulkAll l
  | [] => by simp [Rows.uptoBulkAll]
  | x :: r => by have := bulk_one x; have := bulk_len r; simp only [Rows.uptoBulkAll, List.length_cons]; omega
theorem wf_u8 {z : Int} (h : (Lit.int .u8 z).wf = true) : 0 ≤ z ∧ z < 256 := by
  have h1 : IntKind.u8.min = 0 := rfl
  have h2 : IntKind.u8.max = 255 := rfl
  simp only [Lit.wf, Bool.and_eq_true, decide_eq_true_eq] at h
  omega
section
variable {H : Type} {enc : TypeId × Value → H} {P : Program}
theorem bytes_bulk {t e : TypeId} (ht : P.underlying t = some (.slice e)) (he : P.underlying e = some (.int .u8)) (hc : P.cellsOf e = 1) {W : World} {a1 : Option Addr} {n c : Nat} {d0 : DataW H} {p : List MemPlace}
    (h0 : DataW.Trod enc P W 0 (fun _ => true) true t (.slice a1 n c) d0 p) : n + 1 ≤ Rows.uptoBulk d0 := by
  obtain ⟨fuel, hf⟩ := h0
  rw [show (Value.slice a1 n c).cells.toList = [.slice a1 n c] from rfl] at hf
  rcases open_ints ht he hc hf with ⟨hcs, hx⟩ | ⟨a, len', cap', zs, hcs, _, hl, hm, hz, hx, hcell, hwz⟩
  · have : Value.slice a1 n c = .slice none 0 0 := by simpa using hcs
    cases this
    have := bulk_one d0
    omega
  · have : Value.slice a1 n c = .slice (some a) len' cap' := by simpa using hcs
    cases this
    obtain ⟨rfl, -⟩ := Prod.mk.inj hx
    simp only [if_true] at hz
    have h1 := bulk_len (lits IntKind.u8 (zs.take n) : List (DataW H))
    have h2 : (lits IntKind.u8 (zs.take n) : List (DataW H)).length = n := by
      unfold lits
      rw [List.length_map, List.length_take]; omega
    simp only [Rows.uptoBulk]
    omega
theorem cat_bulk (B : Nat → Bs) (D : Nat → DataW H) : ∀ l : List Nat, (∀ i ∈ l, (B i).l.length + 1 ≤ Rows.uptoBulk (D i)) → (Bs.cat (l.map B)).length + l.length ≤ Rows.uptoBulkAll (l.map D)
  | [], _ => by simp [Bs.cat, Rows.uptoBulkAll]
  | i :: l, h => by
    have h1 := h i List.mem_cons_self
    have h2 := cat_bulk B D l (fun j hj => h j (List.mem_cons_of_mem _ hj))
    simp only [List.map_cons, Rows.uptoBulkAll, List.length_cons, Bs.cat, List.flatMap_cons, List.length_append] at h2 ⊢
    omega
theorem opened_listB {t e u : TypeId} (ht : P.underlying t = some (.slice e)) (hc1 : P.cellsOf e = 1) (he : P.underlying e = some (.slice u)) (hu : P.underlying u = some (.int .u8)) (hc : P.cellsOf u = 1) {W : World} {v : Value} {d0 : DataW H} {p : List MemPlace}
    (h0 : DataW.Trod enc P W 0 (fun _ => true) true t v d0 p) (hv : v.oneCell' = true) :
    ∃ a n c, ∃ xs : List Bs, v = .slice a n c ∧ xs.length = n ∧ n ≤ c ∧ c ≤ maxLen ∧ SlA W a (xs.map Bs.val) ∧ (a = none → c = 0) ∧ (∀ s ∈ xs, s.ok W) ∧ (Bs.cat xs).length + n ≤ Rows.uptoBulk d0 := by
  obtain ⟨fuel, hf⟩ := h0
  have hcv : v.cells.toList = [v] := by cases v <;> first | rfl | (simp [Value.oneCell'] at hv)
  rw [hcv] at hf
  rcases Deep.open_slice1 ht hc1 hf with ⟨hcs, hx⟩ | ⟨a, len, cap, m, k, V, D, Pl, hcs, _, hl, hm, hmm, hd, hx⟩
  · obtain rfl : v = .slice none 0 0 := by simpa using hcs
    exact ⟨none, 0, 0, [], rfl, rfl, Nat.le_refl _, Nat.zero_le _, .inl rfl, fun _ => rfl, (fun _ h => by cases h), by have := bulk_one d0; simp [Bs.cat]⟩
  · obtain rfl : v = .slice (some a) len cap := by simpa using hcs
    obtain ⟨rfl, -⟩ := Prod.mk.inj hd
    have hlm : len ≤ m := by rw [hmm]; simp; exact hl
    have hB : ∀ i, i < len → ∃ s : Bs, W.cell? (a.add i) = some s.val ∧ s.ok W ∧ s.l.length + 1 ≤ Rows.uptoBulk (D i) := fun i hi => by
      obtain ⟨h1, h2⟩ := hx i (by omega)
      have hone : (V i).oneCell' = true ∧ (V i).cells.toList = [V i] := by
        rcases open_ints he hu hc h2 with ⟨e1, _⟩ | ⟨_, _, _, _, e1, _⟩
        · simp only [List.cons.injEq, and_true] at e1; rw [e1]; exact ⟨rfl, rfl⟩
        · simp only [List.cons.injEq, and_true] at e1; rw [e1]; exact ⟨rfl, rfl⟩
      have ht2 : DataW.Trod enc P W 0 (fun _ => true) true e (V i) (D i) (Pl i) := ⟨k, by rw [hone.2]; exact h2⟩
      obtain ⟨a', n', c', l, e1, h3, h4, h5, h6, h7⟩ := opened_bytes he hu hc (W := W) (v := V i) ht2 hone.1
      rw [e1] at ht2
      exact ⟨⟨a', n', c', l⟩, by rw [h1, e1]; rfl, ⟨h3, h4, h6, h7⟩, by have := bytes_bulk he hu hc ht2; show l.length + 1 ≤ _; omega⟩
    obtain ⟨B, hB⟩ := Deep.choose_lt hB
    have hcb := cat_bulk B D (List.range len) (fun i hi => (hB i (by simpa using hi)).2.2)
    rw [List.length_range] at hcb
    refine ⟨some a, len, cap, (List.range len).map B, rfl, by simp, hl, hm, ?_, (fun h => by cases h), fun s hs => ?_, by simp only [Rows.uptoBulk]; omega⟩
    · by_cases h0 : len = 0
      · subst h0; exact .inl (by simp)
      · have c0 := (hB 0 (by omega)).1
        have hmid : a.spot = none := by
          unfold World.cell? at c0
          split at c0
          · split at c0
            · cases c0
            · rename_i hsp; simpa [Addr.add] using hsp
          · cases c0
        obtain ⟨b, off, sp⟩ := a
        dsimp only at hmid
        subst hmid
        refine .inr ⟨b, off, rfl, fun j u hj => ?_⟩
        rw [List.getElem?_map, List.getElem?_map] at hj
        by_cases hjl : j < len
        · rw [List.getElem?_range hjl] at hj
          simp only [Option.map_some, Option.some.injEq] at hj
          subst hj
          have := (hB j hjl).1
          rw [Addr.add_mid] at this
          exact this
        · rw [List.getElem?_eq_none (by simp; omega)] at hj
          cases hj
    · obtain ⟨i, hi, rfl⟩ := List.mem_map.1 hs
      exact (hB i (by simpa using hi)).2.1
end
end Go.Proofs.YtcahnkdnhejkkaaDoor
