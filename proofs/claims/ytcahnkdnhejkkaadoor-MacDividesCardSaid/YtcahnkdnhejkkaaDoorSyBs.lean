/- Lists of byte strings that came in. -/
import Derived.Test.YtcahnkdnhejkkaaDoorLift
import Derived.Deep.Slices
set_option linter.all false
namespace Go.Sy
open Go Go.Wd Go.RowKit Go.ChangeShapes Go.WideShapes
/-- A byte string: where it lies, its length, its capacity, its bytes. -/
structure Bs where
  a : Option Addr
  n : Nat
  c : Nat
  l : List UInt8
instance : Inhabited Bs := ⟨⟨none, 0, 0, []⟩⟩
def Bs.val (s : Bs) : Value := .slice s.a s.n s.c
structure Bs.ok (w : World) (s : Bs) : Prop where
  len : s.l.length = s.n
  cap : s.n ≤ s.c
  sla : SlA w s.a (s.l.map v8)
  nil : s.a = none → s.c = 0
theorem Bs.one (xs : List Bs) : (xs.map Bs.val).all (·.oneCell') = true := by rw [List.all_eq_true]; intro v hv; obtain ⟨s, _, rfl⟩ := List.mem_map.1 hv; rfl
def Bs.cat (xs : List Bs) : List UInt8 := xs.flatMap (·.l)
theorem Bs.ok.keep {w0 w : World} {s : Bs} (h : s.ok w0) (hk : Keep No w0 w) : s.ok w := ⟨h.len, h.cap, h.sla.keep hk (fun _ _ h => h), h.nil⟩
section
variable {H : Type} {enc : TypeId × Value → H} {P : Program}
theorem opened_list {t e u : TypeId} (ht : P.underlying t = some (.slice e)) (hc1 : P.cellsOf e = 1) (he : P.underlying e = some (.slice u)) (hu : P.underlying u = some (.int .u8)) (hc : P.cellsOf u = 1) {W : World} {v : Value} {d0 : DataW H} {p : List MemPlace}
    (h0 : DataW.Trod enc P W 0 (fun _ => true) true t v d0 p) (hv : v.oneCell' = true) :
    ∃ a n c, ∃ xs : List Bs, v = .slice a n c ∧ xs.length = n ∧ n ≤ c ∧ c ≤ maxLen ∧ SlA W a (xs.map Bs.val) ∧ (a = none → c = 0) ∧ ∀ s ∈ xs, s.ok W := by
  obtain ⟨fuel, hf⟩ := h0
  have hcv : v.cells.toList = [v] := by cases v <;> first | rfl | (simp [Value.oneCell'] at hv)
  rw [hcv] at hf
  rcases Deep.open_slice1 ht hc1 hf with ⟨hcs, _⟩ | ⟨a, len, cap, m, k, V, D, Pl, hcs, _, hl, hm, hmm, _, hx⟩
  · obtain rfl : v = .slice none 0 0 := by simpa using hcs
    exact ⟨none, 0, 0, [], rfl, rfl, Nat.le_refl _, Nat.zero_le _, .inl rfl, fun _ => rfl, fun _ h => by cases h⟩
  · obtain rfl : v = .slice (some a) len cap := by simpa using hcs
    have hlm : len ≤ m := by rw [hmm]; simp; exact hl
    have hB : ∀ i, i < len → ∃ s : Bs, W.cell? (a.add i) = some s.val ∧ s.ok W := fun i hi => by
      obtain ⟨h1, h2⟩ := hx i (by omega)
      have hone : (V i).oneCell' = true ∧ (V i).cells.toList = [V i] := by
        rcases open_ints he hu hc h2 with ⟨e1, _⟩ | ⟨_, _, _, _, e1, _⟩
        · simp only [List.cons.injEq, and_true] at e1; rw [e1]; exact ⟨rfl, rfl⟩
        · simp only [List.cons.injEq, and_true] at e1; rw [e1]; exact ⟨rfl, rfl⟩
      obtain ⟨a', n', c', l, e1, h3, h4, h5, h6, h7⟩ := opened_bytes he hu hc (W := W) (v := V i) ⟨k, by rw [hone.2]; exact h2⟩ hone.1
      exact ⟨⟨a', n', c', l⟩, by rw [h1, e1]; rfl, ⟨h3, h4, h6, h7⟩⟩
    obtain ⟨B, hB⟩ := Deep.choose_lt hB
    refine ⟨some a, len, cap, (List.range len).map B, rfl, by simp, hl, hm, ?_, fun h => by (cases h), fun s hs => ?_⟩
    · by_cases h0 : len = 0
      · subst h0; exact .inl (by simp)
      · have c0 := (hB 0 (by omega)).1
        have hmid : a.spot = none := by
          unfold World.cell? at c0
          split at c0
          · split at c0
            · cases c0
            · rename_i hsp; simpa [Addr.add] using hsp
          · cases c0
        obtain ⟨b, off, sp⟩ := a
        dsimp only at hmid
        subst hmid
        refine .inr ⟨b, off, rfl, fun j u hj => ?_⟩
        rw [List.getElem?_map, List.getElem?_map] at hj
        by_cases hjl : j < len
        · rw [List.getElem?_range hjl] at hj
          simp only [Option.map_some, Option.some.injEq] at hj
          subst hj
          have := (hB j hjl).1
          rw [Addr.add_mid] at this
          exact this
        · rw [List.getElem?_eq_none (by simp; omega)] at hj
          cases hj
    · obtain ⟨i, hi, rfl⟩ := List.mem_map.1 hs
      exact (hB i (by simpa using hi)).2
end
end Go.Sy
