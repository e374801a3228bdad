/- What the cards of layer group share: the table of the primes out of the row's condition, a world that holds it. -/
import Derived.Test.YtjidkoabdmjgkaaDoorUCardKitN
import Derived.Test.YtjidkoabdmjgkaaDoorUGrp1
set_option linter.all false
namespace Go.Proofs.YtjidkoabdmjgkaaDoor
open Go Go.Sy Go.Nt Go.RowKit
theorem cells_of_strs {H : Type} {enc : TypeId × Value → H} {P : Program} {w : World} {base : Nat} {sp : Nat → Bool} {held : Bool} {fuel : Nat} {t e : TypeId} {n : Nat} {cs : List Value} {ss : List (List UInt8)} {p : List MemPlace}
    (ht : P.underlying t = some (.array n e)) (he : P.underlying e = some .string) (hce : P.cellsOf e = 1) (hct : P.cellsOf t = n)
    (h : DataW.trod enc P w base sp held fuel t cs = some (.agg (ss.map fun s => .lit (.string s)), p)) : cs = ss.map fun s => Value.string (str s) := by
  cases fuel with
  | zero => simp [DataW.trod] at h
  | succ fuel =>
    simp only [DataW.trod, ht, hce, hct, Nat.mul_one] at h
    split at h
    · rename_i hl
      obtain ⟨xs, hm, hx⟩ := Option.map_eq_some_iff.1 h
      have hxs : xs.map (·.1) = ss.map fun s => (DataW.lit (.string s) : DataW H) := by
        have := congrArg Prod.fst hx
        simpa using this
      have hxl : xs.length = n := by simpa using Lib.mapM_length hm
      have hzl : ss.length = n := by
        have := congrArg List.length hxs
        simp at this
        omega
      apply List.ext_getElem?
      intro i
      by_cases hi : i < n
      · obtain ⟨b, hb, hf⟩ := Lib.mapM_at hm i i (by simp [hi])
        obtain ⟨s, hc, rfl, _⟩ := DataW.trod_string he hf
        have h1 : cs[i]? = some (.string s) := by
          have := congrArg (·[0]?) hc
          simpa [List.getElem?_take, List.getElem?_drop] using this
        have h2 : (xs.map (·.1))[i]? = some (DataW.lit (.string s.data.toList) : DataW H) := by simp [hb]
        rw [hxs] at h2
        simp only [List.getElem?_map, Option.map_eq_some_iff, DataW.lit.injEq, Lit.string.injEq] at h2
        obtain ⟨z', hz', rfl⟩ := h2
        have h3 : str s.data.toList = s := rfl
        rw [h1, List.getElem?_map, hz', Option.map_some, h3]
      · rw [List.getElem?_eq_none (by omega), List.getElem?_eq_none (by simp; omega)]
    · cases h
theorem laid_strs {P : Program} {w : World} {l : List (String × DataW Unit)} (h : laidMet P l w) {n : String} {ss : List (List UInt8)} {g t e m : Nat} (hm : (n, (.agg (ss.map fun s => .lit (.string s)) : DataW Unit)) ∈ l) (hg : P.globalNamed n = some g) (hty : (P.globals[g]?).map (·.type) = some t)
    (ht : P.underlying t = some (.array m e)) (he : P.underlying e = some .string) (hce : P.cellsOf e = 1) (hct : P.cellsOf t = m) : w.rangeAt g 0 (ss.map fun s => Value.string (str s)) := by
  obtain ⟨ps, hl, _⟩ := h
  obtain ⟨g', t', cs, fuel, p, hg', ht', hvar, hd⟩ := laid_at hl hm
  obtain rfl := Option.some.inj (hg.symm.trans hg')
  obtain rfl := Option.some.inj (hty.symm.trans ht')
  have hcs := cells_of_strs ht he hce hct hd
  intro j v hj
  rw [World.var?_cell hg hvar, Nat.zero_add, ← Array.getElem?_toList, hcs]; exact hj
theorem gPrimes : Tryd.prog.globalNamed "watchword/group.primes" = some 0 := by kernel_rfl
theorem tyPrimes : (Tryd.prog.globals[0]?).map (·.type) = some 86 := by kernel_rfl
theorem undPrimes : Tryd.prog.underlying 86 = some (.array 4 9) := by kernel_rfl
theorem undStr : Tryd.prog.underlying 9 = some .string := by kernel_rfl
theorem cellsStr : Tryd.prog.cellsOf 9 = 1 := by kernel_rfl
theorem cellsPrimes : Tryd.prog.cellsOf 86 = 4 := by kernel_rfl
theorem dPrimes : (Rows.laid_watchword_group_primes : DataW Unit) = .agg ([gS 1, gS 2, gS 3, gS 4].map fun s => .lit (.string s)) := by kernel_rfl
theorem gt_of {W : World} {l : List (String × DataW Unit)} (h : laidMet Tryd.prog l W) (h1 : ("watchword/group.primes", Rows.laid_watchword_group_primes) ∈ l) : GT W := by
  rw [dPrimes] at h1
  exact laid_strs h h1 gPrimes tyPrimes undPrimes undStr cellsStr cellsPrimes
def datG : Nat → DataW Unit → List Value
  | n + 1, .agg l => l.flatMap (datG n)
  | _, .lit (.int k z) => [.int k z]
  | _, .lit (.string s) => [.string (str s)]
  | _, _ => []
noncomputable def laidWorldG (os : Os) : World :=
  { laidWorld os with heap := (laidWorld os).heap.modify 0 (putCells (datG 3 Rows.laid_watchword_group_primes)) }
end Go.Proofs.YtjidkoabdmjgkaaDoor
