/- The size of a byte string that came in, out of the form's reach. -/
import Derived.Test.YtcahnkdnhejkkaaDoorCardKit1
import Derived.SizedLaws
set_option linter.all false
namespace Go.Proofs.YtcahnkdnhejkkaaDoor
open Go Go.Sy Go.Wd Go.Sh Go.RowKit Go.ChangeShapes Go.WideShapes Go.ChangeAt
theorem bytesByte : Tryd.prog.bytesOf 5 = 1 := by kernel_rfl
theorem bytes_sized {H : Type} {enc : TypeId × Value → H} {P : Program} {t e : TypeId} (ht : P.underlying t = some (.slice e)) (he : P.underlying e = some (.int .u8)) (hc : P.cellsOf e = 1) (hb : P.bytesOf e = 1) {W : World} {a1 : Option Addr} {n c j : Nat} {d0 : DataW H} {p : List MemPlace}
    (h0 : DataW.Trod enc P W 0 (fun _ => true) true t (.slice a1 n c) d0 p) {ts : List TypeId} {ds : List (DataW H)} (hsz : (DataW.weightsEach P ts ds).all (· ≤ reachBytes) = true) (htj : ts[j]? = some t) (hdj : ds[j]? = some d0) : n ≤ 140737488351232 := by
  obtain ⟨fuel, hf⟩ := h0
  rw [show (Value.slice a1 n c).cells.toList = [.slice a1 n c] from rfl] at hf
  rcases open_ints ht he hc hf with ⟨hcs, hx⟩ | ⟨a, len', cap', zs, hcs, _, hl, hm, hz, hx, hcell, hwz⟩
  · have : Value.slice a1 n c = .slice none 0 0 := by simpa using hcs
    cases this
    exact Nat.zero_le _
  · have : Value.slice a1 n c = .slice (some a) len' cap' := by simpa using hcs
    cases this
    obtain ⟨rfl, -⟩ := Prod.mk.inj hx
    have h := sized_slice hsz htj hdj ht
    rw [hb, Nat.mul_one] at h
    have h2 : reachBytes = 140737488351232 := by decide
    rw [h2] at h
    simp only [if_true] at hz
    have h3 : (lits IntKind.u8 (zs.take n) : List (DataW H)).length + (lits IntKind.u8 (zs.drop n) : List (DataW H)).length = zs.length := by
      unfold lits
      rw [List.length_map, List.length_map, List.length_take, List.length_drop]; omega
    omega
end Go.Proofs.YtcahnkdnhejkkaaDoor
