/- The inverse of a number. -/
import Derived.Test.YtjidkoabdmjgkaaGreatDoorXJ27
import Derived.Test.YtjidkoabdmjgkaaGreatDoorXJ16
import Derived.Test.YtjidkoabdmjgkaaGreatDoorXJ07
import Derived.Test.YtjidkoabdmjgkaaGreatDoorXJ14
import Derived.Test.YtjidkoabdmjgkaaGreatDoorXJ05
set_option linter.all false
section
namespace Go.Sy
open Go
end Go.Sy
namespace Go.Proofs.YtjidkoabdmjgkaaGreatDoor
open Go Go.Sy Go.Nt Go.RowKit
attribute [local irreducible] Sy SyL SyX Sy.Fn callFunc natC rowN
set_option maxRecDepth 10000
end Go.Proofs.YtjidkoabdmjgkaaGreatDoor
end
section
namespace Go.Nt
open Go Go.Sy
def gS : Nat → List UInt8
  | 1 => [98, 51, 102]
  | 2 => [52, 52, 56, 53, 56, 102, 102]
  | 3 => [57, 49, 98, 56, 56, 55, 102, 102]
  | _ => [102, 102, 102, 102, 102, 102, 102, 102, 102, 102, 102, 102, 102, 102, 102, 102, 99, 57, 48, 102, 100, 97, 97, 50, 50, 49, 54, 56, 99, 50, 51, 52, 99, 52, 99, 54, 54, 50, 56, 98, 56, 48, 100, 99, 49, 99, 100, 49, 50, 57, 48, 50, 52, 101, 48, 56, 56, 97, 54, 55, 99, 99, 55, 52, 48, 50, 48, 98, 98, 101, 97, 54, 51, 98, 49, 51, 57, 98, 50, 50, 53, 49, 52, 97, 48, 56, 55, 57, 56, 101, 51, 52, 48, 52, 100, 100, 101, 102, 57, 53, 49, 57, 98, 51, 99, 100, 51, 97, 52, 51, 49, 98, 51, 48, 50, 98, 48, 97, 54, 100, 102, 50, 53, 102, 49, 52, 51, 55, 52, 102, 101, 49, 51, 53, 54, 100, 54, 100, 53, 49, 99, 50, 52, 53, 101, 52, 56, 53, 98, 53, 55, 54, 54, 50, 53, 101, 55, 101, 99, 54, 102, 52, 52, 99, 52, 50, 101, 57, 97, 54, 51, 97, 51, 54, 50, 48, 102, 102, 102, 102, 102, 102, 102, 102, 102, 102, 102, 102, 102, 102, 102, 102]
theorem zhF (i : Nat) (h0 : 1 ≤ i) (h5 : i ≤ 4) : parse (gS i) = some (gP i) :=
  za7 (p := fun i => parse (gS i) = some (gP i)) (by decide +kernel) (by decide +kernel) (by decide +kernel) (by decide +kernel) i h0 h5
theorem zjN (i : Nat) (h0 : 1 ≤ i) (h5 : i ≤ 4) : (gS i).length ≤ 192 :=
  za7 (p := fun i => (gS i).length ≤ 192) (by decide +kernel) (by decide +kernel) (by decide +kernel) (by decide +kernel) i h0 h5
theorem zna (i : Nat) : gP i / 2 ^ 1 = gQ i := rfl
def gCells : List Value := [.string (str (gS 1)), .string (str (gS 2)), .string (str (gS 3)), .string (str (gS 4))]
theorem zfJ (i : Nat) (h0 : 1 ≤ i) (h5 : i ≤ 4) : gCells[i - 1]? = some (.string (str (gS i))) :=
  za7 (p := fun i => gCells[i - 1]? = some (.string (str (gS i)))) rfl rfl rfl rfl i h0 h5
theorem zcO (i : Nat) (h0 : 1 ≤ i) (h5 : i ≤ 4) : 1 ≤ gL i ∧ gL i ≤ 96 :=
  za7 (p := fun i => 1 ≤ gL i ∧ gL i ≤ 96) (by decide) (by decide) (by decide) (by decide) i h0 h5
theorem zaH (i : Nat) (h0 : 1 ≤ i) (h5 : i ≤ 4) : gP i < 18446744073709551616 ^ 16 := by
  rw [zdt 256 8 128 rfl rfl]
  have h := zaf 256 (gP i) (by decide)
  rw [zfK i h0 h5] at h
  exact Nat.lt_of_lt_of_le h (Nat.pow_le_pow_right (by decide) (by have := (zcO i h0 h5).2; omega))
theorem zaE (i : Nat) (h0 : 1 ≤ i) (h5 : i ≤ 4) : gQ i < 18446744073709551616 ^ 16 := Nat.lt_of_le_of_lt (Nat.div_le_self _ _) (zaH i h0 h5)
def safeC (p q l : Nat) : List Value := natC p ++ (natC q ++ [.int .i64 l])
theorem zG (p q l : Nat) : (safeC p q l).length = 33 := by
  unfold safeC; rw [List.length_append, List.length_append, zg, zg]; rfl
theorem z8 (p q l : Nat) : (safeC p q l).all (·.oneCell') = true := by
  unfold safeC; rw [List.all_append, List.all_append, zcA, zcA]; rfl
theorem zaF (p q l : Nat) : Seg (safeC p q l) 0 (natC p) := by
  have := Seg.mid (A := []) (B := natC p) (D := natC q ++ [Value.int .i64 l])
  rw [List.nil_append] at this
  exact this
theorem zaG (p q l : Nat) : Seg (safeC p q l) 16 (natC q) := by
  have := Seg.mid (A := natC p) (B := natC q) (D := [Value.int .i64 l])
  rw [zg, List.append_assoc] at this
  exact this
theorem zaR (p q l : Nat) : (safeC p q l)[32]? = some (.int .i64 (l : Int)) := by
  unfold safeC
  rw [List.getElem?_append_right (by rw [zg]; decide), List.getElem?_append_right (by rw [zg, zg]; decide), zg, zg]; rfl
theorem zkk (p q l : Nat) : FillTo (nth [(0, 16), (16, 16), (32, 1)]) [(0, natV p), (1, natV q), (2, Value.int .i64 l)] (List.replicate 32 (Value.int IntKind.u64 0) ++ [.int .i64 0]) (safeC p q l) := by
  have hz : List.replicate 32 (Value.int IntKind.u64 0) = List.replicate 16 (Value.int IntKind.u64 0) ++ List.replicate 16 (Value.int IntKind.u64 0) := rfl
  have s1 : setSeg (List.replicate 32 (Value.int IntKind.u64 0) ++ [.int .i64 0]) 0 (natC p) = natC p ++ (List.replicate 16 (Value.int IntKind.u64 0) ++ [.int .i64 0]) := by
    unfold setSeg
    rw [zg, hz]; simp
  have s2 : setSeg (natC p ++ (List.replicate 16 (Value.int IntKind.u64 0) ++ [.int .i64 0])) 16 (natC q) = natC p ++ (natC q ++ [.int .i64 0]) := by
    unfold setSeg
    rw [zg, List.take_append_of_le_length (by rw [zg]; decide), List.take_of_length_le (by rw [zg]; decide), List.drop_append, zg, List.drop_of_length_le (by rw [zg]; decide)]; simp
  have s3 : setSeg (natC p ++ (natC q ++ [.int .i64 0])) 32 [Value.int .i64 (l : Int)] = safeC p q l := by
    have e : natC p ++ (natC q ++ [Value.int .i64 0]) = (natC p ++ natC q) ++ [Value.int .i64 0] := by rw [List.append_assoc]
    have hl : (natC p ++ natC q).length = 32 := by rw [List.length_append, zg, zg]
    unfold setSeg safeC
    rw [e, List.take_append_of_le_length (by rw [hl]; decide), List.take_of_length_le (by rw [hl]; decide), List.drop_of_length_le (by rw [List.length_append, hl]; exact Nat.le_refl _)]; simp
  refine .cons (cs := natC p) rfl rfl (zg p) (by simp) ?_
  rw [s1]
  refine .cons (cs := natC q) rfl rfl (zg q) (by simp [zg]) ?_
  rw [s2]
  refine .cons (cs := [.int .i64 l]) rfl rfl rfl (by simp [zg]) ?_
  rw [s3]
  exact .nil
theorem zjI : List.replicate 32 (Value.int IntKind.u64 0) ++ [Value.int .i64 0] = safeC 0 0 0 := by
  unfold safeC natC
  rw [zc5, List.map_replicate]; rfl
end Go.Nt
namespace Go.Proofs.YtjidkoabdmjgkaaGreatDoor
open Go Go.Sy Go.Nt Go.RowKit
def safeV (p q l : Nat) : Value := .agg (safeC p q l).toArray
def GT (w : World) : Prop := w.rangeAt 1 0 gCells
theorem GT.to {w w' : World} (h : GT w) (hk : Keep No w w') : GT w' := zaw h hk (fun h => h)
section
variable {ro : Option Nat} {N : Nat} {w0 : World} {M : Nat → Prop} {ds : List Deferred} {g : Nat → Option Value} {L : List Res} {o : Oper} {z z' z'' : Operand}
theorem zg7 {p q l : Nat} (ho : o.op = .build 88 #[(0, z), (1, z'), (2, z'')] := by exact rfl) (hz : ev g z = some (natV p) := by exact rfl) (hz' : ev g z' = some (natV q) := by exact rfl) (hz'' : ev g z'' = some (.int .i64 (l : Int)) := by exact rfl) : OpT Tryz.prog ro N w0 M ds o g L (Det (safeV p q l) L) :=
  zef (parts := #[(0, z), (1, z'), (2, z'')]) (vs := [natV p, natV q, .int .i64 l]) (C := safeC p q l) (zkk p q l) ho (by simp [evs, hz, hz', hz'']) (ty rfl) rfl rfl (zc rfl)
theorem zeY (ho : o.op = .build 88 #[] := by exact rfl) : OpT Tryz.prog ro N w0 M ds o g L (Det (safeV 0 0 0) L) := by
  unfold safeV; rw [← zjI]
  exact zck ho (ty rfl) (.inl ⟨rfl, rfl⟩) (zc rfl)
end
attribute [local irreducible] Sy SyL SyX Sy.Fn callFunc natC rowN safeC gP gQ gL gS gCells
set_option maxRecDepth 10000
theorem zdR (z : Int) (w : World) (hz : ¬ (1 ≤ z ∧ z ≤ 4)) : Sy.Fn Tryz.prog 74 [.int .i64 z] w No (Gives (.tuple #[safeV 0 0 0, .int .i64 2])) := by
  refine zq Tryz.func74 rfl Tryz.ntmps74 (by simp) Holds.nil ?_
  have hl := zG 0 0 0
  by_cases h : z < 1
  · have g1 : decide (z < 1) = true := decide_eq_true h
    repeat' (first | refine zh ?_ | refine zf ?_ | refine zw rfl ?_ | refine zp ?_ | refine ze ?_ | refine zj ?_ | refine zy ?_ | (refine za (id := 0) ?_; (refine zm ?_; intro _); refine zd ?_) | (refine za (id := 1) ?_; refine zb ?_; refine yv (zS (hr := g1)) (k := ?_); refine zb ?_; refine zo rfl rfl rfl ?_; refine zo rfl rfl rfl ?_; refine zx ?_) | (refine za (id := 2) ?_; refine yv zeY (k := ?_); refine yn (zR (B := safeC 0 0 0) (hv := z8 0 0 0) (h1 := (zG 0 0 0).symm)) (k := ?_); refine zd ?_) | fail)
    exact ret2 rfl (resCells (B := safeC 0 0 0) rfl (ty rfl) rfl Has.go Seg.all (zG _ _ _).symm) (resTmp rfl) SubR.nil ⟨rfl, rfl⟩
  · have g1 : decide (z < 1) = false := decide_eq_false h
    have g2 : decide (z > 4) = true := decide_eq_true (by omega)
    repeat' (first | refine zh ?_ | refine zf ?_ | refine zw rfl ?_ | refine zp ?_ | refine ze ?_ | refine zj ?_ | refine zy ?_ | (refine za (id := 0) ?_; (refine zm ?_; intro _); refine zd ?_) | (refine za (id := 1) ?_; refine zb ?_; refine yv (zS (hr := g1)) (k := ?_); refine zb ?_; refine zb ?_; refine yv (zae (hr := g2)) (k := ?_); refine zx ?_) | (refine za (id := 2) ?_; refine yv zeY (k := ?_); refine yn (zR (B := safeC 0 0 0) (hv := z8 0 0 0) (h1 := (zG 0 0 0).symm)) (k := ?_); refine zd ?_) | fail)
    exact ret2 rfl (resCells (B := safeC 0 0 0) rfl (ty rfl) rfl Has.go Seg.all (zG _ _ _).symm) (resTmp rfl) SubR.nil ⟨rfl, rfl⟩
theorem zaK (i : Nat) (w : World) (h0 : 1 ≤ i) (h5 : i ≤ 4) (hG : GT w) : Sy.Fn Tryz.prog 74 [.int .i64 (i : Int)] w No (Gives (.tuple #[safeV (gP i) (gQ i) (gL i), .int .i64 0])) := by
  refine zq Tryz.func74 rfl Tryz.ntmps74 (by simp) Holds.nil ?_
  have g1 : decide ((i : Int) < 1) = false := decide_eq_false (by omega)
  have g2 : decide ((i : Int) > 4) = false := decide_eq_false (by omega)
  have g3 : IntKind.i64.wrap ((i : Int) - 1) = ((i - 1 : Nat) : Int) := by rw [IntWalk.i64_in _ (by omega)]; omega
  have hcell : w.cell? ⟨1, i - 1, none⟩ = some (.string (str (gS i))) := by
    have := hG (i - 1) _ (zfJ i h0 h5)
    rwa [Nat.zero_add] at this
  have hW := zaH i h0 h5
  have hsl := zjN i h0 h5
  have hpa := fun w' => zlv (gS i) w' (by omega)
  rw [zhF i h0 h5] at hpa
  dsimp only at hpa
  rw [if_pos hW] at hpa
  have hsh := fun w' => zmU (gP i) 1 w' hW (by decide)
  rw [zna] at hsh
  have hbl := fun w' => za0 (gP i) w' hW
  have hn := zhk 8 (gP i) (by decide)
  rw [show (2 : Nat) ^ 8 = 256 from rfl, zfK i h0 h5] at hn
  have hnb := zcn hW
  have lP := zg (gP i)
  have lQ := zg (gQ i)
  have lS := zG (gP i) (gQ i) (gL i)
  generalize nd 2 (gP i) = m at *
  have g4 : IntKind.i64.wrap ((m : Int) + 7) = ((m + 7 : Nat) : Int) := by rw [IntWalk.i64_in _ (by omega)]; omega
  have g5 : IntKind.i64.wrap (((m + 7 : Nat) : Int).tdiv 8) = ((gL i : Nat) : Int) := by
    have := quoI (p := m + 7) (k := 8) (by omega)
    rw [show m + 7 = m + (8 - 1) from rfl, ← hn] at this
    exact this
  clear hn hsl
  generalize gP i = p at *
  generalize gQ i = q at *
  generalize gL i = l at *
  repeat' (first | refine zh ?_ | refine zf ?_ | refine zt rfl ?_ | refine zr ?_ | refine zp ?_ | refine ze ?_ | refine zj ?_ | (refine za (id := 0) ?_; (refine zm ?_; intro _); refine zd ?_) | (refine za (id := 1) ?_; refine zb ?_; refine yv (zS (hr := g1)) (k := ?_); refine zb ?_; refine zb ?_; refine yv (zae (hr := g2)) (k := ?_); refine zx ?_) | (refine za (id := 3) ?_; refine zb ?_; refine yv (zM (hr := g3)) (k := ?_); refine yv (zb2 (j := i - 1)) (k := ?_); refine yv (zN (hv := hcell)) (k := ?_); refine yv (zi (hc := fun _ _ _ _ => (hpa _))) (k := ?_); refine zb ?_; refine zk ?_; refine zk ?_; (refine zm ?_; intro _); refine yn (zn (n := p)) (k := ?_); refine zd ?_) | (refine za (id := 4) ?_; refine yv (zl (B := natC p)) (k := ?_); refine yv (zi (hc := fun _ _ _ _ => (hsh _))) (k := ?_); refine zb ?_; refine zk ?_; refine zk ?_; (refine zm ?_; intro _); refine yn (zn (n := q)) (k := ?_); refine zd ?_) | (refine zV (id := 5) 6 [[], [], [], [2], [2, 3], [2, 3, 4], [0, 1, 2, 3, 4, 5], [0, 1, 2, 3, 4, 5, 6], [0, 1, 2, 3, 4, 5, 6, 7]] mixed ?_ ?_; kernel_rfl; refine dc (fun _ _ => zl (B := natC p)) (k := ?_); refine dc (fun _ _ => zl (B := natC q)) (k := ?_); refine dc (fun _ _ => zl (B := natC p)) (k := ?_); refine dc (fun _ _ => zi (hc := fun _ _ _ _ => (hbl _))) (k := ?_); refine dc (fun _ _ => zK (hr := g4)) (k := ?_); refine dc (fun _ _ => zaN (hr := g5)) (k := ?_); refine z7 ?_; refine yv (zg7 (p := p) (q := q) (l := l)) (k := ?_); refine yn (zR (B := safeC p q l) (hv := z8 p q l) (h1 := (zG p q l).symm)) (k := ?_); refine zd ?_) | fail)
  exact ret2 rfl (resCells (B := safeC p q l) rfl (ty rfl) rfl Has.go Seg.all (zG _ _ _).symm) (resTmp rfl) SubR.nil ⟨rfl, rfl⟩
end Go.Proofs.YtjidkoabdmjgkaaGreatDoor
end
section
namespace Go.Proofs.YtjidkoabdmjgkaaGreatDoor
open Go Go.Sy Go.Nt Go.RowKit
theorem zgL {H : Type} {enc : TypeId × Value → H} {P : Program} {w : World} {base : Nat} {sp : Nat → Bool} {held : Bool} {fuel : Nat} {t e : TypeId} {n : Nat} {cs : List Value} {ss : List (List UInt8)} {p : List MemPlace}
    (ht : P.underlying t = some (.array n e)) (he : P.underlying e = some .string) (hce : P.cellsOf e = 1) (hct : P.cellsOf t = n)
    (h : DataW.trod enc P w base sp held fuel t cs = some (.agg (ss.map fun s => .lit (.string s)), p)) : cs = ss.map fun s => Value.string (str s) := by
  cases fuel with
  | zero => simp [DataW.trod] at h
  | succ fuel =>
    simp only [DataW.trod, ht, hce, hct, Nat.mul_one] at h
    split at h
    · rename_i hl
      obtain ⟨xs, hm, hx⟩ := Option.map_eq_some_iff.1 h
      have hxs : xs.map (·.1) = ss.map fun s => (DataW.lit (.string s) : DataW H) := by
        have := congrArg Prod.fst hx
        simpa using this
      have hxl : xs.length = n := by simpa using Lib.mapM_length hm
      have hzl : ss.length = n := by
        have := congrArg List.length hxs
        simp at this
        omega
      apply List.ext_getElem?
      intro i
      by_cases hi : i < n
      · obtain ⟨b, hb, hf⟩ := Lib.mapM_at hm i i (by simp [hi])
        obtain ⟨s, hc, rfl, _⟩ := DataW.trod_string he hf
        have h1 : cs[i]? = some (.string s) := by
          have := congrArg (·[0]?) hc
          simpa [List.getElem?_take, List.getElem?_drop] using this
        have h2 : (xs.map (·.1))[i]? = some (DataW.lit (.string s.data.toList) : DataW H) := by simp [hb]
        rw [hxs] at h2
        simp only [List.getElem?_map, Option.map_eq_some_iff, DataW.lit.injEq, Lit.string.injEq] at h2
        obtain ⟨z', hz', rfl⟩ := h2
        have h3 : str s.data.toList = s := rfl
        rw [h1, List.getElem?_map, hz', Option.map_some, h3]
      · rw [List.getElem?_eq_none (by omega), List.getElem?_eq_none (by simp; omega)]
    · cases h
theorem zkj {P : Program} {w : World} {l : List (String × DataW Unit)} (h : laidMet P l w) {n : String} {ss : List (List UInt8)} {g t e m : Nat} (hm : (n, (.agg (ss.map fun s => .lit (.string s)) : DataW Unit)) ∈ l) (hg : P.globalNamed n = some g) (hty : (P.globals[g]?).map (·.type) = some t)
    (ht : P.underlying t = some (.array m e)) (he : P.underlying e = some .string) (hce : P.cellsOf e = 1) (hct : P.cellsOf t = m) : w.rangeAt g 0 (ss.map fun s => Value.string (str s)) := by
  obtain ⟨ps, hl, _⟩ := h
  obtain ⟨g', t', cs, fuel, p, hg', ht', hvar, hd⟩ := zf9 hl hm
  obtain rfl := Option.some.inj (hg.symm.trans hg')
  obtain rfl := Option.some.inj (hty.symm.trans ht')
  have hcs := zgL ht he hce hct hd
  intro j v hj
  rw [World.var?_cell hg hvar, Nat.zero_add, ← Array.getElem?_toList, hcs]; exact hj
theorem gPrimes : Tryz.prog.globalNamed "watchword/group.primes" = some 1 := by kernel_rfl
theorem tyPrimes : (Tryz.prog.globals[1]?).map (·.type) = some 117 := by kernel_rfl
theorem undPrimes : Tryz.prog.underlying 117 = some (.array 4 9) := by kernel_rfl
theorem undStr : Tryz.prog.underlying 9 = some .string := by kernel_rfl
theorem cellsStr : Tryz.prog.cellsOf 9 = 1 := by kernel_rfl
theorem cellsPrimes : Tryz.prog.cellsOf 117 = 4 := by kernel_rfl
theorem dPrimes : (Rows.laid_watchword_group_primes : DataW Unit) = .agg ([gS 1, gS 2, gS 3, gS 4].map fun s => .lit (.string s)) := by kernel_rfl
theorem zje {W : World} {l : List (String × DataW Unit)} (h : laidMet Tryz.prog l W) (h1 : ("watchword/group.primes", Rows.laid_watchword_group_primes) ∈ l) : GT W := by
  rw [dPrimes] at h1
  exact zkj h h1 gPrimes tyPrimes undPrimes undStr cellsStr cellsPrimes
def datG : Nat → DataW Unit → List Value
  | n + 1, .agg l => l.flatMap (datG n)
  | _, .lit (.int k z) => [.int k z]
  | _, .lit (.string s) => [.string (str s)]
  | _, _ => []
noncomputable def laidWorldG (os : Os) : World :=
  { laidWorld os with heap := (laidWorld os).heap.modify 1 (putCells (datG 3 Rows.laid_watchword_group_primes)) }
end Go.Proofs.YtjidkoabdmjgkaaGreatDoor
end
section
namespace Go.Sy
open Go
section
variable {P : Program} {ro : Option Nat} {N : Nat} {w0 : World} {M : Nat → Prop} {ds : List Deferred} {o : Oper} {g : Nat → Option Value} {L : List Res} {t : TypeId} {y : Ty}
theorem ziZ {e n c' : Nat} {lo co : Operand} {k1 k2 : IntKind} {z0 : Value} {l c : Int} {ye : Ty} (hnc : n ≤ c') (hln : l = (n : Int) := by exact rfl) (hcn : c = (c' : Int) := by exact rfl) (ho : o.op = .makeSlice t lo co := by exact rfl) (hl : ev g lo = some (.int k1 l) := by exact rfl) (hc : ev g co = some (.int k2 c) := by exact rfl) (ht : tyOf P t = some y := by exact ty rfl) (hy : y.desc = .slice e := by exact rfl) (he : tyOf P e = some ye := by exact ty rfl)
    (hz : zeroC P e = some [z0] := by exact zc rfl) (h1 : ye.size = 1 := by exact rfl) (hb : ye.bytes * c' ≤ 281474976710656 := by first | (dsimp only; omega) | omega | fail) (hm : c' ≤ maxLen := by first | (unfold maxLen; omega) | fail) :
    OpT P ro N w0 M ds o g L (fun v L' => ∃ b, v = .slice (some ⟨b, 0, none⟩) n c' ∧ L' = .blk b e (List.replicate c' z0) :: L) :=
  OpT.run (by rw [ho]; rfl) fun a w X hst => by
    obtain ⟨d, i', hd, hi', hs', _⟩ := zO ht
    rw [hy] at hs'
    have := zat hs'; subst this
    obtain ⟨de, ie, hde, hie, _, hez, heb, _⟩ := zO he
    unfold zeroC at hz
    rw [hie] at hz
    simp only [Option.bind_some, Option.map_eq_some_iff] at hz
    obtain ⟨zv, hzv, hze⟩ := hz
    subst hln; subst hcn
    obtain ⟨h2, h3⟩ := zaQ hst e (List.replicate c' z0)
    refine ⟨_, _, w.alloc (.cells (List.replicate c' z0).toArray e), _, ?_, .inl rfl, ⟨w.heap.size, rfl, rfl⟩, h2, h3⟩
    have hm' : c' ≤ 9223372036854775807 := by unfold maxLen at hm; omega
    have hzs : zv.cells = #[z0] := Array.toList_inj.1 hze
    have hr := run_make (P := P) w t e ie zv hd hie hzv k1 k2 n c' (by omega) (by omega) (by rw [heb, ← Int.natCast_mul]; omega) (by omega)
    simp only [Int.toNat_natCast] at hr
    have e1 : madeCells zv.cells (c' * ie.size) = (List.replicate c' z0).toArray := by
      rw [hez, h1, Nat.mul_one, hzs]; exact Array.toList_inj.1 (toList_madeCells_one z0 c')
    rw [e1] at hr
    simp [execOp, ho, hst.agr.eval hl, hst.agr.eval hc, hr]
end
end Go.Sy
end
