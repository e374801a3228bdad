/- The bytes of the words of a hash, walked. -/
import Derived.Test.YtjidkoabdmjgkaaGreatDoorXJ09
import Derived.Test.YtjidkoabdmjgkaaGreatDoorXJ02
import Derived.Test.YtjidkoabdmjgkaaGreatDoorXJ32
import Derived.WalkKit
import Derived.Deep.MidRow
import Derived.Deep.QuietTactic
import Derived.BigQuiet
import Derived.Lib.Hide
import Derived.Test.YtjidkoabdmjgkaaGreatDoorXJ01
import Derived.Test.YtjidkoabdmjgkaaGreatDoorProg
import Derived.WalkSpells
import Derived.WalkLawsBesides
import Derived.Deep.RegionHeld3
import Derived.Deep.DrawnRows
import Derived.StillTailTactics
set_option linter.all false
section
namespace Go.Proofs.YtjidkoabdmjgkaaGreatDoor
open Go Go.Sy Go.Wd Go.Sh
set_option maxRecDepth 10000
attribute [local irreducible] Sy SyL SyX Sy.Fn callFunc
theorem zgN (s : List UInt32) (k : Nat) (h : k < s.length) : ser (s.take (k + 1)) = ser (s.take k) ++ be4 (s.getD k 0) := by
  unfold ser
  rw [List.take_succ_eq_append_getElem h, List.flatMap_append]; simp [List.getD, h]
theorem ziF (s : List UInt32) : (ser s).length = 4 * s.length := by
  induction s with
  | nil => rfl
  | cons x s ih => simp only [ser, List.flatMap_cons, List.length_append] at *; rw [ih]; simp [be4]; omega
theorem za8 {α : Type} {C L : List α} {k : Nat} (h : k < C.length) (hL : C.take k = L) (v : α) : (C.set k v).take (k + 1) = L ++ [v] := by
  rw [List.take_succ_eq_append_getElem (by simpa using h), List.take_set_of_le (Nat.le_refl k), hL]; simp
theorem zkc {α : Type} {C L : List α} {k : Nat} (h : k + 3 < C.length) (hL : C.take k = L) (a b c d : α) :
    ((((C.set k a).set (k + 1) b).set (k + 2) c).set (k + 3) d).take (k + 4) = L ++ [a, b, c, d] := by
  have e1 := za8 (C := C) (by omega) hL a
  have e2 := za8 (C := C.set k a) (by simp; omega) e1 b
  have e3 := za8 (C := (C.set k a).set (k + 1) b) (by simp; omega) e2 c
  have e4 := za8 (C := ((C.set k a).set (k + 1) b).set (k + 2) c) (by simp; omega) e3 d
  rw [e4]; simp
theorem zjs (s : List UInt32) (w : World) (hs : s.length = 8) : Sy.Fn Tryz.prog 113 [.agg (s.map v32).toArray] w No (Gives (.agg ((ser s).map Sy.v8).toArray)) := by
  refine zq Tryz.func113 rfl Tryz.ntmps113 (by simp) Holds.nil ?_
  repeat' (first | refine zh ?_ | refine zf ?_ | refine zu ?_ | refine ze ?_ | refine zj ?_ | (refine za (id := 0) ?_; (refine zm ?_; intro _); (refine zm ?_; intro _)) | (refine za (id := 1) ?_; refine zz ?_; refine zb ?_) | fail)
  rename_i b1 b2
  refine zQ (γ := Nat × List UInt8) (fun g => [(2, .pointer (some ⟨b2, 0, none⟩)), (5, .agg (s.map v32).toArray), (6, .int .i64 g.1)]) (fun g => [.blk b2 92 (g.2.map Sy.v8)])
    (fun g => g.1 ≤ 8 ∧ g.2.length = 32 ∧ g.2.take (4 * g.1) = ser (s.take g.1)) (fun g => 8 - g.1) (0, List.replicate 32 0) ⟨by omega, by simp, rfl⟩ ?_ ?_ ?_
  · exact Sub.go
  · exact SubR.go
  · rintro ⟨k, C⟩ ⟨hk, hC, hW⟩
    dsimp only at *
    by_cases hlt : k < 8
    · have hget : (s.map v32)[k]? = some (v32 (s.getD k 0)) := by simp [List.getD, hs, hlt]
      generalize hx : s.getD k 0 = x at *
      repeat' (first | refine zh ?_ | refine zf ?_ | refine zw rfl ?_ | refine zu ?_ | refine zr ?_ | refine ze ?_ | refine zj ?_ | (refine za (id := 2) ?_; refine zX ?_) | (refine za (id := 3) ?_; refine zb ?_; refine zl3 ?_; refine zd ?_; refine zd ?_) | (refine za (id := 4) ?_; refine zb ?_; refine zdS ?_; refine zb ?_; refine zdS ?_; refine zah ?_; refine zb ?_; refine zdS ?_; refine zah ?_; refine zb ?_; refine zdS ?_; refine zah ?_; refine zb ?_; refine yv (zbD (hr := opshr32 x _ 24 (by decide))) (k := ?_); refine yv (zaM (hr := zcl _)) (k := ?_); refine zb ?_; refine yv (zbD (hr := opshr32 x _ 16 (by decide))) (k := ?_); refine yv (zaM (hr := zcl _)) (k := ?_); refine zb ?_; refine yv (zbD (hr := opshr32 x _ 8 (by decide))) (k := ?_); refine yv (zaM (hr := zcl _)) (k := ?_); refine zb ?_; refine yv (zaM (hr := zcl _)) (k := ?_); refine zC ?_; refine zH ?_; refine zC ?_; refine zH ?_; refine zC ?_; refine zH ?_; refine zC ?_; refine zH ?_) | (refine za (id := 5) ?_; refine zah ?_; refine zb ?_) | fail)
      refine zI (k + 1, ((((C.set (4 * k) (x >>> UInt32.ofNat 24).toUInt8).set (4 * k + 1) (x >>> UInt32.ofNat 16).toUInt8).set (4 * k + 2) (x >>> UInt32.ofNat 8).toUInt8).set (4 * k + 3) x.toUInt8)) ?_ ?_ ?_ ?_
      · refine ⟨by omega, by simp only [List.length_set]; exact hC, ?_⟩
        show List.take (4 * (k + 1)) _ = _
        rw [zgN s k (by omega), show 4 * (k + 1) = 4 * k + 4 from by omega, hx]; exact zkc (by omega) hW _ _ _ _
      · show 8 - (k + 1) < 8 - k; omega
      · exact Sub.go
      · (repeat' (first | exact SubR.nil | (apply SubR.same; with_reducible (focus ((repeat (first | exact Rem.here | apply Rem.there)); done))) | (apply SubR.blk; (focus ((repeat (first | exact Rem.here | apply Rem.there)); done))) | (apply SubR.pick; (focus ((repeat (first | exact Rem.here | apply Rem.there)); done))) | rfl))
        simp only [List.map_set]; rfl
    · obtain rfl : k = 8 := by omega
      repeat' (first | refine zh ?_ | refine zf ?_ | refine zt rfl ?_ | refine zp ?_ | refine zE ?_ | refine ze ?_ | refine zj ?_ | (refine za (id := 2) ?_; refine zX ?_) | (refine za (id := 6) ?_; refine zz ?_; refine zH ?_) | fail)
      refine ret1 rfl (resCells rfl (ty rfl) rfl Has.go Seg.all (by first | rfl | (simp only [List.length_map, List.length_set, List.length_replicate, List.length_append]; omega) | (simp only [List.length_map]; first | assumption | omega) | (simp; omega) | fail)) SubR.nil ⟨?_, rfl⟩
      rw [List.take_of_length_le (by omega), List.take_of_length_le (by omega)] at hW
      rw [hW]
end Go.Proofs.YtjidkoabdmjgkaaGreatDoor
end
section
namespace Go.Wd
open Go Go.RowKit
def v8 (x : UInt8) : Value := .int .u8 (n8 x)
def v32 (x : UInt32) : Value := .int .u32 (n32 x)
def Blk (w : World) (B T : Nat) (C : List Value) : Prop := w.heap[B]? = some (.cells C.toArray T (0, 0))
theorem Blk.cell {w : World} {B T : Nat} {C : List Value} (h : Blk w B T C) (i : Nat) : w.cell? ⟨B, i, none⟩ = C[i]? := by
  unfold Blk at h; simp [World.cell?, h]
theorem Blk.free {w : World} {B T : Nat} {C : List Value} (h : Blk w B T C) (i : Nat) : w.frozen? ⟨B, i, none⟩ = false := by
  unfold Blk at h; simp [World.frozen?, h]
theorem Blk.lt {w : World} {B T : Nat} {C : List Value} (h : Blk w B T C) : B < w.heap.size := lt_of_block h
theorem Blk.new (w : World) (T : Nat) (C : List Value) : Blk (w.alloc (.cells C.toArray T)) w.heap.size T C := by
  unfold Blk; show (w.heap.push _)[w.heap.size]? = _; simp
theorem Blk.alloc {w : World} {B T : Nat} {C : List Value} (h : Blk w B T C) (o : Obj) : Blk (w.alloc o) B T C := by
  unfold Blk at *; rw [Below.heap_alloc _ _ _ (lt_of_block h)]; exact h
theorem Blk.drew {w : World} {B T : Nat} {C : List Value} (h : Blk w B T C) : Blk w.drew B T C := h
theorem Blk.drewN {w : World} {B T : Nat} {C : List Value} (h : Blk w B T C) (n : Nat) : Blk (w.drewN n) B T C := h
theorem Blk.set {w : World} {B T : Nat} {C : List Value} (h : Blk w B T C) (i : Nat) (v : Value) : Blk (w.setCell ⟨B, i, none⟩ v) B T (C.set i v) := by
  unfold Blk at *; simp [World.setCell, Array.getElem?_modify, h]
theorem Blk.setMap {w : World} {B T : Nat} {α : Type} {f : α → Value} {L : List α} (h : Blk w B T (L.map f)) (i : Nat) (x : α) : Blk (w.setCell ⟨B, i, none⟩ (f x)) B T ((L.set i x).map f) := by
  rw [List.map_set]; exact h.set i (f x)
theorem ze1 (n k : Nat) (w : World) : Below n w (w.drewN k) := ⟨rfl, rfl, rfl, Nat.le_refl _, fun _ _ => rfl⟩
theorem Below.setCell_both {n : Nat} {a w : World} (h : Below n a w) (p : Addr) (v : Value) : Below n (a.setCell p v) (w.setCell p v) := by
  refine ⟨h.os, h.tape, h.output, by simpa using h.size, fun k hk => ?_⟩
  simp only [World.setCell, Array.getElem?_modify]
  rw [h.block k hk]
theorem zea (B : Nat) : ∀ (l : List Value) (o : Nat) (w : World) (v : Value), (w.setCells B o l).setCell ⟨B, o + l.length, none⟩ v = w.setCells B o (l ++ [v])
  | [], o, w, v => by simp [World.setCells]
  | x :: l, o, w, v => by
    have := zea B l (o + 1) (w.setCell ⟨B, o, none⟩ x) v
    simp only [World.setCells, List.cons_append, List.length_cons]
    rw [← this]; congr 2; omega
theorem size_setCells (B : Nat) : ∀ (l : List Value) (o : Nat) (w : World), (w.setCells B o l).heap.size = w.heap.size
  | [], _, _ => rfl
  | x :: l, o, w => by simp only [World.setCells]; rw [size_setCells B l]; simp
theorem zgT {w w' : World} {n b o : Nat} {cs : List Value} (h : w.rangeAt b o cs) (hb : Below n w w') (hB : b < n) : w'.rangeAt b o cs := fun j v hv => by
  rw [hb.cell (p := ⟨b, o + j, none⟩) hB]; exact h j v hv
theorem zd7 {P : Program} {T E n : Nat} {d : TypeDesc} {cs : Array Value} {i : Nat} {v : Value} (hu : P.underlying T = some (.array n E)) (hs : (P.info? E).map (·.size) = some 1)
    (he : P.underlying E = some d) (hd : d.isRow = false) (hi : i < n) (hv : cs[i]? = some v) (w : World) : (Instr.index T (.agg cs) (.int .i64 i)).run P w = .ok v w := by
  cases hq : P.info? E with
  | none => simp [hq] at hs
  | some j =>
    have hj : j.size = 1 := by simpa [hq] using hs
    have hagg : (isAgg E).run P w = .ok false w := by
      unfold isAgg
      rw [Sem.run_bind, run_underlying he w]
      cases d <;> simp_all
    have h0 : (0 : Int) ≤ (i : Int) ∧ (i : Int) < (n : Int) := by omega
    simp [Instr.index, asIntOf, Sem.run_bind, run_underlying hu w, h0, sizeOf, typeInfo, hq, hj, part, hagg, hv, hi]
theorem ziw {k : IntKind} {a b : Int} (h : a = b) : Ending.returned (.int k a) = .returned (.int k b) := by rw [h]
theorem za8 {α : Type} {C L : List α} {k : Nat} (h : k < C.length) (hL : C.take k = L) (v : α) : (C.set k v).take (k + 1) = L ++ [v] := by
  rw [List.take_succ_eq_append_getElem (by simpa using h), List.take_set_of_le (Nat.le_refl k), hL]; simp
theorem zhE {α : Type} {C L : List α} {k i : Nat} (hL : C.take k = L) (hi : i < k) (d : α) : C.getD i d = L.getD i d := by
  subst hL; simp [List.getD, hi]
theorem Blk.cellD {w : World} {B T : Nat} {α : Type} {f : α → Value} {L : List α} (h : Blk w B T (L.map f)) {i : Nat} (hi : i < L.length) (d : α) : w.cell? ⟨B, i, none⟩ = some (f (L.getD i d)) := by
  rw [h.cell]; simp [hi, List.getD]
theorem zbS {w : World} {b o : Nat} {α : Type} {f : α → Value} {L : List α} (h : w.rangeAt b o (L.map f)) {i : Nat} (hi : i < L.length) (d : α) : w.cell? ⟨b, o + i, none⟩ = some (f (L.getD i d)) :=
  h i _ (by simp [hi, List.getD])
theorem zd6 {α : Type} (f : α → Value) (L : List α) {i : Nat} (hi : i < L.length) (d : α) : (L.map f).toArray[i]? = some (f (L.getD i d)) := by
  simp [List.getD, hi]
theorem zed {w wr : World} {S o n k : Nat} {L : List Value} {v : Value} (h : Below n (w.setCells S o (L.take k)) wr) (hv : L[k]? = some v) :
    Below n (w.setCells S o (L.take (k + 1))) (wr.setCell ⟨S, o + k, none⟩ v) := by
  obtain ⟨hk, rfl⟩ := List.getElem?_eq_some_iff.1 hv
  have := Below.setCell_both h ⟨S, o + k, none⟩ L[k]
  have e := zea S (L.take k) o w L[k]
  rw [List.length_take, Nat.min_eq_left (Nat.le_of_lt hk)] at e
  rw [e] at this
  rw [List.take_succ_eq_append_getElem hk]; exact this
theorem zdm (S : Nat) : ∀ (l : List Value) (o : Nat) (w : World) (a : Addr), (w.setCells S o l).frozen? a = w.frozen? a
  | [], _, _, _ => rfl
  | x :: l, o, w, a => by simp only [World.setCells]; rw [zdm S l, World.frozen?_setCell]
theorem zhe {w wr : World} {S o n k : Nat} {L : List Value} {v : Value} (h : Below n (w.setCells S o (L.take k)) wr) (hS : S < n) (hv : w.cell? ⟨S, o + k, none⟩ = some v) : wr.cell? ⟨S, o + k, none⟩ = some v := by
  rw [h.cell (p := ⟨S, o + k, none⟩) hS, World.cell?_setCells_out S _ _ _ _ (fun _ _ => Or.inr (by have := List.length_take_le k L; show o + _ ≤ o + k; omega))]
  exact hv
theorem zgg {w wr : World} {S o n : Nat} {L : List Value} {a : Addr} {x : Bool} (h : Below n (w.setCells S o L) wr) (hS : a.block < n) (hv : w.frozen? a = x) : wr.frozen? a = x := by
  rw [h.frozen hS, zdm]; exact hv
theorem getD_some {α : Type} {L : List α} {i : Nat} (hi : i < L.length) (d : α) : L[i]? = some (L.getD i d) := by simp [List.getD, hi]
theorem zgr {w : World} {a : Addr} {x : Option Value} (h : w.cell? a = x) : w.drew.cell? a = x := h
theorem zfL {w : World} {a : Addr} {x : Value} (o : Obj) (h : w.cell? a = some x) : (w.alloc o).cell? a = some x := by
  rw [World.cell?_alloc_lt _ _ _ (World.block_lt_of_cell? w a h)]; exact h
theorem zkD {w : World} {b i j : Nat} {v : Value} {x : Option Value} (hij : i ≠ j) (h : w.cell? ⟨b, j, none⟩ = x) : (w.setCell ⟨b, i, none⟩ v).cell? ⟨b, j, none⟩ = x := by
  rw [World.cell?_setCell_other _ _ _ _ (fun e => hij (congrArg Addr.off e))]; exact h
end Go.Wd
end
section
namespace Go.Proofs.YtjidkoabdmjgkaaGreatDoor
open Go.RowKit Go.Wd Go.Sh
attribute [local go_sem] and32 or32 xor32 not32 add32 zgI zcl ziM
attribute [local go_sem ↓] Go.wp_at_zero Go.wp_at_succ
theorem zkx (n : Nat) (h0 : 0 < n) (h1 : n < 32) : bits .and .u64 (IntKind.u64.wrap (-(n:Int))) 31 = ((32 - n : Nat):Int) := by
  have h : n = 1 ∨ n = 2 ∨ n = 3 ∨ n = 4 ∨ n = 5 ∨ n = 6 ∨ n = 7 ∨ n = 8 ∨ n = 9 ∨ n = 10 ∨ n = 11 ∨ n = 12 ∨ n = 13 ∨ n = 14 ∨ n = 15 ∨ n = 16 ∨ n = 17 ∨ n = 18 ∨ n = 19 ∨ n = 20 ∨ n = 21 ∨ n = 22 ∨ n = 23 ∨ n = 24 ∨ n = 25 ∨ n = 26 ∨ n = 27 ∨ n = 28 ∨ n = 29 ∨ n = 30 ∨ n = 31 := by omega
  rcases h with h | h | h | h | h | h | h | h | h | h | h | h | h | h | h | h | h | h | h | h | h | h | h | h | h | h | h | h | h | h | h <;> subst h <;> rfl
theorem zmT (x : UInt32) (n : Nat) (h0 : 0 < n) (h1 : n < 32) : bits .or .u32 (n32 x * 2 ^ (32 - n) % 4294967296) (n32 x / 2 ^ n) = n32 (rotr x n) := by
  have e1 := shl32 x (32 - n) (by omega)
  have e2 := shr32 x n h1
  rw [IntKind.wrap_u32] at e1
  simp only [Int.natCast_pow, Int.cast_ofNat_Int] at e1 e2
  rw [e1, e2, or32]; rfl
set_option maxHeartbeats 400000 in
theorem zlV (x : UInt32) (n : Nat) (w : World) (h0 : 0 < n) (h1 : n < 32) :
    Calls Tryz.prog 158 #[.int .u32 (n32 x), .int .i64 (-(n:Int))] w fun e w' => e = .returned (.int .u32 (n32 (rotr x n))) ∧ w' = w := by
  have e1 := zkx n h0 h1
  have e2 : IntKind.u64.wrap (32 - ((32 - n : Nat):Int)) = (n : Int) := by rw [wrap_u64]; omega
  go_enter Tryz.func158, Tryz.ntmps158
  go_wp2
  go_ret
  exact ⟨ziw (zmT x n h0 h1), rfl⟩
set_option maxHeartbeats 400000 in
theorem zcY (x : UInt32) (ns : List Nat) (B : Nat) (w : World) (hn : ∀ n ∈ ns, 0 < n ∧ n < 32) (hl : ns.length < 32)
    (hc : ∀ i (h : i < ns.length), w.cell? ⟨B, i, none⟩ = some (.int .i64 (ns[i] : Nat))) :
    Calls Tryz.prog 137 #[.int .u32 (n32 x), .slice (some ⟨B, 0, none⟩) ns.length ns.length] w fun e w' => e = .returned (.int .u32 (n32 (turn x ns))) ∧ w' = w := by
  have Hn := Lib.hid hn
  have Hc := Lib.hid hc
  clear hn hc
  go_enter Tryz.func137, Tryz.ntmps137
  go_wp2
  go_loop [4, 9] (fun y i => ∃ k : Nat, k ≤ ns.length ∧ i = .int .i64 k ∧ y = .int .u32 (n32 (turn x (ns.take k)))) (fun _ i => ns.length - (intOf i).toNat)
  case atStart => exact ⟨0, Nat.zero_le _, rfl, rfl⟩
  case round =>
    obtain ⟨k, hk, rfl, rfl⟩ := hrel
    by_cases hlt : k < ns.length
    · have hcell := Hc.out k hlt
      obtain ⟨hn0, hn1⟩ := Hn.out _ (List.getElem_mem hlt)
      have HS := Lib.hid (zjR x ns k hlt)
      generalize ns[k] = n at *
      go_wp2_with (go_at_call 158; refine (zlV _ _ _ hn0 hn1).mono ?_; rintro e w' ⟨rfl, rfl⟩)
      go_round
      case rel => exact ⟨k + 1, by omega, by go_num, by rw [HS.out]⟩
      case measure => simp [intOf]; omega
    · go_wp2
      go_ret
      exact ⟨ziw (by rw [List.take_of_length_le (by omega)]), rfl⟩
theorem zhH (x : UInt32) (B : Nat) (w : World) (h0 : w.cell? ⟨B, 0, none⟩ = some (.int .i64 17)) (h1 : w.cell? ⟨B, 1, none⟩ = some (.int .i64 19)) :
    Calls Tryz.prog 137 #[.int .u32 (n32 x), .slice (some ⟨B, 0, none⟩) 2 2] w fun e w' => e = .returned (.int .u32 (n32 (turn x [17, 19]))) ∧ w' = w :=
  zcY x [17, 19] B w (by simp) (by simp) fun i hi => by
    match i, hi with
    | 0, _ => exact h0
    | 1, _ => exact h1
theorem zij (x : UInt32) (B : Nat) (w : World) (h0 : w.cell? ⟨B, 0, none⟩ = some (.int .i64 7)) (h1 : w.cell? ⟨B, 1, none⟩ = some (.int .i64 18)) :
    Calls Tryz.prog 137 #[.int .u32 (n32 x), .slice (some ⟨B, 0, none⟩) 2 2] w fun e w' => e = .returned (.int .u32 (n32 (turn x [7, 18]))) ∧ w' = w :=
  zcY x [7, 18] B w (by simp) (by simp) fun i hi => by
    match i, hi with
    | 0, _ => exact h0
    | 1, _ => exact h1
theorem zfV (x : UInt32) (B : Nat) (w : World) (h0 : w.cell? ⟨B, 0, none⟩ = some (.int .i64 6)) (h1 : w.cell? ⟨B, 1, none⟩ = some (.int .i64 11)) (h2 : w.cell? ⟨B, 2, none⟩ = some (.int .i64 25)) :
    Calls Tryz.prog 137 #[.int .u32 (n32 x), .slice (some ⟨B, 0, none⟩) 3 3] w fun e w' => e = .returned (.int .u32 (n32 (turn x [6, 11, 25]))) ∧ w' = w :=
  zcY x [6, 11, 25] B w (by simp) (by simp) fun i hi => by
    match i, hi with
    | 0, _ => exact h0
    | 1, _ => exact h1
    | 2, _ => exact h2
theorem zgf (x : UInt32) (B : Nat) (w : World) (h0 : w.cell? ⟨B, 0, none⟩ = some (.int .i64 2)) (h1 : w.cell? ⟨B, 1, none⟩ = some (.int .i64 13)) (h2 : w.cell? ⟨B, 2, none⟩ = some (.int .i64 22)) :
    Calls Tryz.prog 137 #[.int .u32 (n32 x), .slice (some ⟨B, 0, none⟩) 3 3] w fun e w' => e = .returned (.int .u32 (n32 (turn x [2, 13, 22]))) ∧ w' = w :=
  zcY x [2, 13, 22] B w (by simp) (by simp) fun i hi => by
    match i, hi with
    | 0, _ => exact h0
    | 1, _ => exact h1
    | 2, _ => exact h2
set_option maxHeartbeats 400000 in
theorem zi3 (x y z : UInt32) (w : World) :
    Calls Tryz.prog 138 #[.int .u32 (n32 x), .int .u32 (n32 y), .int .u32 (n32 z)] w fun e w' => e = .returned (.int .u32 (n32 ((x &&& y) ^^^ (~~~x &&& z)))) ∧ w' = w := by
  go_enter Tryz.func138, Tryz.ntmps138
  go_wp2
  go_ret
  exact ⟨rfl, rfl⟩
set_option maxHeartbeats 400000 in
theorem zgZ (x y z : UInt32) (w : World) :
    Calls Tryz.prog 139 #[.int .u32 (n32 x), .int .u32 (n32 y), .int .u32 (n32 z)] w fun e w' => e = .returned (.int .u32 (n32 (((x &&& y) ^^^ (x &&& z)) ^^^ (y &&& z)))) ∧ w' = w := by
  go_enter Tryz.func139, Tryz.ntmps139
  go_wp2
  go_ret
  exact ⟨rfl, rfl⟩
end Go.Proofs.YtjidkoabdmjgkaaGreatDoor
end
