/- The logic of walks: more laws on slices, calls, comparisons of rows. -/
import Derived.Test.YtcahnkdnhejkkaaDoorSyRange
set_option linter.all false
namespace Go.Sy
open Go Go.Wd

theorem v8_zero : Value.int .u8 0 = v8 0 := rfl
theorem v8_lit (k : Nat) (h : k < 256) : Value.int .u8 (k : Int) = v8 (UInt8.ofNat k) := by unfold v8; rw [n8_of_nat, Nat.mod_eq_of_lt h]
theorem SlA.mov {w : World} {a : Option Addr} {B : List Value} (h : SlA w a B) {l m : Nat} (hm : B.length ≤ m) : SlA w (movA a l m 1) (B.drop l) := by
  unfold movA; split
  · exact .inl (List.drop_eq_nil_of_le (by omega))
  · rw [Nat.mul_one]; exact h.drop l
theorem movA_block {a : Option Addr} {l m s : Nat} {ad : Addr} (h : movA a l m s = some ad) : ∃ ad0, a = some ad0 ∧ ad.block = ad0.block := by
  unfold movA at h; split at h
  · exact ⟨ad, h, rfl⟩
  · cases a with
    | none => cases h
    | some ad0 => cases h; refine ⟨ad0, rfl, ?_⟩; show (ad0.add _).block = _; unfold Addr.add; split <;> rfl
theorem movA_none {a : Option Addr} {l m s : Nat} : movA a l m s = none ↔ a = none := by
  unfold movA; split
  · exact Iff.rfl
  · cases a <;> simp
/-- What a slice leads to, and that no block of M is among it. -/
def SlF (w : World) (M : Nat → Prop) (a : Option Addr) (B : List Value) : Prop := B = [] ∨ ∃ b off, a = some ⟨b, off, none⟩ ∧ w.rangeAt b off B ∧ ¬ M b
theorem SlF.sla {w : World} {M : Nat → Prop} {a : Option Addr} {B : List Value} (h : SlF w M a B) : SlA w a B := h.imp id fun ⟨b, o, ha, hr, _⟩ => ⟨b, o, ha, hr⟩
theorem SlF.of {w : World} {a : Option Addr} {B : List Value} (h : SlA w a B) : SlF w No a B := h.imp id fun ⟨b, o, ha, hr⟩ => ⟨b, o, ha, hr, fun h => h⟩
theorem range_lt {w : World} {b off : Nat} {B : List Value} (h : w.rangeAt b off B) (hne : B ≠ []) : b < w.heap.size := by
  obtain ⟨v, B', rfl⟩ := List.exists_cons_of_ne_nil hne
  have := h 0 v rfl
  exact World.block_lt_of_cell? w ⟨b, off + 0, none⟩ this
theorem range_to {w0 w : World} {M Mi : Nat → Prop} {b off : Nat} {B : List Value} (h : w0.rangeAt b off B) (hne : B ≠ []) (hn : ¬ M b) (hk : Keep M w0 w) (hm : ∀ b, Mi b → w0.heap.size ≤ b ∨ M b) : w.rangeAt b off B ∧ ¬ Mi b :=
  ⟨fun j v hj => hk.cell (h j v hj) hn, fun hb => (hm b hb).elim (fun h' => by have := range_lt h hne; omega) hn⟩
theorem range_keep {w w' : World} {M : Nat → Prop} {b off : Nat} {B : List Value} (h : w.rangeAt b off B) (hk : Keep M w w') (hn : ¬ M b) : w'.rangeAt b off B := fun j v hj => hk.cell (h j v hj) hn
theorem SlF.to {w0 w : World} {M Mi : Nat → Prop} {a : Option Addr} {B : List Value} (h : SlF w0 M a B) (hk : Keep M w0 w) (hm : ∀ b, Mi b → w0.heap.size ≤ b ∨ M b) : SlF w Mi a B := by
  by_cases hne : B = []
  · exact .inl hne
  · rcases h with h | ⟨b, o, rfl, hr, hn⟩
    · exact .inl h
    · obtain ⟨h1, h2⟩ := range_to hr hne hn hk hm
      exact .inr ⟨b, o, rfl, h1, h2⟩
theorem SlA.to {w0 w : World} {Mi : Nat → Prop} {a : Option Addr} {B : List Value} (h : SlA w0 a B) (hk : Keep No w0 w) (hm : ∀ b, Mi b → w0.heap.size ≤ b ∨ No b) : SlF w Mi a B := (SlF.of h).to hk hm
theorem SlF.mov {w : World} {M : Nat → Prop} {a : Option Addr} {B : List Value} (h : SlF w M a B) {l m : Nat} (hm : B.length ≤ m) : SlF w M (movA a l m 1) (B.drop l) := by
  rcases h with rfl | ⟨b, o, rfl, hr, hn⟩
  · exact .inl (by simp)
  · unfold movA; split
    · exact .inl (List.drop_eq_nil_of_le (by omega))
    · refine .inr ⟨b, o + l * 1, by simp [Addr.add_mid], fun j v hj => ?_, hn⟩
      rw [List.getElem?_drop] at hj
      rw [Nat.mul_one, Nat.add_assoc]; exact hr _ v hj
theorem SlF.take {w : World} {M : Nat → Prop} {a : Option Addr} {B : List Value} (h : SlF w M a B) (k : Nat) : SlF w M a (B.take k) := by
  rcases h with rfl | ⟨b, o, rfl, hr, hn⟩
  · exact .inl (by simp)
  · refine .inr ⟨b, o, rfl, fun j v hj => ?_, hn⟩
    rw [List.getElem?_take] at hj
    split at hj
    · exact hr j v hj
    · cases hj
/-- What an owned slice holds, where its resource is not among the blocks of Mi. -/
theorem SlF.row {B0 : Nat} {w : World} {M Mi : Nat → Prop} {E n m c : Nat} {a : Option Addr} {xs : List Value} {L : List Res} (hh : Holds B0 M L w) (hL : Has L (.row (.slice a m c) E 1 n xs)) (hm : ∀ b, Mi b → ¬ OwnOf [.row (.slice a m c) E 1 n xs] b) : SlF w Mi a xs := by
  have hrow : w.ownsRow 0 E 1 (.slice a m c) n xs := hh.has hL
  obtain ⟨h1, ⟨_, h2⟩ | ⟨b, cc, cur, hv, _, h3, h4, h5, h6, h7⟩⟩ := hrow
  · exact .inl (List.length_eq_zero_iff.1 (by omega))
  · cases hv
    refine .inr ⟨b, 0, rfl, fun j v hj => ?_, fun hb => hm b hb ⟨_, List.mem_cons_self, rfl⟩⟩
    rw [← h7, List.getElem?_take] at hj
    split at hj
    · simp only [World.cell?, h3, Nat.zero_add]; simpa using hj
    · cases hj
theorem Rd.oldF {w0 : World} {M : Nat → Prop} {L : List Res} {a : Option Addr} {B : List Value} (h : SlF w0 M a B) : Rd w0 M L a B := fun w X hk _ =>
  h.imp id fun ⟨b, o, ha, hr, hn⟩ => ⟨b, o, ha, fun j v hj => hk.cell (hr j v hj) hn⟩
section
variable {P : Program} {ro : Option Nat} {N : Nat} {w0 : World} {M : Nat → Prop} {ds : List Deferred} {g : Nat → Option Value} {L : List Res} {o : Oper}
variable {t t' : TypeId} {x z : Operand} {y ye : Ty}
/-- make of one-cell elements, the length a natural number. -/
theorem op_makeB {e n : Nat} {lo co : Operand} {k1 k2 : IntKind} {z0 : Value} {l c : Int} (ho : o.op = .makeSlice t lo co := by exact rfl) (hl : ev g lo = some (.int k1 l) := by exact rfl) (hc : ev g co = some (.int k2 c) := by exact rfl) (ht : tyOf P t = some y := by exact ty rfl) (hy : y.desc = .slice e := by exact rfl) (he : tyOf P e = some ye := by exact ty rfl)
    (hz : zeroC P e = some [z0] := by exact zc rfl) (h1 : ye.size = 1 := by exact rfl) (hln : l = (n : Int) := by first | rfl | omega) (hcn : c = (n : Int) := by first | rfl | omega) (hb : ye.bytes * n ≤ 281474976710656 := by first | (dsimp only; omega) | omega | (simp; omega)) (hm : n ≤ maxLen := by (unfold maxLen; omega)) :
    OpT P ro N w0 M ds o g L (fun v L' => ∃ b, v = .slice (some ⟨b, 0, none⟩) n n ∧ L' = .blk b e (List.replicate n z0) :: L) := op_make ho hl hc ht hy he hz h1 hln hcn hb hm
/-- copy, the cells behind it as one wants them. -/
theorem op_copyC {e b off dl dc sl sc T k : Nat} {a0 : Option Addr} {C C' B : List Value} {xd xs : Operand} {L' : List Res} (hr : Rd w0 M L a0 B) (hk : B.length = k) (hset : setSeg C off B = C') (hone : B.all (·.oneCell') = true := by exact one_map _ (fun _ => rfl) _) (ho : o.op = .call { callee := .builtin .copy, args := #[xd, xs], argTypes := #[t, t'] } := by exact rfl) (hd : ev g xd = some (.slice (some ⟨b, off, none⟩) dl dc) := by exact rfl) (hx : ev g xs = some (.slice a0 sl sc) := by exact rfl)
    (ht : tyOf P t = some y := by exact ty rfl) (hy : y.desc = .slice e := by exact rfl) (he : tyOf P e = some ye := by exact ty rfl) (h1 : ye.size = 1 := by exact rfl)
    (hL : Upd L (.blk b T C) (.blk b T C') L' := by repeat (first | exact Upd.here | apply Upd.there)) (hC : off + k ≤ C.length := by first | omega | (simp only [List.length_map, List.length_set, List.length_replicate]; omega) | (simp; omega) | fail) (hn : k = Nat.min sl dl := by first | exact (Nat.min_eq_left (by omega)).symm | exact (Nat.min_eq_right (by omega)).symm | (show _ = min _ _; omega)) : OpT P ro N w0 M ds o g L (Det (.int .i64 k) L') := by
  subst hset; subst hk; exact op_copy ho hd hx ht hy he h1 hr hn hone hL hC
theorem setSeg0 {C B : List Value} : setSeg C 0 B = B ++ C.drop B.length := by simp [setSeg]
/-- A call that turns one block and gives a value. -/
theorem op_callB {fo : Operand} {args : Array Operand} {tys : Array TypeId} {f b T : Nat} {C C' : List Value} {vs cap : List Value} {v : Value} {L' : List Res}
    (hc : ∀ w X, Keep M w0 w → Holds w0.heap.size M (L ++ X) w → Fn P f (vs ++ cap) w (fun x => x = b) (fun v' R => v' = v ∧ R = [.blk b T C']))
    (ho : o.op = .call { callee := .value fo, args := args, argTypes := tys } := by exact rfl) (hf : ev g fo = some (.func (.func f) #[] cap.toArray) := by exact rfl) (ha : evs g args.toList = some vs := by exact rfl)
    (he : ∀ args w, (callFunc f args).run P w = .ok (.enter f args) w := by exact en rfl)
    (hL : Upd L (.blk b T C) (.blk b T C') L' := by repeat (first | exact Upd.here | apply Upd.there)) : OpT P ro N w0 M ds o g L (Det v L') := by
  obtain ⟨A, B, e1, e2⟩ := hL
  subst e1; subst e2
  have h := op_call (P := P) (ro := ro) (N := N) (w0 := w0) (M := M) (ds := ds) (g := g) (C := [.blk b T C]) (L1 := A ++ B) (o := o) ho hf ha he (show RemL (A ++ .blk b T C :: B) [.blk b T C] (A ++ B) from List.perm_middle) (fun x hx => ⟨_, List.mem_cons_self, hx.symm⟩) hc
  intro a w X next Q hs hn
  refine h a w X next Q hs fun v' w' L'' hp hk hh => ?_
  obtain ⟨R, rfl, rfl, rfl⟩ := hp
  refine hn _ w' _ ⟨rfl, rfl⟩ hk (hh.perm (List.Perm.append_right X ?_))
  exact (List.perm_middle (a := Res.blk b T C') (l₁ := A) (l₂ := B)).symm
/-- The last head of a drawing region, the only one whose result is not known. -/
theorem dh_last {ops : Array Oper} {C : List (List Nat)} {L0 : List Res} {Q : Exit → Act → World → Prop} {i d : Nat} {rest : List Oper} {fr' : Fr} {R : Value → List Res → Prop} (hg : ∀ ρ : Env, relOf (cl C i) [] ρ → OpT P ro N w0 M ds o (only (o.looksAt ops) (get fr')) L0 (fun v L' => ∃ Nw, L' = Nw ++ L0 ∧ R v Nw)) (hw : wants ops o (only (o.looksAt ops) (get fr')) = some true := by exact rfl) (hd : o.dst = some d := by exact rfl)
    (h : ∀ v Nw, R v Nw → SyL P ro N w0 M ds ops Q rest ((d, v) :: fr') (Nw ++ L0)) : DH P ro N w0 M ds ops Q C L0 (0 + 1) i (o :: rest) (fun _ => fr') [] := by
  refine dh_r (R := R) hg (fun _ => hw) hd ?_
  intro ρ hρ
  have hc : (List.range (i + 1)).contains i = true := by simp
  simp only [relOf, hc, cond_true] at hρ
  simp only [resOf, hc, cond_true]
  exact h _ _ hρ.1
theorem conv_drop {L1 : List Res} {r : Res} (hr : Rem L r L1) : Conv N w0 M ds L L1 := fun g a w X hs => by
  have hp := hs.perm (hr.perm.append_right X)
  exact ⟨hp.size, hp.agr, hp.keep, hp.hold.tail⟩
end
end Go.Sy
