/- What lies in memory of the call's own, handed to a call that turns another block. -/
import Derived.Test.YtcahnkdnhejkkaaDoorSyBs
import Derived.Test.YtcahnkdnhejkkaaDoorSyY2
set_option linter.all false
namespace Go.Sy
open Go
theorem pairwise_two {α : Type} {R : α → α → Prop} (hs : ∀ a b, R a b → R b a) : ∀ {l : List α}, l.Pairwise R → ∀ {a b : α}, a ∈ l → b ∈ l → a ≠ b → R a b
  | x :: l, h, a, b, ha, hb, hne => by
    obtain ⟨h1, h2⟩ := List.pairwise_cons.1 h
    rcases List.mem_cons.1 ha with e | ha
    · rcases List.mem_cons.1 hb with e' | hb
      · exact absurd (e.trans e'.symm) hne
      · rw [e]; exact h1 b hb
    · rcases List.mem_cons.1 hb with e' | hb
      · rw [e']; exact hs _ _ (h1 a ha)
      · exact pairwise_two hs h2 ha hb hne
section
variable {w0 w : World} {M : Nat → Prop} {B0 : Nat} {L X : List Res}
theorem Holds.two (h : Holds B0 M L w) {r r' : Res} (hr : Has L r) (hr' : Has L r') (hne : r ≠ r') : Apart r r' := pairwise_two (fun _ _ h => Apart.symm h) h.apart hr.mem hr'.mem hne
/-- A row beside a block that is turned. -/
theorem SlF.rowB {b T E n c : Nat} {C : List Value} {a : Option Addr} {xs : List Value} (hh : Holds B0 M (L ++ X) w) (hL : Has L (.blk b T C)) (hr : Has L (.row (.slice a n c) E 1 n xs)) : SlF w (fun x => x = b) a xs :=
  SlF.row hh (Has.append hr) fun x hx ho => by
    subst hx
    obtain ⟨r, hm, ho⟩ := ho
    obtain rfl := List.mem_singleton.1 hm
    exact hh.two (Has.append hr) (Has.append hL) (by intro h; cases h) x ho rfl
/-- A block beside a block that is turned. -/
theorem SlF.blkB {b b' T T' off : Nat} {C C' B : List Value} (hh : Holds B0 M (L ++ X) w) (hL : Has L (.blk b T C)) (hr : Has L (.blk b' T' C')) (hne : Res.blk b' T' C' ≠ .blk b T C) (hs : Seg C' off B) : SlF w (fun x => x = b) (some ⟨b', off, none⟩) B :=
  .inr ⟨b', off, rfl, blk_range (hh.has (Has.append hr)) hs, fun e => by subst e; exact hh.two (Has.append hr) (Has.append hL) hne b' rfl rfl⟩
/-- Old memory beside a block that is turned. -/
theorem SlF.oldB {b T : Nat} {C : List Value} {a : Option Addr} {B : List Value} (h : SlA w0 a B) (hk : Keep No w0 w) (hh : Holds w0.heap.size No (L ++ X) w) (hL : Has L (.blk b T C)) : SlF w (fun x => x = b) a B :=
  SlA.to h hk (hh.one hL)
end
theorem Bs.get {w : World} {a : Option Addr} {xs : List Bs} (h : SlA w a (xs.map Bs.val)) {i : Nat} (hi : i < xs.length) : ∃ b off, a = some ⟨b, off, none⟩ ∧ ∀ j (hj : j < xs.length), w.cell? ⟨b, off + j, none⟩ = some (.slice xs[j].a xs[j].n xs[j].c) := by
  rcases h with h | ⟨b, off, rfl, h⟩
  · have := congrArg List.length h; simp at this; rw [this] at hi; cases hi
  · exact ⟨b, off, rfl, fun j hj => h j _ (by rw [List.getElem?_map, List.getElem?_eq_getElem hj]; rfl)⟩
theorem Bs.cat_succ (xs : List Bs) (i : Nat) (h : i < xs.length) : Bs.cat (xs.take (i + 1)) = Bs.cat (xs.take i) ++ xs[i].l := by
  unfold Bs.cat; rw [List.take_succ, List.getElem?_eq_getElem h, List.flatMap_append]; simp
theorem Bs.cat_le {k : Nat} : ∀ (xs : List Bs), (∀ s ∈ xs, s.l.length ≤ k) → (Bs.cat xs).length ≤ k * xs.length
  | [], _ => Nat.zero_le _
  | x :: xs, h => by
    have h1 := Bs.cat_le xs (fun s hs => h s (List.mem_cons_of_mem _ hs))
    have h2 := h x List.mem_cons_self
    unfold Bs.cat at *
    rw [List.flatMap_cons, List.length_append, List.length_cons, Nat.mul_succ]; omega
section
variable {P : Program} {ro : Option Nat} {N : Nat} {w0 : World} {M : Nat → Prop} {ds : List Deferred} {Q : Exit → Act → World → Prop} {fr : Fr} {L : List Res}
/-- What memory tells, once and for all. -/
theorem sy_fact {c : Code} {p : Prop} (hp : ∀ w, Holds w0.heap.size M L w → p) (h : p → Sy P ro N w0 M ds c Q fr L) : Sy P ro N w0 M ds c Q fr L := fun a w hs => by
  obtain ⟨Ds, h1, h2⟩ := hs
  exact h (hp w (h2.hold.sublist (List.sublist_append_left _ _))) a w ⟨Ds, h1, h2⟩
theorem syl_fact {ops : Array Oper} {rest : List Oper} {p : Prop} (hp : ∀ w, Holds w0.heap.size M L w → p) (h : p → SyL P ro N w0 M ds ops Q rest fr L) : SyL P ro N w0 M ds ops Q rest fr L := fun a w hs => by
  obtain ⟨Ds, h1, h2⟩ := hs
  exact h (hp w (h2.hold.sublist (List.sublist_append_left _ _))) a w ⟨Ds, h1, h2⟩
theorem syx_fact {K : Act → World → Prop} {p : Prop} (hp : ∀ w, Holds w0.heap.size M L w → p) (h : p → SyX N w0 M ds K fr L) : SyX N w0 M ds K fr L := fun a w hs => by
  obtain ⟨Ds, h1, h2⟩ := hs
  exact h (hp w (h2.hold.sublist (List.sublist_append_left _ _))) a w ⟨Ds, h1, h2⟩
end
section
variable {P : Program} {ro : Option Nat} {N : Nat} {w0 : World} {M : Nat → Prop} {ds : List Deferred} {ops : Array Oper} {T : List Oper → Fr → List Res → Prop} {C E : List (List Nat)} {Z : Option Nat} {L0 : List Res} {k i n : Nat} {o : Oper} {rest : List Oper} {F : Env → Fr} {rs : List (Nat × (Env → Value → List Res → Prop))}
/-- A head without a slot. -/
theorem dh_rnE {R : Env → Value → List Res → Prop} (hl : ∀ ρ ρ' : Env, (∀ k, k ∈ cl C i → ρ k = ρ' k) → R ρ = R ρ') (hg : ∀ ρ, relOf (cl C i) rs ρ → OpT P ro N w0 M ds o (only (o.looksAt ops) (get (F ρ))) (resOf (visE C E i) rs ρ (baseE C Z L0 i)) (fun v L' => ∃ Nw, L' = Nw ++ resOf (leftE C E i) rs ρ (leftB C Z L0 i) ∧ R ρ v Nw)) (hw : ∀ ρ, wants ops o (only (o.looksAt ops) (get (F ρ))) = some true := by exact fun _ => rfl) (hd : o.dst = none := by exact rfl)
    (h : DHE P ro N w0 M ds ops T C E Z L0 k (i + 1) rest F ((i, R) :: rs)) : DHE P ro N w0 M ds ops T C E Z L0 (k + 1) i (o :: rest) F rs :=
  .inr ⟨R, hl, fun ρ hρ => .inl ⟨hw ρ, hg ρ hρ⟩, by rw [hd]; exact h⟩
end
/-- The bytes of a string constant, frozen behind their end. -/
def objB (E b : Nat) (l : List UInt8) : Res := .obj b (.cells (l.map v8).toArray E (l.length, l.length + 1))
theorem Rd.objB {w0 : World} {M : Nat → Prop} {L : List Res} {E b : Nat} {l : List UInt8} (h : Has L (Sy.objB E b l)) : Rd w0 M L (some ⟨b, 0, none⟩) (l.map v8) := Rd.of (Reads.obj h Seg.all)
theorem Rd.objB_at {w0 : World} {M : Nat → Prop} {L : List Res} {E b : Nat} {l : List UInt8} (h : Has L (Sy.objB E b l)) (k : Nat) : Rd w0 M L (some ⟨b, k, none⟩) ((l.drop k).map v8) :=
  Rd.of (Reads.obj h (fun j v hj => by rw [List.map_drop, List.getElem?_drop] at hj; exact hj))
/-- A pointer to a block of its own. -/
def PtrOf (T : Nat) (C : List Value) (v : Value) (Nw : List Res) : Prop := ∃ b, v = .pointer (some ⟨b, 0, none⟩) ∧ Nw = [.blk b T C]
/-- append to an empty literal, amid a region whose order is open. -/
def RowOf (E : Nat) (n : Nat) (xs : List Value) (v : Value) (Nw : List Res) : Prop := ∃ a c, v = .slice a n c ∧ Nw = [.row v E 1 n xs]
def LitOf (E : Nat) (vs : List Value) (v : Value) (Nw : List Res) : Prop := ∃ b, v = .slice (some ⟨b, 0, none⟩) vs.length vs.length ∧ Nw = [.blk b E vs]
end Go.Sy
